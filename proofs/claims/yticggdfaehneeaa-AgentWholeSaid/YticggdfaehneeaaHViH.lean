/- The value interpreter's hints and the types' facts for this seat,one by one. -/
import Derived.Test.YticggdfaehneeaaHViS
import Derived.Test.YticggdfaehneeaaHVi26
namespace Go.Proofs.YticggdfaehneeaaV
open Go
set_option linter.unusedVariables false
noncomputable def inf (t:TypeId):TypeInfo:=(Try.prog.info? t).getD ((Try.prog.info? 3).get (by kernel_rfl))
theorem sm_4:slotMs Try.prog 8 4=[0]:=by kernel_rfl
theorem sm_5:slotMs Try.prog 8 5=[0]:=by kernel_rfl
theorem u_26 : Try.prog.underlying 26 = some (.struct (Array.mk [Field.mk "Node" 3 0 false "" "" 0, Field.mk "Next" 22 1 false "" "" 8, Field.mk "Seen" 23 2 false "" "" 16, Field.mk "Parts" 24 3 false "" "" 40])) := by kernel_rfl
theorem i_26:Try.prog.info? 26=some (inf 26):=by kernel_rfl
theorem iz_26:zeroRow (inf 26)=some [V.p (Value.int IntKind.i64 0),V.p (Value.int IntKind.u32 0),V.nil,V.nil]:=by kernel_rfl
theorem bl_26 (σ:St) (ps:List (Nat×Operand)):buildV Try.prog σ 26 ps=(fillL [(0,1),(1,1),(2,1),(3,1)] [V.p (Value.int IntKind.i64 0),V.p (Value.int IntKind.u32 0),V.nil,V.nil] (evL σ ps)).map .agg:=build_eval i_26 iz_26 u_26 (by kernel_rfl)
theorem u_28 : Try.prog.underlying 28 = some (.struct (Array.mk [Field.mk "Dest" 3 0 false "" "" 0, Field.mk "Lifetime" 3 1 false "" "" 8, Field.mk "HopLimit" 3 2 false "" "" 16, Field.mk "Priority" 3 3 false "" "" 24, Field.mk "Part" 3 4 false "" "" 32])) := by kernel_rfl
theorem i_28:Try.prog.info? 28=some (inf 28):=by kernel_rfl
theorem iz_28:zeroRow (inf 28)=some [V.p (Value.int IntKind.i64 0),V.p (Value.int IntKind.i64 0),V.p (Value.int IntKind.i64 0),V.p (Value.int IntKind.i64 0),V.p (Value.int IntKind.i64 0)]:=by kernel_rfl
theorem bl_28 (σ:St) (ps:List (Nat×Operand)):buildV Try.prog σ 28 ps=(fillL [(0,1),(1,1),(2,1),(3,1),(4,1)] [V.p (Value.int IntKind.i64 0),V.p (Value.int IntKind.i64 0),V.p (Value.int IntKind.i64 0),V.p (Value.int IntKind.i64 0),V.p (Value.int IntKind.i64 0)] (evL σ ps)).map .agg:=build_eval i_28 iz_28 u_28 (by kernel_rfl)
theorem u_39 : Try.prog.underlying 39 = some (.struct (Array.mk [Field.mk "Source" 3 0 false "" "" 0, Field.mk "Dest" 3 1 false "" "" 8, Field.mk "Seq" 22 2 false "" "" 16, Field.mk "Created" 3 3 false "" "" 24, Field.mk "Lifetime" 3 4 false "" "" 32, Field.mk "HopLimit" 3 5 false "" "" 40, Field.mk "Hops" 3 6 false "" "" 48, Field.mk "Priority" 3 7 false "" "" 56, Field.mk "Offset" 3 8 false "" "" 64, Field.mk "Total" 3 9 false "" "" 72, Field.mk "Payload" 29 10 false "" "" 80])) := by kernel_rfl
theorem i_39:Try.prog.info? 39=some (inf 39):=by kernel_rfl
theorem iz_39:zeroRow (inf 39)=some [V.p (Value.int IntKind.i64 0),V.p (Value.int IntKind.i64 0),V.p (Value.int IntKind.u32 0),V.p (Value.int IntKind.i64 0),V.p (Value.int IntKind.i64 0),V.p (Value.int IntKind.i64 0),V.p (Value.int IntKind.i64 0),V.p (Value.int IntKind.i64 0),V.p (Value.int IntKind.i64 0),V.p (Value.int IntKind.i64 0),V.nil]:=by kernel_rfl
theorem sm_39:slotMs Try.prog 8 39=[0,0,0,0,0,0,0,0,0,0,1]:=by kernel_rfl
theorem bl_39 (σ:St) (ps:List (Nat×Operand)):buildV Try.prog σ 39 ps=(fillL [(0,1),(1,1),(2,1),(3,1),(4,1),(5,1),(6,1),(7,1),(8,1),(9,1),(10,1)] [V.p (Value.int IntKind.i64 0),V.p (Value.int IntKind.i64 0),V.p (Value.int IntKind.u32 0),V.p (Value.int IntKind.i64 0),V.p (Value.int IntKind.i64 0),V.p (Value.int IntKind.i64 0),V.p (Value.int IntKind.i64 0),V.p (Value.int IntKind.i64 0),V.p (Value.int IntKind.i64 0),V.p (Value.int IntKind.i64 0),V.nil] (evL σ ps)).map .agg:=build_eval i_39 iz_39 u_39 (by kernel_rfl)
theorem u_48 : Try.prog.underlying 48 = some (.struct (Array.mk [Field.mk "Kind" 3 0 false "" "" 0, Field.mk "Bundle" 39 1 false "" "" 8])) := by kernel_rfl
theorem i_48:Try.prog.info? 48=some (inf 48):=by kernel_rfl
theorem iz_48:zeroRow (inf 48)=some [V.p (Value.int IntKind.i64 0),V.p (Value.int IntKind.i64 0),V.p (Value.int IntKind.i64 0),V.p (Value.int IntKind.u32 0),V.p (Value.int IntKind.i64 0),V.p (Value.int IntKind.i64 0),V.p (Value.int IntKind.i64 0),V.p (Value.int IntKind.i64 0),V.p (Value.int IntKind.i64 0),V.p (Value.int IntKind.i64 0),V.p (Value.int IntKind.i64 0),V.nil]:=by kernel_rfl
theorem bl_48 (σ:St) (ps:List (Nat×Operand)):buildV Try.prog σ 48 ps=(fillL [(0,1),(1,11)] [V.p (Value.int IntKind.i64 0),V.p (Value.int IntKind.i64 0),V.p (Value.int IntKind.i64 0),V.p (Value.int IntKind.u32 0),V.p (Value.int IntKind.i64 0),V.p (Value.int IntKind.i64 0),V.p (Value.int IntKind.i64 0),V.p (Value.int IntKind.i64 0),V.p (Value.int IntKind.i64 0),V.p (Value.int IntKind.i64 0),V.p (Value.int IntKind.i64 0),V.nil] (evL σ ps)).map .agg:=build_eval i_48 iz_48 u_48 (by kernel_rfl)
theorem u_63 : Try.prog.underlying 63 = some (.struct (Array.mk [Field.mk "Source" 3 0 false "" "" 0, Field.mk "Seq" 22 1 false "" "" 8, Field.mk "Offset" 3 2 false "" "" 16])) := by kernel_rfl
theorem i_63:Try.prog.info? 63=some (inf 63):=by kernel_rfl
theorem iz_63:zeroRow (inf 63)=some [V.p (Value.int IntKind.i64 0),V.p (Value.int IntKind.u32 0),V.p (Value.int IntKind.i64 0)]:=by kernel_rfl
theorem ag_63:(Try.prog.eqGuardType Try.prog.depth 63||Try.prog.stoodInHeld 63)=false:=by kernel_rfl
theorem bl_63 (σ:St) (ps:List (Nat×Operand)):buildV Try.prog σ 63 ps=(fillL [(0,1),(1,1),(2,1)] [V.p (Value.int IntKind.i64 0),V.p (Value.int IntKind.u32 0),V.p (Value.int IntKind.i64 0)] (evL σ ps)).map .agg:=build_eval i_63 iz_63 u_63 (by kernel_rfl)
theorem u_65 : Try.prog.underlying 65 = some (.struct (Array.mk [Field.mk "Key" 63 0 false "" "" 0, Field.mk "N" 3 3 false "" "" 24])) := by kernel_rfl
theorem i_65:Try.prog.info? 65=some (inf 65):=by kernel_rfl
theorem iz_65:zeroRow (inf 65)=some [V.p (Value.int IntKind.i64 0),V.p (Value.int IntKind.u32 0),V.p (Value.int IntKind.i64 0),V.p (Value.int IntKind.i64 0)]:=by kernel_rfl
theorem sm_65:slotMs Try.prog 8 65=[0,0,0,0]:=by kernel_rfl
theorem ag_65:(Try.prog.eqGuardType Try.prog.depth 65||Try.prog.stoodInHeld 65)=false:=by kernel_rfl
theorem bl_65 (σ:St) (ps:List (Nat×Operand)):buildV Try.prog σ 65 ps=(fillL [(0,3),(3,1)] [V.p (Value.int IntKind.i64 0),V.p (Value.int IntKind.u32 0),V.p (Value.int IntKind.i64 0),V.p (Value.int IntKind.i64 0)] (evL σ ps)).map .agg:=build_eval i_65 iz_65 u_65 (by kernel_rfl)
theorem u_79 : Try.prog.underlying 79 = some (.struct (Array.mk [Field.mk "Source" 3 0 false "" "" 0, Field.mk "Seq" 22 1 false "" "" 8])) := by kernel_rfl
theorem i_79:Try.prog.info? 79=some (inf 79):=by kernel_rfl
theorem iz_79:zeroRow (inf 79)=some [V.p (Value.int IntKind.i64 0),V.p (Value.int IntKind.u32 0)]:=by kernel_rfl
theorem ag_79:(Try.prog.eqGuardType Try.prog.depth 79||Try.prog.stoodInHeld 79)=false:=by kernel_rfl
theorem bl_79 (σ:St) (ps:List (Nat×Operand)):buildV Try.prog σ 79 ps=(fillL [(0,1),(1,1)] [V.p (Value.int IntKind.i64 0),V.p (Value.int IntKind.u32 0)] (evL σ ps)).map .agg:=build_eval i_79 iz_79 u_79 (by kernel_rfl)
theorem u_104 : Try.prog.underlying 104 = some (.struct (Array.mk [Field.mk "At" 3 0 false "" "" 0, Field.mk "N" 3 1 false "" "" 8])) := by kernel_rfl
theorem i_104:Try.prog.info? 104=some (inf 104):=by kernel_rfl
theorem iz_104:zeroRow (inf 104)=some [V.p (Value.int IntKind.i64 0),V.p (Value.int IntKind.i64 0)]:=by kernel_rfl
theorem sm_104:slotMs Try.prog 8 104=[0,0]:=by kernel_rfl
theorem bl_104 (σ:St) (ps:List (Nat×Operand)):buildV Try.prog σ 104 ps=(fillL [(0,1),(1,1)] [V.p (Value.int IntKind.i64 0),V.p (Value.int IntKind.i64 0)] (evL σ ps)).map .agg:=build_eval i_104 iz_104 u_104 (by kernel_rfl)
theorem u_106 : Try.prog.underlying 106 = some (.struct (Array.mk [Field.mk "source" 3 0 false "" "heliograph/bundle" 0, Field.mk "dest" 3 1 false "" "heliograph/bundle" 8, Field.mk "created" 3 2 false "" "heliograph/bundle" 16, Field.mk "life" 3 3 false "" "heliograph/bundle" 24, Field.mk "limit" 3 4 false "" "heliograph/bundle" 32, Field.mk "hops" 3 5 false "" "heliograph/bundle" 40, Field.mk "priority" 3 6 false "" "heliograph/bundle" 48, Field.mk "offset" 3 7 false "" "heliograph/bundle" 56, Field.mk "total" 3 8 false "" "heliograph/bundle" 64, Field.mk "seq" 22 9 false "" "heliograph/bundle" 72])) := by kernel_rfl
theorem i_106:Try.prog.info? 106=some (inf 106):=by kernel_rfl
theorem iz_106:zeroRow (inf 106)=some [V.p (Value.int IntKind.i64 0),V.p (Value.int IntKind.i64 0),V.p (Value.int IntKind.i64 0),V.p (Value.int IntKind.i64 0),V.p (Value.int IntKind.i64 0),V.p (Value.int IntKind.i64 0),V.p (Value.int IntKind.i64 0),V.p (Value.int IntKind.i64 0),V.p (Value.int IntKind.i64 0),V.p (Value.int IntKind.u32 0)]:=by kernel_rfl
theorem ag_106:(Try.prog.eqGuardType Try.prog.depth 106||Try.prog.stoodInHeld 106)=false:=by kernel_rfl
theorem bl_106 (σ:St) (ps:List (Nat×Operand)):buildV Try.prog σ 106 ps=(fillL [(0,1),(1,1),(2,1),(3,1),(4,1),(5,1),(6,1),(7,1),(8,1),(9,1)] [V.p (Value.int IntKind.i64 0),V.p (Value.int IntKind.i64 0),V.p (Value.int IntKind.i64 0),V.p (Value.int IntKind.i64 0),V.p (Value.int IntKind.i64 0),V.p (Value.int IntKind.i64 0),V.p (Value.int IntKind.i64 0),V.p (Value.int IntKind.i64 0),V.p (Value.int IntKind.i64 0),V.p (Value.int IntKind.u32 0)] (evL σ ps)).map .agg:=build_eval i_106 iz_106 u_106 (by kernel_rfl)
theorem i_108:Try.prog.info? 108=some (inf 108):=by kernel_rfl
theorem is_108:(inf 108).size=1:=by kernel_rfl
theorem u_109:Try.prog.underlying 109=some (TypeDesc.array 2 108):=by kernel_rfl
theorem i_109:Try.prog.info? 109=some (inf 109):=by kernel_rfl
theorem iz_109:zeroRow (inf 109)=some [V.p (Go.Value.pointer Option.none),V.p (Go.Value.pointer Option.none)]:=by kernel_rfl
theorem bl_109 (σ:St) (ps:List (Nat×Operand)):buildV Try.prog σ 109 ps=(fillA [V.p (Go.Value.pointer Option.none),V.p (Go.Value.pointer Option.none)] (evL σ ps)).map .agg:=by rw [build_evalA i_109 iz_109 u_109 i_108];simp only [is_108,Nat.mul_one];rfl
theorem gv (f:FuncId):hints.gives f=[36,42,61,64].contains f:=rfl
theorem hh_4_14:hints.head 4 14=some [10,13,15,16,67,68,69]:=rfl
theorem hc_4_14:hints.canon 4 14=[]:=rfl
theorem hh_4_21:hints.head 4 21=some [10,15,16,86,87]:=rfl
theorem hc_4_21:hints.canon 4 21=[]:=rfl
theorem hh_19_4:hints.head 19 4=some [1,31,32,33]:=rfl
theorem hc_19_4:hints.canon 19 4=[]:=rfl
theorem hh_19_10:hints.head 19 10=some [1,76,77,78]:=rfl
theorem hc_19_10:hints.canon 19 10=[]:=rfl
theorem hh_26_5:hints.head 26 5=some [1,2,13,14,15]:=rfl
theorem hc_26_5:hints.canon 26 5=[(1,some 3,20000,11,39)]:=rfl
theorem hh_33_2:hints.head 33 2=some [0,3,7,8]:=rfl
theorem hc_33_2:hints.canon 33 2=[]:=rfl
theorem hh_36_3:hints.head 36 3=some [3,5,9,10,11]:=rfl
theorem hc_36_3:hints.canon 36 3=[(5,none,20000,11,39)]:=rfl
theorem hh_38_4:hints.head 38 4=some [0,1,12,13]:=rfl
theorem hc_38_4:hints.canon 38 4=[]:=rfl
theorem hh_42_5:hints.head 42 5=some [0,1,5,6]:=rfl
theorem hc_42_5:hints.canon 42 5=[]:=rfl
theorem hh_56_9:hints.head 56 9=some [2,7,33,34,35]:=rfl
theorem hc_56_9:hints.canon 56 9=[]:=rfl
theorem hh_58_2:hints.head 58 2=some [0,14,15,16]:=rfl
theorem hc_58_2:hints.canon 58 2=[]:=rfl
theorem hh_58_5:hints.head 58 5=some [0,6,14,15,16,24,25,26]:=rfl
theorem hc_58_5:hints.canon 58 5=[]:=rfl
theorem hh_58_15:hints.head 58 15=some [9,10,49,50,51]:=rfl
theorem hc_58_15:hints.canon 58 15=[]:=rfl
theorem hh_58_19:hints.head 58 19=some [9,10,12,49,50,51,64,65]:=rfl
theorem hc_58_19:hints.canon 58 19=[]:=rfl
theorem hh_59_3:hints.head 59 3=some [0,3,4]:=rfl
theorem hc_59_3:hints.canon 59 3=[(3,none,20000,2,104)]:=rfl
theorem hh_59_7:hints.head 59 7=some [0,3,4,5]:=rfl
theorem hc_59_7:hints.canon 59 7=[]:=rfl
theorem hh_61_2:hints.head 61 2=some [0,1,7,8]:=rfl
theorem hc_61_2:hints.canon 61 2=[]:=rfl
theorem hh_62_1:hints.head 62 1=some [0,1,2,4]:=rfl
theorem hc_62_1:hints.canon 62 1=[]:=rfl
theorem hh_65_5:hints.head 65 5=some [2,3,5,25,26,27]:=rfl
theorem hc_65_5:hints.canon 65 5=[]:=rfl
theorem hk_25_1000009:hints.keep 25 1000009=some [6]:=rfl
theorem hh_25_1000009:hints.head 25 1000009=some [2,6]:=rfl
theorem t_3:Try.prog.underlying 3=some (TypeDesc.int IntKind.i64)∧Try.prog.info? 3=some (inf 3)∧(inf 3).size=1∧(inf 3).bytes=8∧zeroRow (inf 3)=some [V.p (Value.int IntKind.i64 0)]:=⟨by kernel_rfl,by kernel_rfl,by kernel_rfl,by kernel_rfl,by kernel_rfl⟩
theorem t_4:Try.prog.underlying 4=some TypeDesc.bool∧Try.prog.info? 4=some (inf 4)∧(inf 4).size=1∧(inf 4).bytes=1∧zeroRow (inf 4)=some [V.p (Value.bool false)]:=⟨by kernel_rfl,by kernel_rfl,by kernel_rfl,by kernel_rfl,by kernel_rfl⟩
theorem t_5:Try.prog.underlying 5=some (TypeDesc.int IntKind.u8)∧Try.prog.info? 5=some (inf 5)∧(inf 5).size=1∧(inf 5).bytes=1∧zeroRow (inf 5)=some [V.p (Value.int IntKind.u8 0)]:=⟨by kernel_rfl,by kernel_rfl,by kernel_rfl,by kernel_rfl,by kernel_rfl⟩
theorem t_9:Try.prog.underlying 9=some TypeDesc.string∧Try.prog.info? 9=some (inf 9)∧(inf 9).size=1∧(inf 9).bytes=16∧zeroRow (inf 9)=some [V.p (Go.Value.string (ByteArray.mk (Array.mk [])))]:=⟨by kernel_rfl,by kernel_rfl,by kernel_rfl,by kernel_rfl,by kernel_rfl⟩
theorem t_22:Try.prog.underlying 22=some (TypeDesc.int IntKind.u32)∧Try.prog.info? 22=some (inf 22)∧(inf 22).size=1∧(inf 22).bytes=4∧zeroRow (inf 22)=some [V.p (Value.int IntKind.u32 0)]:=⟨by kernel_rfl,by kernel_rfl,by kernel_rfl,by kernel_rfl,by kernel_rfl⟩
theorem t_23:Try.prog.underlying 23=some (TypeDesc.slice 65)∧Try.prog.info? 23=some (inf 23)∧(inf 23).size=1∧(inf 23).bytes=24∧zeroRow (inf 23)=some [V.nil]:=⟨by kernel_rfl,by kernel_rfl,by kernel_rfl,by kernel_rfl,by kernel_rfl⟩
theorem t_24:Try.prog.underlying 24=some (TypeDesc.slice 39)∧Try.prog.info? 24=some (inf 24)∧(inf 24).size=1∧(inf 24).bytes=24∧zeroRow (inf 24)=some [V.nil]:=⟨by kernel_rfl,by kernel_rfl,by kernel_rfl,by kernel_rfl,by kernel_rfl⟩
theorem t_26 : Try.prog.underlying 26 = some (.struct (Array.mk [Field.mk "Node" 3 0 false "" "" 0, Field.mk "Next" 22 1 false "" "" 8, Field.mk "Seen" 23 2 false "" "" 16, Field.mk "Parts" 24 3 false "" "" 40])) ∧ Try.prog.info? 26 = some (inf 26) ∧ (inf 26).size = 4 ∧ (inf 26).bytes = 64 ∧ zeroRow (inf 26) = some [V.p (Value.int IntKind.i64 0), V.p (Value.int IntKind.u32 0), V.nil, V.nil] := ⟨by kernel_rfl, by kernel_rfl, by kernel_rfl, by kernel_rfl, by kernel_rfl⟩
theorem t_28 : Try.prog.underlying 28 = some (.struct (Array.mk [Field.mk "Dest" 3 0 false "" "" 0, Field.mk "Lifetime" 3 1 false "" "" 8, Field.mk "HopLimit" 3 2 false "" "" 16, Field.mk "Priority" 3 3 false "" "" 24, Field.mk "Part" 3 4 false "" "" 32])) ∧ Try.prog.info? 28 = some (inf 28) ∧ (inf 28).size = 5 ∧ (inf 28).bytes = 40 ∧ zeroRow (inf 28) = some [V.p (Value.int IntKind.i64 0), V.p (Value.int IntKind.i64 0), V.p (Value.int IntKind.i64 0), V.p (Value.int IntKind.i64 0), V.p (Value.int IntKind.i64 0)] := ⟨by kernel_rfl, by kernel_rfl, by kernel_rfl, by kernel_rfl, by kernel_rfl⟩
theorem t_29:Try.prog.underlying 29=some (TypeDesc.slice 5)∧Try.prog.info? 29=some (inf 29)∧(inf 29).size=1∧(inf 29).bytes=24∧zeroRow (inf 29)=some [V.nil]:=⟨by kernel_rfl,by kernel_rfl,by kernel_rfl,by kernel_rfl,by kernel_rfl⟩
theorem t_39 : Try.prog.underlying 39 = some (.struct (Array.mk [Field.mk "Source" 3 0 false "" "" 0, Field.mk "Dest" 3 1 false "" "" 8, Field.mk "Seq" 22 2 false "" "" 16, Field.mk "Created" 3 3 false "" "" 24, Field.mk "Lifetime" 3 4 false "" "" 32, Field.mk "HopLimit" 3 5 false "" "" 40, Field.mk "Hops" 3 6 false "" "" 48, Field.mk "Priority" 3 7 false "" "" 56, Field.mk "Offset" 3 8 false "" "" 64, Field.mk "Total" 3 9 false "" "" 72, Field.mk "Payload" 29 10 false "" "" 80])) ∧ Try.prog.info? 39 = some (inf 39) ∧ (inf 39).size = 11 ∧ (inf 39).bytes = 104 ∧ zeroRow (inf 39) = some [V.p (Value.int IntKind.i64 0), V.p (Value.int IntKind.i64 0), V.p (Value.int IntKind.u32 0), V.p (Value.int IntKind.i64 0), V.p (Value.int IntKind.i64 0), V.p (Value.int IntKind.i64 0), V.p (Value.int IntKind.i64 0), V.p (Value.int IntKind.i64 0), V.p (Value.int IntKind.i64 0), V.p (Value.int IntKind.i64 0), V.nil] := ⟨by kernel_rfl, by kernel_rfl, by kernel_rfl, by kernel_rfl, by kernel_rfl⟩
theorem t_44:Try.prog.underlying 44=some (TypeDesc.slice 3)∧Try.prog.info? 44=some (inf 44)∧(inf 44).size=1∧(inf 44).bytes=24∧zeroRow (inf 44)=some [V.nil]:=⟨by kernel_rfl,by kernel_rfl,by kernel_rfl,by kernel_rfl,by kernel_rfl⟩
theorem t_48 : Try.prog.underlying 48 = some (.struct (Array.mk [Field.mk "Kind" 3 0 false "" "" 0, Field.mk "Bundle" 39 1 false "" "" 8])) ∧ Try.prog.info? 48 = some (inf 48) ∧ (inf 48).size = 12 ∧ (inf 48).bytes = 112 ∧ zeroRow (inf 48) = some [V.p (Value.int IntKind.i64 0), V.p (Value.int IntKind.i64 0), V.p (Value.int IntKind.i64 0), V.p (Value.int IntKind.u32 0), V.p (Value.int IntKind.i64 0), V.p (Value.int IntKind.i64 0), V.p (Value.int IntKind.i64 0), V.p (Value.int IntKind.i64 0), V.p (Value.int IntKind.i64 0), V.p (Value.int IntKind.i64 0), V.p (Value.int IntKind.i64 0), V.nil] := ⟨by kernel_rfl, by kernel_rfl, by kernel_rfl, by kernel_rfl, by kernel_rfl⟩
theorem t_63 : Try.prog.underlying 63 = some (.struct (Array.mk [Field.mk "Source" 3 0 false "" "" 0, Field.mk "Seq" 22 1 false "" "" 8, Field.mk "Offset" 3 2 false "" "" 16])) ∧ Try.prog.info? 63 = some (inf 63) ∧ (inf 63).size = 3 ∧ (inf 63).bytes = 24 ∧ zeroRow (inf 63) = some [V.p (Value.int IntKind.i64 0), V.p (Value.int IntKind.u32 0), V.p (Value.int IntKind.i64 0)] := ⟨by kernel_rfl, by kernel_rfl, by kernel_rfl, by kernel_rfl, by kernel_rfl⟩
theorem t_65 : Try.prog.underlying 65 = some (.struct (Array.mk [Field.mk "Key" 63 0 false "" "" 0, Field.mk "N" 3 3 false "" "" 24])) ∧ Try.prog.info? 65 = some (inf 65) ∧ (inf 65).size = 4 ∧ (inf 65).bytes = 32 ∧ zeroRow (inf 65) = some [V.p (Value.int IntKind.i64 0), V.p (Value.int IntKind.u32 0), V.p (Value.int IntKind.i64 0), V.p (Value.int IntKind.i64 0)] := ⟨by kernel_rfl, by kernel_rfl, by kernel_rfl, by kernel_rfl, by kernel_rfl⟩
theorem t_74:Try.prog.underlying 74=some (TypeDesc.slice 104)∧Try.prog.info? 74=some (inf 74)∧(inf 74).size=1∧(inf 74).bytes=24∧zeroRow (inf 74)=some [V.nil]:=⟨by kernel_rfl,by kernel_rfl,by kernel_rfl,by kernel_rfl,by kernel_rfl⟩
theorem t_79 : Try.prog.underlying 79 = some (.struct (Array.mk [Field.mk "Source" 3 0 false "" "" 0, Field.mk "Seq" 22 1 false "" "" 8])) ∧ Try.prog.info? 79 = some (inf 79) ∧ (inf 79).size = 2 ∧ (inf 79).bytes = 16 ∧ zeroRow (inf 79) = some [V.p (Value.int IntKind.i64 0), V.p (Value.int IntKind.u32 0)] := ⟨by kernel_rfl, by kernel_rfl, by kernel_rfl, by kernel_rfl, by kernel_rfl⟩
theorem t_90:Try.prog.underlying 90=some (TypeDesc.slice 4)∧Try.prog.info? 90=some (inf 90)∧(inf 90).size=1∧(inf 90).bytes=24∧zeroRow (inf 90)=some [V.nil]:=⟨by kernel_rfl,by kernel_rfl,by kernel_rfl,by kernel_rfl,by kernel_rfl⟩
theorem t_104 : Try.prog.underlying 104 = some (.struct (Array.mk [Field.mk "At" 3 0 false "" "" 0, Field.mk "N" 3 1 false "" "" 8])) ∧ Try.prog.info? 104 = some (inf 104) ∧ (inf 104).size = 2 ∧ (inf 104).bytes = 16 ∧ zeroRow (inf 104) = some [V.p (Value.int IntKind.i64 0), V.p (Value.int IntKind.i64 0)] := ⟨by kernel_rfl, by kernel_rfl, by kernel_rfl, by kernel_rfl, by kernel_rfl⟩
theorem t_106 : Try.prog.underlying 106 = some (.struct (Array.mk [Field.mk "source" 3 0 false "" "heliograph/bundle" 0, Field.mk "dest" 3 1 false "" "heliograph/bundle" 8, Field.mk "created" 3 2 false "" "heliograph/bundle" 16, Field.mk "life" 3 3 false "" "heliograph/bundle" 24, Field.mk "limit" 3 4 false "" "heliograph/bundle" 32, Field.mk "hops" 3 5 false "" "heliograph/bundle" 40, Field.mk "priority" 3 6 false "" "heliograph/bundle" 48, Field.mk "offset" 3 7 false "" "heliograph/bundle" 56, Field.mk "total" 3 8 false "" "heliograph/bundle" 64, Field.mk "seq" 22 9 false "" "heliograph/bundle" 72])) ∧ Try.prog.info? 106 = some (inf 106) ∧ (inf 106).size = 10 ∧ (inf 106).bytes = 80 ∧ zeroRow (inf 106) = some [V.p (Value.int IntKind.i64 0), V.p (Value.int IntKind.i64 0), V.p (Value.int IntKind.i64 0), V.p (Value.int IntKind.i64 0), V.p (Value.int IntKind.i64 0), V.p (Value.int IntKind.i64 0), V.p (Value.int IntKind.i64 0), V.p (Value.int IntKind.i64 0), V.p (Value.int IntKind.i64 0), V.p (Value.int IntKind.u32 0)] := ⟨by kernel_rfl, by kernel_rfl, by kernel_rfl, by kernel_rfl, by kernel_rfl⟩
theorem t_108:Try.prog.underlying 108=some (TypeDesc.pointer 3)∧Try.prog.info? 108=some (inf 108)∧(inf 108).size=1∧(inf 108).bytes=8∧zeroRow (inf 108)=some [V.p (Go.Value.pointer Option.none)]:=⟨by kernel_rfl,by kernel_rfl,by kernel_rfl,by kernel_rfl,by kernel_rfl⟩
theorem t_109:Try.prog.underlying 109=some (TypeDesc.array 2 108)∧Try.prog.info? 109=some (inf 109)∧(inf 109).size=2∧(inf 109).bytes=16∧zeroRow (inf 109)=some [V.p (Go.Value.pointer Option.none),V.p (Go.Value.pointer Option.none)]:=⟨by kernel_rfl,by kernel_rfl,by kernel_rfl,by kernel_rfl,by kernel_rfl⟩
theorem t_110:Try.prog.underlying 110=some (TypeDesc.slice 109)∧Try.prog.info? 110=some (inf 110)∧(inf 110).size=1∧(inf 110).bytes=24∧zeroRow (inf 110)=some [V.nil]:=⟨by kernel_rfl,by kernel_rfl,by kernel_rfl,by kernel_rfl,by kernel_rfl⟩
@[reducible] def hR (f r:Nat) (l:List Nat):Prop:=hints.keep f r=some l∧hints.frz f r=[]∧hints.soft f r=[]
theorem hr (f r:Nat) {l:List Nat} (h:(hints.keep f r,hints.frz f r,hints.soft f r)=(some l,[],[])):hR f r l:=⟨congrArg (·.1) h,congrArg (·.2.1) h,congrArg (·.2.2) h⟩
theorem hr_16_0:hints.keep 16 0=some [0,2]∧hints.frz 16 0=[]∧hints.soft 16 0=[(2,some 2,4,none),(2,some 3,11,none)]:=⟨rfl,rfl,rfl⟩
theorem hr_16_2:hints.keep 16 2=some [2,3]∧hints.frz 16 2=[]∧hints.soft 16 2=[(2,some 2,4,none),(2,some 3,11,none)]:=⟨rfl,rfl,rfl⟩
theorem hr_16_3:hints.keep 16 3=some [2,3]∧hints.frz 16 3=[]∧hints.soft 16 3=[(2,some 2,4,none),(2,some 3,11,none)]:=⟨rfl,rfl,rfl⟩
theorem hr_17_4:hints.keep 17 4=some [3,4,8]∧hints.frz 17 4=[1]∧hints.soft 17 4=[]:=⟨rfl,rfl,rfl⟩
theorem hr_18_0:hints.keep 18 0=some [2,3,4,6,7]∧hints.frz 18 0=[]∧hints.soft 18 0=[(6,some 2,4,none),(6,some 3,11,some (700001,39)),(7,some 11,1,none)]:=⟨rfl,rfl,rfl⟩
theorem hr_18_3:hints.keep 18 3=some [6,7,8]∧hints.frz 18 3=[]∧hints.soft 18 3=[(6,some 2,4,none),(6,some 3,11,some (700193,39)),(7,some 11,1,none)]:=⟨rfl,rfl,rfl⟩
theorem hr_18_5:hints.keep 18 5=some [3,6,7,10]∧hints.frz 18 5=[3,10]∧hints.soft 18 5=[]:=⟨rfl,rfl,rfl⟩
theorem hr_25_2:hints.keep 25 2=some [4,5]∧hints.frz 25 2=[]∧hints.soft 25 2=[(4,none,11,some (700128,39))]:=⟨rfl,rfl,rfl⟩
theorem hr_25_4:hints.keep 25 4=some [4,5]∧hints.frz 25 4=[]∧hints.soft 25 4=[(4,none,11,some (700256,39))]:=⟨rfl,rfl,rfl⟩
theorem hr_25_5:hints.keep 25 5=some [1,2,6]∧hints.frz 25 5=[]∧hints.soft 25 5=[(6,some 0,11,some (700320,39))]:=⟨rfl,rfl,rfl⟩
theorem hr_26_0:hints.keep 26 0=some [1,2]∧hints.frz 26 0=[]∧hints.soft 26 0=[(2,some 2,4,some (700000,65)),(2,some 3,11,some (700001,39))]:=⟨rfl,rfl,rfl⟩
theorem hr_26_3:hints.keep 26 3=some [1,2,3]∧hints.frz 26 3=[]∧hints.soft 26 3=[(1,some 3,11,some (700192,39))]:=⟨rfl,rfl,rfl⟩
theorem hr_32_0:hints.keep 32 0=some [0,2,4,6]∧hints.frz 32 0=[]∧hints.soft 32 0=[(6,some 11,1,some (700000,5))]:=⟨rfl,rfl,rfl⟩
theorem hr_32_17:hints.keep 32 17=some [0,4,6,7,82]∧hints.frz 32 17=[4]∧hints.soft 32 17=[]:=⟨rfl,rfl,rfl⟩
theorem hr_36_1:hints.keep 36 1=some [2,3,5]∧hints.frz 36 1=[]∧hints.soft 36 1=[(5,none,11,some (700064,39))]:=⟨rfl,rfl,rfl⟩
theorem hr_41_2:hints.keep 41 2=some [2,3,5,6]∧hints.frz 41 2=[]∧hints.soft 41 2=[(5,some 10,1,none),(6,some 10,1,none)]:=⟨rfl,rfl,rfl⟩
theorem hr_51_0:hints.keep 51 0=some [0,2]∧hints.frz 51 0=[]∧hints.soft 51 0=[(2,some 11,1,none)]:=⟨rfl,rfl,rfl⟩
theorem hr_51_1:hints.keep 51 1=some [2]∧hints.frz 51 1=[]∧hints.soft 51 1=[(2,some 11,1,none)]:=⟨rfl,rfl,rfl⟩
theorem hr_56_0:hints.keep 56 0=some [0,2]∧hints.frz 56 0=[]∧hints.soft 56 0=[(2,some 10,1,none)]:=⟨rfl,rfl,rfl⟩
theorem hr_56_3:hints.keep 56 3=some [2,3]∧hints.frz 56 3=[]∧hints.soft 56 3=[(2,some 10,1,none)]:=⟨rfl,rfl,rfl⟩
theorem hr_56_5:hints.keep 56 5=some [2,3]∧hints.frz 56 5=[]∧hints.soft 56 5=[(2,some 10,1,none)]:=⟨rfl,rfl,rfl⟩
theorem hr_58_12:hints.keep 58 12=some [2,3,4]∧hints.frz 58 12=[]∧hints.soft 58 12=[(2,none,1,none),(3,none,1,none)]:=⟨rfl,rfl,rfl⟩
theorem hr_58_8:hints.keep 58 8=some [2,3,4]∧hints.frz 58 8=[]∧hints.soft 58 8=[(2,none,1,none),(3,none,1,none)]:=⟨rfl,rfl,rfl⟩
theorem hr_59_1:hints.keep 59 1=some [0,3]∧hints.frz 59 1=[]∧hints.soft 59 1=[(3,none,2,some (700064,104))]:=⟨rfl,rfl,rfl⟩
theorem hr_9_0:hints.keep 9 0=some [2,3,4,5,8]∧hints.frz 9 0=[]∧hints.soft 9 0=[(8,some 2,4,none),(8,some 3,11,some (700001,39))]:=⟨rfl,rfl,rfl⟩
theorem hr_9_11:hints.keep 9 11=some [8,9,10]∧hints.frz 9 11=[]∧hints.soft 9 11=[(8,some 2,4,none),(8,some 3,11,some (700705,39)),(9,none,11,none)]:=⟨rfl,rfl,rfl⟩
theorem hr_9_3:hints.keep 9 3=some [8,9,10]∧hints.frz 9 3=[]∧hints.soft 9 3=[(8,some 2,4,none),(8,some 3,11,some (700193,39)),(9,none,11,none)]:=⟨rfl,rfl,rfl⟩
theorem hr_9_6:hints.keep 9 6=some [8,9,10]∧hints.frz 9 6=[]∧hints.soft 9 6=[(8,some 2,4,none),(8,some 3,11,some (700385,39)),(9,none,11,none)]:=⟨rfl,rfl,rfl⟩
theorem hr_9_8:hints.keep 9 8=some [8,9,10]∧hints.frz 9 8=[]∧hints.soft 9 8=[(8,some 2,4,none),(8,some 3,11,some (700513,39)),(9,none,11,none)]:=⟨rfl,rfl,rfl⟩
end Go.Proofs.YticggdfaehneeaaV