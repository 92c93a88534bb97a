/- The value interpreter's hints and the types' facts for this seat,one by one. -/
import Derived.Test.YtbnnmplkbpgcaaaDoorHViS
import Derived.Test.YtbnnmplkbpgcaaaDoorHVi26
namespace Go.Proofs.YtbnnmplkbpgcaaaDoorV
open Go
set_option linter.unusedVariables false
noncomputable def inf (t:TypeId):TypeInfo:=(Tryd.prog.info? t).getD ((Tryd.prog.info? 3).get (by kernel_rfl))
theorem sm_3:slotMs Tryd.prog 8 3=[0]:=by kernel_rfl
theorem i_5:Tryd.prog.info? 5=some (inf 5):=by kernel_rfl
theorem is_5:(inf 5).size=1:=by kernel_rfl
theorem sm_5:slotMs Tryd.prog 8 5=[0]:=by kernel_rfl
theorem u_26 : Tryd.prog.underlying 26 = some (.struct (Array.mk [Field.mk "Source" 3 0 false "" "" 0, Field.mk "Dest" 3 1 false "" "" 8, Field.mk "Seq" 24 2 false "" "" 16, Field.mk "Created" 3 3 false "" "" 24, Field.mk "Lifetime" 3 4 false "" "" 32, Field.mk "HopLimit" 3 5 false "" "" 40, Field.mk "Hops" 3 6 false "" "" 48, Field.mk "Priority" 3 7 false "" "" 56, Field.mk "Offset" 3 8 false "" "" 64, Field.mk "Total" 3 9 false "" "" 72, Field.mk "Payload" 22 10 false "" "" 80])) := by kernel_rfl
theorem i_26:Tryd.prog.info? 26=some (inf 26):=by kernel_rfl
theorem iz_26:zeroRow (inf 26)=some [V.p (Value.int IntKind.i64 0),V.p (Value.int IntKind.i64 0),V.p (Value.int IntKind.u32 0),V.p (Value.int IntKind.i64 0),V.p (Value.int IntKind.i64 0),V.p (Value.int IntKind.i64 0),V.p (Value.int IntKind.i64 0),V.p (Value.int IntKind.i64 0),V.p (Value.int IntKind.i64 0),V.p (Value.int IntKind.i64 0),V.nil]:=by kernel_rfl
theorem bl_26 (σ:St) (ps:List (Nat×Operand)):buildV Tryd.prog σ 26 ps=(fillL [(0,1),(1,1),(2,1),(3,1),(4,1),(5,1),(6,1),(7,1),(8,1),(9,1),(10,1)] [V.p (Value.int IntKind.i64 0),V.p (Value.int IntKind.i64 0),V.p (Value.int IntKind.u32 0),V.p (Value.int IntKind.i64 0),V.p (Value.int IntKind.i64 0),V.p (Value.int IntKind.i64 0),V.p (Value.int IntKind.i64 0),V.p (Value.int IntKind.i64 0),V.p (Value.int IntKind.i64 0),V.p (Value.int IntKind.i64 0),V.nil] (evL σ ps)).map .agg:=build_eval i_26 iz_26 u_26 (by kernel_rfl)
theorem u_50 : Tryd.prog.underlying 50 = some (.struct (Array.mk [Field.mk "Kind" 3 0 false "" "" 0, Field.mk "Num" 47 1 false "" "" 8, Field.mk "Bytes" 22 2 false "" "" 16, Field.mk "Items" 48 3 false "" "" 40])) := by kernel_rfl
theorem i_50:Tryd.prog.info? 50=some (inf 50):=by kernel_rfl
theorem iz_50:zeroRow (inf 50)=some [V.p (Value.int IntKind.i64 0),V.p (Value.int IntKind.u64 0),V.nil,V.nil]:=by kernel_rfl
theorem sm_50:slotMs Tryd.prog 8 50=[0,0,1,4]:=by kernel_rfl
theorem bl_50 (σ:St) (ps:List (Nat×Operand)):buildV Tryd.prog σ 50 ps=(fillL [(0,1),(1,1),(2,1),(3,1)] [V.p (Value.int IntKind.i64 0),V.p (Value.int IntKind.u64 0),V.nil,V.nil] (evL σ ps)).map .agg:=build_eval i_50 iz_50 u_50 (by kernel_rfl)
theorem u_89 : Tryd.prog.underlying 89 = some (.struct (Array.mk [Field.mk "bytes" 22 0 false "" "heliograph/octet" 0, Field.mk "at" 3 1 false "" "heliograph/octet" 24, Field.mk "err" 27 2 false "" "heliograph/octet" 32])) := by kernel_rfl
theorem i_89:Tryd.prog.info? 89=some (inf 89):=by kernel_rfl
theorem iz_89:zeroRow (inf 89)=some [V.nil,V.p (Value.int IntKind.i64 0),V.p (Value.int IntKind.i64 0)]:=by kernel_rfl
theorem bl_89 (σ:St) (ps:List (Nat×Operand)):buildV Tryd.prog σ 89 ps=(fillL [(0,1),(1,1),(2,1)] [V.nil,V.p (Value.int IntKind.i64 0),V.p (Value.int IntKind.i64 0)] (evL σ ps)).map .agg:=build_eval i_89 iz_89 u_89 (by kernel_rfl)
theorem u_91 : Tryd.prog.underlying 91 = some (.struct (Array.mk [Field.mk "spot" 89 0 true "" "heliograph/octet" 0])) := by kernel_rfl
theorem i_91:Tryd.prog.info? 91=some (inf 91):=by kernel_rfl
theorem iz_91:zeroRow (inf 91)=some [V.nil,V.p (Value.int IntKind.i64 0),V.p (Value.int IntKind.i64 0)]:=by kernel_rfl
theorem bl_91 (σ:St) (ps:List (Nat×Operand)):buildV Tryd.prog σ 91 ps=(fillL [(0,3)] [V.nil,V.p (Value.int IntKind.i64 0),V.p (Value.int IntKind.i64 0)] (evL σ ps)).map .agg:=build_eval i_91 iz_91 u_91 (by kernel_rfl)
theorem u_109:Tryd.prog.underlying 109=some (TypeDesc.array 5 5):=by kernel_rfl
theorem i_109:Tryd.prog.info? 109=some (inf 109):=by kernel_rfl
theorem iz_109:zeroRow (inf 109)=some [V.p (Value.int IntKind.u8 0),V.p (Value.int IntKind.u8 0),V.p (Value.int IntKind.u8 0),V.p (Value.int IntKind.u8 0),V.p (Value.int IntKind.u8 0)]:=by kernel_rfl
theorem bl_109 (σ:St) (ps:List (Nat×Operand)):buildV Tryd.prog σ 109 ps=(fillA [V.p (Value.int IntKind.u8 0),V.p (Value.int IntKind.u8 0),V.p (Value.int IntKind.u8 0),V.p (Value.int IntKind.u8 0),V.p (Value.int IntKind.u8 0)] (evL σ ps)).map .agg:=by rw [build_evalA i_109 iz_109 u_109 i_5];simp only [is_5,Nat.mul_one];rfl
theorem gv (f:FuncId):hints.gives f=[51,67,73,74,75,76].contains f:=rfl
theorem fillP1_fold {cells:List V} {rest:List (Nat×V)}:fillV (fun k=>some (k,1)) cells rest=fillP 1 cells rest:=by unfold fillP;simp only [Nat.mul_one]
theorem arr_pair {α:Type} {c:α→V} {l:List α} {a b:α} (h0:l[0]?=some a) (h1:l[1]?=some b):arrC c (List.take 2 l)=[c a,c b]:=by match l with | []=>cases h0 | [x]=>cases h1 | x::y::r=>cases h0;cases h1;rfl
theorem gl_0 {σ:St}:evalV σ (.global 0)=.rpt (arrC (cI .u8) tabFirst) 0:=rfl
theorem gl_1 {σ:St}:evalV σ (.global 1)=.rpt (arrC (cI .u8) tabAcc) 0:=rfl
theorem hh_10_15:hints.head 10 15=some [0,2,4,8,10,12,14,128,129,130]:=rfl
theorem hc_10_15:hints.canon 10 15=[]:=rfl
theorem hh_11_13:hints.head 11 13=some [0,2,8,9,10,12]:=rfl
theorem hc_11_13:hints.canon 11 13=[]:=rfl
theorem hh_18_4:hints.head 18 4=some [1,3,4,5]:=rfl
theorem hc_18_4:hints.canon 18 4=[]:=rfl
theorem hh_19_4:hints.head 19 4=some [0,1,5]:=rfl
theorem hc_19_4:hints.canon 19 4=[]:=rfl
theorem hh_29_22:hints.head 29 22=some [0,1,4,9,10,12,13]:=rfl
theorem hc_29_22:hints.canon 29 22=[(12,some 3,20000,4,50)]:=rfl
theorem hh_32_3:hints.head 32 3=some [2,3,6,7,8]:=rfl
theorem hc_32_3:hints.canon 32 3=[(3,none,20000,4,50)]:=rfl
theorem hh_33_3:hints.head 33 3=some [2,3,7,8,9]:=rfl
theorem hc_33_3:hints.canon 33 3=[(3,some 3,20000,4,50)]:=rfl
theorem hh_40_3:hints.head 40 3=some [0,1,5,6]:=rfl
theorem hc_40_3:hints.canon 40 3=[(5,none,20000,1,5)]:=rfl
theorem hh_40_7:hints.head 40 7=some [1,5,7]:=rfl
theorem hc_40_7:hints.canon 40 7=[(5,none,20000,1,5)]:=rfl
theorem hh_41_4:hints.head 41 4=some [1,5,6,7]:=rfl
theorem hc_41_4:hints.canon 41 4=[(6,none,20000,1,5)]:=rfl
theorem hh_43_4:hints.head 43 4=some [0,1,12,13]:=rfl
theorem hc_43_4:hints.canon 43 4=[]:=rfl
theorem hh_45_11:hints.head 45 11=some [0,1,4,6,8,46,47,48]:=rfl
theorem hc_45_11:hints.canon 45 11=[]:=rfl
theorem hh_45_24:hints.head 45 24=some [0,1,4,89,90]:=rfl
theorem hc_45_24:hints.canon 45 24=[(4,some 3,20000,4,50)]:=rfl
theorem hh_48_3:hints.head 48 3=some [0,3,4]:=rfl
theorem hc_48_3:hints.canon 48 3=[]:=rfl
theorem hh_49_2:hints.head 49 2=some [0]:=rfl
theorem hc_49_2:hints.canon 49 2=[]:=rfl
theorem hh_49_10:hints.head 49 10=some [0]:=rfl
theorem hc_49_10:hints.canon 49 10=[]:=rfl
theorem hh_51_8:hints.head 51 8=some [0,30,31,32]:=rfl
theorem hc_51_8:hints.canon 51 8=[]:=rfl
theorem hh_52_5:hints.head 52 5=some [1,2,13,14,15]:=rfl
theorem hc_52_5:hints.canon 52 5=[(1,some 3,20000,4,50)]:=rfl
theorem hh_54_3:hints.head 54 3=some [1,7,11,12]:=rfl
theorem hc_54_3:hints.canon 54 3=[(7,none,20000,1,5)]:=rfl
theorem hh_57_3:hints.head 57 3=some [0,5,6]:=rfl
theorem hc_57_3:hints.canon 57 3=[]:=rfl
theorem hh_58_6:hints.head 58 6=some [0,5,6,7,8]:=rfl
theorem hc_58_6:hints.canon 58 6=[]:=rfl
theorem hh_58_10:hints.head 58 10=some [0,5,6,7,8,9]:=rfl
theorem hc_58_10:hints.canon 58 10=[]:=rfl
theorem hh_62_2:hints.head 62 2=some [0,1,7,8]:=rfl
theorem hc_62_2:hints.canon 62 2=[]:=rfl
theorem hh_65_4:hints.head 65 4=some [1,38,39,40]:=rfl
theorem hc_65_4:hints.canon 65 4=[]:=rfl
theorem hh_68_3:hints.head 68 3=some [1,5,11,12,13]:=rfl
theorem hc_68_3:hints.canon 68 3=[]:=rfl
theorem hh_68_7:hints.head 68 7=some [1,5,11,12,13,21]:=rfl
theorem hc_68_7:hints.canon 68 7=[]:=rfl
theorem hh_69_3:hints.head 69 3=some [1,5,11,12,13]:=rfl
theorem hc_69_3:hints.canon 69 3=[]:=rfl
theorem hh_69_7:hints.head 69 7=some [1,5,11,12,13,21]:=rfl
theorem hc_69_7:hints.canon 69 7=[]:=rfl
theorem hh_70_3:hints.head 70 3=some [5,10,11,12]:=rfl
theorem hc_70_3:hints.canon 70 3=[]:=rfl
theorem hh_76_3:hints.head 76 3=some [0,1,7]:=rfl
theorem hc_76_3:hints.canon 76 3=[(0,none,20000,1,5)]:=rfl
theorem t_3:Tryd.prog.underlying 3=some (TypeDesc.int IntKind.i64)∧Tryd.prog.info? 3=some (inf 3)∧(inf 3).size=1∧(inf 3).bytes=8∧zeroRow (inf 3)=some [V.p (Value.int IntKind.i64 0)]:=⟨by kernel_rfl,by kernel_rfl,by kernel_rfl,by kernel_rfl,by kernel_rfl⟩
theorem t_5:Tryd.prog.underlying 5=some (TypeDesc.int IntKind.u8)∧Tryd.prog.info? 5=some (inf 5)∧(inf 5).size=1∧(inf 5).bytes=1∧zeroRow (inf 5)=some [V.p (Value.int IntKind.u8 0)]:=⟨by kernel_rfl,by kernel_rfl,by kernel_rfl,by kernel_rfl,by kernel_rfl⟩
theorem t_22:Tryd.prog.underlying 22=some (TypeDesc.slice 5)∧Tryd.prog.info? 22=some (inf 22)∧(inf 22).size=1∧(inf 22).bytes=24∧zeroRow (inf 22)=some [V.nil]:=⟨by kernel_rfl,by kernel_rfl,by kernel_rfl,by kernel_rfl,by kernel_rfl⟩
theorem t_24:Tryd.prog.underlying 24=some (TypeDesc.int IntKind.u32)∧Tryd.prog.info? 24=some (inf 24)∧(inf 24).size=1∧(inf 24).bytes=4∧zeroRow (inf 24)=some [V.p (Value.int IntKind.u32 0)]:=⟨by kernel_rfl,by kernel_rfl,by kernel_rfl,by kernel_rfl,by kernel_rfl⟩
theorem t_26 : Tryd.prog.underlying 26 = some (.struct (Array.mk [Field.mk "Source" 3 0 false "" "" 0, Field.mk "Dest" 3 1 false "" "" 8, Field.mk "Seq" 24 2 false "" "" 16, Field.mk "Created" 3 3 false "" "" 24, Field.mk "Lifetime" 3 4 false "" "" 32, Field.mk "HopLimit" 3 5 false "" "" 40, Field.mk "Hops" 3 6 false "" "" 48, Field.mk "Priority" 3 7 false "" "" 56, Field.mk "Offset" 3 8 false "" "" 64, Field.mk "Total" 3 9 false "" "" 72, Field.mk "Payload" 22 10 false "" "" 80])) ∧ Tryd.prog.info? 26 = some (inf 26) ∧ (inf 26).size = 11 ∧ (inf 26).bytes = 104 ∧ zeroRow (inf 26) = some [V.p (Value.int IntKind.i64 0), V.p (Value.int IntKind.i64 0), V.p (Value.int IntKind.u32 0), V.p (Value.int IntKind.i64 0), V.p (Value.int IntKind.i64 0), V.p (Value.int IntKind.i64 0), V.p (Value.int IntKind.i64 0), V.p (Value.int IntKind.i64 0), V.p (Value.int IntKind.i64 0), V.p (Value.int IntKind.i64 0), V.nil] := ⟨by kernel_rfl, by kernel_rfl, by kernel_rfl, by kernel_rfl, by kernel_rfl⟩
theorem t_27:Tryd.prog.underlying 27=some (TypeDesc.int IntKind.i64)∧Tryd.prog.info? 27=some (inf 27)∧(inf 27).size=1∧(inf 27).bytes=8∧zeroRow (inf 27)=some [V.p (Value.int IntKind.i64 0)]:=⟨by kernel_rfl,by kernel_rfl,by kernel_rfl,by kernel_rfl,by kernel_rfl⟩
theorem t_47:Tryd.prog.underlying 47=some (TypeDesc.int IntKind.u64)∧Tryd.prog.info? 47=some (inf 47)∧(inf 47).size=1∧(inf 47).bytes=8∧zeroRow (inf 47)=some [V.p (Value.int IntKind.u64 0)]:=⟨by kernel_rfl,by kernel_rfl,by kernel_rfl,by kernel_rfl,by kernel_rfl⟩
theorem t_48:Tryd.prog.underlying 48=some (TypeDesc.slice 50)∧Tryd.prog.info? 48=some (inf 48)∧(inf 48).size=1∧(inf 48).bytes=24∧zeroRow (inf 48)=some [V.nil]:=⟨by kernel_rfl,by kernel_rfl,by kernel_rfl,by kernel_rfl,by kernel_rfl⟩
theorem t_50 : Tryd.prog.underlying 50 = some (.struct (Array.mk [Field.mk "Kind" 3 0 false "" "" 0, Field.mk "Num" 47 1 false "" "" 8, Field.mk "Bytes" 22 2 false "" "" 16, Field.mk "Items" 48 3 false "" "" 40])) ∧ Tryd.prog.info? 50 = some (inf 50) ∧ (inf 50).size = 4 ∧ (inf 50).bytes = 64 ∧ zeroRow (inf 50) = some [V.p (Value.int IntKind.i64 0), V.p (Value.int IntKind.u64 0), V.nil, V.nil] := ⟨by kernel_rfl, by kernel_rfl, by kernel_rfl, by kernel_rfl, by kernel_rfl⟩
theorem t_54:Tryd.prog.underlying 54=some (TypeDesc.pointer 3)∧Tryd.prog.info? 54=some (inf 54)∧(inf 54).size=1∧(inf 54).bytes=8∧zeroRow (inf 54)=some [V.p (Go.Value.pointer Option.none)]:=⟨by kernel_rfl,by kernel_rfl,by kernel_rfl,by kernel_rfl,by kernel_rfl⟩
theorem t_55:Tryd.prog.underlying 55=some (TypeDesc.slice 54)∧Tryd.prog.info? 55=some (inf 55)∧(inf 55).size=1∧(inf 55).bytes=24∧zeroRow (inf 55)=some [V.nil]:=⟨by kernel_rfl,by kernel_rfl,by kernel_rfl,by kernel_rfl,by kernel_rfl⟩
theorem t_66:Tryd.prog.underlying 66=some (TypeDesc.slice 3)∧Tryd.prog.info? 66=some (inf 66)∧(inf 66).size=1∧(inf 66).bytes=24∧zeroRow (inf 66)=some [V.nil]:=⟨by kernel_rfl,by kernel_rfl,by kernel_rfl,by kernel_rfl,by kernel_rfl⟩
theorem t_69:Tryd.prog.underlying 69=some (TypeDesc.pointer 91)∧Tryd.prog.info? 69=some (inf 69)∧(inf 69).size=1∧(inf 69).bytes=8∧zeroRow (inf 69)=some [V.p (Go.Value.pointer Option.none)]:=⟨by kernel_rfl,by kernel_rfl,by kernel_rfl,by kernel_rfl,by kernel_rfl⟩
theorem t_80:Tryd.prog.underlying 80=some (TypeDesc.int IntKind.u16)∧Tryd.prog.info? 80=some (inf 80)∧(inf 80).size=1∧(inf 80).bytes=2∧zeroRow (inf 80)=some [V.p (Value.int IntKind.u16 0)]:=⟨by kernel_rfl,by kernel_rfl,by kernel_rfl,by kernel_rfl,by kernel_rfl⟩
theorem t_89 : Tryd.prog.underlying 89 = some (.struct (Array.mk [Field.mk "bytes" 22 0 false "" "heliograph/octet" 0, Field.mk "at" 3 1 false "" "heliograph/octet" 24, Field.mk "err" 27 2 false "" "heliograph/octet" 32])) ∧ Tryd.prog.info? 89 = some (inf 89) ∧ (inf 89).size = 3 ∧ (inf 89).bytes = 40 ∧ zeroRow (inf 89) = some [V.nil, V.p (Value.int IntKind.i64 0), V.p (Value.int IntKind.i64 0)] := ⟨by kernel_rfl, by kernel_rfl, by kernel_rfl, by kernel_rfl, by kernel_rfl⟩
theorem t_91 : Tryd.prog.underlying 91 = some (.struct (Array.mk [Field.mk "spot" 89 0 true "" "heliograph/octet" 0])) ∧ Tryd.prog.info? 91 = some (inf 91) ∧ (inf 91).size = 3 ∧ (inf 91).bytes = 40 ∧ zeroRow (inf 91) = some [V.nil, V.p (Value.int IntKind.i64 0), V.p (Value.int IntKind.i64 0)] := ⟨by kernel_rfl, by kernel_rfl, by kernel_rfl, by kernel_rfl, by kernel_rfl⟩
theorem t_98:Tryd.prog.underlying 98=some (TypeDesc.array 256 5)∧Tryd.prog.info? 98=some (inf 98)∧(inf 98).size=256∧(inf 98).bytes=256∧zeroRow (inf 98)=some [V.p (Value.int IntKind.u8 0),V.p (Value.int IntKind.u8 0),V.p (Value.int IntKind.u8 0),V.p (Value.int IntKind.u8 0),V.p (Value.int IntKind.u8 0),V.p (Value.int IntKind.u8 0),V.p (Value.int IntKind.u8 0),V.p (Value.int IntKind.u8 0),V.p (Value.int IntKind.u8 0),V.p (Value.int IntKind.u8 0),V.p (Value.int IntKind.u8 0),V.p (Value.int IntKind.u8 0),V.p (Value.int IntKind.u8 0),V.p (Value.int IntKind.u8 0),V.p (Value.int IntKind.u8 0),V.p (Value.int IntKind.u8 0),V.p (Value.int IntKind.u8 0),V.p (Value.int IntKind.u8 0),V.p (Value.int IntKind.u8 0),V.p (Value.int IntKind.u8 0),V.p (Value.int IntKind.u8 0),V.p (Value.int IntKind.u8 0),V.p (Value.int IntKind.u8 0),V.p (Value.int IntKind.u8 0),V.p (Value.int IntKind.u8 0),V.p (Value.int IntKind.u8 0),V.p (Value.int IntKind.u8 0),V.p (Value.int IntKind.u8 0),V.p (Value.int IntKind.u8 0),V.p (Value.int IntKind.u8 0),V.p (Value.int IntKind.u8 0),V.p (Value.int IntKind.u8 0),V.p (Value.int IntKind.u8 0),V.p (Value.int IntKind.u8 0),V.p (Value.int IntKind.u8 0),V.p (Value.int IntKind.u8 0),V.p (Value.int IntKind.u8 0),V.p (Value.int IntKind.u8 0),V.p (Value.int IntKind.u8 0),V.p (Value.int IntKind.u8 0),V.p (Value.int IntKind.u8 0),V.p (Value.int IntKind.u8 0),V.p (Value.int IntKind.u8 0),V.p (Value.int IntKind.u8 0),V.p (Value.int IntKind.u8 0),V.p (Value.int IntKind.u8 0),V.p (Value.int IntKind.u8 0),V.p (Value.int IntKind.u8 0),V.p (Value.int IntKind.u8 0),V.p (Value.int IntKind.u8 0),V.p (Value.int IntKind.u8 0),V.p (Value.int IntKind.u8 0),V.p (Value.int IntKind.u8 0),V.p (Value.int IntKind.u8 0),V.p (Value.int IntKind.u8 0),V.p (Value.int IntKind.u8 0),V.p (Value.int IntKind.u8 0),V.p (Value.int IntKind.u8 0),V.p (Value.int IntKind.u8 0),V.p (Value.int IntKind.u8 0),V.p (Value.int IntKind.u8 0),V.p (Value.int IntKind.u8 0),V.p (Value.int IntKind.u8 0),V.p (Value.int IntKind.u8 0),V.p (Value.int IntKind.u8 0),V.p (Value.int IntKind.u8 0),V.p (Value.int IntKind.u8 0),V.p (Value.int IntKind.u8 0),V.p (Value.int IntKind.u8 0),V.p (Value.int IntKind.u8 0),V.p (Value.int IntKind.u8 0),V.p (Value.int IntKind.u8 0),V.p (Value.int IntKind.u8 0),V.p (Value.int IntKind.u8 0),V.p (Value.int IntKind.u8 0),V.p (Value.int IntKind.u8 0),V.p (Value.int IntKind.u8 0),V.p (Value.int IntKind.u8 0),V.p (Value.int IntKind.u8 0),V.p (Value.int IntKind.u8 0),V.p (Value.int IntKind.u8 0),V.p (Value.int IntKind.u8 0),V.p (Value.int IntKind.u8 0),V.p (Value.int IntKind.u8 0),V.p (Value.int IntKind.u8 0),V.p (Value.int IntKind.u8 0),V.p (Value.int IntKind.u8 0),V.p (Value.int IntKind.u8 0),V.p (Value.int IntKind.u8 0),V.p (Value.int IntKind.u8 0),V.p (Value.int IntKind.u8 0),V.p (Value.int IntKind.u8 0),V.p (Value.int IntKind.u8 0),V.p (Value.int IntKind.u8 0),V.p (Value.int IntKind.u8 0),V.p (Value.int IntKind.u8 0),V.p (Value.int IntKind.u8 0),V.p (Value.int IntKind.u8 0),V.p (Value.int IntKind.u8 0),V.p (Value.int IntKind.u8 0),V.p (Value.int IntKind.u8 0),V.p (Value.int IntKind.u8 0),V.p (Value.int IntKind.u8 0),V.p (Value.int IntKind.u8 0),V.p (Value.int IntKind.u8 0),V.p (Value.int IntKind.u8 0),V.p (Value.int IntKind.u8 0),V.p (Value.int IntKind.u8 0),V.p (Value.int IntKind.u8 0),V.p (Value.int IntKind.u8 0),V.p (Value.int IntKind.u8 0),V.p (Value.int IntKind.u8 0),V.p (Value.int IntKind.u8 0),V.p (Value.int IntKind.u8 0),V.p (Value.int IntKind.u8 0),V.p (Value.int IntKind.u8 0),V.p (Value.int IntKind.u8 0),V.p (Value.int IntKind.u8 0),V.p (Value.int IntKind.u8 0),V.p (Value.int IntKind.u8 0),V.p (Value.int IntKind.u8 0),V.p (Value.int IntKind.u8 0),V.p (Value.int IntKind.u8 0),V.p (Value.int IntKind.u8 0),V.p (Value.int IntKind.u8 0),V.p (Value.int IntKind.u8 0),V.p (Value.int IntKind.u8 0),V.p (Value.int IntKind.u8 0),V.p (Value.int IntKind.u8 0),V.p (Value.int IntKind.u8 0),V.p (Value.int IntKind.u8 0),V.p (Value.int IntKind.u8 0),V.p (Value.int IntKind.u8 0),V.p (Value.int IntKind.u8 0),V.p (Value.int IntKind.u8 0),V.p (Value.int IntKind.u8 0),V.p (Value.int IntKind.u8 0),V.p (Value.int IntKind.u8 0),V.p (Value.int IntKind.u8 0),V.p (Value.int IntKind.u8 0),V.p (Value.int IntKind.u8 0),V.p (Value.int IntKind.u8 0),V.p (Value.int IntKind.u8 0),V.p (Value.int IntKind.u8 0),V.p (Value.int IntKind.u8 0),V.p (Value.int IntKind.u8 0),V.p (Value.int IntKind.u8 0),V.p (Value.int IntKind.u8 0),V.p (Value.int IntKind.u8 0),V.p (Value.int IntKind.u8 0),V.p (Value.int IntKind.u8 0),V.p (Value.int IntKind.u8 0),V.p (Value.int IntKind.u8 0),V.p (Value.int IntKind.u8 0),V.p (Value.int IntKind.u8 0),V.p (Value.int IntKind.u8 0),V.p (Value.int IntKind.u8 0),V.p (Value.int IntKind.u8 0),V.p (Value.int IntKind.u8 0),V.p (Value.int IntKind.u8 0),V.p (Value.int IntKind.u8 0),V.p (Value.int IntKind.u8 0),V.p (Value.int IntKind.u8 0),V.p (Value.int IntKind.u8 0),V.p (Value.int IntKind.u8 0),V.p (Value.int IntKind.u8 0),V.p (Value.int IntKind.u8 0),V.p (Value.int IntKind.u8 0),V.p (Value.int IntKind.u8 0),V.p (Value.int IntKind.u8 0),V.p (Value.int IntKind.u8 0),V.p (Value.int IntKind.u8 0),V.p (Value.int IntKind.u8 0),V.p (Value.int IntKind.u8 0),V.p (Value.int IntKind.u8 0),V.p (Value.int IntKind.u8 0),V.p (Value.int IntKind.u8 0),V.p (Value.int IntKind.u8 0),V.p (Value.int IntKind.u8 0),V.p (Value.int IntKind.u8 0),V.p (Value.int IntKind.u8 0),V.p (Value.int IntKind.u8 0),V.p (Value.int IntKind.u8 0),V.p (Value.int IntKind.u8 0),V.p (Value.int IntKind.u8 0),V.p (Value.int IntKind.u8 0),V.p (Value.int IntKind.u8 0),V.p (Value.int IntKind.u8 0),V.p (Value.int IntKind.u8 0),V.p (Value.int IntKind.u8 0),V.p (Value.int IntKind.u8 0),V.p (Value.int IntKind.u8 0),V.p (Value.int IntKind.u8 0),V.p (Value.int IntKind.u8 0),V.p (Value.int IntKind.u8 0),V.p (Value.int IntKind.u8 0),V.p (Value.int IntKind.u8 0),V.p (Value.int IntKind.u8 0),V.p (Value.int IntKind.u8 0),V.p (Value.int IntKind.u8 0),V.p (Value.int IntKind.u8 0),V.p (Value.int IntKind.u8 0),V.p (Value.int IntKind.u8 0),V.p (Value.int IntKind.u8 0),V.p (Value.int IntKind.u8 0),V.p (Value.int IntKind.u8 0),V.p (Value.int IntKind.u8 0),V.p (Value.int IntKind.u8 0),V.p (Value.int IntKind.u8 0),V.p (Value.int IntKind.u8 0),V.p (Value.int IntKind.u8 0),V.p (Value.int IntKind.u8 0),V.p (Value.int IntKind.u8 0),V.p (Value.int IntKind.u8 0),V.p (Value.int IntKind.u8 0),V.p (Value.int IntKind.u8 0),V.p (Value.int IntKind.u8 0),V.p (Value.int IntKind.u8 0),V.p (Value.int IntKind.u8 0),V.p (Value.int IntKind.u8 0),V.p (Value.int IntKind.u8 0),V.p (Value.int IntKind.u8 0),V.p (Value.int IntKind.u8 0),V.p (Value.int IntKind.u8 0),V.p (Value.int IntKind.u8 0),V.p (Value.int IntKind.u8 0),V.p (Value.int IntKind.u8 0),V.p (Value.int IntKind.u8 0),V.p (Value.int IntKind.u8 0),V.p (Value.int IntKind.u8 0),V.p (Value.int IntKind.u8 0),V.p (Value.int IntKind.u8 0),V.p (Value.int IntKind.u8 0),V.p (Value.int IntKind.u8 0),V.p (Value.int IntKind.u8 0),V.p (Value.int IntKind.u8 0),V.p (Value.int IntKind.u8 0),V.p (Value.int IntKind.u8 0),V.p (Value.int IntKind.u8 0),V.p (Value.int IntKind.u8 0),V.p (Value.int IntKind.u8 0),V.p (Value.int IntKind.u8 0),V.p (Value.int IntKind.u8 0),V.p (Value.int IntKind.u8 0),V.p (Value.int IntKind.u8 0),V.p (Value.int IntKind.u8 0),V.p (Value.int IntKind.u8 0),V.p (Value.int IntKind.u8 0),V.p (Value.int IntKind.u8 0),V.p (Value.int IntKind.u8 0),V.p (Value.int IntKind.u8 0),V.p (Value.int IntKind.u8 0),V.p (Value.int IntKind.u8 0),V.p (Value.int IntKind.u8 0),V.p (Value.int IntKind.u8 0),V.p (Value.int IntKind.u8 0)]:=⟨by kernel_rfl,by kernel_rfl,by kernel_rfl,by kernel_rfl,by kernel_rfl⟩
theorem t_100 : Tryd.prog.underlying 100 = some (.struct (Array.mk [Field.mk "lo" 5 0 false "" "unicode/utf8" 0, Field.mk "hi" 5 1 false "" "unicode/utf8" 1])) ∧ Tryd.prog.info? 100 = some (inf 100) ∧ (inf 100).size = 2 ∧ (inf 100).bytes = 2 ∧ zeroRow (inf 100) = some [V.p (Value.int IntKind.u8 0), V.p (Value.int IntKind.u8 0)] := ⟨by kernel_rfl, by kernel_rfl, by kernel_rfl, by kernel_rfl, by kernel_rfl⟩
theorem t_101:Tryd.prog.underlying 101=some (TypeDesc.array 16 100)∧Tryd.prog.info? 101=some (inf 101)∧(inf 101).size=32∧(inf 101).bytes=32∧zeroRow (inf 101)=some [V.p (Value.int IntKind.u8 0),V.p (Value.int IntKind.u8 0),V.p (Value.int IntKind.u8 0),V.p (Value.int IntKind.u8 0),V.p (Value.int IntKind.u8 0),V.p (Value.int IntKind.u8 0),V.p (Value.int IntKind.u8 0),V.p (Value.int IntKind.u8 0),V.p (Value.int IntKind.u8 0),V.p (Value.int IntKind.u8 0),V.p (Value.int IntKind.u8 0),V.p (Value.int IntKind.u8 0),V.p (Value.int IntKind.u8 0),V.p (Value.int IntKind.u8 0),V.p (Value.int IntKind.u8 0),V.p (Value.int IntKind.u8 0),V.p (Value.int IntKind.u8 0),V.p (Value.int IntKind.u8 0),V.p (Value.int IntKind.u8 0),V.p (Value.int IntKind.u8 0),V.p (Value.int IntKind.u8 0),V.p (Value.int IntKind.u8 0),V.p (Value.int IntKind.u8 0),V.p (Value.int IntKind.u8 0),V.p (Value.int IntKind.u8 0),V.p (Value.int IntKind.u8 0),V.p (Value.int IntKind.u8 0),V.p (Value.int IntKind.u8 0),V.p (Value.int IntKind.u8 0),V.p (Value.int IntKind.u8 0),V.p (Value.int IntKind.u8 0),V.p (Value.int IntKind.u8 0)]:=⟨by kernel_rfl,by kernel_rfl,by kernel_rfl,by kernel_rfl,by kernel_rfl⟩
theorem t_109:Tryd.prog.underlying 109=some (TypeDesc.array 5 5)∧Tryd.prog.info? 109=some (inf 109)∧(inf 109).size=5∧(inf 109).bytes=5∧zeroRow (inf 109)=some [V.p (Value.int IntKind.u8 0),V.p (Value.int IntKind.u8 0),V.p (Value.int IntKind.u8 0),V.p (Value.int IntKind.u8 0),V.p (Value.int IntKind.u8 0)]:=⟨by kernel_rfl,by kernel_rfl,by kernel_rfl,by kernel_rfl,by kernel_rfl⟩
@[reducible] def hR (f r:Nat) (l:List Nat):Prop:=hints.keep f r=some l∧hints.frz f r=[]∧hints.soft f r=[]
theorem hr (f r:Nat) {l:List Nat} (h:(hints.keep f r,hints.frz f r,hints.soft f r)=(some l,[],[])):hR f r l:=⟨congrArg (·.1) h,congrArg (·.2.1) h,congrArg (·.2.2) h⟩
theorem hr_10_0:hints.keep 10 0=some [0,2]∧hints.frz 10 0=[]∧hints.soft 10 0=[(2,some 10,1,none)]:=⟨rfl,rfl,rfl⟩
theorem hr_10_13:hints.keep 10 13=some [2,3]∧hints.frz 10 13=[]∧hints.soft 10 13=[(2,some 10,1,none)]:=⟨rfl,rfl,rfl⟩
theorem hr_10_18:hints.keep 10 18=some [2,3]∧hints.frz 10 18=[]∧hints.soft 10 18=[(2,some 10,1,none)]:=⟨rfl,rfl,rfl⟩
theorem hr_10_24:hints.keep 10 24=some [2,3]∧hints.frz 10 24=[]∧hints.soft 10 24=[(2,some 10,1,none)]:=⟨rfl,rfl,rfl⟩
theorem hr_10_3:hints.keep 10 3=some [2,3]∧hints.frz 10 3=[]∧hints.soft 10 3=[(2,some 10,1,none)]:=⟨rfl,rfl,rfl⟩
theorem hr_10_7:hints.keep 10 7=some [2,3]∧hints.frz 10 7=[]∧hints.soft 10 7=[(2,some 10,1,none)]:=⟨rfl,rfl,rfl⟩
theorem hr_10_9:hints.keep 10 9=some [0,2,4,6,8,10,12]∧hints.frz 10 9=[]∧hints.soft 10 9=[(12,some 10,1,none)]:=⟨rfl,rfl,rfl⟩
theorem hr_11_0:hints.keep 11 0=some [0,2]∧hints.frz 11 0=[]∧hints.soft 11 0=[(2,some 10,1,none)]:=⟨rfl,rfl,rfl⟩
theorem hr_11_11:hints.keep 11 11=some [2,3]∧hints.frz 11 11=[]∧hints.soft 11 11=[(2,some 10,1,none)]:=⟨rfl,rfl,rfl⟩
theorem hr_11_16:hints.keep 11 16=some [2,3]∧hints.frz 11 16=[]∧hints.soft 11 16=[(2,some 10,1,none)]:=⟨rfl,rfl,rfl⟩
theorem hr_11_18:hints.keep 11 18=some [0,2,8,9,14]∧hints.frz 11 18=[]∧hints.soft 11 18=[(14,some 10,1,none)]:=⟨rfl,rfl,rfl⟩
theorem hr_11_22:hints.keep 11 22=some [2,3]∧hints.frz 11 22=[]∧hints.soft 11 22=[(2,some 10,1,none)]:=⟨rfl,rfl,rfl⟩
theorem hr_11_3:hints.keep 11 3=some [2,3]∧hints.frz 11 3=[]∧hints.soft 11 3=[(2,some 10,1,none)]:=⟨rfl,rfl,rfl⟩
theorem hr_11_6:hints.keep 11 6=some [2,3]∧hints.frz 11 6=[]∧hints.soft 11 6=[(2,some 10,1,none)]:=⟨rfl,rfl,rfl⟩
theorem hr_11_8:hints.keep 11 8=some [2,3]∧hints.frz 11 8=[]∧hints.soft 11 8=[(2,some 10,1,none)]:=⟨rfl,rfl,rfl⟩
theorem hr_14_3:hints.keep 14 3=some [2,3]∧hints.frz 14 3=[]∧hints.soft 14 3=[(2,none,1,none)]:=⟨rfl,rfl,rfl⟩
theorem hr_14_6:hints.keep 14 6=some [2,3]∧hints.frz 14 6=[]∧hints.soft 14 6=[(2,none,1,none)]:=⟨rfl,rfl,rfl⟩
theorem hr_14_9:hints.keep 14 9=some [2,3]∧hints.frz 14 9=[]∧hints.soft 14 9=[(2,none,1,none)]:=⟨rfl,rfl,rfl⟩
theorem hr_26_0:hints.keep 26 0=some [0,2]∧hints.frz 26 0=[]∧hints.soft 26 0=[(2,some 2,1,none),(2,some 3,4,none)]:=⟨rfl,rfl,rfl⟩
theorem hr_26_1:hints.keep 26 1=some [0,2,5]∧hints.frz 26 1=[5]∧hints.soft 26 1=[]:=⟨rfl,rfl,rfl⟩
theorem hr_26_4:hints.keep 26 4=some [2,3,4]∧hints.frz 26 4=[]∧hints.soft 26 4=[(2,some 2,1,none),(2,some 3,4,none)]:=⟨rfl,rfl,rfl⟩
theorem hr_29_0:hints.keep 29 0=some [0,1,4]∧hints.frz 29 0=[]∧hints.soft 29 0=[(4,some 2,1,none),(4,some 3,4,some (700001,50))]:=⟨rfl,rfl,rfl⟩
theorem hr_29_10:hints.keep 29 10=some [4,5,6]∧hints.frz 29 10=[]∧hints.soft 29 10=[(4,some 2,1,none),(4,some 3,4,some (700641,50))]:=⟨rfl,rfl,rfl⟩
theorem hr_29_14:hints.keep 29 14=some [4,5,6]∧hints.frz 29 14=[]∧hints.soft 29 14=[(4,some 2,1,none),(4,some 3,4,some (700897,50))]:=⟨rfl,rfl,rfl⟩
theorem hr_29_16:hints.keep 29 16=some [4,5,6]∧hints.frz 29 16=[]∧hints.soft 29 16=[(4,some 2,1,none),(4,some 3,4,some (701025,50))]:=⟨rfl,rfl,rfl⟩
theorem hr_29_19:hints.keep 29 19=some [4,5,6]∧hints.frz 29 19=[]∧hints.soft 29 19=[(4,some 2,1,none),(4,some 3,4,some (701217,50))]:=⟨rfl,rfl,rfl⟩
theorem hr_29_2:hints.keep 29 2=some [4,5,6]∧hints.frz 29 2=[]∧hints.soft 29 2=[(4,some 2,1,none),(4,some 3,4,some (700129,50))]:=⟨rfl,rfl,rfl⟩
theorem hr_29_20:hints.keep 29 20=some [0,1,4,9,10,12]∧hints.frz 29 20=[]∧hints.soft 29 20=[(12,some 2,1,none),(12,some 3,4,some (701281,50))]:=⟨rfl,rfl,rfl⟩
theorem hr_29_26:hints.keep 29 26=some [4,5,6]∧hints.frz 29 26=[]∧hints.soft 29 26=[(4,some 2,1,none),(4,some 3,4,some (701665,50))]:=⟨rfl,rfl,rfl⟩
theorem hr_29_31:hints.keep 29 31=some [4,5,6]∧hints.frz 29 31=[]∧hints.soft 29 31=[(4,some 2,1,none),(4,some 3,4,some (701985,50))]:=⟨rfl,rfl,rfl⟩
theorem hr_29_33:hints.keep 29 33=some [4,5,6]∧hints.frz 29 33=[]∧hints.soft 29 33=[(4,some 2,1,none),(4,some 3,4,some (702113,50))]:=⟨rfl,rfl,rfl⟩
theorem hr_29_34:hints.keep 29 34=some [4,7,9,10,17]∧hints.frz 29 34=[]∧hints.soft 29 34=[(17,some 3,4,some (702176,50))]:=⟨rfl,rfl,rfl⟩
theorem hr_29_36:hints.keep 29 36=some [4,5,6]∧hints.frz 29 36=[]∧hints.soft 29 36=[(4,some 2,1,none),(4,some 3,4,some (702305,50))]:=⟨rfl,rfl,rfl⟩
theorem hr_29_5:hints.keep 29 5=some [4,5,6]∧hints.frz 29 5=[]∧hints.soft 29 5=[(4,some 2,1,none),(4,some 3,4,some (700321,50))]:=⟨rfl,rfl,rfl⟩
theorem hr_31_3:hints.keep 31 3=some [2,3]∧hints.frz 31 3=[]∧hints.soft 31 3=[(2,none,1,none)]:=⟨rfl,rfl,rfl⟩
theorem hr_32_0:hints.keep 32 0=some [0,2]∧hints.frz 32 0=[]∧hints.soft 32 0=[(2,some 2,1,none),(2,some 3,4,some (700001,50))]:=⟨rfl,rfl,rfl⟩
theorem hr_32_1:hints.keep 32 1=some [0,2,3]∧hints.frz 32 1=[]∧hints.soft 32 1=[(3,none,4,some (700064,50))]:=⟨rfl,rfl,rfl⟩
theorem hr_33_0:hints.keep 33 0=some [0,2]∧hints.frz 33 0=[]∧hints.soft 33 0=[(2,some 2,1,none),(2,some 3,4,some (700001,50))]:=⟨rfl,rfl,rfl⟩
theorem hr_33_1:hints.keep 33 1=some [0,2,3]∧hints.frz 33 1=[]∧hints.soft 33 1=[(3,some 2,1,none),(3,some 3,4,some (700065,50))]:=⟨rfl,rfl,rfl⟩
theorem hr_34_0:hints.keep 34 0=some [0,2]∧hints.frz 34 0=[]∧hints.soft 34 0=[(2,some 2,1,some (700000,5)),(2,some 3,4,none)]:=⟨rfl,rfl,rfl⟩
theorem hr_34_1:hints.keep 34 1=some [2]∧hints.frz 34 1=[]∧hints.soft 34 1=[(2,some 3,4,none)]:=⟨rfl,rfl,rfl⟩
theorem hr_36_0:hints.keep 36 0=some [0,2]∧hints.frz 36 0=[]∧hints.soft 36 0=[(2,some 2,1,none),(2,some 3,4,none)]:=⟨rfl,rfl,rfl⟩
theorem hr_36_1:hints.keep 36 1=some [2]∧hints.frz 36 1=[]∧hints.soft 36 1=[(2,some 2,1,none),(2,some 3,4,none)]:=⟨rfl,rfl,rfl⟩
theorem hr_40_0:hints.keep 40 0=some [0,1]∧hints.frz 40 0=[]∧hints.soft 40 0=[(1,none,1,some (700000,5))]:=⟨rfl,rfl,rfl⟩
theorem hr_45_0:hints.keep 45 0=some [0,1,4]∧hints.frz 45 0=[]∧hints.soft 45 0=[(4,some 2,1,none),(4,some 3,4,some (700001,50))]:=⟨rfl,rfl,rfl⟩
theorem hr_45_20:hints.keep 45 20=some [4,5]∧hints.frz 45 20=[4]∧hints.soft 45 20=[]:=⟨rfl,rfl,rfl⟩
theorem hr_45_27:hints.keep 45 27=some [4,5]∧hints.frz 45 27=[]∧hints.soft 45 27=[(4,some 2,1,none),(4,some 3,4,none)]:=⟨rfl,rfl,rfl⟩
theorem hr_45_30:hints.keep 45 30=some [4,5]∧hints.frz 45 30=[4]∧hints.soft 45 30=[]:=⟨rfl,rfl,rfl⟩
theorem hr_45_32:hints.keep 45 32=some [0,4]∧hints.frz 45 32=[4]∧hints.soft 45 32=[]:=⟨rfl,rfl,rfl⟩
theorem hr_45_35:hints.keep 45 35=some [4,5]∧hints.frz 45 35=[4]∧hints.soft 45 35=[]:=⟨rfl,rfl,rfl⟩
theorem hr_45_36:hints.keep 45 36=some [4,5]∧hints.frz 45 36=[]∧hints.soft 45 36=[(4,some 2,1,none),(4,some 3,4,none)]:=⟨rfl,rfl,rfl⟩
theorem hr_45_37:hints.keep 45 37=some [4,5]∧hints.frz 45 37=[]∧hints.soft 45 37=[(4,some 2,1,none),(4,some 3,4,none)]:=⟨rfl,rfl,rfl⟩
theorem hr_47_2:hints.keep 47 2=some [6,7]∧hints.frz 47 2=[]∧hints.soft 47 2=[(6,none,1,none)]:=⟨rfl,rfl,rfl⟩
theorem hr_47_5:hints.keep 47 5=some [6,7]∧hints.frz 47 5=[]∧hints.soft 47 5=[(6,none,1,none)]:=⟨rfl,rfl,rfl⟩
theorem hr_47_6:hints.keep 47 6=some [6,7]∧hints.frz 47 6=[6]∧hints.soft 47 6=[]:=⟨rfl,rfl,rfl⟩
theorem hr_51_0:hints.keep 51 0=some [0,3]∧hints.frz 51 0=[]∧hints.soft 51 0=[(0,none,1,some (700000,5))]:=⟨rfl,rfl,rfl⟩
theorem hr_52_0:hints.keep 52 0=some [1,2]∧hints.frz 52 0=[]∧hints.soft 52 0=[(2,some 2,1,some (700000,5)),(2,some 3,4,some (700001,50))]:=⟨rfl,rfl,rfl⟩
theorem hr_52_3:hints.keep 52 3=some [1,2,3]∧hints.frz 52 3=[]∧hints.soft 52 3=[(1,some 3,4,some (700192,50))]:=⟨rfl,rfl,rfl⟩
theorem hr_71_2:hints.keep 71 2=some [4]∧hints.frz 71 2=[]∧hints.soft 71 2=[(4,none,1,none)]:=⟨rfl,rfl,rfl⟩
theorem hr_71_5:hints.keep 71 5=some [4]∧hints.frz 71 5=[]∧hints.soft 71 5=[(4,none,1,none)]:=⟨rfl,rfl,rfl⟩
theorem hr_71_8:hints.keep 71 8=some [4]∧hints.frz 71 8=[]∧hints.soft 71 8=[(4,none,1,none)]:=⟨rfl,rfl,rfl⟩
theorem hr_72_1:hints.keep 72 1=some [1,3]∧hints.frz 72 1=[]∧hints.soft 72 1=[(3,some 2,1,none),(3,some 3,4,none)]:=⟨rfl,rfl,rfl⟩
end Go.Proofs.YtbnnmplkbpgcaaaDoorV