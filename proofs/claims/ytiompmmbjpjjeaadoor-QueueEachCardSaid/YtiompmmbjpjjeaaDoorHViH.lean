/- The value interpreter's hints and the types' facts for this seat,one by one. -/
import Derived.Test.YtiompmmbjpjjeaaDoorHViS
import Derived.Test.YtiompmmbjpjjeaaDoorHVi26
namespace Go.Proofs.YtiompmmbjpjjeaaDoorV
open Go
set_option linter.unusedVariables false
noncomputable def inf (t:TypeId):TypeInfo:=(Tryd.prog.info? t).getD ((Tryd.prog.info? 3).get (by kernel_rfl))
theorem sm_3:slotMs Tryd.prog 8 3=[0]:=by kernel_rfl
theorem i_5:Tryd.prog.info? 5=some (inf 5):=by kernel_rfl
theorem is_5:(inf 5).size=1:=by kernel_rfl
theorem sm_5:slotMs Tryd.prog 8 5=[0]:=by kernel_rfl
theorem u_31 : Tryd.prog.underlying 31 = some (.struct (Array.mk [Field.mk "List" 29 0 false "" "" 0])) := by kernel_rfl
theorem i_31:Tryd.prog.info? 31=some (inf 31):=by kernel_rfl
theorem iz_31:zeroRow (inf 31)=some [V.nil]:=by kernel_rfl
theorem bl_31 (σ:St) (ps:List (Nat×Operand)):buildV Tryd.prog σ 31 ps=(fillL [(0,1)] [V.nil] (evL σ ps)).map .agg:=build_eval i_31 iz_31 u_31 (by kernel_rfl)
theorem u_37 : Tryd.prog.underlying 37 = some (.struct (Array.mk [Field.mk "Go" 35 0 false "" "" 0, Field.mk "Waits" 26 1 false "" "" 24, Field.mk "Stuck" 26 2 false "" "" 48, Field.mk "Left" 25 3 false "" "" 72])) := by kernel_rfl
theorem i_37:Tryd.prog.info? 37=some (inf 37):=by kernel_rfl
theorem iz_37:zeroRow (inf 37)=some [V.nil,V.nil,V.nil,V.nil]:=by kernel_rfl
theorem bl_37 (σ:St) (ps:List (Nat×Operand)):buildV Tryd.prog σ 37 ps=(fillL [(0,1),(1,1),(2,1),(3,1)] [V.nil,V.nil,V.nil,V.nil] (evL σ ps)).map .agg:=build_eval i_37 iz_37 u_37 (by kernel_rfl)
theorem u_44 : Tryd.prog.underlying 44 = some (.struct (Array.mk [Field.mk "Source" 3 0 false "" "" 0, Field.mk "Seq" 42 1 false "" "" 8, Field.mk "Offset" 3 2 false "" "" 16])) := by kernel_rfl
theorem i_44:Tryd.prog.info? 44=some (inf 44):=by kernel_rfl
theorem iz_44:zeroRow (inf 44)=some [V.p (Value.int IntKind.i64 0),V.p (Value.int IntKind.u32 0),V.p (Value.int IntKind.i64 0)]:=by kernel_rfl
theorem sm_44:slotMs Tryd.prog 8 44=[0,0,0]:=by kernel_rfl
theorem ag_44:(Tryd.prog.eqGuardType Tryd.prog.depth 44||Tryd.prog.stoodInHeld 44)=false:=by kernel_rfl
theorem bl_44 (σ:St) (ps:List (Nat×Operand)):buildV Tryd.prog σ 44 ps=(fillL [(0,1),(1,1),(2,1)] [V.p (Value.int IntKind.i64 0),V.p (Value.int IntKind.u32 0),V.p (Value.int IntKind.i64 0)] (evL σ ps)).map .agg:=build_eval i_44 iz_44 u_44 (by kernel_rfl)
theorem u_47 : Tryd.prog.underlying 47 = some (.struct (Array.mk [Field.mk "Source" 3 0 false "" "" 0, Field.mk "Dest" 3 1 false "" "" 8, Field.mk "Seq" 42 2 false "" "" 16, Field.mk "Created" 3 3 false "" "" 24, Field.mk "Lifetime" 3 4 false "" "" 32, Field.mk "HopLimit" 3 5 false "" "" 40, Field.mk "Hops" 3 6 false "" "" 48, Field.mk "Priority" 3 7 false "" "" 56, Field.mk "Offset" 3 8 false "" "" 64, Field.mk "Total" 3 9 false "" "" 72, Field.mk "Payload" 45 10 false "" "" 80])) := by kernel_rfl
theorem i_47:Tryd.prog.info? 47=some (inf 47):=by kernel_rfl
theorem iz_47:zeroRow (inf 47)=some [V.p (Value.int IntKind.i64 0),V.p (Value.int IntKind.i64 0),V.p (Value.int IntKind.u32 0),V.p (Value.int IntKind.i64 0),V.p (Value.int IntKind.i64 0),V.p (Value.int IntKind.i64 0),V.p (Value.int IntKind.i64 0),V.p (Value.int IntKind.i64 0),V.p (Value.int IntKind.i64 0),V.p (Value.int IntKind.i64 0),V.nil]:=by kernel_rfl
theorem sm_47:slotMs Tryd.prog 8 47=[0,0,0,0,0,0,0,0,0,0,1]:=by kernel_rfl
theorem bl_47 (σ:St) (ps:List (Nat×Operand)):buildV Tryd.prog σ 47 ps=(fillL [(0,1),(1,1),(2,1),(3,1),(4,1),(5,1),(6,1),(7,1),(8,1),(9,1),(10,1)] [V.p (Value.int IntKind.i64 0),V.p (Value.int IntKind.i64 0),V.p (Value.int IntKind.u32 0),V.p (Value.int IntKind.i64 0),V.p (Value.int IntKind.i64 0),V.p (Value.int IntKind.i64 0),V.p (Value.int IntKind.i64 0),V.p (Value.int IntKind.i64 0),V.p (Value.int IntKind.i64 0),V.p (Value.int IntKind.i64 0),V.nil] (evL σ ps)).map .agg:=build_eval i_47 iz_47 u_47 (by kernel_rfl)
theorem sm_54:slotMs Tryd.prog 8 54=[0,0,0,0,0,0]:=by kernel_rfl
theorem u_56 : Tryd.prog.underlying 56 = some (.struct (Array.mk [Field.mk "Key" 44 0 false "" "" 0, Field.mk "To" 3 3 false "" "" 24, Field.mk "Contact" 3 4 false "" "" 32])) := by kernel_rfl
theorem i_56:Tryd.prog.info? 56=some (inf 56):=by kernel_rfl
theorem iz_56:zeroRow (inf 56)=some [V.p (Value.int IntKind.i64 0),V.p (Value.int IntKind.u32 0),V.p (Value.int IntKind.i64 0),V.p (Value.int IntKind.i64 0),V.p (Value.int IntKind.i64 0)]:=by kernel_rfl
theorem sm_56:slotMs Tryd.prog 8 56=[0,0,0,0,0]:=by kernel_rfl
theorem bl_56 (σ:St) (ps:List (Nat×Operand)):buildV Tryd.prog σ 56 ps=(fillL [(0,3),(3,1),(4,1)] [V.p (Value.int IntKind.i64 0),V.p (Value.int IntKind.u32 0),V.p (Value.int IntKind.i64 0),V.p (Value.int IntKind.i64 0),V.p (Value.int IntKind.i64 0)] (evL σ ps)).map .agg:=build_eval i_56 iz_56 u_56 (by kernel_rfl)
theorem u_85 : Tryd.prog.underlying 85 = some (.struct (Array.mk [Field.mk "Plan" 24 0 true "" "" 0, Field.mk "left" 25 2 false "" "heliograph/plan" 32, Field.mk "need" 3 3 false "" "heliograph/plan" 56])) := by kernel_rfl
theorem i_85:Tryd.prog.info? 85=some (inf 85):=by kernel_rfl
theorem iz_85:zeroRow (inf 85)=some [V.p (Value.int IntKind.i64 0),V.nil,V.nil,V.p (Value.int IntKind.i64 0)]:=by kernel_rfl
theorem bl_85 (σ:St) (ps:List (Nat×Operand)):buildV Tryd.prog σ 85 ps=(fillL [(0,2),(2,1),(3,1)] [V.p (Value.int IntKind.i64 0),V.nil,V.nil,V.p (Value.int IntKind.i64 0)] (evL σ ps)).map .agg:=build_eval i_85 iz_85 u_85 (by kernel_rfl)
theorem u_113 : Tryd.prog.underlying 113 = some (.struct (Array.mk [Field.mk "Kind" 3 0 false "" "" 0, Field.mk "Num" 110 1 false "" "" 8, Field.mk "Bytes" 45 2 false "" "" 16, Field.mk "Items" 111 3 false "" "" 40])) := by kernel_rfl
theorem i_113:Tryd.prog.info? 113=some (inf 113):=by kernel_rfl
theorem iz_113:zeroRow (inf 113)=some [V.p (Value.int IntKind.i64 0),V.p (Value.int IntKind.u64 0),V.nil,V.nil]:=by kernel_rfl
theorem sm_113:slotMs Tryd.prog 8 113=[0,0,1,4]:=by kernel_rfl
theorem bl_113 (σ:St) (ps:List (Nat×Operand)):buildV Tryd.prog σ 113 ps=(fillL [(0,1),(1,1),(2,1),(3,1)] [V.p (Value.int IntKind.i64 0),V.p (Value.int IntKind.u64 0),V.nil,V.nil] (evL σ ps)).map .agg:=build_eval i_113 iz_113 u_113 (by kernel_rfl)
theorem u_136:Tryd.prog.underlying 136=some (TypeDesc.array 5 5):=by kernel_rfl
theorem i_136:Tryd.prog.info? 136=some (inf 136):=by kernel_rfl
theorem iz_136:zeroRow (inf 136)=some [V.p (Value.int IntKind.u8 0),V.p (Value.int IntKind.u8 0),V.p (Value.int IntKind.u8 0),V.p (Value.int IntKind.u8 0),V.p (Value.int IntKind.u8 0)]:=by kernel_rfl
theorem bl_136 (σ:St) (ps:List (Nat×Operand)):buildV Tryd.prog σ 136 ps=(fillA [V.p (Value.int IntKind.u8 0),V.p (Value.int IntKind.u8 0),V.p (Value.int IntKind.u8 0),V.p (Value.int IntKind.u8 0),V.p (Value.int IntKind.u8 0)] (evL σ ps)).map .agg:=by rw [build_evalA i_136 iz_136 u_136 i_5];simp only [is_5,Nat.mul_one];rfl
theorem gv (f:FuncId):hints.gives f=[28,49,66,67,69,74,77,80,83,84,85,87].contains f:=rfl
theorem hh_6_9:hints.head 6 9=some [2,3,5,7,58,59,60]:=rfl
theorem hc_6_9:hints.canon 6 9=[]:=rfl
theorem hh_6_17:hints.head 6 17=some [2,3,5,7,111,112,113]:=rfl
theorem hc_6_17:hints.canon 6 17=[]:=rfl
theorem hh_6_23:hints.head 6 23=some [2,3,5,7,13,126,127,128]:=rfl
theorem hc_6_23:hints.canon 6 23=[]:=rfl
theorem hh_6_29:hints.head 6 29=some [2,3,5,7,13,16,136,137,138]:=rfl
theorem hc_6_29:hints.canon 6 29=[]:=rfl
theorem hh_6_41:hints.head 6 41=some [2,3,5,7,16,20,170,171,172]:=rfl
theorem hc_6_41:hints.canon 6 41=[]:=rfl
theorem hh_6_51:hints.head 6 51=some [2,5,7,16,20,200,201]:=rfl
theorem hc_6_51:hints.canon 6 51=[]:=rfl
theorem hh_10_3:hints.head 10 3=some [2,3,7,8,9]:=rfl
theorem hc_10_3:hints.canon 10 3=[(3,none,20000,11,47)]:=rfl
theorem hh_12_7:hints.head 12 7=some [4,15,16,17]:=rfl
theorem hc_12_7:hints.canon 12 7=[(4,none,20000,3,44)]:=rfl
theorem hh_25_11:hints.head 25 11=some [2,3,4,9,10,11,43,44,45]:=rfl
theorem hc_25_11:hints.canon 25 11=[(9,some 0,20000,5,56),(11,none,20001,6,54)]:=rfl
theorem hh_26_5:hints.head 26 5=some [1,3,11,12,13]:=rfl
theorem hc_26_5:hints.canon 26 5=[]:=rfl
theorem hh_33_4:hints.head 33 4=some [1,18,19,20]:=rfl
theorem hc_33_4:hints.canon 33 4=[]:=rfl
theorem hh_33_9:hints.head 33 9=some [1,4,18,19,20,78,79,80]:=rfl
theorem hc_33_9:hints.canon 33 9=[]:=rfl
theorem hh_38_4:hints.head 38 4=some [2,4,10,11,12]:=rfl
theorem hc_38_4:hints.canon 38 4=[]:=rfl
theorem hh_38_6:hints.head 38 6=some [2,4,10,11,12,13,14]:=rfl
theorem hc_38_6:hints.canon 38 6=[]:=rfl
theorem hh_49_2:hints.head 49 2=some [0,1,2,6,7,8]:=rfl
theorem hc_49_2:hints.canon 49 2=[]:=rfl
theorem hh_49_7:hints.head 49 7=some [0,1,2,6]:=rfl
theorem hc_49_7:hints.canon 49 7=[]:=rfl
theorem hh_49_9:hints.head 49 9=some [0,1,2,6,7,8]:=rfl
theorem hc_49_9:hints.canon 49 9=[]:=rfl
theorem hh_51_2:hints.head 51 2=some [0,1,7,8]:=rfl
theorem hc_51_2:hints.canon 51 2=[]:=rfl
theorem hh_54_2:hints.head 54 2=some [0,1,7,8]:=rfl
theorem hc_54_2:hints.canon 54 2=[]:=rfl
theorem hh_55_1:hints.head 55 1=some [0,1,2,3,9,10,11]:=rfl
theorem hc_55_1:hints.canon 55 1=[]:=rfl
theorem hh_57_3:hints.head 57 3=some [2,3,6,7,8]:=rfl
theorem hc_57_3:hints.canon 57 3=[(3,none,20000,4,113)]:=rfl
theorem hh_58_3:hints.head 58 3=some [2,3,7,8,9]:=rfl
theorem hc_58_3:hints.canon 58 3=[(3,some 3,20000,4,113)]:=rfl
theorem hh_64_2:hints.head 64 2=some [0,3,7,8]:=rfl
theorem hc_64_2:hints.canon 64 2=[]:=rfl
theorem hh_66_1:hints.head 66 1=some [0,1,2,3,8]:=rfl
theorem hc_66_1:hints.canon 66 1=[]:=rfl
theorem hh_66_4:hints.head 66 4=some [0,1,2,3,8,9]:=rfl
theorem hc_66_4:hints.canon 66 4=[]:=rfl
theorem hh_67_3:hints.head 67 3=some [0,1,4,10,11]:=rfl
theorem hc_67_3:hints.canon 67 3=[]:=rfl
theorem hh_67_9:hints.head 67 9=some [0,10,13]:=rfl
theorem hc_67_9:hints.canon 67 9=[]:=rfl
theorem hh_67_15:hints.head 67 15=some [0,2,4,14,15]:=rfl
theorem hc_67_15:hints.canon 67 15=[]:=rfl
theorem hh_67_21:hints.head 67 21=some [0,14,17]:=rfl
theorem hc_67_21:hints.canon 67 21=[]:=rfl
theorem hh_67_33:hints.head 67 33=some [0,1,2,3,4,18,19,20,21,22]:=rfl
theorem hc_67_33:hints.canon 67 33=[]:=rfl
theorem hh_69_8:hints.head 69 8=some [0,30,31,32]:=rfl
theorem hc_69_8:hints.canon 69 8=[]:=rfl
theorem hh_70_5:hints.head 70 5=some [1,2,13,14,15]:=rfl
theorem hc_70_5:hints.canon 70 5=[(1,some 3,20000,4,113)]:=rfl
theorem hh_71_3:hints.head 71 3=some [1,7,11,12]:=rfl
theorem hc_71_3:hints.canon 71 3=[(7,none,20000,1,5)]:=rfl
theorem hh_74_2:hints.head 74 2=some [0,2,4,10,11]:=rfl
theorem hc_74_2:hints.canon 74 2=[]:=rfl
theorem hh_75_4:hints.head 75 4=some [1,38,39,40]:=rfl
theorem hc_75_4:hints.canon 75 4=[]:=rfl
theorem hh_78_3:hints.head 78 3=some [1,5,11,12,13]:=rfl
theorem hc_78_3:hints.canon 78 3=[]:=rfl
theorem hh_78_7:hints.head 78 7=some [1,5,11,12,13,21]:=rfl
theorem hc_78_7:hints.canon 78 7=[]:=rfl
theorem hh_79_3:hints.head 79 3=some [1,5,11,12,13]:=rfl
theorem hc_79_3:hints.canon 79 3=[]:=rfl
theorem hh_79_7:hints.head 79 7=some [1,5,11,12,13,21]:=rfl
theorem hc_79_7:hints.canon 79 7=[]:=rfl
theorem hh_80_1:hints.head 80 1=some [0,1,2,3,10]:=rfl
theorem hc_80_1:hints.canon 80 1=[]:=rfl
theorem hh_82_2:hints.head 82 2=some [0]:=rfl
theorem hc_82_2:hints.canon 82 2=[]:=rfl
theorem hh_82_10:hints.head 82 10=some [0]:=rfl
theorem hc_82_10:hints.canon 82 10=[]:=rfl
theorem hh_87_3:hints.head 87 3=some [0,1,7]:=rfl
theorem hc_87_3:hints.canon 87 3=[(0,none,20000,1,5)]:=rfl
theorem hk_14_1000011:hints.keep 14 1000011=some [17,18]:=rfl
theorem hh_14_1000011:hints.head 14 1000011=some [6,9,16,17,18]:=rfl
theorem hk_38_1000015:hints.keep 38 1000015=some [2,4,10,11,12]:=rfl
theorem hh_38_1000015:hints.head 38 1000015=some [4,10,11]:=rfl
theorem t_3:Tryd.prog.underlying 3=some (TypeDesc.int IntKind.i64)∧Tryd.prog.info? 3=some (inf 3)∧(inf 3).size=1∧(inf 3).bytes=8∧zeroRow (inf 3)=some [V.p (Value.int IntKind.i64 0)]:=⟨by kernel_rfl,by kernel_rfl,by kernel_rfl,by kernel_rfl,by kernel_rfl⟩
theorem t_4:Tryd.prog.underlying 4=some TypeDesc.bool∧Tryd.prog.info? 4=some (inf 4)∧(inf 4).size=1∧(inf 4).bytes=1∧zeroRow (inf 4)=some [V.p (Value.bool false)]:=⟨by kernel_rfl,by kernel_rfl,by kernel_rfl,by kernel_rfl,by kernel_rfl⟩
theorem t_5:Tryd.prog.underlying 5=some (TypeDesc.int IntKind.u8)∧Tryd.prog.info? 5=some (inf 5)∧(inf 5).size=1∧(inf 5).bytes=1∧zeroRow (inf 5)=some [V.p (Value.int IntKind.u8 0)]:=⟨by kernel_rfl,by kernel_rfl,by kernel_rfl,by kernel_rfl,by kernel_rfl⟩
theorem t_22:Tryd.prog.underlying 22=some (TypeDesc.slice 54)∧Tryd.prog.info? 22=some (inf 22)∧(inf 22).size=1∧(inf 22).bytes=24∧zeroRow (inf 22)=some [V.nil]:=⟨by kernel_rfl,by kernel_rfl,by kernel_rfl,by kernel_rfl,by kernel_rfl⟩
theorem t_24 : Tryd.prog.underlying 24 = some (.struct (Array.mk [Field.mk "Nodes" 3 0 false "" "" 0, Field.mk "Contacts" 22 1 false "" "" 8])) ∧ Tryd.prog.info? 24 = some (inf 24) ∧ (inf 24).size = 2 ∧ (inf 24).bytes = 32 ∧ zeroRow (inf 24) = some [V.p (Value.int IntKind.i64 0), V.nil] := ⟨by kernel_rfl, by kernel_rfl, by kernel_rfl, by kernel_rfl, by kernel_rfl⟩
theorem t_25:Tryd.prog.underlying 25=some (TypeDesc.slice 3)∧Tryd.prog.info? 25=some (inf 25)∧(inf 25).size=1∧(inf 25).bytes=24∧zeroRow (inf 25)=some [V.nil]:=⟨by kernel_rfl,by kernel_rfl,by kernel_rfl,by kernel_rfl,by kernel_rfl⟩
theorem t_26:Tryd.prog.underlying 26=some (TypeDesc.slice 44)∧Tryd.prog.info? 26=some (inf 26)∧(inf 26).size=1∧(inf 26).bytes=24∧zeroRow (inf 26)=some [V.nil]:=⟨by kernel_rfl,by kernel_rfl,by kernel_rfl,by kernel_rfl,by kernel_rfl⟩
theorem t_28 : Tryd.prog.underlying 28 = some (.struct (Array.mk [Field.mk "Node" 3 0 false "" "" 0, Field.mk "Plan" 24 1 false "" "" 8, Field.mk "Left" 25 3 false "" "" 40, Field.mk "Now" 3 4 false "" "" 64, Field.mk "Busy" 26 5 false "" "" 72, Field.mk "Room" 3 6 false "" "" 96])) ∧ Tryd.prog.info? 28 = some (inf 28) ∧ (inf 28).size = 7 ∧ (inf 28).bytes = 104 ∧ zeroRow (inf 28) = some [V.p (Value.int IntKind.i64 0), V.p (Value.int IntKind.i64 0), V.nil, V.nil, V.p (Value.int IntKind.i64 0), V.nil, V.p (Value.int IntKind.i64 0)] := ⟨by kernel_rfl, by kernel_rfl, by kernel_rfl, by kernel_rfl, by kernel_rfl⟩
theorem t_29:Tryd.prog.underlying 29=some (TypeDesc.slice 47)∧Tryd.prog.info? 29=some (inf 29)∧(inf 29).size=1∧(inf 29).bytes=24∧zeroRow (inf 29)=some [V.nil]:=⟨by kernel_rfl,by kernel_rfl,by kernel_rfl,by kernel_rfl,by kernel_rfl⟩
theorem t_31 : Tryd.prog.underlying 31 = some (.struct (Array.mk [Field.mk "List" 29 0 false "" "" 0])) ∧ Tryd.prog.info? 31 = some (inf 31) ∧ (inf 31).size = 1 ∧ (inf 31).bytes = 24 ∧ zeroRow (inf 31) = some [V.nil] := ⟨by kernel_rfl, by kernel_rfl, by kernel_rfl, by kernel_rfl, by kernel_rfl⟩
theorem t_35:Tryd.prog.underlying 35=some (TypeDesc.slice 56)∧Tryd.prog.info? 35=some (inf 35)∧(inf 35).size=1∧(inf 35).bytes=24∧zeroRow (inf 35)=some [V.nil]:=⟨by kernel_rfl,by kernel_rfl,by kernel_rfl,by kernel_rfl,by kernel_rfl⟩
theorem t_37 : Tryd.prog.underlying 37 = some (.struct (Array.mk [Field.mk "Go" 35 0 false "" "" 0, Field.mk "Waits" 26 1 false "" "" 24, Field.mk "Stuck" 26 2 false "" "" 48, Field.mk "Left" 25 3 false "" "" 72])) ∧ Tryd.prog.info? 37 = some (inf 37) ∧ (inf 37).size = 4 ∧ (inf 37).bytes = 96 ∧ zeroRow (inf 37) = some [V.nil, V.nil, V.nil, V.nil] := ⟨by kernel_rfl, by kernel_rfl, by kernel_rfl, by kernel_rfl, by kernel_rfl⟩
theorem t_42:Tryd.prog.underlying 42=some (TypeDesc.int IntKind.u32)∧Tryd.prog.info? 42=some (inf 42)∧(inf 42).size=1∧(inf 42).bytes=4∧zeroRow (inf 42)=some [V.p (Value.int IntKind.u32 0)]:=⟨by kernel_rfl,by kernel_rfl,by kernel_rfl,by kernel_rfl,by kernel_rfl⟩
theorem t_44 : Tryd.prog.underlying 44 = some (.struct (Array.mk [Field.mk "Source" 3 0 false "" "" 0, Field.mk "Seq" 42 1 false "" "" 8, Field.mk "Offset" 3 2 false "" "" 16])) ∧ Tryd.prog.info? 44 = some (inf 44) ∧ (inf 44).size = 3 ∧ (inf 44).bytes = 24 ∧ zeroRow (inf 44) = some [V.p (Value.int IntKind.i64 0), V.p (Value.int IntKind.u32 0), V.p (Value.int IntKind.i64 0)] := ⟨by kernel_rfl, by kernel_rfl, by kernel_rfl, by kernel_rfl, by kernel_rfl⟩
theorem t_45:Tryd.prog.underlying 45=some (TypeDesc.slice 5)∧Tryd.prog.info? 45=some (inf 45)∧(inf 45).size=1∧(inf 45).bytes=24∧zeroRow (inf 45)=some [V.nil]:=⟨by kernel_rfl,by kernel_rfl,by kernel_rfl,by kernel_rfl,by kernel_rfl⟩
theorem t_47 : Tryd.prog.underlying 47 = some (.struct (Array.mk [Field.mk "Source" 3 0 false "" "" 0, Field.mk "Dest" 3 1 false "" "" 8, Field.mk "Seq" 42 2 false "" "" 16, Field.mk "Created" 3 3 false "" "" 24, Field.mk "Lifetime" 3 4 false "" "" 32, Field.mk "HopLimit" 3 5 false "" "" 40, Field.mk "Hops" 3 6 false "" "" 48, Field.mk "Priority" 3 7 false "" "" 56, Field.mk "Offset" 3 8 false "" "" 64, Field.mk "Total" 3 9 false "" "" 72, Field.mk "Payload" 45 10 false "" "" 80])) ∧ Tryd.prog.info? 47 = some (inf 47) ∧ (inf 47).size = 11 ∧ (inf 47).bytes = 104 ∧ zeroRow (inf 47) = some [V.p (Value.int IntKind.i64 0), V.p (Value.int IntKind.i64 0), V.p (Value.int IntKind.u32 0), V.p (Value.int IntKind.i64 0), V.p (Value.int IntKind.i64 0), V.p (Value.int IntKind.i64 0), V.p (Value.int IntKind.i64 0), V.p (Value.int IntKind.i64 0), V.p (Value.int IntKind.i64 0), V.p (Value.int IntKind.i64 0), V.nil] := ⟨by kernel_rfl, by kernel_rfl, by kernel_rfl, by kernel_rfl, by kernel_rfl⟩
theorem t_54 : Tryd.prog.underlying 54 = some (.struct (Array.mk [Field.mk "From" 3 0 false "" "" 0, Field.mk "To" 3 1 false "" "" 8, Field.mk "Start" 3 2 false "" "" 16, Field.mk "End" 3 3 false "" "" 24, Field.mk "Rate" 3 4 false "" "" 32, Field.mk "Delay" 3 5 false "" "" 40])) ∧ Tryd.prog.info? 54 = some (inf 54) ∧ (inf 54).size = 6 ∧ (inf 54).bytes = 48 ∧ zeroRow (inf 54) = some [V.p (Value.int IntKind.i64 0), V.p (Value.int IntKind.i64 0), V.p (Value.int IntKind.i64 0), V.p (Value.int IntKind.i64 0), V.p (Value.int IntKind.i64 0), V.p (Value.int IntKind.i64 0)] := ⟨by kernel_rfl, by kernel_rfl, by kernel_rfl, by kernel_rfl, by kernel_rfl⟩
theorem t_56 : Tryd.prog.underlying 56 = some (.struct (Array.mk [Field.mk "Key" 44 0 false "" "" 0, Field.mk "To" 3 3 false "" "" 24, Field.mk "Contact" 3 4 false "" "" 32])) ∧ Tryd.prog.info? 56 = some (inf 56) ∧ (inf 56).size = 5 ∧ (inf 56).bytes = 40 ∧ zeroRow (inf 56) = some [V.p (Value.int IntKind.i64 0), V.p (Value.int IntKind.u32 0), V.p (Value.int IntKind.i64 0), V.p (Value.int IntKind.i64 0), V.p (Value.int IntKind.i64 0)] := ⟨by kernel_rfl, by kernel_rfl, by kernel_rfl, by kernel_rfl, by kernel_rfl⟩
theorem t_85 : Tryd.prog.underlying 85 = some (.struct (Array.mk [Field.mk "Plan" 24 0 true "" "" 0, Field.mk "left" 25 2 false "" "heliograph/plan" 32, Field.mk "need" 3 3 false "" "heliograph/plan" 56])) ∧ Tryd.prog.info? 85 = some (inf 85) ∧ (inf 85).size = 4 ∧ (inf 85).bytes = 64 ∧ zeroRow (inf 85) = some [V.p (Value.int IntKind.i64 0), V.nil, V.nil, V.p (Value.int IntKind.i64 0)] := ⟨by kernel_rfl, by kernel_rfl, by kernel_rfl, by kernel_rfl, by kernel_rfl⟩
theorem t_107:Tryd.prog.underlying 107=some (TypeDesc.array 7 3)∧Tryd.prog.info? 107=some (inf 107)∧(inf 107).size=7∧(inf 107).bytes=56∧zeroRow (inf 107)=some [V.p (Value.int IntKind.i64 0),V.p (Value.int IntKind.i64 0),V.p (Value.int IntKind.i64 0),V.p (Value.int IntKind.i64 0),V.p (Value.int IntKind.i64 0),V.p (Value.int IntKind.i64 0),V.p (Value.int IntKind.i64 0)]:=⟨by kernel_rfl,by kernel_rfl,by kernel_rfl,by kernel_rfl,by kernel_rfl⟩
theorem t_108:Tryd.prog.underlying 108=some (TypeDesc.array 7 4)∧Tryd.prog.info? 108=some (inf 108)∧(inf 108).size=7∧(inf 108).bytes=7∧zeroRow (inf 108)=some [V.p (Value.bool false),V.p (Value.bool false),V.p (Value.bool false),V.p (Value.bool false),V.p (Value.bool false),V.p (Value.bool false),V.p (Value.bool false)]:=⟨by kernel_rfl,by kernel_rfl,by kernel_rfl,by kernel_rfl,by kernel_rfl⟩
theorem t_110:Tryd.prog.underlying 110=some (TypeDesc.int IntKind.u64)∧Tryd.prog.info? 110=some (inf 110)∧(inf 110).size=1∧(inf 110).bytes=8∧zeroRow (inf 110)=some [V.p (Value.int IntKind.u64 0)]:=⟨by kernel_rfl,by kernel_rfl,by kernel_rfl,by kernel_rfl,by kernel_rfl⟩
theorem t_111:Tryd.prog.underlying 111=some (TypeDesc.slice 113)∧Tryd.prog.info? 111=some (inf 111)∧(inf 111).size=1∧(inf 111).bytes=24∧zeroRow (inf 111)=some [V.nil]:=⟨by kernel_rfl,by kernel_rfl,by kernel_rfl,by kernel_rfl,by kernel_rfl⟩
theorem t_113 : Tryd.prog.underlying 113 = some (.struct (Array.mk [Field.mk "Kind" 3 0 false "" "" 0, Field.mk "Num" 110 1 false "" "" 8, Field.mk "Bytes" 45 2 false "" "" 16, Field.mk "Items" 111 3 false "" "" 40])) ∧ Tryd.prog.info? 113 = some (inf 113) ∧ (inf 113).size = 4 ∧ (inf 113).bytes = 64 ∧ zeroRow (inf 113) = some [V.p (Value.int IntKind.i64 0), V.p (Value.int IntKind.u64 0), V.nil, V.nil] := ⟨by kernel_rfl, by kernel_rfl, by kernel_rfl, by kernel_rfl, by kernel_rfl⟩
theorem t_125:Tryd.prog.underlying 125=some (TypeDesc.int IntKind.u16)∧Tryd.prog.info? 125=some (inf 125)∧(inf 125).size=1∧(inf 125).bytes=2∧zeroRow (inf 125)=some [V.p (Value.int IntKind.u16 0)]:=⟨by kernel_rfl,by kernel_rfl,by kernel_rfl,by kernel_rfl,by kernel_rfl⟩
theorem t_128:Tryd.prog.underlying 128=some (TypeDesc.int IntKind.u64)∧Tryd.prog.info? 128=some (inf 128)∧(inf 128).size=1∧(inf 128).bytes=8∧zeroRow (inf 128)=some [V.p (Value.int IntKind.u64 0)]:=⟨by kernel_rfl,by kernel_rfl,by kernel_rfl,by kernel_rfl,by kernel_rfl⟩
theorem t_136:Tryd.prog.underlying 136=some (TypeDesc.array 5 5)∧Tryd.prog.info? 136=some (inf 136)∧(inf 136).size=5∧(inf 136).bytes=5∧zeroRow (inf 136)=some [V.p (Value.int IntKind.u8 0),V.p (Value.int IntKind.u8 0),V.p (Value.int IntKind.u8 0),V.p (Value.int IntKind.u8 0),V.p (Value.int IntKind.u8 0)]:=⟨by kernel_rfl,by kernel_rfl,by kernel_rfl,by kernel_rfl,by kernel_rfl⟩
@[reducible] def hR (f r:Nat) (l:List Nat):Prop:=hints.keep f r=some l∧hints.frz f r=[]∧hints.soft f r=[]
theorem hr (f r:Nat) {l:List Nat} (h:(hints.keep f r,hints.frz f r,hints.soft f r)=(some l,[],[])):hR f r l:=⟨congrArg (·.1) h,congrArg (·.2.1) h,congrArg (·.2.2) h⟩
theorem hr_10_0:hints.keep 10 0=some [1,2]∧hints.frz 10 0=[]∧hints.soft 10 0=[(2,some 0,11,some (700000,47))]:=⟨rfl,rfl,rfl⟩
theorem hr_10_1:hints.keep 10 1=some [1,2,3]∧hints.frz 10 1=[]∧hints.soft 10 1=[(3,none,11,some (700064,47))]:=⟨rfl,rfl,rfl⟩
theorem hr_11_0:hints.keep 11 0=some [2,3,4]∧hints.frz 11 0=[]∧hints.soft 11 0=[(4,some 0,5,some (700000,56)),(4,some 1,3,some (700001,44)),(4,some 2,3,some (700002,44)),(4,some 3,1,none)]:=⟨rfl,rfl,rfl⟩
theorem hr_12_2:hints.keep 12 2=some [2]∧hints.frz 12 2=[]∧hints.soft 12 2=[(2,none,3,some (700128,44))]:=⟨rfl,rfl,rfl⟩
theorem hr_12_5:hints.keep 12 5=some [3,4]∧hints.frz 12 5=[]∧hints.soft 12 5=[(4,none,3,some (700320,44))]:=⟨rfl,rfl,rfl⟩
theorem hr_13_0:hints.keep 13 0=some [2,3,4]∧hints.frz 13 0=[]∧hints.soft 13 0=[(4,some 10,1,none)]:=⟨rfl,rfl,rfl⟩
theorem hr_13_3:hints.keep 13 3=some [4,5]∧hints.frz 13 3=[]∧hints.soft 13 3=[(4,some 10,1,none)]:=⟨rfl,rfl,rfl⟩
theorem hr_13_6:hints.keep 13 6=some [4,5]∧hints.frz 13 6=[]∧hints.soft 13 6=[(4,some 10,1,none)]:=⟨rfl,rfl,rfl⟩
theorem hr_13_7:hints.keep 13 7=some [4,5]∧hints.frz 13 7=[4]∧hints.soft 13 7=[]:=⟨rfl,rfl,rfl⟩
theorem hr_16_2:hints.keep 16 2=some [8,9]∧hints.frz 16 2=[]∧hints.soft 16 2=[(8,none,1,none)]:=⟨rfl,rfl,rfl⟩
theorem hr_16_4:hints.keep 16 4=some [8,9]∧hints.frz 16 4=[]∧hints.soft 16 4=[(8,none,1,none)]:=⟨rfl,rfl,rfl⟩
theorem hr_16_6:hints.keep 16 6=some [8,9]∧hints.frz 16 6=[]∧hints.soft 16 6=[(8,none,1,none)]:=⟨rfl,rfl,rfl⟩
theorem hr_25_0:hints.keep 25 0=some [2,3,4]∧hints.frz 25 0=[]∧hints.soft 25 0=[(4,some 0,5,some (700000,56)),(4,some 1,3,some (700001,44)),(4,some 2,3,some (700002,44)),(4,some 3,1,some (700003,3))]:=⟨rfl,rfl,rfl⟩
theorem hr_25_3:hints.keep 25 3=some [4,5,6]∧hints.frz 25 3=[]∧hints.soft 25 3=[(4,some 0,5,some (700192,56)),(4,some 1,3,some (700193,44)),(4,some 2,3,some (700194,44)),(4,some 3,1,some (700195,3)),(5,none,6,some (700196,54))]:=⟨rfl,rfl,rfl⟩
theorem hr_25_6:hints.keep 25 6=some [4,5,6]∧hints.frz 25 6=[]∧hints.soft 25 6=[(4,some 0,5,some (700384,56)),(4,some 1,3,some (700385,44)),(4,some 2,3,some (700386,44)),(4,some 3,1,some (700387,3)),(5,none,6,some (700388,54))]:=⟨rfl,rfl,rfl⟩
theorem hr_25_7:hints.keep 25 7=some [2,3,4,9]∧hints.frz 25 7=[]∧hints.soft 25 7=[(9,some 0,5,some (700448,56)),(9,some 1,3,some (700449,44)),(9,some 2,3,some (700450,44))]:=⟨rfl,rfl,rfl⟩
theorem hr_25_9:hints.keep 25 9=some [2,3,4,9,10,11]∧hints.frz 25 9=[]∧hints.soft 25 9=[(11,none,6,some (700576,54))]:=⟨rfl,rfl,rfl⟩
theorem hr_32_0:hints.keep 32 0=some [1,2]∧hints.frz 32 0=[]∧hints.soft 32 0=[(2,some 10,1,some (700000,5))]:=⟨rfl,rfl,rfl⟩
theorem hr_39_3:hints.keep 39 3=some [2,3]∧hints.frz 39 3=[]∧hints.soft 39 3=[(2,none,1,none)]:=⟨rfl,rfl,rfl⟩
theorem hr_39_6:hints.keep 39 6=some [2,3]∧hints.frz 39 6=[]∧hints.soft 39 6=[(2,none,1,none)]:=⟨rfl,rfl,rfl⟩
theorem hr_39_9:hints.keep 39 9=some [2,3]∧hints.frz 39 9=[]∧hints.soft 39 9=[(2,none,1,none)]:=⟨rfl,rfl,rfl⟩
theorem hr_56_3:hints.keep 56 3=some [2,3]∧hints.frz 56 3=[]∧hints.soft 56 3=[(2,none,1,none)]:=⟨rfl,rfl,rfl⟩
theorem hr_57_0:hints.keep 57 0=some [0,2]∧hints.frz 57 0=[]∧hints.soft 57 0=[(2,some 2,1,none),(2,some 3,4,some (700001,113))]:=⟨rfl,rfl,rfl⟩
theorem hr_57_1:hints.keep 57 1=some [0,2,3]∧hints.frz 57 1=[]∧hints.soft 57 1=[(3,none,4,some (700064,113))]:=⟨rfl,rfl,rfl⟩
theorem hr_58_0:hints.keep 58 0=some [0,2]∧hints.frz 58 0=[]∧hints.soft 58 0=[(2,some 2,1,none),(2,some 3,4,some (700001,113))]:=⟨rfl,rfl,rfl⟩
theorem hr_58_1:hints.keep 58 1=some [0,2,3]∧hints.frz 58 1=[]∧hints.soft 58 1=[(3,some 2,1,none),(3,some 3,4,some (700065,113))]:=⟨rfl,rfl,rfl⟩
theorem hr_59_0:hints.keep 59 0=some [0,2]∧hints.frz 59 0=[]∧hints.soft 59 0=[(2,some 2,1,some (700000,5)),(2,some 3,4,none)]:=⟨rfl,rfl,rfl⟩
theorem hr_59_1:hints.keep 59 1=some [2]∧hints.frz 59 1=[]∧hints.soft 59 1=[(2,some 3,4,none)]:=⟨rfl,rfl,rfl⟩
theorem hr_6_39:hints.keep 6 39=some [2,3,5,7,16,20]∧hints.frz 6 39=[20]∧hints.soft 6 39=[]:=⟨rfl,rfl,rfl⟩
theorem hr_6_46:hints.keep 6 46=some [2,3,5,7,16,20,24,170,171,172]∧hints.frz 6 46=[20]∧hints.soft 6 46=[]:=⟨rfl,rfl,rfl⟩
theorem hr_61_0:hints.keep 61 0=some [0,2]∧hints.frz 61 0=[]∧hints.soft 61 0=[(2,some 2,1,none),(2,some 3,4,none)]:=⟨rfl,rfl,rfl⟩
theorem hr_61_1:hints.keep 61 1=some [2]∧hints.frz 61 1=[]∧hints.soft 61 1=[(2,some 2,1,none),(2,some 3,4,none)]:=⟨rfl,rfl,rfl⟩
theorem hr_69_0:hints.keep 69 0=some [0,3]∧hints.frz 69 0=[]∧hints.soft 69 0=[(0,none,1,some (700000,5))]:=⟨rfl,rfl,rfl⟩
theorem hr_70_0:hints.keep 70 0=some [1,2]∧hints.frz 70 0=[]∧hints.soft 70 0=[(2,some 2,1,some (700000,5)),(2,some 3,4,some (700001,113))]:=⟨rfl,rfl,rfl⟩
theorem hr_70_3:hints.keep 70 3=some [1,2,3]∧hints.frz 70 3=[]∧hints.soft 70 3=[(1,some 3,4,some (700192,113))]:=⟨rfl,rfl,rfl⟩
theorem hr_81_1:hints.keep 81 1=some [1,3]∧hints.frz 81 1=[]∧hints.soft 81 1=[(3,some 2,1,none),(3,some 3,4,none)]:=⟨rfl,rfl,rfl⟩
theorem hr_9_0:hints.keep 9 0=some [1,2]∧hints.frz 9 0=[]∧hints.soft 9 0=[(2,some 2,6,some (700000,54)),(2,some 3,1,some (700001,3)),(2,some 5,3,some (700002,44))]:=⟨rfl,rfl,rfl⟩
end Go.Proofs.YtiompmmbjpjjeaaDoorV