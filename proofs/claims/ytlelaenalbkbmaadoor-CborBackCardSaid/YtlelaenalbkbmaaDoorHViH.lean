/- The value interpreter's hints and the types' facts for this seat,one by one. -/
import Derived.Test.YtlelaenalbkbmaaDoorHViS
import Derived.Test.YtlelaenalbkbmaaDoorHVi26
namespace Go.Proofs.YtlelaenalbkbmaaDoorV
open Go
set_option linter.unusedVariables false
noncomputable def inf (t:TypeId):TypeInfo:=(Tryd.prog.info? t).getD ((Tryd.prog.info? 3).get (by kernel_rfl))
theorem u_3:Tryd.prog.underlying 3=some (TypeDesc.int IntKind.i64):=by kernel_rfl
theorem i_3:Tryd.prog.info? 3=some (inf 3):=by kernel_rfl
theorem is_3:(inf 3).size=1:=by kernel_rfl
theorem ib_3:(inf 3).bytes=8:=by kernel_rfl
theorem iz_3:zeroRow (inf 3)=some [V.p (Value.int IntKind.i64 0)]:=by kernel_rfl
theorem sm_3:slotMs Tryd.prog 8 3=[0]:=by kernel_rfl
theorem u_4:Tryd.prog.underlying 4=some TypeDesc.bool:=by kernel_rfl
theorem i_4:Tryd.prog.info? 4=some (inf 4):=by kernel_rfl
theorem is_4:(inf 4).size=1:=by kernel_rfl
theorem ib_4:(inf 4).bytes=1:=by kernel_rfl
theorem iz_4:zeroRow (inf 4)=some [V.p (Value.bool false)]:=by kernel_rfl
theorem sm_4:slotMs Tryd.prog 8 4=[0]:=by kernel_rfl
theorem u_5:Tryd.prog.underlying 5=some (TypeDesc.int IntKind.u8):=by kernel_rfl
theorem i_5:Tryd.prog.info? 5=some (inf 5):=by kernel_rfl
theorem is_5:(inf 5).size=1:=by kernel_rfl
theorem ib_5:(inf 5).bytes=1:=by kernel_rfl
theorem iz_5:zeroRow (inf 5)=some [V.p (Value.int IntKind.u8 0)]:=by kernel_rfl
theorem sm_5:slotMs Tryd.prog 8 5=[0]:=by kernel_rfl
theorem u_22:Tryd.prog.underlying 22=some (TypeDesc.slice 49):=by kernel_rfl
theorem i_22:Tryd.prog.info? 22=some (inf 22):=by kernel_rfl
theorem is_22:(inf 22).size=1:=by kernel_rfl
theorem ib_22:(inf 22).bytes=24:=by kernel_rfl
theorem iz_22:zeroRow (inf 22)=some [V.nil]:=by kernel_rfl
theorem sm_22:slotMs Tryd.prog 8 22=[6]:=by kernel_rfl
theorem u_26:Tryd.prog.underlying 26=some (TypeDesc.slice 28):=by kernel_rfl
theorem i_26:Tryd.prog.info? 26=some (inf 26):=by kernel_rfl
theorem is_26:(inf 26).size=1:=by kernel_rfl
theorem ib_26:(inf 26).bytes=24:=by kernel_rfl
theorem iz_26:zeroRow (inf 26)=some [V.nil]:=by kernel_rfl
theorem sm_26:slotMs Tryd.prog 8 26=[4]:=by kernel_rfl
theorem u_28 : Tryd.prog.underlying 28 = some (.struct (Array.mk [Field.mk "Kind" 3 0 false "" "" 0, Field.mk "Num" 24 1 false "" "" 8, Field.mk "Bytes" 25 2 false "" "" 16, Field.mk "Items" 26 3 false "" "" 40])) := by kernel_rfl
theorem i_28:Tryd.prog.info? 28=some (inf 28):=by kernel_rfl
theorem is_28:(inf 28).size=4:=by kernel_rfl
theorem ib_28:(inf 28).bytes=64:=by kernel_rfl
theorem iz_28:zeroRow (inf 28)=some [V.p (Value.int IntKind.i64 0),V.p (Value.int IntKind.u64 0),V.nil,V.nil]:=by kernel_rfl
theorem sm_28:slotMs Tryd.prog 8 28=[0,0,1,4]:=by kernel_rfl
theorem bl_28 (σ:St) (ps:List (Nat×Operand)):buildV Tryd.prog σ 28 ps=(fillL [(0,1),(1,1),(2,1),(3,1)] [V.p (Value.int IntKind.i64 0),V.p (Value.int IntKind.u64 0),V.nil,V.nil] (evL σ ps)).map .agg:=build_eval i_28 iz_28 u_28 (by kernel_rfl)
theorem u_49 : Tryd.prog.underlying 49 = some (.struct (Array.mk [Field.mk "Item" 28 0 false "" "" 0, Field.mk "Open" 4 4 false "" "" 64, Field.mk "Close" 4 5 false "" "" 65])) := by kernel_rfl
theorem i_49:Tryd.prog.info? 49=some (inf 49):=by kernel_rfl
theorem is_49:(inf 49).size=6:=by kernel_rfl
theorem ib_49:(inf 49).bytes=72:=by kernel_rfl
theorem iz_49:zeroRow (inf 49)=some [V.p (Value.int IntKind.i64 0),V.p (Value.int IntKind.u64 0),V.nil,V.nil,V.p (Value.bool false),V.p (Value.bool false)]:=by kernel_rfl
theorem sm_49:slotMs Tryd.prog 8 49=[0,0,1,4,0,0]:=by kernel_rfl
theorem u_66 : Tryd.prog.underlying 66 = some (.struct (Array.mk [Field.mk "bytes" 25 0 false "" "heliograph/octet" 0, Field.mk "at" 3 1 false "" "heliograph/octet" 24, Field.mk "err" 30 2 false "" "heliograph/octet" 32])) := by kernel_rfl
theorem i_66:Tryd.prog.info? 66=some (inf 66):=by kernel_rfl
theorem iz_66:zeroRow (inf 66)=some [V.nil,V.p (Value.int IntKind.i64 0),V.p (Value.int IntKind.i64 0)]:=by kernel_rfl
theorem bl_66 (σ:St) (ps:List (Nat×Operand)):buildV Tryd.prog σ 66 ps=(fillL [(0,1),(1,1),(2,1)] [V.nil,V.p (Value.int IntKind.i64 0),V.p (Value.int IntKind.i64 0)] (evL σ ps)).map .agg:=build_eval i_66 iz_66 u_66 (by kernel_rfl)
theorem u_68 : Tryd.prog.underlying 68 = some (.struct (Array.mk [Field.mk "spot" 66 0 true "" "heliograph/octet" 0])) := by kernel_rfl
theorem i_68:Tryd.prog.info? 68=some (inf 68):=by kernel_rfl
theorem iz_68:zeroRow (inf 68)=some [V.nil,V.p (Value.int IntKind.i64 0),V.p (Value.int IntKind.i64 0)]:=by kernel_rfl
theorem bl_68 (σ:St) (ps:List (Nat×Operand)):buildV Tryd.prog σ 68 ps=(fillL [(0,3)] [V.nil,V.p (Value.int IntKind.i64 0),V.p (Value.int IntKind.i64 0)] (evL σ ps)).map .agg:=build_eval i_68 iz_68 u_68 (by kernel_rfl)
theorem u_74:Tryd.prog.underlying 74=some (TypeDesc.array 5 5):=by kernel_rfl
theorem i_74:Tryd.prog.info? 74=some (inf 74):=by kernel_rfl
theorem iz_74:zeroRow (inf 74)=some [V.p (Value.int IntKind.u8 0),V.p (Value.int IntKind.u8 0),V.p (Value.int IntKind.u8 0),V.p (Value.int IntKind.u8 0),V.p (Value.int IntKind.u8 0)]:=by kernel_rfl
theorem bl_74 (σ:St) (ps:List (Nat×Operand)):buildV Tryd.prog σ 74 ps=(fillA [V.p (Value.int IntKind.u8 0),V.p (Value.int IntKind.u8 0),V.p (Value.int IntKind.u8 0),V.p (Value.int IntKind.u8 0),V.p (Value.int IntKind.u8 0)] (evL σ ps)).map .agg:=by rw [build_evalA i_74 iz_74 u_74 i_5];simp only [is_5,Nat.mul_one];rfl
theorem gv (f:FuncId):hints.gives f=[22,35,44,45,46,50].contains f:=rfl
theorem fillP1_fold {cells:List V} {rest:List (Nat×V)}:fillV (fun k=>some (k,1)) cells rest=fillP 1 cells rest:=by unfold fillP;simp only [Nat.mul_one]
theorem arr_pair {α:Type} {c:α→V} {l:List α} {a b:α} (h0:l[0]?=some a) (h1:l[1]?=some b):arrC c (List.take 2 l)=[c a,c b]:=by match l with | []=>cases h0 | [x]=>cases h1 | x::y::r=>cases h0;cases h1;rfl
theorem gl_0 {σ:St}:evalV σ (.global 0)=.rpt (arrC (cI .u8) tabFirst) 0:=rfl
theorem gl_1 {σ:St}:evalV σ (.global 1)=.rpt (arrC (cI .u8) tabAcc) 0:=rfl
theorem raw_:hints.raw=[10,117]:=rfl
theorem hk_9_0:hints.keep 9 0=some [0,2]:=rfl
theorem hs_9_0:hints.soft 9 0=[]:=rfl
theorem hz_9_0:hints.frz 9 0=[]:=rfl
theorem hk_9_1:hints.keep 9 1=some [0,2,3]:=rfl
theorem hs_9_1:hints.soft 9 1=[(3,some 3,4,some (70001,28))]:=rfl
theorem hz_9_1:hints.frz 9 1=[]:=rfl
theorem hk_9_2:hints.keep 9 2=some [2,3,11,12,13]:=rfl
theorem hs_9_2:hints.soft 9 2=[]:=rfl
theorem hz_9_2:hints.frz 9 2=[]:=rfl
theorem hk_9_3:hints.keep 9 3=some [2,3,11,12,13,14]:=rfl
theorem hh_9_3:hints.head 9 3=some [2,3,11,12,13]:=rfl
theorem hc_9_3:hints.canon 9 3=[(3,none,20000,4,28)]:=rfl
theorem hs_9_3:hints.soft 9 3=[]:=rfl
theorem hz_9_3:hints.frz 9 3=[]:=rfl
theorem hk_9_4:hints.keep 9 4=some [2,3,4,5,11,12,13]:=rfl
theorem hs_9_4:hints.soft 9 4=[]:=rfl
theorem hz_9_4:hints.frz 9 4=[]:=rfl
theorem hk_9_5:hints.keep 9 5=some [2,3,5,11,12,13,19]:=rfl
theorem hs_9_5:hints.soft 9 5=[]:=rfl
theorem hz_9_5:hints.frz 9 5=[]:=rfl
theorem hk_9_6:hints.keep 9 6=some [2,3,5,6,11,12,13]:=rfl
theorem hs_9_6:hints.soft 9 6=[]:=rfl
theorem hz_9_6:hints.frz 9 6=[]:=rfl
theorem hk_9_7:hints.keep 9 7=some [2,3,6,7,11,12,13]:=rfl
theorem hs_9_7:hints.soft 9 7=[]:=rfl
theorem hz_9_7:hints.frz 9 7=[]:=rfl
theorem hk_9_8:hints.keep 9 8=some [2,3,6,7,11,12,13]:=rfl
theorem hs_9_8:hints.soft 9 8=[]:=rfl
theorem hz_9_8:hints.frz 9 8=[]:=rfl
theorem hk_9_9:hints.keep 9 9=some [2,3,6,7,11,12,13,26]:=rfl
theorem hs_9_9:hints.soft 9 9=[]:=rfl
theorem hz_9_9:hints.frz 9 9=[]:=rfl
theorem hk_9_10:hints.keep 9 10=some [2,3,11,12,13,36,37,39]:=rfl
theorem hs_9_10:hints.soft 9 10=[]:=rfl
theorem hz_9_10:hints.frz 9 10=[]:=rfl
theorem hk_9_11:hints.keep 9 11=some [2,3,11,12,13]:=rfl
theorem hs_9_11:hints.soft 9 11=[]:=rfl
theorem hz_9_11:hints.frz 9 11=[]:=rfl
theorem hk_9_12:hints.keep 9 12=some [2,3,11,12,13]:=rfl
theorem hs_9_12:hints.soft 9 12=[]:=rfl
theorem hz_9_12:hints.frz 9 12=[]:=rfl
theorem hk_9_13:hints.keep 9 13=some [2,3,5,6,11,12,13,57]:=rfl
theorem hs_9_13:hints.soft 9 13=[]:=rfl
theorem hz_9_13:hints.frz 9 13=[]:=rfl
theorem hk_9_14:hints.keep 9 14=some [2,3,6,11,12,13,65]:=rfl
theorem hs_9_14:hints.soft 9 14=[]:=rfl
theorem hz_9_14:hints.frz 9 14=[]:=rfl
theorem hk_9_15:hints.keep 9 15=some [2,3,6,11,12,13,79,80,82]:=rfl
theorem hs_9_15:hints.soft 9 15=[]:=rfl
theorem hz_9_15:hints.frz 9 15=[]:=rfl
theorem hk_9_16:hints.keep 9 16=some [2,3,6,11,12,13]:=rfl
theorem hs_9_16:hints.soft 9 16=[]:=rfl
theorem hz_9_16:hints.frz 9 16=[]:=rfl
theorem hk_9_17:hints.keep 9 17=some [2,3,6,11,12,13]:=rfl
theorem hs_9_17:hints.soft 9 17=[]:=rfl
theorem hz_9_17:hints.frz 9 17=[]:=rfl
theorem hk_9_18:hints.keep 9 18=some [2,3,11,12,13]:=rfl
theorem hs_9_18:hints.soft 9 18=[(3,none,4,some (70100,28))]:=rfl
theorem hz_9_18:hints.frz 9 18=[]:=rfl
theorem hk_9_19:hints.keep 9 19=some [2,3,5,6,11,12,13,108]:=rfl
theorem hs_9_19:hints.soft 9 19=[]:=rfl
theorem hz_9_19:hints.frz 9 19=[]:=rfl
theorem hk_9_20:hints.keep 9 20=some [2,3,11,12,13]:=rfl
theorem hs_9_20:hints.soft 9 20=[(3,some 7,4,some (70002,28)),(3,some 11,4,some (70003,28)),(3,some 15,4,some (70004,28)),(3,some 19,4,some (70005,28)),(3,some 23,4,some (70006,28)),(3,some 27,4,some (70007,28))]:=rfl
theorem hz_9_20:hints.frz 9 20=[]:=rfl
theorem hk_9_21:hints.keep 9 21=some [2,3,11,12,13]:=rfl
theorem hs_9_21:hints.soft 9 21=[]:=rfl
theorem hz_9_21:hints.frz 9 21=[]:=rfl
theorem hk_9_22:hints.keep 9 22=some [2,3,8]:=rfl
theorem hs_9_22:hints.soft 9 22=[]:=rfl
theorem hz_9_22:hints.frz 9 22=[]:=rfl
theorem hk_9_23:hints.keep 9 23=some [2,3,8,123]:=rfl
theorem hh_9_23:hints.head 9 23=some [2,3,8]:=rfl
theorem hc_9_23:hints.canon 9 23=[]:=rfl
theorem hs_9_23:hints.soft 9 23=[]:=rfl
theorem hz_9_23:hints.frz 9 23=[]:=rfl
theorem hk_9_24:hints.keep 9 24=some [2,3,8]:=rfl
theorem hs_9_24:hints.soft 9 24=[]:=rfl
theorem hz_9_24:hints.frz 9 24=[]:=rfl
theorem hk_9_25:hints.keep 9 25=some [2,3,8,127]:=rfl
theorem hs_9_25:hints.soft 9 25=[]:=rfl
theorem hz_9_25:hints.frz 9 25=[]:=rfl
theorem hk_9_26:hints.keep 9 26=some [2,3,8,141,142,144]:=rfl
theorem hs_9_26:hints.soft 9 26=[]:=rfl
theorem hz_9_26:hints.frz 9 26=[]:=rfl
theorem hk_9_27:hints.keep 9 27=some [2,3,8]:=rfl
theorem hs_9_27:hints.soft 9 27=[]:=rfl
theorem hz_9_27:hints.frz 9 27=[]:=rfl
theorem hk_9_28:hints.keep 9 28=some [2,3,8]:=rfl
theorem hs_9_28:hints.soft 9 28=[]:=rfl
theorem hz_9_28:hints.frz 9 28=[]:=rfl
theorem hk_9_29:hints.keep 9 29=some [2,3,8]:=rfl
theorem hs_9_29:hints.soft 9 29=[(3,none,4,some (70100,28))]:=rfl
theorem hz_9_29:hints.frz 9 29=[]:=rfl
theorem hk_9_30:hints.keep 9 30=some [2,3,175]:=rfl
theorem hs_9_30:hints.soft 9 30=[]:=rfl
theorem hz_9_30:hints.frz 9 30=[]:=rfl
theorem hk_9_31:hints.keep 9 31=some [2]:=rfl
theorem hs_9_31:hints.soft 9 31=[]:=rfl
theorem hz_9_31:hints.frz 9 31=[]:=rfl
theorem hk_9_32:hints.keep 9 32=some [2]:=rfl
theorem hs_9_32:hints.soft 9 32=[(2,some 2,1,none)]:=rfl
theorem hz_9_32:hints.frz 9 32=[2]:=rfl
theorem hh_22_8:hints.head 22 8=some [0,30,31,32]:=rfl
theorem hc_22_8:hints.canon 22 8=[]:=rfl
theorem hh_23_4:hints.head 23 4=some [1,2,15,16,17]:=rfl
theorem hc_23_4:hints.canon 23 4=[]:=rfl
theorem hh_25_4:hints.head 25 4=some [1,38,39,40]:=rfl
theorem hc_25_4:hints.canon 25 4=[]:=rfl
theorem hh_31_11:hints.head 31 11=some [0,1,4,6,8,46,47,48]:=rfl
theorem hc_31_11:hints.canon 31 11=[]:=rfl
theorem hh_31_24:hints.head 31 24=some [0,1,4,89,90]:=rfl
theorem hc_31_24:hints.canon 31 24=[(4,some 3,20000,4,28)]:=rfl
theorem hh_33_4:hints.head 33 4=some [0,1,12,13]:=rfl
theorem hc_33_4:hints.canon 33 4=[]:=rfl
theorem hh_38_2:hints.head 38 2=some [0]:=rfl
theorem hc_38_2:hints.canon 38 2=[]:=rfl
theorem hh_38_10:hints.head 38 10=some [0]:=rfl
theorem hc_38_10:hints.canon 38 10=[]:=rfl
theorem hh_42_2:hints.head 42 2=some [0,1,7,8]:=rfl
theorem hc_42_2:hints.canon 42 2=[]:=rfl
theorem hh_48_3:hints.head 48 3=some [5,10,11,12]:=rfl
theorem hc_48_3:hints.canon 48 3=[]:=rfl
theorem hh_50_3:hints.head 50 3=some [0,1,7]:=rfl
theorem hc_50_3:hints.canon 50 3=[(0,none,20000,1,5)]:=rfl
theorem t_3:Tryd.prog.underlying 3=some (TypeDesc.int IntKind.i64)∧Tryd.prog.info? 3=some (inf 3)∧(inf 3).size=1∧(inf 3).bytes=8∧zeroRow (inf 3)=some [V.p (Value.int IntKind.i64 0)]:=⟨by kernel_rfl,by kernel_rfl,by kernel_rfl,by kernel_rfl,by kernel_rfl⟩
theorem t_5:Tryd.prog.underlying 5=some (TypeDesc.int IntKind.u8)∧Tryd.prog.info? 5=some (inf 5)∧(inf 5).size=1∧(inf 5).bytes=1∧zeroRow (inf 5)=some [V.p (Value.int IntKind.u8 0)]:=⟨by kernel_rfl,by kernel_rfl,by kernel_rfl,by kernel_rfl,by kernel_rfl⟩
theorem t_24:Tryd.prog.underlying 24=some (TypeDesc.int IntKind.u64)∧Tryd.prog.info? 24=some (inf 24)∧(inf 24).size=1∧(inf 24).bytes=8∧zeroRow (inf 24)=some [V.p (Value.int IntKind.u64 0)]:=⟨by kernel_rfl,by kernel_rfl,by kernel_rfl,by kernel_rfl,by kernel_rfl⟩
theorem t_25:Tryd.prog.underlying 25=some (TypeDesc.slice 5)∧Tryd.prog.info? 25=some (inf 25)∧(inf 25).size=1∧(inf 25).bytes=24∧zeroRow (inf 25)=some [V.nil]:=⟨by kernel_rfl,by kernel_rfl,by kernel_rfl,by kernel_rfl,by kernel_rfl⟩
theorem t_26:Tryd.prog.underlying 26=some (TypeDesc.slice 28)∧Tryd.prog.info? 26=some (inf 26)∧(inf 26).size=1∧(inf 26).bytes=24∧zeroRow (inf 26)=some [V.nil]:=⟨by kernel_rfl,by kernel_rfl,by kernel_rfl,by kernel_rfl,by kernel_rfl⟩
theorem t_28 : Tryd.prog.underlying 28 = some (.struct (Array.mk [Field.mk "Kind" 3 0 false "" "" 0, Field.mk "Num" 24 1 false "" "" 8, Field.mk "Bytes" 25 2 false "" "" 16, Field.mk "Items" 26 3 false "" "" 40])) ∧ Tryd.prog.info? 28 = some (inf 28) ∧ (inf 28).size = 4 ∧ (inf 28).bytes = 64 ∧ zeroRow (inf 28) = some [V.p (Value.int IntKind.i64 0), V.p (Value.int IntKind.u64 0), V.nil, V.nil] := ⟨by kernel_rfl, by kernel_rfl, by kernel_rfl, by kernel_rfl, by kernel_rfl⟩
theorem t_30:Tryd.prog.underlying 30=some (TypeDesc.int IntKind.i64)∧Tryd.prog.info? 30=some (inf 30)∧(inf 30).size=1∧(inf 30).bytes=8∧zeroRow (inf 30)=some [V.p (Value.int IntKind.i64 0)]:=⟨by kernel_rfl,by kernel_rfl,by kernel_rfl,by kernel_rfl,by kernel_rfl⟩
theorem t_57:Tryd.prog.underlying 57=some (TypeDesc.pointer 68)∧Tryd.prog.info? 57=some (inf 57)∧(inf 57).size=1∧(inf 57).bytes=8∧zeroRow (inf 57)=some [V.p (Go.Value.pointer Option.none)]:=⟨by kernel_rfl,by kernel_rfl,by kernel_rfl,by kernel_rfl,by kernel_rfl⟩
theorem t_66 : Tryd.prog.underlying 66 = some (.struct (Array.mk [Field.mk "bytes" 25 0 false "" "heliograph/octet" 0, Field.mk "at" 3 1 false "" "heliograph/octet" 24, Field.mk "err" 30 2 false "" "heliograph/octet" 32])) ∧ Tryd.prog.info? 66 = some (inf 66) ∧ (inf 66).size = 3 ∧ (inf 66).bytes = 40 ∧ zeroRow (inf 66) = some [V.nil, V.p (Value.int IntKind.i64 0), V.p (Value.int IntKind.i64 0)] := ⟨by kernel_rfl, by kernel_rfl, by kernel_rfl, by kernel_rfl, by kernel_rfl⟩
theorem t_68 : Tryd.prog.underlying 68 = some (.struct (Array.mk [Field.mk "spot" 66 0 true "" "heliograph/octet" 0])) ∧ Tryd.prog.info? 68 = some (inf 68) ∧ (inf 68).size = 3 ∧ (inf 68).bytes = 40 ∧ zeroRow (inf 68) = some [V.nil, V.p (Value.int IntKind.i64 0), V.p (Value.int IntKind.i64 0)] := ⟨by kernel_rfl, by kernel_rfl, by kernel_rfl, by kernel_rfl, by kernel_rfl⟩
theorem t_74:Tryd.prog.underlying 74=some (TypeDesc.array 5 5)∧Tryd.prog.info? 74=some (inf 74)∧(inf 74).size=5∧(inf 74).bytes=5∧zeroRow (inf 74)=some [V.p (Value.int IntKind.u8 0),V.p (Value.int IntKind.u8 0),V.p (Value.int IntKind.u8 0),V.p (Value.int IntKind.u8 0),V.p (Value.int IntKind.u8 0)]:=⟨by kernel_rfl,by kernel_rfl,by kernel_rfl,by kernel_rfl,by kernel_rfl⟩
theorem t_76:Tryd.prog.underlying 76=some (TypeDesc.int IntKind.u16)∧Tryd.prog.info? 76=some (inf 76)∧(inf 76).size=1∧(inf 76).bytes=2∧zeroRow (inf 76)=some [V.p (Value.int IntKind.u16 0)]:=⟨by kernel_rfl,by kernel_rfl,by kernel_rfl,by kernel_rfl,by kernel_rfl⟩
theorem t_78:Tryd.prog.underlying 78=some (TypeDesc.int IntKind.u32)∧Tryd.prog.info? 78=some (inf 78)∧(inf 78).size=1∧(inf 78).bytes=4∧zeroRow (inf 78)=some [V.p (Value.int IntKind.u32 0)]:=⟨by kernel_rfl,by kernel_rfl,by kernel_rfl,by kernel_rfl,by kernel_rfl⟩
theorem t_81:Tryd.prog.underlying 81=some (TypeDesc.array 256 5)∧Tryd.prog.info? 81=some (inf 81)∧(inf 81).size=256∧(inf 81).bytes=256∧zeroRow (inf 81)=some [V.p (Value.int IntKind.u8 0),V.p (Value.int IntKind.u8 0),V.p (Value.int IntKind.u8 0),V.p (Value.int IntKind.u8 0),V.p (Value.int IntKind.u8 0),V.p (Value.int IntKind.u8 0),V.p (Value.int IntKind.u8 0),V.p (Value.int IntKind.u8 0),V.p (Value.int IntKind.u8 0),V.p (Value.int IntKind.u8 0),V.p (Value.int IntKind.u8 0),V.p (Value.int IntKind.u8 0),V.p (Value.int IntKind.u8 0),V.p (Value.int IntKind.u8 0),V.p (Value.int IntKind.u8 0),V.p (Value.int IntKind.u8 0),V.p (Value.int IntKind.u8 0),V.p (Value.int IntKind.u8 0),V.p (Value.int IntKind.u8 0),V.p (Value.int IntKind.u8 0),V.p (Value.int IntKind.u8 0),V.p (Value.int IntKind.u8 0),V.p (Value.int IntKind.u8 0),V.p (Value.int IntKind.u8 0),V.p (Value.int IntKind.u8 0),V.p (Value.int IntKind.u8 0),V.p (Value.int IntKind.u8 0),V.p (Value.int IntKind.u8 0),V.p (Value.int IntKind.u8 0),V.p (Value.int IntKind.u8 0),V.p (Value.int IntKind.u8 0),V.p (Value.int IntKind.u8 0),V.p (Value.int IntKind.u8 0),V.p (Value.int IntKind.u8 0),V.p (Value.int IntKind.u8 0),V.p (Value.int IntKind.u8 0),V.p (Value.int IntKind.u8 0),V.p (Value.int IntKind.u8 0),V.p (Value.int IntKind.u8 0),V.p (Value.int IntKind.u8 0),V.p (Value.int IntKind.u8 0),V.p (Value.int IntKind.u8 0),V.p (Value.int IntKind.u8 0),V.p (Value.int IntKind.u8 0),V.p (Value.int IntKind.u8 0),V.p (Value.int IntKind.u8 0),V.p (Value.int IntKind.u8 0),V.p (Value.int IntKind.u8 0),V.p (Value.int IntKind.u8 0),V.p (Value.int IntKind.u8 0),V.p (Value.int IntKind.u8 0),V.p (Value.int IntKind.u8 0),V.p (Value.int IntKind.u8 0),V.p (Value.int IntKind.u8 0),V.p (Value.int IntKind.u8 0),V.p (Value.int IntKind.u8 0),V.p (Value.int IntKind.u8 0),V.p (Value.int IntKind.u8 0),V.p (Value.int IntKind.u8 0),V.p (Value.int IntKind.u8 0),V.p (Value.int IntKind.u8 0),V.p (Value.int IntKind.u8 0),V.p (Value.int IntKind.u8 0),V.p (Value.int IntKind.u8 0),V.p (Value.int IntKind.u8 0),V.p (Value.int IntKind.u8 0),V.p (Value.int IntKind.u8 0),V.p (Value.int IntKind.u8 0),V.p (Value.int IntKind.u8 0),V.p (Value.int IntKind.u8 0),V.p (Value.int IntKind.u8 0),V.p (Value.int IntKind.u8 0),V.p (Value.int IntKind.u8 0),V.p (Value.int IntKind.u8 0),V.p (Value.int IntKind.u8 0),V.p (Value.int IntKind.u8 0),V.p (Value.int IntKind.u8 0),V.p (Value.int IntKind.u8 0),V.p (Value.int IntKind.u8 0),V.p (Value.int IntKind.u8 0),V.p (Value.int IntKind.u8 0),V.p (Value.int IntKind.u8 0),V.p (Value.int IntKind.u8 0),V.p (Value.int IntKind.u8 0),V.p (Value.int IntKind.u8 0),V.p (Value.int IntKind.u8 0),V.p (Value.int IntKind.u8 0),V.p (Value.int IntKind.u8 0),V.p (Value.int IntKind.u8 0),V.p (Value.int IntKind.u8 0),V.p (Value.int IntKind.u8 0),V.p (Value.int IntKind.u8 0),V.p (Value.int IntKind.u8 0),V.p (Value.int IntKind.u8 0),V.p (Value.int IntKind.u8 0),V.p (Value.int IntKind.u8 0),V.p (Value.int IntKind.u8 0),V.p (Value.int IntKind.u8 0),V.p (Value.int IntKind.u8 0),V.p (Value.int IntKind.u8 0),V.p (Value.int IntKind.u8 0),V.p (Value.int IntKind.u8 0),V.p (Value.int IntKind.u8 0),V.p (Value.int IntKind.u8 0),V.p (Value.int IntKind.u8 0),V.p (Value.int IntKind.u8 0),V.p (Value.int IntKind.u8 0),V.p (Value.int IntKind.u8 0),V.p (Value.int IntKind.u8 0),V.p (Value.int IntKind.u8 0),V.p (Value.int IntKind.u8 0),V.p (Value.int IntKind.u8 0),V.p (Value.int IntKind.u8 0),V.p (Value.int IntKind.u8 0),V.p (Value.int IntKind.u8 0),V.p (Value.int IntKind.u8 0),V.p (Value.int IntKind.u8 0),V.p (Value.int IntKind.u8 0),V.p (Value.int IntKind.u8 0),V.p (Value.int IntKind.u8 0),V.p (Value.int IntKind.u8 0),V.p (Value.int IntKind.u8 0),V.p (Value.int IntKind.u8 0),V.p (Value.int IntKind.u8 0),V.p (Value.int IntKind.u8 0),V.p (Value.int IntKind.u8 0),V.p (Value.int IntKind.u8 0),V.p (Value.int IntKind.u8 0),V.p (Value.int IntKind.u8 0),V.p (Value.int IntKind.u8 0),V.p (Value.int IntKind.u8 0),V.p (Value.int IntKind.u8 0),V.p (Value.int IntKind.u8 0),V.p (Value.int IntKind.u8 0),V.p (Value.int IntKind.u8 0),V.p (Value.int IntKind.u8 0),V.p (Value.int IntKind.u8 0),V.p (Value.int IntKind.u8 0),V.p (Value.int IntKind.u8 0),V.p (Value.int IntKind.u8 0),V.p (Value.int IntKind.u8 0),V.p (Value.int IntKind.u8 0),V.p (Value.int IntKind.u8 0),V.p (Value.int IntKind.u8 0),V.p (Value.int IntKind.u8 0),V.p (Value.int IntKind.u8 0),V.p (Value.int IntKind.u8 0),V.p (Value.int IntKind.u8 0),V.p (Value.int IntKind.u8 0),V.p (Value.int IntKind.u8 0),V.p (Value.int IntKind.u8 0),V.p (Value.int IntKind.u8 0),V.p (Value.int IntKind.u8 0),V.p (Value.int IntKind.u8 0),V.p (Value.int IntKind.u8 0),V.p (Value.int IntKind.u8 0),V.p (Value.int IntKind.u8 0),V.p (Value.int IntKind.u8 0),V.p (Value.int IntKind.u8 0),V.p (Value.int IntKind.u8 0),V.p (Value.int IntKind.u8 0),V.p (Value.int IntKind.u8 0),V.p (Value.int IntKind.u8 0),V.p (Value.int IntKind.u8 0),V.p (Value.int IntKind.u8 0),V.p (Value.int IntKind.u8 0),V.p (Value.int IntKind.u8 0),V.p (Value.int IntKind.u8 0),V.p (Value.int IntKind.u8 0),V.p (Value.int IntKind.u8 0),V.p (Value.int IntKind.u8 0),V.p (Value.int IntKind.u8 0),V.p (Value.int IntKind.u8 0),V.p (Value.int IntKind.u8 0),V.p (Value.int IntKind.u8 0),V.p (Value.int IntKind.u8 0),V.p (Value.int IntKind.u8 0),V.p (Value.int IntKind.u8 0),V.p (Value.int IntKind.u8 0),V.p (Value.int IntKind.u8 0),V.p (Value.int IntKind.u8 0),V.p (Value.int IntKind.u8 0),V.p (Value.int IntKind.u8 0),V.p (Value.int IntKind.u8 0),V.p (Value.int IntKind.u8 0),V.p (Value.int IntKind.u8 0),V.p (Value.int IntKind.u8 0),V.p (Value.int IntKind.u8 0),V.p (Value.int IntKind.u8 0),V.p (Value.int IntKind.u8 0),V.p (Value.int IntKind.u8 0),V.p (Value.int IntKind.u8 0),V.p (Value.int IntKind.u8 0),V.p (Value.int IntKind.u8 0),V.p (Value.int IntKind.u8 0),V.p (Value.int IntKind.u8 0),V.p (Value.int IntKind.u8 0),V.p (Value.int IntKind.u8 0),V.p (Value.int IntKind.u8 0),V.p (Value.int IntKind.u8 0),V.p (Value.int IntKind.u8 0),V.p (Value.int IntKind.u8 0),V.p (Value.int IntKind.u8 0),V.p (Value.int IntKind.u8 0),V.p (Value.int IntKind.u8 0),V.p (Value.int IntKind.u8 0),V.p (Value.int IntKind.u8 0),V.p (Value.int IntKind.u8 0),V.p (Value.int IntKind.u8 0),V.p (Value.int IntKind.u8 0),V.p (Value.int IntKind.u8 0),V.p (Value.int IntKind.u8 0),V.p (Value.int IntKind.u8 0),V.p (Value.int IntKind.u8 0),V.p (Value.int IntKind.u8 0),V.p (Value.int IntKind.u8 0),V.p (Value.int IntKind.u8 0),V.p (Value.int IntKind.u8 0),V.p (Value.int IntKind.u8 0),V.p (Value.int IntKind.u8 0),V.p (Value.int IntKind.u8 0),V.p (Value.int IntKind.u8 0),V.p (Value.int IntKind.u8 0),V.p (Value.int IntKind.u8 0),V.p (Value.int IntKind.u8 0),V.p (Value.int IntKind.u8 0),V.p (Value.int IntKind.u8 0),V.p (Value.int IntKind.u8 0),V.p (Value.int IntKind.u8 0),V.p (Value.int IntKind.u8 0),V.p (Value.int IntKind.u8 0),V.p (Value.int IntKind.u8 0),V.p (Value.int IntKind.u8 0),V.p (Value.int IntKind.u8 0),V.p (Value.int IntKind.u8 0),V.p (Value.int IntKind.u8 0),V.p (Value.int IntKind.u8 0),V.p (Value.int IntKind.u8 0),V.p (Value.int IntKind.u8 0),V.p (Value.int IntKind.u8 0),V.p (Value.int IntKind.u8 0),V.p (Value.int IntKind.u8 0),V.p (Value.int IntKind.u8 0),V.p (Value.int IntKind.u8 0),V.p (Value.int IntKind.u8 0),V.p (Value.int IntKind.u8 0),V.p (Value.int IntKind.u8 0),V.p (Value.int IntKind.u8 0),V.p (Value.int IntKind.u8 0),V.p (Value.int IntKind.u8 0),V.p (Value.int IntKind.u8 0),V.p (Value.int IntKind.u8 0),V.p (Value.int IntKind.u8 0),V.p (Value.int IntKind.u8 0),V.p (Value.int IntKind.u8 0),V.p (Value.int IntKind.u8 0)]:=⟨by kernel_rfl,by kernel_rfl,by kernel_rfl,by kernel_rfl,by kernel_rfl⟩
theorem t_83 : Tryd.prog.underlying 83 = some (.struct (Array.mk [Field.mk "lo" 5 0 false "" "unicode/utf8" 0, Field.mk "hi" 5 1 false "" "unicode/utf8" 1])) ∧ Tryd.prog.info? 83 = some (inf 83) ∧ (inf 83).size = 2 ∧ (inf 83).bytes = 2 ∧ zeroRow (inf 83) = some [V.p (Value.int IntKind.u8 0), V.p (Value.int IntKind.u8 0)] := ⟨by kernel_rfl, by kernel_rfl, by kernel_rfl, by kernel_rfl, by kernel_rfl⟩
theorem t_84:Tryd.prog.underlying 84=some (TypeDesc.array 16 83)∧Tryd.prog.info? 84=some (inf 84)∧(inf 84).size=32∧(inf 84).bytes=32∧zeroRow (inf 84)=some [V.p (Value.int IntKind.u8 0),V.p (Value.int IntKind.u8 0),V.p (Value.int IntKind.u8 0),V.p (Value.int IntKind.u8 0),V.p (Value.int IntKind.u8 0),V.p (Value.int IntKind.u8 0),V.p (Value.int IntKind.u8 0),V.p (Value.int IntKind.u8 0),V.p (Value.int IntKind.u8 0),V.p (Value.int IntKind.u8 0),V.p (Value.int IntKind.u8 0),V.p (Value.int IntKind.u8 0),V.p (Value.int IntKind.u8 0),V.p (Value.int IntKind.u8 0),V.p (Value.int IntKind.u8 0),V.p (Value.int IntKind.u8 0),V.p (Value.int IntKind.u8 0),V.p (Value.int IntKind.u8 0),V.p (Value.int IntKind.u8 0),V.p (Value.int IntKind.u8 0),V.p (Value.int IntKind.u8 0),V.p (Value.int IntKind.u8 0),V.p (Value.int IntKind.u8 0),V.p (Value.int IntKind.u8 0),V.p (Value.int IntKind.u8 0),V.p (Value.int IntKind.u8 0),V.p (Value.int IntKind.u8 0),V.p (Value.int IntKind.u8 0),V.p (Value.int IntKind.u8 0),V.p (Value.int IntKind.u8 0),V.p (Value.int IntKind.u8 0),V.p (Value.int IntKind.u8 0)]:=⟨by kernel_rfl,by kernel_rfl,by kernel_rfl,by kernel_rfl,by kernel_rfl⟩
@[reducible] def hR (f r:Nat) (l:List Nat):Prop:=hints.keep f r=some l∧hints.frz f r=[]∧hints.soft f r=[]
theorem hr (f r:Nat) {l:List Nat} (h:(hints.keep f r,hints.frz f r,hints.soft f r)=(some l,[],[])):hR f r l:=⟨congrArg (·.1) h,congrArg (·.2.1) h,congrArg (·.2.2) h⟩
theorem hr_10_3:hints.keep 10 3=some [2,3]∧hints.frz 10 3=[]∧hints.soft 10 3=[(2,none,1,none)]:=⟨rfl,rfl,rfl⟩
theorem hr_20_0:hints.keep 20 0=some [0,2]∧hints.frz 20 0=[]∧hints.soft 20 0=[(2,some 2,1,none),(2,some 3,4,none)]:=⟨rfl,rfl,rfl⟩
theorem hr_20_1:hints.keep 20 1=some [0,2,5]∧hints.frz 20 1=[5]∧hints.soft 20 1=[]:=⟨rfl,rfl,rfl⟩
theorem hr_20_4:hints.keep 20 4=some [2,3,4]∧hints.frz 20 4=[]∧hints.soft 20 4=[(2,some 2,1,none),(2,some 3,4,none)]:=⟨rfl,rfl,rfl⟩
theorem hr_22_0:hints.keep 22 0=some [0,3]∧hints.frz 22 0=[]∧hints.soft 22 0=[(0,none,1,some (700000,5))]:=⟨rfl,rfl,rfl⟩
theorem hr_31_0:hints.keep 31 0=some [0,1,4]∧hints.frz 31 0=[]∧hints.soft 31 0=[(4,some 2,1,none),(4,some 3,4,some (700001,28))]:=⟨rfl,rfl,rfl⟩
theorem hr_31_20:hints.keep 31 20=some [4,5]∧hints.frz 31 20=[4]∧hints.soft 31 20=[]:=⟨rfl,rfl,rfl⟩
theorem hr_31_27:hints.keep 31 27=some [4,5]∧hints.frz 31 27=[]∧hints.soft 31 27=[(4,some 2,1,none),(4,some 3,4,none)]:=⟨rfl,rfl,rfl⟩
theorem hr_31_30:hints.keep 31 30=some [4,5]∧hints.frz 31 30=[4]∧hints.soft 31 30=[]:=⟨rfl,rfl,rfl⟩
theorem hr_31_32:hints.keep 31 32=some [0,4]∧hints.frz 31 32=[4]∧hints.soft 31 32=[]:=⟨rfl,rfl,rfl⟩
theorem hr_31_35:hints.keep 31 35=some [4,5]∧hints.frz 31 35=[4]∧hints.soft 31 35=[]:=⟨rfl,rfl,rfl⟩
theorem hr_31_36:hints.keep 31 36=some [4,5]∧hints.frz 31 36=[]∧hints.soft 31 36=[(4,some 2,1,none),(4,some 3,4,none)]:=⟨rfl,rfl,rfl⟩
theorem hr_31_37:hints.keep 31 37=some [4,5]∧hints.frz 31 37=[]∧hints.soft 31 37=[(4,some 2,1,none),(4,some 3,4,none)]:=⟨rfl,rfl,rfl⟩
theorem hr_37_1:hints.keep 37 1=some [1,3]∧hints.frz 37 1=[]∧hints.soft 37 1=[(3,some 2,1,none),(3,some 3,4,none)]:=⟨rfl,rfl,rfl⟩
theorem hr_49_2:hints.keep 49 2=some [4]∧hints.frz 49 2=[]∧hints.soft 49 2=[(4,none,1,none)]:=⟨rfl,rfl,rfl⟩
theorem hr_49_5:hints.keep 49 5=some [4]∧hints.frz 49 5=[]∧hints.soft 49 5=[(4,none,1,none)]:=⟨rfl,rfl,rfl⟩
theorem hr_49_8:hints.keep 49 8=some [4]∧hints.frz 49 8=[]∧hints.soft 49 8=[(4,none,1,none)]:=⟨rfl,rfl,rfl⟩
end Go.Proofs.YtlelaenalbkbmaaDoorV