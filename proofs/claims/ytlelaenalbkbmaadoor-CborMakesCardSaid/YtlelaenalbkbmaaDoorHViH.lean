/- The value interpreter's hints and the types' facts for this seat,one by one. -/
import Derived.Test.YtlelaenalbkbmaaDoorHViS
import Derived.Test.YtlelaenalbkbmaaDoorHVi26
namespace Go.Proofs.YtlelaenalbkbmaaDoorV
open Go
set_option linter.unusedVariables false
noncomputable def inf (t:TypeId):TypeInfo:=(Tryd.prog.info? t).getD ((Tryd.prog.info? 3).get (by kernel_rfl))
theorem u_3:Tryd.prog.underlying 3=some (TypeDesc.int IntKind.i64):=by kernel_rfl
theorem i_3:Tryd.prog.info? 3=some (inf 3):=by kernel_rfl
theorem is_3:(inf 3).size=1:=by kernel_rfl
theorem ib_3:(inf 3).bytes=8:=by kernel_rfl
theorem iz_3:zeroRow (inf 3)=some [V.p (Value.int IntKind.i64 0)]:=by kernel_rfl
theorem sm_3:slotMs Tryd.prog 8 3=[0]:=by kernel_rfl
theorem u_4:Tryd.prog.underlying 4=some TypeDesc.bool:=by kernel_rfl
theorem i_4:Tryd.prog.info? 4=some (inf 4):=by kernel_rfl
theorem is_4:(inf 4).size=1:=by kernel_rfl
theorem ib_4:(inf 4).bytes=1:=by kernel_rfl
theorem iz_4:zeroRow (inf 4)=some [V.p (Value.bool false)]:=by kernel_rfl
theorem sm_4:slotMs Tryd.prog 8 4=[0]:=by kernel_rfl
theorem u_5:Tryd.prog.underlying 5=some (TypeDesc.int IntKind.u8):=by kernel_rfl
theorem i_5:Tryd.prog.info? 5=some (inf 5):=by kernel_rfl
theorem is_5:(inf 5).size=1:=by kernel_rfl
theorem ib_5:(inf 5).bytes=1:=by kernel_rfl
theorem iz_5:zeroRow (inf 5)=some [V.p (Value.int IntKind.u8 0)]:=by kernel_rfl
theorem sm_5:slotMs Tryd.prog 8 5=[0]:=by kernel_rfl
theorem u_22:Tryd.prog.underlying 22=some (TypeDesc.slice 49):=by kernel_rfl
theorem i_22:Tryd.prog.info? 22=some (inf 22):=by kernel_rfl
theorem is_22:(inf 22).size=1:=by kernel_rfl
theorem ib_22:(inf 22).bytes=24:=by kernel_rfl
theorem iz_22:zeroRow (inf 22)=some [V.nil]:=by kernel_rfl
theorem sm_22:slotMs Tryd.prog 8 22=[6]:=by kernel_rfl
theorem u_26:Tryd.prog.underlying 26=some (TypeDesc.slice 28):=by kernel_rfl
theorem i_26:Tryd.prog.info? 26=some (inf 26):=by kernel_rfl
theorem is_26:(inf 26).size=1:=by kernel_rfl
theorem ib_26:(inf 26).bytes=24:=by kernel_rfl
theorem iz_26:zeroRow (inf 26)=some [V.nil]:=by kernel_rfl
theorem sm_26:slotMs Tryd.prog 8 26=[4]:=by kernel_rfl
theorem u_28 : Tryd.prog.underlying 28 = some (.struct (Array.mk [Field.mk "Kind" 3 0 false "" "" 0, Field.mk "Num" 24 1 false "" "" 8, Field.mk "Bytes" 25 2 false "" "" 16, Field.mk "Items" 26 3 false "" "" 40])) := by kernel_rfl
theorem i_28:Tryd.prog.info? 28=some (inf 28):=by kernel_rfl
theorem is_28:(inf 28).size=4:=by kernel_rfl
theorem ib_28:(inf 28).bytes=64:=by kernel_rfl
theorem iz_28:zeroRow (inf 28)=some [V.p (Value.int IntKind.i64 0),V.p (Value.int IntKind.u64 0),V.nil,V.nil]:=by kernel_rfl
theorem sm_28:slotMs Tryd.prog 8 28=[0,0,1,4]:=by kernel_rfl
theorem bl_28 (σ:St) (ps:List (Nat×Operand)):buildV Tryd.prog σ 28 ps=(fillL [(0,1),(1,1),(2,1),(3,1)] [V.p (Value.int IntKind.i64 0),V.p (Value.int IntKind.u64 0),V.nil,V.nil] (evL σ ps)).map .agg:=build_eval i_28 iz_28 u_28 (by kernel_rfl)
theorem u_49 : Tryd.prog.underlying 49 = some (.struct (Array.mk [Field.mk "Item" 28 0 false "" "" 0, Field.mk "Open" 4 4 false "" "" 64, Field.mk "Close" 4 5 false "" "" 65])) := by kernel_rfl
theorem i_49:Tryd.prog.info? 49=some (inf 49):=by kernel_rfl
theorem is_49:(inf 49).size=6:=by kernel_rfl
theorem ib_49:(inf 49).bytes=72:=by kernel_rfl
theorem iz_49:zeroRow (inf 49)=some [V.p (Value.int IntKind.i64 0),V.p (Value.int IntKind.u64 0),V.nil,V.nil,V.p (Value.bool false),V.p (Value.bool false)]:=by kernel_rfl
theorem sm_49:slotMs Tryd.prog 8 49=[0,0,1,4,0,0]:=by kernel_rfl
theorem gv (f:FuncId):hints.gives f=[22,35,44,45,46,50].contains f:=rfl
theorem fillP1_fold {cells:List V} {rest:List (Nat×V)}:fillV (fun k=>some (k,1)) cells rest=fillP 1 cells rest:=by unfold fillP;simp only [Nat.mul_one]
theorem arr_pair {α:Type} {c:α→V} {l:List α} {a b:α} (h0:l[0]?=some a) (h1:l[1]?=some b):arrC c (List.take 2 l)=[c a,c b]:=by match l with | []=>cases h0 | [x]=>cases h1 | x::y::r=>cases h0;cases h1;rfl
theorem gl_0 {σ:St}:evalV σ (.global 0)=.rpt (arrC (cI .u8) tabFirst) 0:=rfl
theorem gl_1 {σ:St}:evalV σ (.global 1)=.rpt (arrC (cI .u8) tabAcc) 0:=rfl
theorem raw_:hints.raw=[10,117]:=rfl
theorem hh_4_11:hints.head 4 11=some [7,8,9,10,57,58,59]:=rfl
theorem hc_4_11:hints.canon 4 11=[]:=rfl
theorem hh_4_14:hints.head 4 14=some [7,8,9,10,12,57,58,59,67,68,69]:=rfl
theorem hc_4_14:hints.canon 4 14=[]:=rfl
theorem hk_9_0:hints.keep 9 0=some [0,2]:=rfl
theorem hs_9_0:hints.soft 9 0=[]:=rfl
theorem hz_9_0:hints.frz 9 0=[]:=rfl
theorem hk_9_1:hints.keep 9 1=some [0,2,3]:=rfl
theorem hs_9_1:hints.soft 9 1=[(3,some 3,4,some (70001,28))]:=rfl
theorem hz_9_1:hints.frz 9 1=[]:=rfl
theorem hk_9_2:hints.keep 9 2=some [2,3,11,12,13]:=rfl
theorem hs_9_2:hints.soft 9 2=[]:=rfl
theorem hz_9_2:hints.frz 9 2=[]:=rfl
theorem hk_9_3:hints.keep 9 3=some [2,3,11,12,13,14]:=rfl
theorem hh_9_3:hints.head 9 3=some [2,3,11,12,13]:=rfl
theorem hc_9_3:hints.canon 9 3=[(3,none,20000,4,28)]:=rfl
theorem hs_9_3:hints.soft 9 3=[]:=rfl
theorem hz_9_3:hints.frz 9 3=[]:=rfl
theorem hk_9_4:hints.keep 9 4=some [2,3,4,5,11,12,13]:=rfl
theorem hs_9_4:hints.soft 9 4=[]:=rfl
theorem hz_9_4:hints.frz 9 4=[]:=rfl
theorem hk_9_5:hints.keep 9 5=some [2,3,5,11,12,13,19]:=rfl
theorem hs_9_5:hints.soft 9 5=[]:=rfl
theorem hz_9_5:hints.frz 9 5=[]:=rfl
theorem hk_9_6:hints.keep 9 6=some [2,3,5,6,11,12,13]:=rfl
theorem hs_9_6:hints.soft 9 6=[]:=rfl
theorem hz_9_6:hints.frz 9 6=[]:=rfl
theorem hk_9_7:hints.keep 9 7=some [2,3,6,7,11,12,13]:=rfl
theorem hs_9_7:hints.soft 9 7=[]:=rfl
theorem hz_9_7:hints.frz 9 7=[]:=rfl
theorem hk_9_8:hints.keep 9 8=some [2,3,6,7,11,12,13]:=rfl
theorem hs_9_8:hints.soft 9 8=[]:=rfl
theorem hz_9_8:hints.frz 9 8=[]:=rfl
theorem hk_9_9:hints.keep 9 9=some [2,3,6,7,11,12,13,26]:=rfl
theorem hs_9_9:hints.soft 9 9=[]:=rfl
theorem hz_9_9:hints.frz 9 9=[]:=rfl
theorem hk_9_10:hints.keep 9 10=some [2,3,11,12,13,36,37,39]:=rfl
theorem hs_9_10:hints.soft 9 10=[]:=rfl
theorem hz_9_10:hints.frz 9 10=[]:=rfl
theorem hk_9_11:hints.keep 9 11=some [2,3,11,12,13]:=rfl
theorem hs_9_11:hints.soft 9 11=[]:=rfl
theorem hz_9_11:hints.frz 9 11=[]:=rfl
theorem hk_9_12:hints.keep 9 12=some [2,3,11,12,13]:=rfl
theorem hs_9_12:hints.soft 9 12=[]:=rfl
theorem hz_9_12:hints.frz 9 12=[]:=rfl
theorem hk_9_13:hints.keep 9 13=some [2,3,5,6,11,12,13,57]:=rfl
theorem hs_9_13:hints.soft 9 13=[]:=rfl
theorem hz_9_13:hints.frz 9 13=[]:=rfl
theorem hk_9_14:hints.keep 9 14=some [2,3,6,11,12,13,65]:=rfl
theorem hs_9_14:hints.soft 9 14=[]:=rfl
theorem hz_9_14:hints.frz 9 14=[]:=rfl
theorem hk_9_15:hints.keep 9 15=some [2,3,6,11,12,13,79,80,82]:=rfl
theorem hs_9_15:hints.soft 9 15=[]:=rfl
theorem hz_9_15:hints.frz 9 15=[]:=rfl
theorem hk_9_16:hints.keep 9 16=some [2,3,6,11,12,13]:=rfl
theorem hs_9_16:hints.soft 9 16=[]:=rfl
theorem hz_9_16:hints.frz 9 16=[]:=rfl
theorem hk_9_17:hints.keep 9 17=some [2,3,6,11,12,13]:=rfl
theorem hs_9_17:hints.soft 9 17=[]:=rfl
theorem hz_9_17:hints.frz 9 17=[]:=rfl
theorem hk_9_18:hints.keep 9 18=some [2,3,11,12,13]:=rfl
theorem hs_9_18:hints.soft 9 18=[(3,none,4,some (70100,28))]:=rfl
theorem hz_9_18:hints.frz 9 18=[]:=rfl
theorem hk_9_19:hints.keep 9 19=some [2,3,5,6,11,12,13,108]:=rfl
theorem hs_9_19:hints.soft 9 19=[]:=rfl
theorem hz_9_19:hints.frz 9 19=[]:=rfl
theorem hk_9_20:hints.keep 9 20=some [2,3,11,12,13]:=rfl
theorem hs_9_20:hints.soft 9 20=[(3,some 7,4,some (70002,28)),(3,some 11,4,some (70003,28)),(3,some 15,4,some (70004,28)),(3,some 19,4,some (70005,28)),(3,some 23,4,some (70006,28)),(3,some 27,4,some (70007,28))]:=rfl
theorem hz_9_20:hints.frz 9 20=[]:=rfl
theorem hk_9_21:hints.keep 9 21=some [2,3,11,12,13]:=rfl
theorem hs_9_21:hints.soft 9 21=[]:=rfl
theorem hz_9_21:hints.frz 9 21=[]:=rfl
theorem hk_9_22:hints.keep 9 22=some [2,3,8]:=rfl
theorem hs_9_22:hints.soft 9 22=[]:=rfl
theorem hz_9_22:hints.frz 9 22=[]:=rfl
theorem hk_9_23:hints.keep 9 23=some [2,3,8,123]:=rfl
theorem hh_9_23:hints.head 9 23=some [2,3,8]:=rfl
theorem hc_9_23:hints.canon 9 23=[]:=rfl
theorem hs_9_23:hints.soft 9 23=[]:=rfl
theorem hz_9_23:hints.frz 9 23=[]:=rfl
theorem hk_9_24:hints.keep 9 24=some [2,3,8]:=rfl
theorem hs_9_24:hints.soft 9 24=[]:=rfl
theorem hz_9_24:hints.frz 9 24=[]:=rfl
theorem hk_9_25:hints.keep 9 25=some [2,3,8,127]:=rfl
theorem hs_9_25:hints.soft 9 25=[]:=rfl
theorem hz_9_25:hints.frz 9 25=[]:=rfl
theorem hk_9_26:hints.keep 9 26=some [2,3,8,141,142,144]:=rfl
theorem hs_9_26:hints.soft 9 26=[]:=rfl
theorem hz_9_26:hints.frz 9 26=[]:=rfl
theorem hk_9_27:hints.keep 9 27=some [2,3,8]:=rfl
theorem hs_9_27:hints.soft 9 27=[]:=rfl
theorem hz_9_27:hints.frz 9 27=[]:=rfl
theorem hk_9_28:hints.keep 9 28=some [2,3,8]:=rfl
theorem hs_9_28:hints.soft 9 28=[]:=rfl
theorem hz_9_28:hints.frz 9 28=[]:=rfl
theorem hk_9_29:hints.keep 9 29=some [2,3,8]:=rfl
theorem hs_9_29:hints.soft 9 29=[(3,none,4,some (70100,28))]:=rfl
theorem hz_9_29:hints.frz 9 29=[]:=rfl
theorem hk_9_30:hints.keep 9 30=some [2,3,175]:=rfl
theorem hs_9_30:hints.soft 9 30=[]:=rfl
theorem hz_9_30:hints.frz 9 30=[]:=rfl
theorem hk_9_31:hints.keep 9 31=some [2]:=rfl
theorem hs_9_31:hints.soft 9 31=[]:=rfl
theorem hz_9_31:hints.frz 9 31=[]:=rfl
theorem hk_9_32:hints.keep 9 32=some [2]:=rfl
theorem hs_9_32:hints.soft 9 32=[(2,some 2,1,none)]:=rfl
theorem hz_9_32:hints.frz 9 32=[2]:=rfl
theorem hh_14_4:hints.head 14 4=some [0,1,5]:=rfl
theorem hc_14_4:hints.canon 14 4=[]:=rfl
theorem hh_18_3:hints.head 18 3=some [2,3,7,8,9]:=rfl
theorem hc_18_3:hints.canon 18 3=[(3,some 3,20000,4,28)]:=rfl
theorem hh_19_4:hints.head 19 4=some [2,3,5]:=rfl
theorem hc_19_4:hints.canon 19 4=[]:=rfl
theorem hh_23_4:hints.head 23 4=some [1,2,15,16,17]:=rfl
theorem hc_23_4:hints.canon 23 4=[]:=rfl
theorem hh_29_5:hints.head 29 5=some [1,2,13,14,15]:=rfl
theorem hc_29_5:hints.canon 29 5=[(1,some 3,20000,4,28)]:=rfl
theorem hh_33_4:hints.head 33 4=some [0,1,12,13]:=rfl
theorem hc_33_4:hints.canon 33 4=[]:=rfl
theorem t_3:Tryd.prog.underlying 3=some (TypeDesc.int IntKind.i64)∧Tryd.prog.info? 3=some (inf 3)∧(inf 3).size=1∧(inf 3).bytes=8∧zeroRow (inf 3)=some [V.p (Value.int IntKind.i64 0)]:=⟨by kernel_rfl,by kernel_rfl,by kernel_rfl,by kernel_rfl,by kernel_rfl⟩
theorem t_4:Tryd.prog.underlying 4=some TypeDesc.bool∧Tryd.prog.info? 4=some (inf 4)∧(inf 4).size=1∧(inf 4).bytes=1∧zeroRow (inf 4)=some [V.p (Value.bool false)]:=⟨by kernel_rfl,by kernel_rfl,by kernel_rfl,by kernel_rfl,by kernel_rfl⟩
theorem t_5:Tryd.prog.underlying 5=some (TypeDesc.int IntKind.u8)∧Tryd.prog.info? 5=some (inf 5)∧(inf 5).size=1∧(inf 5).bytes=1∧zeroRow (inf 5)=some [V.p (Value.int IntKind.u8 0)]:=⟨by kernel_rfl,by kernel_rfl,by kernel_rfl,by kernel_rfl,by kernel_rfl⟩
theorem t_24:Tryd.prog.underlying 24=some (TypeDesc.int IntKind.u64)∧Tryd.prog.info? 24=some (inf 24)∧(inf 24).size=1∧(inf 24).bytes=8∧zeroRow (inf 24)=some [V.p (Value.int IntKind.u64 0)]:=⟨by kernel_rfl,by kernel_rfl,by kernel_rfl,by kernel_rfl,by kernel_rfl⟩
theorem t_25:Tryd.prog.underlying 25=some (TypeDesc.slice 5)∧Tryd.prog.info? 25=some (inf 25)∧(inf 25).size=1∧(inf 25).bytes=24∧zeroRow (inf 25)=some [V.nil]:=⟨by kernel_rfl,by kernel_rfl,by kernel_rfl,by kernel_rfl,by kernel_rfl⟩
theorem t_26:Tryd.prog.underlying 26=some (TypeDesc.slice 28)∧Tryd.prog.info? 26=some (inf 26)∧(inf 26).size=1∧(inf 26).bytes=24∧zeroRow (inf 26)=some [V.nil]:=⟨by kernel_rfl,by kernel_rfl,by kernel_rfl,by kernel_rfl,by kernel_rfl⟩
theorem t_28 : Tryd.prog.underlying 28 = some (.struct (Array.mk [Field.mk "Kind" 3 0 false "" "" 0, Field.mk "Num" 24 1 false "" "" 8, Field.mk "Bytes" 25 2 false "" "" 16, Field.mk "Items" 26 3 false "" "" 40])) ∧ Tryd.prog.info? 28 = some (inf 28) ∧ (inf 28).size = 4 ∧ (inf 28).bytes = 64 ∧ zeroRow (inf 28) = some [V.p (Value.int IntKind.i64 0), V.p (Value.int IntKind.u64 0), V.nil, V.nil] := ⟨by kernel_rfl, by kernel_rfl, by kernel_rfl, by kernel_rfl, by kernel_rfl⟩
@[reducible] def hR (f r:Nat) (l:List Nat):Prop:=hints.keep f r=some l∧hints.frz f r=[]∧hints.soft f r=[]
theorem hr (f r:Nat) {l:List Nat} (h:(hints.keep f r,hints.frz f r,hints.soft f r)=(some l,[],[])):hR f r l:=⟨congrArg (·.1) h,congrArg (·.2.1) h,congrArg (·.2.2) h⟩
theorem hr_16_0:hints.keep 16 0=some [0,2]∧hints.frz 16 0=[]∧hints.soft 16 0=[(2,some 2,1,none),(2,some 3,4,none)]:=⟨rfl,rfl,rfl⟩
theorem hr_16_1:hints.keep 16 1=some [2]∧hints.frz 16 1=[]∧hints.soft 16 1=[(2,some 2,1,none),(2,some 3,4,none)]:=⟨rfl,rfl,rfl⟩
theorem hr_17_0:hints.keep 17 0=some [0,2]∧hints.frz 17 0=[]∧hints.soft 17 0=[(2,some 2,1,some (700000,5)),(2,some 3,4,none)]:=⟨rfl,rfl,rfl⟩
theorem hr_17_1:hints.keep 17 1=some [2]∧hints.frz 17 1=[]∧hints.soft 17 1=[(2,some 3,4,none)]:=⟨rfl,rfl,rfl⟩
theorem hr_18_0:hints.keep 18 0=some [0,2]∧hints.frz 18 0=[]∧hints.soft 18 0=[(2,some 2,1,none),(2,some 3,4,some (700001,28))]:=⟨rfl,rfl,rfl⟩
theorem hr_18_1:hints.keep 18 1=some [0,2,3]∧hints.frz 18 1=[]∧hints.soft 18 1=[(3,some 2,1,none),(3,some 3,4,some (700065,28))]:=⟨rfl,rfl,rfl⟩
theorem hr_19_0:hints.keep 19 0=some [2,3]∧hints.frz 19 0=[]∧hints.soft 19 0=[(3,some 2,1,none),(3,some 3,4,none)]:=⟨rfl,rfl,rfl⟩
theorem hr_29_0:hints.keep 29 0=some [1,2]∧hints.frz 29 0=[]∧hints.soft 29 0=[(2,some 2,1,some (700000,5)),(2,some 3,4,some (700001,28))]:=⟨rfl,rfl,rfl⟩
theorem hr_29_3:hints.keep 29 3=some [1,2,3]∧hints.frz 29 3=[]∧hints.soft 29 3=[(1,some 3,4,some (700192,28))]:=⟨rfl,rfl,rfl⟩
end Go.Proofs.YtlelaenalbkbmaaDoorV