/- The kinds of data,and the code's parts by names. -/
import Derived.Test.YtiompmmbjpjjeaaDoorHVi26
import Derived.Test.YtiompmmbjpjjeaaDoorHViH
namespace Go.Proofs.YtiompmmbjpjjeaaDoorV
open Go
set_option linter.unusedVariables false
set_option linter.unusedSimpArgs false
set_option maxRecDepth 8000
set_option maxHeartbeats 4000000
structure T54 where
 From:Int
 To:Int
 Start:Int
 End:Int
 Rate:Int
 Delay:Int
 deriving DecidableEq
noncomputable def encT54 (x:T54):List V:=[V.p (Value.int .i64 x.From),V.p (Value.int .i64 x.To),V.p (Value.int .i64 x.Start),V.p (Value.int .i64 x.End),V.p (Value.int .i64 x.Rate),V.p (Value.int .i64 x.Delay)]
theorem encT54_eq {x:T54}:encT54 x=[V.p (Value.int .i64 x.From),V.p (Value.int .i64 x.To),V.p (Value.int .i64 x.Start),V.p (Value.int .i64 x.End),V.p (Value.int .i64 x.Rate),V.p (Value.int .i64 x.Delay)]:=rfl
structure T44 where
 Source:Int
 Seq:Int
 Offset:Int
 deriving DecidableEq
noncomputable def encT44 (x:T44):List V:=[V.p (Value.int .i64 x.Source),V.p (Value.int .u32 x.Seq),V.p (Value.int .i64 x.Offset)]
theorem encT44_eq {x:T44}:encT44 x=[V.p (Value.int .i64 x.Source),V.p (Value.int .u32 x.Seq),V.p (Value.int .i64 x.Offset)]:=rfl
structure T28 where
 Node:Int
 Plan_Nodes:Int
 Plan_Contacts:List T54
 Left:List Int
 Now:Int
 Busy:List T44
 Room:Int
 deriving DecidableEq
noncomputable def encT28 (x:T28):List V:=[V.p (Value.int .i64 x.Node),V.p (Value.int .i64 x.Plan_Nodes),V.sl 6 (rowsOf encT54 x.Plan_Contacts),V.sl 1 (rowsOf (encI .i64) x.Left),V.p (Value.int .i64 x.Now),V.sl 3 (rowsOf encT44 x.Busy),V.p (Value.int .i64 x.Room)]
structure T47 where
 Source:Int
 Dest:Int
 Seq:Int
 Created:Int
 Lifetime:Int
 HopLimit:Int
 Hops:Int
 Priority:Int
 Offset:Int
 Total:Int
 Payload:List Int
 deriving DecidableEq
noncomputable def encT47 (x:T47):List V:=[V.p (Value.int .i64 x.Source),V.p (Value.int .i64 x.Dest),V.p (Value.int .u32 x.Seq),V.p (Value.int .i64 x.Created),V.p (Value.int .i64 x.Lifetime),V.p (Value.int .i64 x.HopLimit),V.p (Value.int .i64 x.Hops),V.p (Value.int .i64 x.Priority),V.p (Value.int .i64 x.Offset),V.p (Value.int .i64 x.Total),V.sl 1 (rowsOf (encI .u8) x.Payload)]
theorem encT47_eq {x:T47}:encT47 x=[V.p (Value.int .i64 x.Source),V.p (Value.int .i64 x.Dest),V.p (Value.int .u32 x.Seq),V.p (Value.int .i64 x.Created),V.p (Value.int .i64 x.Lifetime),V.p (Value.int .i64 x.HopLimit),V.p (Value.int .i64 x.Hops),V.p (Value.int .i64 x.Priority),V.p (Value.int .i64 x.Offset),V.p (Value.int .i64 x.Total),V.sl 1 (rowsOf (encI .u8) x.Payload)]:=rfl
structure T31 where
 List:List T47
 deriving DecidableEq
noncomputable def encT31 (x:T31):List V:=[V.sl 11 (rowsOf encT47 x.List)]
structure T56 where
 Key_Source:Int
 Key_Seq:Int
 Key_Offset:Int
 To:Int
 Contact:Int
 deriving DecidableEq
noncomputable def encT56 (x:T56):List V:=[V.p (Value.int .i64 x.Key_Source),V.p (Value.int .u32 x.Key_Seq),V.p (Value.int .i64 x.Key_Offset),V.p (Value.int .i64 x.To),V.p (Value.int .i64 x.Contact)]
theorem encT56_eq {x:T56}:encT56 x=[V.p (Value.int .i64 x.Key_Source),V.p (Value.int .u32 x.Key_Seq),V.p (Value.int .i64 x.Key_Offset),V.p (Value.int .i64 x.To),V.p (Value.int .i64 x.Contact)]:=rfl
structure T113 where
 Kind:Int
 Num:Int
 Bytes:List Int
 Items:List T113
mutual
noncomputable def encT113:T113→List V
 | ⟨Kind,Num,Bytes,Items⟩=>[V.p (Value.int .i64 Kind),V.p (Value.int .u64 Num),V.sl 1 (rowsOf (encI .u8) Bytes),V.sl 4 (encT113L Items)]
noncomputable def encT113L:List T113→List (List V)
 | []=>[]
 | x::r=>encT113 x::encT113L r
end
theorem encT113L_eq:∀ l:List T113,encT113L l=rowsOf encT113 l
 | []=>by rw [encT113L];rfl
 | x::r=>by rw [encT113L,encT113L_eq r];rfl
theorem encT113_eq {x:T113}:encT113 x=[V.p (Value.int .i64 x.Kind),V.p (Value.int .u64 x.Num),V.sl 1 (rowsOf (encI .u8) x.Bytes),V.sl 4 (rowsOf encT113 x.Items)]:=by cases x;rw [encT113,encT113L_eq]
noncomputable def mk65 (x:T44):List Value:=[Value.int .i64 x.Source,Value.int .u32 x.Seq,Value.int .i64 x.Offset]
noncomputable def mv65 (x:Int):Value:=Value.int .i64 x
noncomputable def mf65:List Field:=(Tryd.prog.fieldsOf 44).toList
theorem M65:MapT Tryd.prog 65 3 mk65 mv65 0 mf65 where
 info:=by kernel_rfl
 len:=by kernel_rfl
 keys:=fun a=>⟨rfl,by kernel_rfl⟩
 eq:=fun a b=>by
  have h:flatEq Tryd.prog ((mk65 a).map .p) ((mk65 b).map .p) mf65=some ((a.Source==b.Source)&&((a.Seq==b.Seq)&&((a.Offset==b.Offset)&&true))):=by kernel_rfl
  rw [h]
  congr 1
  rw [Bool.eq_iff_iff]
  cases a;cases b
  simp only [Bool.and_true,Bool.and_eq_true,beq_iff_eq,decide_eq_true_eq,T44.mk.injEq]
  constructor<;>(intro h;simp_all)
theorem mpT65:Tryd.prog.underlying 65=some (TypeDesc.map 44 3):=by kernel_rfl
theorem mpN65 {d:Nat}:mkF Tryd.prog 65 d true=some (V.mp d,[(d,(O.mp 3 (mpC mk65 mv65 [])))]):=M65.mk_ d
theorem mpL65 {id:Nat} {l:List (T44×Int)} {a0 a1 a2:Int}:lkF Tryd.prog 65 id (some (O.mp 3 (mpC mk65 mv65 l))) (V.agg [V.p (Value.int .i64 a0),V.p (Value.int .u32 a1),V.p (Value.int .i64 a2)])=some (V.p (Value.int .i64 (mget l (T44.mk a0 a1 a2) 0))):=M65.lk id l (T44.mk a0 a1 a2)
theorem mpE65 {id:Nat} {l:List (T44×Int)} {a0 a1 a2:Int}:enF Tryd.prog 65 id (some (O.mp 3 (mpC mk65 mv65 l))) (V.agg [V.p (Value.int .i64 a0),V.p (Value.int .u32 a1),V.p (Value.int .i64 a2)])=some (V.tup [V.p (Value.int .i64 (mget l (T44.mk a0 a1 a2) 0)),V.p (Value.int .i64 (midx l (T44.mk a0 a1 a2):Nat))],[(id,(O.mp 3 (mpC mk65 mv65 (ment l (T44.mk a0 a1 a2) 0))))]):=M65.en id l (T44.mk a0 a1 a2)
theorem mpS65 {id:Nat} {l:List (T44×Int)} {k:T44} {y:Int}:stF id (some (O.mp 3 (mpC mk65 mv65 (ment l k 0)))) (V.p (Value.int .i64 (midx l k:Nat))) (V.p (Value.int .i64 y))=some [(id,(O.mp 3 (mpC mk65 mv65 (mput l k y))))]:=stF_enc id l k y
noncomputable def mk66 (x:T44):List Value:=[Value.int .i64 x.Source,Value.int .u32 x.Seq,Value.int .i64 x.Offset]
noncomputable def mv66 (x:Bool):Value:=Value.bool x
noncomputable def mf66:List Field:=(Tryd.prog.fieldsOf 44).toList
theorem M66:MapT Tryd.prog 66 3 mk66 mv66 false mf66 where
 info:=by kernel_rfl
 len:=by kernel_rfl
 keys:=fun a=>⟨rfl,by kernel_rfl⟩
 eq:=fun a b=>by
  have h:flatEq Tryd.prog ((mk66 a).map .p) ((mk66 b).map .p) mf66=some ((a.Source==b.Source)&&((a.Seq==b.Seq)&&((a.Offset==b.Offset)&&true))):=by kernel_rfl
  rw [h]
  congr 1
  rw [Bool.eq_iff_iff]
  cases a;cases b
  simp only [Bool.and_true,Bool.and_eq_true,beq_iff_eq,decide_eq_true_eq,T44.mk.injEq]
  constructor<;>(intro h;simp_all)
theorem mpN66 {d:Nat}:mkF Tryd.prog 66 d true=some (V.mp d,[(d,(O.mp 3 (mpC mk66 mv66 [])))]):=M66.mk_ d
theorem mpL66 {id:Nat} {l:List (T44×Bool)} {a0 a1 a2:Int}:lkF Tryd.prog 66 id (some (O.mp 3 (mpC mk66 mv66 l))) (V.agg [V.p (Value.int .i64 a0),V.p (Value.int .u32 a1),V.p (Value.int .i64 a2)])=some (V.p (Value.bool (mget l (T44.mk a0 a1 a2) false))):=M66.lk id l (T44.mk a0 a1 a2)
theorem mpU66 {id:Nat} {l:List (T44×Bool)} {a0 a1 a2:Int} {v:Bool}:upF Tryd.prog 66 id (some (O.mp 3 (mpC mk66 mv66 l))) (V.agg [V.p (Value.int .i64 a0),V.p (Value.int .u32 a1),V.p (Value.int .i64 a2)]) (V.p (Value.bool v))=some [(id,(O.mp 3 (mpC mk66 mv66 (mput l (T44.mk a0 a1 a2) v))))]:=M66.up id l (T44.mk a0 a1 a2) v
@[reducible] noncomputable def CV (k f:Nat) (args:List V) (exts:List O):Option (V×List O×List O):=callV Tryd.prog ctx hints k f args exts
@[reducible] noncomputable def EX (f k:Nat) (c:Code) (σ:St):Option (Out×St):=exec Tryd.prog (callV Tryd.prog ctx hints k) hints f k none c σ
@[reducible] noncomputable def EL (f k l:Nat) (c:Code) (σ:St):Option (Out×St):=exec Tryd.prog (callV Tryd.prog ctx hints k) hints f k (some l) c σ
@[reducible] noncomputable def SQ (f k:Nat) (b:Code) (r:Option (Out×St)):Option (Out×St):=seqK Tryd.prog (callV Tryd.prog ctx hints k) hints f k b r
@[reducible] noncomputable def LP (f k:Nat) (a:Code) (n:Nat) (σ:St):Option (Out×St):=loopK Tryd.prog (callV Tryd.prog ctx hints k) hints f k a n σ
@[reducible] noncomputable def JK (f k:Nat) (a:Code) (n:Nat) (r:Option (Out×St)):Option (Out×St):=jumpsK Tryd.prog (callV Tryd.prog ctx hints k) hints f k a n r
@[reducible] noncomputable def jI (x:Int):V:=.p (.int .i64 x)
@[reducible] noncomputable def jU (x:Int):V:=.p (.int .u32 x)
@[reducible] noncomputable def jB (x:List Int):V:=.sl 1 (rowsOf (encI .u8) x)
@[reducible] noncomputable def jL (x:Int):V:=.p (.int .u64 x)
@[reducible] noncomputable def jT (x:Bool):V:=.p (.bool x)
theorem EE:(type_of% @jB.eq_1)∧(type_of% @jL.eq_1)∧(type_of% @jT.eq_1)∧(type_of% @finK_norm)∧(type_of% @finK_ret)∧(type_of% @jI.eq_1)∧(type_of% @jU.eq_1)∧(type_of% @CV.eq_1)∧(type_of% @EX.eq_1)∧(type_of% @EL.eq_1)∧(type_of% @SQ.eq_1)∧(type_of% @LP.eq_1)∧(type_of% @JK.eq_1):=⟨@jB.eq_1,@jL.eq_1,@jT.eq_1,@finK_norm,@finK_ret,@jI.eq_1,@jU.eq_1,@CV.eq_1,@EX.eq_1,@EL.eq_1,@SQ.eq_1,@LP.eq_1,@JK.eq_1⟩
theorem W:(type_of% E)∧(type_of% EE):=⟨E,EE⟩
noncomputable def B6:Code:=(Tryd.f6.body).getD .skip
theorem fin6:Tryd.f6.results.toList=[ResultVar.tmp 4]:=rfl
noncomputable def B9:Code:=(Tryd.f9.body).getD .skip
theorem fin9:Tryd.f9.results.toList=[ResultVar.cell 2 28]:=rfl
noncomputable def B10:Code:=(Tryd.f10.body).getD .skip
theorem fin10:Tryd.f10.results.toList=[ResultVar.cell 2 31]:=rfl
noncomputable def B11:Code:=(Tryd.f11.body).getD .skip
theorem fin11:Tryd.f11.results.toList=[ResultVar.cell 4 37,ResultVar.tmp 5]:=rfl
noncomputable def B12:Code:=(Tryd.f12.body).getD .skip
theorem fin12:Tryd.f12.results.toList=[ResultVar.tmp 2]:=rfl
noncomputable def B13:Code:=(Tryd.f13.body).getD .skip
theorem fin13:Tryd.f13.results.toList=[ResultVar.cell 4 47,ResultVar.tmp 5]:=rfl
noncomputable def B14:Code:=(Tryd.f14.body).getD .skip
theorem fin14:Tryd.f14.results.toList=[ResultVar.tmp 12,ResultVar.tmp 13,ResultVar.tmp 14]:=rfl
noncomputable def B15:Code:=(Tryd.f15.body).getD .skip
theorem fin15:Tryd.f15.results.toList=[ResultVar.tmp 2]:=rfl
noncomputable def B16:Code:=(Tryd.f16.body).getD .skip
theorem fin16:Tryd.f16.results.toList=[ResultVar.tmp 8,ResultVar.tmp 9]:=rfl
noncomputable def B20:Code:=(Tryd.f20.body).getD .skip
theorem fin20:Tryd.f20.results.toList=[ResultVar.cell 2 44]:=rfl
noncomputable def B24:Code:=(Tryd.f24.body).getD .skip
theorem fin24:Tryd.f24.results.toList=[ResultVar.tmp 2]:=rfl
noncomputable def B25:Code:=(Tryd.f25.body).getD .skip
theorem fin25:Tryd.f25.results.toList=[ResultVar.cell 4 37,ResultVar.tmp 5,ResultVar.tmp 6]:=rfl
noncomputable def B26:Code:=(Tryd.f26.body).getD .skip
theorem fin26:Tryd.f26.results.toList=[ResultVar.tmp 2]:=rfl
noncomputable def B28:Code:=(Tryd.f28.body).getD .skip
theorem fin28:Tryd.f28.results.toList=[]:=rfl
noncomputable def B29:Code:=(Tryd.f29.body).getD .skip
theorem fin29:Tryd.f29.results.toList=[ResultVar.tmp 4]:=rfl
noncomputable def B30:Code:=(Tryd.f30.body).getD .skip
theorem fin30:Tryd.f30.results.toList=[ResultVar.tmp 4]:=rfl
noncomputable def B31:Code:=(Tryd.f31.body).getD .skip
theorem fin31:Tryd.f31.results.toList=[ResultVar.tmp 4]:=rfl
noncomputable def B32:Code:=(Tryd.f32.body).getD .skip
theorem fin32:Tryd.f32.results.toList=[ResultVar.cell 2 47]:=rfl
noncomputable def B33:Code:=(Tryd.f33.body).getD .skip
theorem fin33:Tryd.f33.results.toList=[ResultVar.tmp 2]:=rfl
noncomputable def B34:Code:=(Tryd.f34.body).getD .skip
theorem fin34:Tryd.f34.results.toList=[ResultVar.tmp 4]:=rfl
noncomputable def B35:Code:=(Tryd.f35.body).getD .skip
theorem fin35:Tryd.f35.results.toList=[ResultVar.tmp 2]:=rfl
noncomputable def B36:Code:=(Tryd.f36.body).getD .skip
theorem fin36:Tryd.f36.results.toList=[ResultVar.tmp 6]:=rfl
noncomputable def B37:Code:=(Tryd.f37.body).getD .skip
theorem fin37:Tryd.f37.results.toList=[ResultVar.tmp 6]:=rfl
noncomputable def B38:Code:=(Tryd.f38.body).getD .skip
theorem fin38:Tryd.f38.results.toList=[ResultVar.tmp 8,ResultVar.tmp 9]:=rfl
noncomputable def B39:Code:=(Tryd.f39.body).getD .skip
theorem fin39:Tryd.f39.results.toList=[ResultVar.tmp 2,ResultVar.tmp 3]:=rfl
noncomputable def B40:Code:=(Tryd.f40.body).getD .skip
theorem fin40:Tryd.f40.results.toList=[ResultVar.tmp 4]:=rfl
noncomputable def B41:Code:=(Tryd.f41.body).getD .skip
theorem fin41:Tryd.f41.results.toList=[ResultVar.tmp 6]:=rfl
noncomputable def B46:Code:=(Tryd.f46.body).getD .skip
theorem fin46:Tryd.f46.results.toList=[ResultVar.tmp 4]:=rfl
noncomputable def B47:Code:=(Tryd.f47.body).getD .skip
theorem fin47:Tryd.f47.results.toList=[ResultVar.tmp 4]:=rfl
noncomputable def B48:Code:=(Tryd.f48.body).getD .skip
theorem fin48:Tryd.f48.results.toList=[ResultVar.tmp 2]:=rfl
noncomputable def B49:Code:=(Tryd.f49.body).getD .skip
theorem fin49:Tryd.f49.results.toList=[]:=rfl
noncomputable def B50:Code:=(Tryd.f50.body).getD .skip
theorem fin50:Tryd.f50.results.toList=[ResultVar.tmp 2]:=rfl
noncomputable def B51:Code:=(Tryd.f51.body).getD .skip
theorem fin51:Tryd.f51.results.toList=[ResultVar.tmp 4]:=rfl
noncomputable def B52:Code:=(Tryd.f52.body).getD .skip
theorem fin52:Tryd.f52.results.toList=[ResultVar.tmp 3]:=rfl
noncomputable def B54:Code:=(Tryd.f54.body).getD .skip
theorem fin54:Tryd.f54.results.toList=[ResultVar.tmp 4]:=rfl
noncomputable def B55:Code:=(Tryd.f55.body).getD .skip
theorem fin55:Tryd.f55.results.toList=[]:=rfl
noncomputable def B56:Code:=(Tryd.f56.body).getD .skip
theorem fin56:Tryd.f56.results.toList=[ResultVar.tmp 2,ResultVar.tmp 3]:=rfl
noncomputable def B57:Code:=(Tryd.f57.body).getD .skip
theorem fin57:Tryd.f57.results.toList=[ResultVar.cell 2 113]:=rfl
noncomputable def B58:Code:=(Tryd.f58.body).getD .skip
theorem fin58:Tryd.f58.results.toList=[ResultVar.cell 2 113]:=rfl
noncomputable def B59:Code:=(Tryd.f59.body).getD .skip
theorem fin59:Tryd.f59.results.toList=[ResultVar.cell 2 113]:=rfl
noncomputable def B60:Code:=(Tryd.f60.body).getD .skip
theorem fin60:Tryd.f60.results.toList=[ResultVar.tmp 2]:=rfl
noncomputable def B61:Code:=(Tryd.f61.body).getD .skip
theorem fin61:Tryd.f61.results.toList=[ResultVar.cell 2 113]:=rfl
noncomputable def B62:Code:=(Tryd.f62.body).getD .skip
theorem fin62:Tryd.f62.results.toList=[ResultVar.tmp 2]:=rfl
noncomputable def B63:Code:=(Tryd.f63.body).getD .skip
theorem fin63:Tryd.f63.results.toList=[ResultVar.tmp 2]:=rfl
noncomputable def B64:Code:=(Tryd.f64.body).getD .skip
theorem fin64:Tryd.f64.results.toList=[ResultVar.tmp 4]:=rfl
noncomputable def B65:Code:=(Tryd.f65.body).getD .skip
theorem fin65:Tryd.f65.results.toList=[ResultVar.tmp 6]:=rfl
noncomputable def B66:Code:=(Tryd.f66.body).getD .skip
theorem fin66:Tryd.f66.results.toList=[]:=rfl
noncomputable def B67:Code:=(Tryd.f67.body).getD .skip
theorem fin67:Tryd.f67.results.toList=[]:=rfl
noncomputable def B68:Code:=(Tryd.f68.body).getD .skip
theorem fin68:Tryd.f68.results.toList=[ResultVar.tmp 2]:=rfl
noncomputable def B69:Code:=(Tryd.f69.body).getD .skip
theorem fin69:Tryd.f69.results.toList=[ResultVar.tmp 4]:=rfl
noncomputable def B70:Code:=(Tryd.f70.body).getD .skip
theorem fin70:Tryd.f70.results.toList=[ResultVar.cell 2 113]:=rfl
noncomputable def B71:Code:=(Tryd.f71.body).getD .skip
theorem fin71:Tryd.f71.results.toList=[ResultVar.tmp 6]:=rfl
noncomputable def B72:Code:=(Tryd.f72.body).getD .skip
theorem fin72:Tryd.f72.results.toList=[ResultVar.tmp 2]:=rfl
noncomputable def B73:Code:=(Tryd.f73.body).getD .skip
theorem fin73:Tryd.f73.results.toList=[ResultVar.tmp 2]:=rfl
noncomputable def B74:Code:=(Tryd.f74.body).getD .skip
theorem fin74:Tryd.f74.results.toList=[]:=rfl
noncomputable def B75:Code:=(Tryd.f75.body).getD .skip
theorem fin75:Tryd.f75.results.toList=[ResultVar.tmp 4]:=rfl
noncomputable def B76:Code:=(Tryd.f76.body).getD .skip
theorem fin76:Tryd.f76.results.toList=[ResultVar.tmp 2]:=rfl
noncomputable def B77:Code:=(Tryd.f77.body).getD .skip
theorem fin77:Tryd.f77.results.toList=[ResultVar.tmp 6]:=rfl
noncomputable def B78:Code:=(Tryd.f78.body).getD .skip
theorem fin78:Tryd.f78.results.toList=[ResultVar.tmp 4]:=rfl
noncomputable def B79:Code:=(Tryd.f79.body).getD .skip
theorem fin79:Tryd.f79.results.toList=[ResultVar.tmp 4]:=rfl
noncomputable def B80:Code:=(Tryd.f80.body).getD .skip
theorem fin80:Tryd.f80.results.toList=[]:=rfl
noncomputable def B81:Code:=(Tryd.f81.body).getD .skip
theorem fin81:Tryd.f81.results.toList=[ResultVar.tmp 2]:=rfl
noncomputable def B82:Code:=(Tryd.f82.body).getD .skip
theorem fin82:Tryd.f82.results.toList=[ResultVar.tmp 2]:=rfl
noncomputable def B83:Code:=(Tryd.f83.body).getD .skip
theorem fin83:Tryd.f83.results.toList=[ResultVar.tmp 4]:=rfl
noncomputable def B84:Code:=(Tryd.f84.body).getD .skip
theorem fin84:Tryd.f84.results.toList=[ResultVar.tmp 4]:=rfl
noncomputable def B85:Code:=(Tryd.f85.body).getD .skip
theorem fin85:Tryd.f85.results.toList=[ResultVar.tmp 4]:=rfl
noncomputable def B86:Code:=(Tryd.f86.body).getD .skip
theorem fin86:Tryd.f86.results.toList=[ResultVar.tmp 2]:=rfl
noncomputable def B87:Code:=(Tryd.f87.body).getD .skip
theorem fin87:Tryd.f87.results.toList=[ResultVar.tmp 6]:=rfl
theorem sr (f n:Nat) (B:Code) (p:List Nat) {o:Array Oper} {l:List Nat} {call:CallF} {k:Nat} {σ:St} (h1:kindOf (nav B p)=.sq) (h2:nav B (1::p)=.region n o false) (h3:(hints.keep f n,hints.frz f n,hints.soft f n)=(some l,[],[])):exec Tryd.prog call hints f k none (nav B p) σ=seqK Tryd.prog call hints f k (nav B (2::p)) (endK [] [] (some l) (runOps Tryd.prog call hints o o.toList σ)):=by
 rw [xk B p .sq h1]
 show seqK _ _ _ _ _ _ (exec _ _ _ _ _ _ (nav B (1::p)) σ)=_
 rw [h2,ev_region,(hr f n h3).1,(hr f n h3).2.1,(hr f n h3).2.2]
theorem rg (B:Code) (p:List Nat) (n:Nat) (b:Bool) {o:Array Oper} (h:nav B p=.region n o b):nav B p=.region n o b:=h
theorem bs {α β:Type} {x:Option α} {f:α→Option β} {b:β} (h:x.bind f=some b):∃ a,x=some a∧f a=some b:=Option.bind_eq_some_iff.1 h
end Go.Proofs.YtiompmmbjpjjeaaDoorV