/- The kinds of data,and the code's parts by names. -/
import Derived.Test.YtlelaenalbkbmaaDoorHVi26
import Derived.Test.YtlelaenalbkbmaaDoorHViH
namespace Go.Proofs.YtlelaenalbkbmaaDoorV
open Go
set_option linter.unusedVariables false
set_option linter.unusedSimpArgs false
set_option maxRecDepth 8000
set_option maxHeartbeats 4000000
structure T28 where
 Kind:Int
 Num:Int
 Bytes:List Int
 Items:List T28
mutual
noncomputable def encT28:T28→List V
 | ⟨Kind,Num,Bytes,Items⟩=>[V.p (Value.int .i64 Kind),V.p (Value.int .u64 Num),V.sl 1 (rowsOf (encI .u8) Bytes),V.sl 4 (encT28L Items)]
noncomputable def encT28L:List T28→List (List V)
 | []=>[]
 | x::r=>encT28 x::encT28L r
end
theorem encT28L_eq:∀ l:List T28,encT28L l=rowsOf encT28 l
 | []=>by rw [encT28L];rfl
 | x::r=>by rw [encT28L,encT28L_eq r];rfl
theorem encT28_eq {x:T28}:encT28 x=[V.p (Value.int .i64 x.Kind),V.p (Value.int .u64 x.Num),V.sl 1 (rowsOf (encI .u8) x.Bytes),V.sl 4 (rowsOf encT28 x.Items)]:=by cases x;rw [encT28,encT28L_eq]
structure T49 where
 Item_Kind:Int
 Item_Num:Int
 Item_Bytes:List Int
 Item_Items:List T28
 Open:Bool
 Close:Bool
noncomputable def encT49 (x:T49):List V:=[V.p (Value.int .i64 x.Item_Kind),V.p (Value.int .u64 x.Item_Num),V.sl 1 (rowsOf (encI .u8) x.Item_Bytes),V.sl 4 (rowsOf encT28 x.Item_Items),V.p (Value.bool x.Open),V.p (Value.bool x.Close)]
theorem encT49_eq {x:T49}:encT49 x=[V.p (Value.int .i64 x.Item_Kind),V.p (Value.int .u64 x.Item_Num),V.sl 1 (rowsOf (encI .u8) x.Item_Bytes),V.sl 4 (rowsOf encT28 x.Item_Items),V.p (Value.bool x.Open),V.p (Value.bool x.Close)]:=rfl
@[reducible] noncomputable def CV (k f:Nat) (args:List V) (exts:List O):Option (V×List O×List O):=callV Tryd.prog ctx hints k f args exts
@[reducible] noncomputable def EX (f k:Nat) (c:Code) (σ:St):Option (Out×St):=exec Tryd.prog (callV Tryd.prog ctx hints k) hints f k none c σ
@[reducible] noncomputable def EL (f k l:Nat) (c:Code) (σ:St):Option (Out×St):=exec Tryd.prog (callV Tryd.prog ctx hints k) hints f k (some l) c σ
@[reducible] noncomputable def SQ (f k:Nat) (b:Code) (r:Option (Out×St)):Option (Out×St):=seqK Tryd.prog (callV Tryd.prog ctx hints k) hints f k b r
@[reducible] noncomputable def LP (f k:Nat) (a:Code) (n:Nat) (σ:St):Option (Out×St):=loopK Tryd.prog (callV Tryd.prog ctx hints k) hints f k a n σ
@[reducible] noncomputable def JK (f k:Nat) (a:Code) (n:Nat) (r:Option (Out×St)):Option (Out×St):=jumpsK Tryd.prog (callV Tryd.prog ctx hints k) hints f k a n r
@[reducible] noncomputable def jI (x:Int):V:=.p (.int .i64 x)
@[reducible] noncomputable def jU (x:Int):V:=.p (.int .u32 x)
theorem EE:(type_of% @finK_norm)∧(type_of% @finK_ret)∧(type_of% @jI.eq_1)∧(type_of% @jU.eq_1)∧(type_of% @CV.eq_1)∧(type_of% @EX.eq_1)∧(type_of% @EL.eq_1)∧(type_of% @SQ.eq_1)∧(type_of% @LP.eq_1)∧(type_of% @JK.eq_1):=⟨@finK_norm,@finK_ret,@jI.eq_1,@jU.eq_1,@CV.eq_1,@EX.eq_1,@EL.eq_1,@SQ.eq_1,@LP.eq_1,@JK.eq_1⟩
noncomputable def B4:Code:=(Tryd.f4.body).getD .skip
theorem fin4:Tryd.f4.results.toList=[ResultVar.tmp 6]:=rfl
noncomputable def B9:Code:=(Tryd.f9.body).getD .skip
theorem fin9:Tryd.f9.results.toList=[ResultVar.cell 2 28]:=rfl
noncomputable def B11:Code:=(Tryd.f11.body).getD .skip
theorem fin11:Tryd.f11.results.toList=[ResultVar.tmp 4]:=rfl
noncomputable def B14:Code:=(Tryd.f14.body).getD .skip
theorem fin14:Tryd.f14.results.toList=[ResultVar.tmp 4]:=rfl
noncomputable def B16:Code:=(Tryd.f16.body).getD .skip
theorem fin16:Tryd.f16.results.toList=[ResultVar.cell 2 28]:=rfl
noncomputable def B17:Code:=(Tryd.f17.body).getD .skip
theorem fin17:Tryd.f17.results.toList=[ResultVar.cell 2 28]:=rfl
noncomputable def B18:Code:=(Tryd.f18.body).getD .skip
theorem fin18:Tryd.f18.results.toList=[ResultVar.cell 2 28]:=rfl
noncomputable def B19:Code:=(Tryd.f19.body).getD .skip
theorem fin19:Tryd.f19.results.toList=[ResultVar.tmp 4]:=rfl
noncomputable def B21:Code:=(Tryd.f21.body).getD .skip
theorem fin21:Tryd.f21.results.toList=[ResultVar.tmp 4]:=rfl
noncomputable def B23:Code:=(Tryd.f23.body).getD .skip
theorem fin23:Tryd.f23.results.toList=[ResultVar.tmp 6]:=rfl
noncomputable def B29:Code:=(Tryd.f29.body).getD .skip
theorem fin29:Tryd.f29.results.toList=[ResultVar.cell 2 28]:=rfl
noncomputable def B33:Code:=(Tryd.f33.body).getD .skip
theorem fin33:Tryd.f33.results.toList=[ResultVar.tmp 4]:=rfl
theorem rg (B:Code) (p:List Nat) (n:Nat) (b:Bool) {o:Array Oper} (h:nav B p=.region n o b):nav B p=.region n o b:=h
theorem bs {α β:Type} {x:Option α} {f:α→Option β} {b:β} (h:x.bind f=some b):∃ a,x=some a∧f a=some b:=Option.bind_eq_some_iff.1 h
end Go.Proofs.YtlelaenalbkbmaaDoorV