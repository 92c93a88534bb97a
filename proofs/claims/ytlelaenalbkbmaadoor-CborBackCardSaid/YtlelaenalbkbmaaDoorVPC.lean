/- The kinds of data,and the code's parts by names. -/
import Derived.Test.YtlelaenalbkbmaaDoorHVi26
import Derived.Test.YtlelaenalbkbmaaDoorHViH
namespace Go.Proofs.YtlelaenalbkbmaaDoorV
open Go
set_option linter.unusedVariables false
set_option linter.unusedSimpArgs false
set_option maxRecDepth 8000
set_option maxHeartbeats 4000000
structure T28 where
 Kind:Int
 Num:Int
 Bytes:List Int
 Items:List T28
mutual
noncomputable def encT28:T28→List V
 | ⟨Kind,Num,Bytes,Items⟩=>[V.p (Value.int .i64 Kind),V.p (Value.int .u64 Num),V.sl 1 (rowsOf (encI .u8) Bytes),V.sl 4 (encT28L Items)]
noncomputable def encT28L:List T28→List (List V)
 | []=>[]
 | x::r=>encT28 x::encT28L r
end
theorem encT28L_eq:∀ l:List T28,encT28L l=rowsOf encT28 l
 | []=>by rw [encT28L];rfl
 | x::r=>by rw [encT28L,encT28L_eq r];rfl
theorem encT28_eq {x:T28}:encT28 x=[V.p (Value.int .i64 x.Kind),V.p (Value.int .u64 x.Num),V.sl 1 (rowsOf (encI .u8) x.Bytes),V.sl 4 (rowsOf encT28 x.Items)]:=by cases x;rw [encT28,encT28L_eq]
structure T49 where
 Item_Kind:Int
 Item_Num:Int
 Item_Bytes:List Int
 Item_Items:List T28
 Open:Bool
 Close:Bool
noncomputable def encT49 (x:T49):List V:=[V.p (Value.int .i64 x.Item_Kind),V.p (Value.int .u64 x.Item_Num),V.sl 1 (rowsOf (encI .u8) x.Item_Bytes),V.sl 4 (rowsOf encT28 x.Item_Items),V.p (Value.bool x.Open),V.p (Value.bool x.Close)]
theorem encT49_eq {x:T49}:encT49 x=[V.p (Value.int .i64 x.Item_Kind),V.p (Value.int .u64 x.Item_Num),V.sl 1 (rowsOf (encI .u8) x.Item_Bytes),V.sl 4 (rowsOf encT28 x.Item_Items),V.p (Value.bool x.Open),V.p (Value.bool x.Close)]:=rfl
@[reducible] noncomputable def CV (k f:Nat) (args:List V) (exts:List O):Option (V×List O×List O):=callV Tryd.prog ctx hints k f args exts
@[reducible] noncomputable def EX (f k:Nat) (c:Code) (σ:St):Option (Out×St):=exec Tryd.prog (callV Tryd.prog ctx hints k) hints f k none c σ
@[reducible] noncomputable def EL (f k l:Nat) (c:Code) (σ:St):Option (Out×St):=exec Tryd.prog (callV Tryd.prog ctx hints k) hints f k (some l) c σ
@[reducible] noncomputable def SQ (f k:Nat) (b:Code) (r:Option (Out×St)):Option (Out×St):=seqK Tryd.prog (callV Tryd.prog ctx hints k) hints f k b r
@[reducible] noncomputable def LP (f k:Nat) (a:Code) (n:Nat) (σ:St):Option (Out×St):=loopK Tryd.prog (callV Tryd.prog ctx hints k) hints f k a n σ
@[reducible] noncomputable def JK (f k:Nat) (a:Code) (n:Nat) (r:Option (Out×St)):Option (Out×St):=jumpsK Tryd.prog (callV Tryd.prog ctx hints k) hints f k a n r
@[reducible] noncomputable def jI (x:Int):V:=.p (.int .i64 x)
@[reducible] noncomputable def jU (x:Int):V:=.p (.int .u32 x)
theorem EE:(type_of% @finK_norm)∧(type_of% @finK_ret)∧(type_of% @jI.eq_1)∧(type_of% @jU.eq_1)∧(type_of% @CV.eq_1)∧(type_of% @EX.eq_1)∧(type_of% @EL.eq_1)∧(type_of% @SQ.eq_1)∧(type_of% @LP.eq_1)∧(type_of% @JK.eq_1):=⟨@finK_norm,@finK_ret,@jI.eq_1,@jU.eq_1,@CV.eq_1,@EX.eq_1,@EL.eq_1,@SQ.eq_1,@LP.eq_1,@JK.eq_1⟩
noncomputable def B5:Code:=(Tryd.f5.body).getD .skip
theorem fin5:Tryd.f5.results.toList=[ResultVar.tmp 6]:=rfl
noncomputable def B9:Code:=(Tryd.f9.body).getD .skip
theorem fin9:Tryd.f9.results.toList=[ResultVar.cell 2 28]:=rfl
noncomputable def B10:Code:=(Tryd.f10.body).getD .skip
theorem fin10:Tryd.f10.results.toList=[ResultVar.tmp 2,ResultVar.tmp 3]:=rfl
noncomputable def B11:Code:=(Tryd.f11.body).getD .skip
theorem fin11:Tryd.f11.results.toList=[ResultVar.tmp 4]:=rfl
noncomputable def B13:Code:=(Tryd.f13.body).getD .skip
theorem fin13:Tryd.f13.results.toList=[ResultVar.tmp 2]:=rfl
noncomputable def B20:Code:=(Tryd.f20.body).getD .skip
theorem fin20:Tryd.f20.results.toList=[ResultVar.cell 2 28,ResultVar.tmp 3,ResultVar.tmp 4]:=rfl
noncomputable def B21:Code:=(Tryd.f21.body).getD .skip
theorem fin21:Tryd.f21.results.toList=[ResultVar.tmp 4]:=rfl
noncomputable def B22:Code:=(Tryd.f22.body).getD .skip
theorem fin22:Tryd.f22.results.toList=[ResultVar.tmp 4]:=rfl
noncomputable def B23:Code:=(Tryd.f23.body).getD .skip
theorem fin23:Tryd.f23.results.toList=[ResultVar.tmp 6]:=rfl
noncomputable def B25:Code:=(Tryd.f25.body).getD .skip
theorem fin25:Tryd.f25.results.toList=[ResultVar.tmp 4]:=rfl
noncomputable def B30:Code:=(Tryd.f30.body).getD .skip
theorem fin30:Tryd.f30.results.toList=[ResultVar.tmp 2]:=rfl
noncomputable def B31:Code:=(Tryd.f31.body).getD .skip
theorem y31_2_1_0 {call:CallF} {k:Nat} {σ:St}:exec Tryd.prog call hints 31 k (some 0) (nav B31 [1,2]) σ=seqK Tryd.prog call hints 31 k (nav B31 [2,2,2,2,2,2,2,2,2,2,2,2,2,2,1,2]) (some (.norm,σ)):=by rw [show (nav B31 [1,2])=Code.seq (nav B31 [1,1,2]) (nav B31 [2,1,2]) from rfl,ev_lab_right (by kernel_rfl),show (nav B31 [2,1,2])=Code.seq (nav B31 [1,2,1,2]) (nav B31 [2,2,1,2]) from rfl,ev_lab_right (by kernel_rfl),show (nav B31 [2,2,1,2])=Code.seq (nav B31 [1,2,2,1,2]) (nav B31 [2,2,2,1,2]) from rfl,ev_lab_right (by kernel_rfl),show (nav B31 [2,2,2,1,2])=Code.seq (nav B31 [1,2,2,2,1,2]) (nav B31 [2,2,2,2,1,2]) from rfl,ev_lab_right (by kernel_rfl),show (nav B31 [2,2,2,2,1,2])=Code.seq (nav B31 [1,2,2,2,2,1,2]) (nav B31 [2,2,2,2,2,1,2]) from rfl,ev_lab_right (by kernel_rfl),show (nav B31 [2,2,2,2,2,1,2])=Code.seq (nav B31 [1,2,2,2,2,2,1,2]) (nav B31 [2,2,2,2,2,2,1,2]) from rfl,ev_lab_right (by kernel_rfl),show (nav B31 [2,2,2,2,2,2,1,2])=Code.seq (nav B31 [1,2,2,2,2,2,2,1,2]) (nav B31 [2,2,2,2,2,2,2,1,2]) from rfl,ev_lab_right (by kernel_rfl),show (nav B31 [2,2,2,2,2,2,2,1,2])=Code.seq (nav B31 [1,2,2,2,2,2,2,2,1,2]) (nav B31 [2,2,2,2,2,2,2,2,1,2]) from rfl,ev_lab_right (by kernel_rfl),show (nav B31 [2,2,2,2,2,2,2,2,1,2])=Code.seq (nav B31 [1,2,2,2,2,2,2,2,2,1,2]) (nav B31 [2,2,2,2,2,2,2,2,2,1,2]) from rfl,ev_lab_right (by kernel_rfl),show (nav B31 [2,2,2,2,2,2,2,2,2,1,2])=Code.seq (nav B31 [1,2,2,2,2,2,2,2,2,2,1,2]) (nav B31 [2,2,2,2,2,2,2,2,2,2,1,2]) from rfl,ev_lab_right (by kernel_rfl),show (nav B31 [2,2,2,2,2,2,2,2,2,2,1,2])=Code.seq (nav B31 [1,2,2,2,2,2,2,2,2,2,2,1,2]) (nav B31 [2,2,2,2,2,2,2,2,2,2,2,1,2]) from rfl,ev_lab_right (by kernel_rfl),show (nav B31 [2,2,2,2,2,2,2,2,2,2,2,1,2])=Code.seq (nav B31 [1,2,2,2,2,2,2,2,2,2,2,2,1,2]) (nav B31 [2,2,2,2,2,2,2,2,2,2,2,2,1,2]) from rfl,ev_lab_right (by kernel_rfl),show (nav B31 [2,2,2,2,2,2,2,2,2,2,2,2,1,2])=Code.seq (nav B31 [1,2,2,2,2,2,2,2,2,2,2,2,2,1,2]) (nav B31 [2,2,2,2,2,2,2,2,2,2,2,2,2,1,2]) from rfl,ev_lab_right (by kernel_rfl),show (nav B31 [2,2,2,2,2,2,2,2,2,2,2,2,2,1,2])=Code.seq (nav B31 [1,2,2,2,2,2,2,2,2,2,2,2,2,2,1,2]) (nav B31 [2,2,2,2,2,2,2,2,2,2,2,2,2,2,1,2]) from rfl,ev_lab_left (by kernel_rfl),show (nav B31 [1,2,2,2,2,2,2,2,2,2,2,2,2,2,1,2])=Code.label 0 from rfl,ev_lab]
theorem y31_2_1_1 {call:CallF} {k:Nat} {σ:St}:exec Tryd.prog call hints 31 k (some 1) (nav B31 [1,2]) σ=seqK Tryd.prog call hints 31 k (nav B31 [2,2,2,2,2,2,2,2,2,2,2,2,2,2,2,2,1,2]) (some (.norm,σ)):=by rw [show (nav B31 [1,2])=Code.seq (nav B31 [1,1,2]) (nav B31 [2,1,2]) from rfl,ev_lab_right (by kernel_rfl),show (nav B31 [2,1,2])=Code.seq (nav B31 [1,2,1,2]) (nav B31 [2,2,1,2]) from rfl,ev_lab_right (by kernel_rfl),show (nav B31 [2,2,1,2])=Code.seq (nav B31 [1,2,2,1,2]) (nav B31 [2,2,2,1,2]) from rfl,ev_lab_right (by kernel_rfl),show (nav B31 [2,2,2,1,2])=Code.seq (nav B31 [1,2,2,2,1,2]) (nav B31 [2,2,2,2,1,2]) from rfl,ev_lab_right (by kernel_rfl),show (nav B31 [2,2,2,2,1,2])=Code.seq (nav B31 [1,2,2,2,2,1,2]) (nav B31 [2,2,2,2,2,1,2]) from rfl,ev_lab_right (by kernel_rfl),show (nav B31 [2,2,2,2,2,1,2])=Code.seq (nav B31 [1,2,2,2,2,2,1,2]) (nav B31 [2,2,2,2,2,2,1,2]) from rfl,ev_lab_right (by kernel_rfl),show (nav B31 [2,2,2,2,2,2,1,2])=Code.seq (nav B31 [1,2,2,2,2,2,2,1,2]) (nav B31 [2,2,2,2,2,2,2,1,2]) from rfl,ev_lab_right (by kernel_rfl),show (nav B31 [2,2,2,2,2,2,2,1,2])=Code.seq (nav B31 [1,2,2,2,2,2,2,2,1,2]) (nav B31 [2,2,2,2,2,2,2,2,1,2]) from rfl,ev_lab_right (by kernel_rfl),show (nav B31 [2,2,2,2,2,2,2,2,1,2])=Code.seq (nav B31 [1,2,2,2,2,2,2,2,2,1,2]) (nav B31 [2,2,2,2,2,2,2,2,2,1,2]) from rfl,ev_lab_right (by kernel_rfl),show (nav B31 [2,2,2,2,2,2,2,2,2,1,2])=Code.seq (nav B31 [1,2,2,2,2,2,2,2,2,2,1,2]) (nav B31 [2,2,2,2,2,2,2,2,2,2,1,2]) from rfl,ev_lab_right (by kernel_rfl),show (nav B31 [2,2,2,2,2,2,2,2,2,2,1,2])=Code.seq (nav B31 [1,2,2,2,2,2,2,2,2,2,2,1,2]) (nav B31 [2,2,2,2,2,2,2,2,2,2,2,1,2]) from rfl,ev_lab_right (by kernel_rfl),show (nav B31 [2,2,2,2,2,2,2,2,2,2,2,1,2])=Code.seq (nav B31 [1,2,2,2,2,2,2,2,2,2,2,2,1,2]) (nav B31 [2,2,2,2,2,2,2,2,2,2,2,2,1,2]) from rfl,ev_lab_right (by kernel_rfl),show (nav B31 [2,2,2,2,2,2,2,2,2,2,2,2,1,2])=Code.seq (nav B31 [1,2,2,2,2,2,2,2,2,2,2,2,2,1,2]) (nav B31 [2,2,2,2,2,2,2,2,2,2,2,2,2,1,2]) from rfl,ev_lab_right (by kernel_rfl),show (nav B31 [2,2,2,2,2,2,2,2,2,2,2,2,2,1,2])=Code.seq (nav B31 [1,2,2,2,2,2,2,2,2,2,2,2,2,2,1,2]) (nav B31 [2,2,2,2,2,2,2,2,2,2,2,2,2,2,1,2]) from rfl,ev_lab_right (by kernel_rfl),show (nav B31 [2,2,2,2,2,2,2,2,2,2,2,2,2,2,1,2])=Code.seq (nav B31 [1,2,2,2,2,2,2,2,2,2,2,2,2,2,2,1,2]) (nav B31 [2,2,2,2,2,2,2,2,2,2,2,2,2,2,2,1,2]) from rfl,ev_lab_right (by kernel_rfl),show (nav B31 [2,2,2,2,2,2,2,2,2,2,2,2,2,2,2,1,2])=Code.seq (nav B31 [1,2,2,2,2,2,2,2,2,2,2,2,2,2,2,2,1,2]) (nav B31 [2,2,2,2,2,2,2,2,2,2,2,2,2,2,2,2,1,2]) from rfl,ev_lab_left (by kernel_rfl),show (nav B31 [1,2,2,2,2,2,2,2,2,2,2,2,2,2,2,2,1,2])=Code.label 1 from rfl,ev_lab]
theorem fin31:Tryd.f31.results.toList=[ResultVar.cell 4 28,ResultVar.tmp 5]:=rfl
noncomputable def B32:Code:=(Tryd.f32.body).getD .skip
theorem fin32:Tryd.f32.results.toList=[ResultVar.tmp 2]:=rfl
noncomputable def B33:Code:=(Tryd.f33.body).getD .skip
theorem fin33:Tryd.f33.results.toList=[ResultVar.tmp 4]:=rfl
noncomputable def B34:Code:=(Tryd.f34.body).getD .skip
theorem fin34:Tryd.f34.results.toList=[ResultVar.tmp 2]:=rfl
noncomputable def B35:Code:=(Tryd.f35.body).getD .skip
theorem fin35:Tryd.f35.results.toList=[ResultVar.tmp 6]:=rfl
noncomputable def B37:Code:=(Tryd.f37.body).getD .skip
theorem fin37:Tryd.f37.results.toList=[ResultVar.tmp 2]:=rfl
noncomputable def B38:Code:=(Tryd.f38.body).getD .skip
theorem fin38:Tryd.f38.results.toList=[ResultVar.tmp 2]:=rfl
noncomputable def B40:Code:=(Tryd.f40.body).getD .skip
theorem fin40:Tryd.f40.results.toList=[ResultVar.tmp 2]:=rfl
noncomputable def B41:Code:=(Tryd.f41.body).getD .skip
theorem fin41:Tryd.f41.results.toList=[ResultVar.tmp 2]:=rfl
noncomputable def B42:Code:=(Tryd.f42.body).getD .skip
theorem fin42:Tryd.f42.results.toList=[ResultVar.tmp 4]:=rfl
noncomputable def B43:Code:=(Tryd.f43.body).getD .skip
theorem fin43:Tryd.f43.results.toList=[ResultVar.tmp 4]:=rfl
noncomputable def B44:Code:=(Tryd.f44.body).getD .skip
theorem fin44:Tryd.f44.results.toList=[ResultVar.tmp 4]:=rfl
noncomputable def B45:Code:=(Tryd.f45.body).getD .skip
theorem fin45:Tryd.f45.results.toList=[ResultVar.tmp 4]:=rfl
noncomputable def B46:Code:=(Tryd.f46.body).getD .skip
theorem fin46:Tryd.f46.results.toList=[ResultVar.tmp 4]:=rfl
noncomputable def B47:Code:=(Tryd.f47.body).getD .skip
theorem fin47:Tryd.f47.results.toList=[ResultVar.tmp 2]:=rfl
noncomputable def B48:Code:=(Tryd.f48.body).getD .skip
theorem fin48:Tryd.f48.results.toList=[ResultVar.tmp 4]:=rfl
noncomputable def B49:Code:=(Tryd.f49.body).getD .skip
theorem fin49:Tryd.f49.results.toList=[ResultVar.tmp 4]:=rfl
noncomputable def B50:Code:=(Tryd.f50.body).getD .skip
theorem fin50:Tryd.f50.results.toList=[ResultVar.tmp 6]:=rfl
theorem rg (B:Code) (p:List Nat) (n:Nat) (b:Bool) {o:Array Oper} (h:nav B p=.region n o b):nav B p=.region n o b:=h
theorem bs {α β:Type} {x:Option α} {f:α→Option β} {b:β} (h:x.bind f=some b):∃ a,x=some a∧f a=some b:=Option.bind_eq_some_iff.1 h
end Go.Proofs.YtlelaenalbkbmaaDoorV