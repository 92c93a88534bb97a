/- The kinds of data,and the code's parts by names. -/
import Derived.Test.YtbnnmplkbpgcaaaDoorHVi26
import Derived.Test.YtbnnmplkbpgcaaaDoorHViH
namespace Go.Proofs.YtbnnmplkbpgcaaaDoorV
open Go
set_option linter.unusedVariables false
set_option linter.unusedSimpArgs false
set_option maxRecDepth 8000
set_option maxHeartbeats 4000000
structure T50 where
 Kind:Int
 Num:Int
 Bytes:List Int
 Items:List T50
mutual
noncomputable def encT50:T50→List V
 | ⟨Kind,Num,Bytes,Items⟩=>[V.p (Value.int .i64 Kind),V.p (Value.int .u64 Num),V.sl 1 (rowsOf (encI .u8) Bytes),V.sl 4 (encT50L Items)]
noncomputable def encT50L:List T50→List (List V)
 | []=>[]
 | x::r=>encT50 x::encT50L r
end
theorem encT50L_eq:∀ l:List T50,encT50L l=rowsOf encT50 l
 | []=>by rw [encT50L];rfl
 | x::r=>by rw [encT50L,encT50L_eq r];rfl
theorem encT50_eq {x:T50}:encT50 x=[V.p (Value.int .i64 x.Kind),V.p (Value.int .u64 x.Num),V.sl 1 (rowsOf (encI .u8) x.Bytes),V.sl 4 (rowsOf encT50 x.Items)]:=by cases x;rw [encT50,encT50L_eq]
@[reducible] noncomputable def CV (k f:Nat) (args:List V) (exts:List O):Option (V×List O×List O):=callV Tryd.prog ctx hints k f args exts
@[reducible] noncomputable def EX (f k:Nat) (c:Code) (σ:St):Option (Out×St):=exec Tryd.prog (callV Tryd.prog ctx hints k) hints f k none c σ
@[reducible] noncomputable def EL (f k l:Nat) (c:Code) (σ:St):Option (Out×St):=exec Tryd.prog (callV Tryd.prog ctx hints k) hints f k (some l) c σ
@[reducible] noncomputable def SQ (f k:Nat) (b:Code) (r:Option (Out×St)):Option (Out×St):=seqK Tryd.prog (callV Tryd.prog ctx hints k) hints f k b r
@[reducible] noncomputable def LP (f k:Nat) (a:Code) (n:Nat) (σ:St):Option (Out×St):=loopK Tryd.prog (callV Tryd.prog ctx hints k) hints f k a n σ
@[reducible] noncomputable def JK (f k:Nat) (a:Code) (n:Nat) (r:Option (Out×St)):Option (Out×St):=jumpsK Tryd.prog (callV Tryd.prog ctx hints k) hints f k a n r
@[reducible] noncomputable def jI (x:Int):V:=.p (.int .i64 x)
@[reducible] noncomputable def jU (x:Int):V:=.p (.int .u32 x)
@[reducible] noncomputable def jB (x:List Int):V:=.sl 1 (rowsOf (encI .u8) x)
@[reducible] noncomputable def jL (x:Int):V:=.p (.int .u64 x)
@[reducible] noncomputable def jT (x:Bool):V:=.p (.bool x)
theorem EE:(type_of% @jB.eq_1)∧(type_of% @jL.eq_1)∧(type_of% @jT.eq_1)∧(type_of% @finK_norm)∧(type_of% @finK_ret)∧(type_of% @jI.eq_1)∧(type_of% @jU.eq_1)∧(type_of% @CV.eq_1)∧(type_of% @EX.eq_1)∧(type_of% @EL.eq_1)∧(type_of% @SQ.eq_1)∧(type_of% @LP.eq_1)∧(type_of% @JK.eq_1):=⟨@jB.eq_1,@jL.eq_1,@jT.eq_1,@finK_norm,@finK_ret,@jI.eq_1,@jU.eq_1,@CV.eq_1,@EX.eq_1,@EL.eq_1,@SQ.eq_1,@LP.eq_1,@JK.eq_1⟩
theorem W:(type_of% E)∧(type_of% EE):=⟨E,EE⟩
noncomputable def B3:Code:=(Tryd.f3.body).getD .skip
theorem fin3:Tryd.f3.results.toList=[ResultVar.tmp 2]:=rfl
noncomputable def B10:Code:=(Tryd.f10.body).getD .skip
theorem fin10:Tryd.f10.results.toList=[ResultVar.cell 2 26,ResultVar.tmp 3]:=rfl
noncomputable def B11:Code:=(Tryd.f11.body).getD .skip
theorem fin11:Tryd.f11.results.toList=[ResultVar.cell 2 26,ResultVar.tmp 3]:=rfl
noncomputable def B12:Code:=(Tryd.f12.body).getD .skip
theorem fin12:Tryd.f12.results.toList=[ResultVar.tmp 4]:=rfl
noncomputable def B14:Code:=(Tryd.f14.body).getD .skip
theorem fin14:Tryd.f14.results.toList=[ResultVar.tmp 2,ResultVar.tmp 3]:=rfl
noncomputable def B15:Code:=(Tryd.f15.body).getD .skip
theorem fin15:Tryd.f15.results.toList=[ResultVar.tmp 2]:=rfl
noncomputable def B16:Code:=(Tryd.f16.body).getD .skip
theorem fin16:Tryd.f16.results.toList=[ResultVar.tmp 2]:=rfl
noncomputable def B18:Code:=(Tryd.f18.body).getD .skip
theorem fin18:Tryd.f18.results.toList=[ResultVar.tmp 2]:=rfl
noncomputable def B19:Code:=(Tryd.f19.body).getD .skip
theorem fin19:Tryd.f19.results.toList=[ResultVar.tmp 4]:=rfl
noncomputable def B21:Code:=(Tryd.f21.body).getD .skip
theorem fin21:Tryd.f21.results.toList=[ResultVar.tmp 4]:=rfl
noncomputable def B26:Code:=(Tryd.f26.body).getD .skip
theorem fin26:Tryd.f26.results.toList=[ResultVar.cell 2 50,ResultVar.tmp 3,ResultVar.tmp 4]:=rfl
noncomputable def B27:Code:=(Tryd.f27.body).getD .skip
theorem fin27:Tryd.f27.results.toList=[ResultVar.tmp 2,ResultVar.tmp 3]:=rfl
noncomputable def B28:Code:=(Tryd.f28.body).getD .skip
theorem fin28:Tryd.f28.results.toList=[ResultVar.tmp 2,ResultVar.tmp 3]:=rfl
noncomputable def B29:Code:=(Tryd.f29.body).getD .skip
theorem fin29:Tryd.f29.results.toList=[ResultVar.cell 4 50,ResultVar.tmp 5,ResultVar.tmp 6]:=rfl
noncomputable def B30:Code:=(Tryd.f30.body).getD .skip
theorem fin30:Tryd.f30.results.toList=[ResultVar.tmp 4]:=rfl
noncomputable def B31:Code:=(Tryd.f31.body).getD .skip
theorem fin31:Tryd.f31.results.toList=[ResultVar.tmp 2,ResultVar.tmp 3]:=rfl
noncomputable def B32:Code:=(Tryd.f32.body).getD .skip
theorem fin32:Tryd.f32.results.toList=[ResultVar.cell 2 50]:=rfl
noncomputable def B33:Code:=(Tryd.f33.body).getD .skip
theorem fin33:Tryd.f33.results.toList=[ResultVar.cell 2 50]:=rfl
noncomputable def B34:Code:=(Tryd.f34.body).getD .skip
theorem fin34:Tryd.f34.results.toList=[ResultVar.cell 2 50]:=rfl
noncomputable def B35:Code:=(Tryd.f35.body).getD .skip
theorem fin35:Tryd.f35.results.toList=[ResultVar.tmp 2]:=rfl
noncomputable def B36:Code:=(Tryd.f36.body).getD .skip
theorem fin36:Tryd.f36.results.toList=[ResultVar.cell 2 50]:=rfl
noncomputable def B37:Code:=(Tryd.f37.body).getD .skip
theorem fin37:Tryd.f37.results.toList=[ResultVar.tmp 2]:=rfl
noncomputable def B38:Code:=(Tryd.f38.body).getD .skip
theorem fin38:Tryd.f38.results.toList=[ResultVar.tmp 6]:=rfl
noncomputable def B39:Code:=(Tryd.f39.body).getD .skip
theorem fin39:Tryd.f39.results.toList=[ResultVar.tmp 4]:=rfl
noncomputable def B40:Code:=(Tryd.f40.body).getD .skip
theorem fin40:Tryd.f40.results.toList=[ResultVar.tmp 4]:=rfl
noncomputable def B41:Code:=(Tryd.f41.body).getD .skip
theorem fin41:Tryd.f41.results.toList=[ResultVar.tmp 4]:=rfl
noncomputable def B43:Code:=(Tryd.f43.body).getD .skip
theorem fin43:Tryd.f43.results.toList=[ResultVar.tmp 4]:=rfl
noncomputable def B44:Code:=(Tryd.f44.body).getD .skip
theorem fin44:Tryd.f44.results.toList=[ResultVar.tmp 2]:=rfl
noncomputable def B45:Code:=(Tryd.f45.body).getD .skip
theorem y45_2_1_0 {call:CallF} {k:Nat} {σ:St}:exec Tryd.prog call hints 45 k (some 0) (nav B45 [1,2]) σ=seqK Tryd.prog call hints 45 k (nav B45 [2,2,2,2,2,2,2,2,2,2,2,2,2,2,1,2]) (some (.norm,σ)):=by rw [show (nav B45 [1,2])=Code.seq (nav B45 [1,1,2]) (nav B45 [2,1,2]) from rfl,ev_lab_right (by kernel_rfl),show (nav B45 [2,1,2])=Code.seq (nav B45 [1,2,1,2]) (nav B45 [2,2,1,2]) from rfl,ev_lab_right (by kernel_rfl),show (nav B45 [2,2,1,2])=Code.seq (nav B45 [1,2,2,1,2]) (nav B45 [2,2,2,1,2]) from rfl,ev_lab_right (by kernel_rfl),show (nav B45 [2,2,2,1,2])=Code.seq (nav B45 [1,2,2,2,1,2]) (nav B45 [2,2,2,2,1,2]) from rfl,ev_lab_right (by kernel_rfl),show (nav B45 [2,2,2,2,1,2])=Code.seq (nav B45 [1,2,2,2,2,1,2]) (nav B45 [2,2,2,2,2,1,2]) from rfl,ev_lab_right (by kernel_rfl),show (nav B45 [2,2,2,2,2,1,2])=Code.seq (nav B45 [1,2,2,2,2,2,1,2]) (nav B45 [2,2,2,2,2,2,1,2]) from rfl,ev_lab_right (by kernel_rfl),show (nav B45 [2,2,2,2,2,2,1,2])=Code.seq (nav B45 [1,2,2,2,2,2,2,1,2]) (nav B45 [2,2,2,2,2,2,2,1,2]) from rfl,ev_lab_right (by kernel_rfl),show (nav B45 [2,2,2,2,2,2,2,1,2])=Code.seq (nav B45 [1,2,2,2,2,2,2,2,1,2]) (nav B45 [2,2,2,2,2,2,2,2,1,2]) from rfl,ev_lab_right (by kernel_rfl),show (nav B45 [2,2,2,2,2,2,2,2,1,2])=Code.seq (nav B45 [1,2,2,2,2,2,2,2,2,1,2]) (nav B45 [2,2,2,2,2,2,2,2,2,1,2]) from rfl,ev_lab_right (by kernel_rfl),show (nav B45 [2,2,2,2,2,2,2,2,2,1,2])=Code.seq (nav B45 [1,2,2,2,2,2,2,2,2,2,1,2]) (nav B45 [2,2,2,2,2,2,2,2,2,2,1,2]) from rfl,ev_lab_right (by kernel_rfl),show (nav B45 [2,2,2,2,2,2,2,2,2,2,1,2])=Code.seq (nav B45 [1,2,2,2,2,2,2,2,2,2,2,1,2]) (nav B45 [2,2,2,2,2,2,2,2,2,2,2,1,2]) from rfl,ev_lab_right (by kernel_rfl),show (nav B45 [2,2,2,2,2,2,2,2,2,2,2,1,2])=Code.seq (nav B45 [1,2,2,2,2,2,2,2,2,2,2,2,1,2]) (nav B45 [2,2,2,2,2,2,2,2,2,2,2,2,1,2]) from rfl,ev_lab_right (by kernel_rfl),show (nav B45 [2,2,2,2,2,2,2,2,2,2,2,2,1,2])=Code.seq (nav B45 [1,2,2,2,2,2,2,2,2,2,2,2,2,1,2]) (nav B45 [2,2,2,2,2,2,2,2,2,2,2,2,2,1,2]) from rfl,ev_lab_right (by kernel_rfl),show (nav B45 [2,2,2,2,2,2,2,2,2,2,2,2,2,1,2])=Code.seq (nav B45 [1,2,2,2,2,2,2,2,2,2,2,2,2,2,1,2]) (nav B45 [2,2,2,2,2,2,2,2,2,2,2,2,2,2,1,2]) from rfl,ev_lab_left (by kernel_rfl),show (nav B45 [1,2,2,2,2,2,2,2,2,2,2,2,2,2,1,2])=Code.label 0 from rfl,ev_lab]
theorem y45_2_1_1 {call:CallF} {k:Nat} {σ:St}:exec Tryd.prog call hints 45 k (some 1) (nav B45 [1,2]) σ=seqK Tryd.prog call hints 45 k (nav B45 [2,2,2,2,2,2,2,2,2,2,2,2,2,2,2,2,1,2]) (some (.norm,σ)):=by rw [show (nav B45 [1,2])=Code.seq (nav B45 [1,1,2]) (nav B45 [2,1,2]) from rfl,ev_lab_right (by kernel_rfl),show (nav B45 [2,1,2])=Code.seq (nav B45 [1,2,1,2]) (nav B45 [2,2,1,2]) from rfl,ev_lab_right (by kernel_rfl),show (nav B45 [2,2,1,2])=Code.seq (nav B45 [1,2,2,1,2]) (nav B45 [2,2,2,1,2]) from rfl,ev_lab_right (by kernel_rfl),show (nav B45 [2,2,2,1,2])=Code.seq (nav B45 [1,2,2,2,1,2]) (nav B45 [2,2,2,2,1,2]) from rfl,ev_lab_right (by kernel_rfl),show (nav B45 [2,2,2,2,1,2])=Code.seq (nav B45 [1,2,2,2,2,1,2]) (nav B45 [2,2,2,2,2,1,2]) from rfl,ev_lab_right (by kernel_rfl),show (nav B45 [2,2,2,2,2,1,2])=Code.seq (nav B45 [1,2,2,2,2,2,1,2]) (nav B45 [2,2,2,2,2,2,1,2]) from rfl,ev_lab_right (by kernel_rfl),show (nav B45 [2,2,2,2,2,2,1,2])=Code.seq (nav B45 [1,2,2,2,2,2,2,1,2]) (nav B45 [2,2,2,2,2,2,2,1,2]) from rfl,ev_lab_right (by kernel_rfl),show (nav B45 [2,2,2,2,2,2,2,1,2])=Code.seq (nav B45 [1,2,2,2,2,2,2,2,1,2]) (nav B45 [2,2,2,2,2,2,2,2,1,2]) from rfl,ev_lab_right (by kernel_rfl),show (nav B45 [2,2,2,2,2,2,2,2,1,2])=Code.seq (nav B45 [1,2,2,2,2,2,2,2,2,1,2]) (nav B45 [2,2,2,2,2,2,2,2,2,1,2]) from rfl,ev_lab_right (by kernel_rfl),show (nav B45 [2,2,2,2,2,2,2,2,2,1,2])=Code.seq (nav B45 [1,2,2,2,2,2,2,2,2,2,1,2]) (nav B45 [2,2,2,2,2,2,2,2,2,2,1,2]) from rfl,ev_lab_right (by kernel_rfl),show (nav B45 [2,2,2,2,2,2,2,2,2,2,1,2])=Code.seq (nav B45 [1,2,2,2,2,2,2,2,2,2,2,1,2]) (nav B45 [2,2,2,2,2,2,2,2,2,2,2,1,2]) from rfl,ev_lab_right (by kernel_rfl),show (nav B45 [2,2,2,2,2,2,2,2,2,2,2,1,2])=Code.seq (nav B45 [1,2,2,2,2,2,2,2,2,2,2,2,1,2]) (nav B45 [2,2,2,2,2,2,2,2,2,2,2,2,1,2]) from rfl,ev_lab_right (by kernel_rfl),show (nav B45 [2,2,2,2,2,2,2,2,2,2,2,2,1,2])=Code.seq (nav B45 [1,2,2,2,2,2,2,2,2,2,2,2,2,1,2]) (nav B45 [2,2,2,2,2,2,2,2,2,2,2,2,2,1,2]) from rfl,ev_lab_right (by kernel_rfl),show (nav B45 [2,2,2,2,2,2,2,2,2,2,2,2,2,1,2])=Code.seq (nav B45 [1,2,2,2,2,2,2,2,2,2,2,2,2,2,1,2]) (nav B45 [2,2,2,2,2,2,2,2,2,2,2,2,2,2,1,2]) from rfl,ev_lab_right (by kernel_rfl),show (nav B45 [2,2,2,2,2,2,2,2,2,2,2,2,2,2,1,2])=Code.seq (nav B45 [1,2,2,2,2,2,2,2,2,2,2,2,2,2,2,1,2]) (nav B45 [2,2,2,2,2,2,2,2,2,2,2,2,2,2,2,1,2]) from rfl,ev_lab_right (by kernel_rfl),show (nav B45 [2,2,2,2,2,2,2,2,2,2,2,2,2,2,2,1,2])=Code.seq (nav B45 [1,2,2,2,2,2,2,2,2,2,2,2,2,2,2,2,1,2]) (nav B45 [2,2,2,2,2,2,2,2,2,2,2,2,2,2,2,2,1,2]) from rfl,ev_lab_left (by kernel_rfl),show (nav B45 [1,2,2,2,2,2,2,2,2,2,2,2,2,2,2,2,1,2])=Code.label 1 from rfl,ev_lab]
theorem fin45:Tryd.f45.results.toList=[ResultVar.cell 4 50,ResultVar.tmp 5]:=rfl
noncomputable def B46:Code:=(Tryd.f46.body).getD .skip
theorem fin46:Tryd.f46.results.toList=[ResultVar.tmp 2]:=rfl
noncomputable def B47:Code:=(Tryd.f47.body).getD .skip
theorem fin47:Tryd.f47.results.toList=[ResultVar.tmp 6,ResultVar.tmp 7]:=rfl
noncomputable def B48:Code:=(Tryd.f48.body).getD .skip
theorem fin48:Tryd.f48.results.toList=[ResultVar.tmp 2]:=rfl
noncomputable def B49:Code:=(Tryd.f49.body).getD .skip
theorem fin49:Tryd.f49.results.toList=[ResultVar.tmp 2]:=rfl
noncomputable def B50:Code:=(Tryd.f50.body).getD .skip
theorem fin50:Tryd.f50.results.toList=[ResultVar.tmp 2]:=rfl
noncomputable def B51:Code:=(Tryd.f51.body).getD .skip
theorem fin51:Tryd.f51.results.toList=[ResultVar.tmp 4]:=rfl
noncomputable def B52:Code:=(Tryd.f52.body).getD .skip
theorem fin52:Tryd.f52.results.toList=[ResultVar.cell 2 50]:=rfl
noncomputable def B54:Code:=(Tryd.f54.body).getD .skip
theorem fin54:Tryd.f54.results.toList=[ResultVar.tmp 6]:=rfl
noncomputable def B55:Code:=(Tryd.f55.body).getD .skip
theorem fin55:Tryd.f55.results.toList=[ResultVar.tmp 2]:=rfl
noncomputable def B56:Code:=(Tryd.f56.body).getD .skip
theorem fin56:Tryd.f56.results.toList=[ResultVar.tmp 2]:=rfl
noncomputable def B57:Code:=(Tryd.f57.body).getD .skip
theorem fin57:Tryd.f57.results.toList=[ResultVar.tmp 4]:=rfl
noncomputable def B58:Code:=(Tryd.f58.body).getD .skip
theorem fin58:Tryd.f58.results.toList=[ResultVar.tmp 4]:=rfl
noncomputable def B60:Code:=(Tryd.f60.body).getD .skip
theorem fin60:Tryd.f60.results.toList=[ResultVar.tmp 2]:=rfl
noncomputable def B61:Code:=(Tryd.f61.body).getD .skip
theorem fin61:Tryd.f61.results.toList=[ResultVar.tmp 2]:=rfl
noncomputable def B62:Code:=(Tryd.f62.body).getD .skip
theorem fin62:Tryd.f62.results.toList=[ResultVar.tmp 4]:=rfl
noncomputable def B63:Code:=(Tryd.f63.body).getD .skip
theorem fin63:Tryd.f63.results.toList=[ResultVar.tmp 4]:=rfl
noncomputable def B64:Code:=(Tryd.f64.body).getD .skip
theorem fin64:Tryd.f64.results.toList=[ResultVar.tmp 2]:=rfl
noncomputable def B65:Code:=(Tryd.f65.body).getD .skip
theorem fin65:Tryd.f65.results.toList=[ResultVar.tmp 4]:=rfl
noncomputable def B66:Code:=(Tryd.f66.body).getD .skip
theorem fin66:Tryd.f66.results.toList=[ResultVar.tmp 2]:=rfl
noncomputable def B67:Code:=(Tryd.f67.body).getD .skip
theorem fin67:Tryd.f67.results.toList=[ResultVar.tmp 6]:=rfl
noncomputable def B68:Code:=(Tryd.f68.body).getD .skip
theorem fin68:Tryd.f68.results.toList=[ResultVar.tmp 4]:=rfl
noncomputable def B69:Code:=(Tryd.f69.body).getD .skip
theorem fin69:Tryd.f69.results.toList=[ResultVar.tmp 4]:=rfl
noncomputable def B70:Code:=(Tryd.f70.body).getD .skip
theorem fin70:Tryd.f70.results.toList=[ResultVar.tmp 4]:=rfl
noncomputable def B71:Code:=(Tryd.f71.body).getD .skip
theorem fin71:Tryd.f71.results.toList=[ResultVar.tmp 4]:=rfl
noncomputable def B72:Code:=(Tryd.f72.body).getD .skip
theorem fin72:Tryd.f72.results.toList=[ResultVar.tmp 2]:=rfl
noncomputable def B73:Code:=(Tryd.f73.body).getD .skip
theorem fin73:Tryd.f73.results.toList=[ResultVar.tmp 4]:=rfl
noncomputable def B74:Code:=(Tryd.f74.body).getD .skip
theorem fin74:Tryd.f74.results.toList=[ResultVar.tmp 4]:=rfl
noncomputable def B75:Code:=(Tryd.f75.body).getD .skip
theorem fin75:Tryd.f75.results.toList=[ResultVar.tmp 4]:=rfl
noncomputable def B76:Code:=(Tryd.f76.body).getD .skip
theorem fin76:Tryd.f76.results.toList=[ResultVar.tmp 6]:=rfl
theorem rg (B:Code) (p:List Nat) (n:Nat) (b:Bool) {o:Array Oper} (h:nav B p=.region n o b):nav B p=.region n o b:=h
theorem bs {α β:Type} {x:Option α} {f:α→Option β} {b:β} (h:x.bind f=some b):∃ a,x=some a∧f a=some b:=Option.bind_eq_some_iff.1 h
end Go.Proofs.YtbnnmplkbpgcaaaDoorV