/- The kinds of data,and the code's parts by names. -/
import Derived.Test.YticggdfaehneeaaHVi26
import Derived.Test.YticggdfaehneeaaHViH
namespace Go.Proofs.YticggdfaehneeaaV
open Go
set_option linter.unusedVariables false
set_option linter.unusedSimpArgs false
set_option maxRecDepth 8000
set_option maxHeartbeats 4000000
structure T65 where
 Key_Source:Int
 Key_Seq:Int
 Key_Offset:Int
 N:Int
 deriving DecidableEq
noncomputable def encT65 (x:T65):List V:=[V.p (Value.int .i64 x.Key_Source),V.p (Value.int .u32 x.Key_Seq),V.p (Value.int .i64 x.Key_Offset),V.p (Value.int .i64 x.N)]
theorem encT65_eq {x:T65}:encT65 x=[V.p (Value.int .i64 x.Key_Source),V.p (Value.int .u32 x.Key_Seq),V.p (Value.int .i64 x.Key_Offset),V.p (Value.int .i64 x.N)]:=rfl
structure T39 where
 Source:Int
 Dest:Int
 Seq:Int
 Created:Int
 Lifetime:Int
 HopLimit:Int
 Hops:Int
 Priority:Int
 Offset:Int
 Total:Int
 Payload:List Int
 deriving DecidableEq
noncomputable def encT39 (x:T39):List V:=[V.p (Value.int .i64 x.Source),V.p (Value.int .i64 x.Dest),V.p (Value.int .u32 x.Seq),V.p (Value.int .i64 x.Created),V.p (Value.int .i64 x.Lifetime),V.p (Value.int .i64 x.HopLimit),V.p (Value.int .i64 x.Hops),V.p (Value.int .i64 x.Priority),V.p (Value.int .i64 x.Offset),V.p (Value.int .i64 x.Total),V.sl 1 (rowsOf (encI .u8) x.Payload)]
theorem encT39_eq {x:T39}:encT39 x=[V.p (Value.int .i64 x.Source),V.p (Value.int .i64 x.Dest),V.p (Value.int .u32 x.Seq),V.p (Value.int .i64 x.Created),V.p (Value.int .i64 x.Lifetime),V.p (Value.int .i64 x.HopLimit),V.p (Value.int .i64 x.Hops),V.p (Value.int .i64 x.Priority),V.p (Value.int .i64 x.Offset),V.p (Value.int .i64 x.Total),V.sl 1 (rowsOf (encI .u8) x.Payload)]:=rfl
structure T104 where
 At:Int
 N:Int
 deriving DecidableEq
noncomputable def encT104 (x:T104):List V:=[V.p (Value.int .i64 x.At),V.p (Value.int .i64 x.N)]
theorem encT104_eq {x:T104}:encT104 x=[V.p (Value.int .i64 x.At),V.p (Value.int .i64 x.N)]:=rfl
@[reducible] noncomputable def CV (k f:Nat) (args:List V) (exts:List O):Option (V×List O×List O):=callV Try.prog ctx hints k f args exts
@[reducible] noncomputable def EX (f k:Nat) (c:Code) (σ:St):Option (Out×St):=exec Try.prog (callV Try.prog ctx hints k) hints f k none c σ
@[reducible] noncomputable def EL (f k l:Nat) (c:Code) (σ:St):Option (Out×St):=exec Try.prog (callV Try.prog ctx hints k) hints f k (some l) c σ
@[reducible] noncomputable def SQ (f k:Nat) (b:Code) (r:Option (Out×St)):Option (Out×St):=seqK Try.prog (callV Try.prog ctx hints k) hints f k b r
@[reducible] noncomputable def LP (f k:Nat) (a:Code) (n:Nat) (σ:St):Option (Out×St):=loopK Try.prog (callV Try.prog ctx hints k) hints f k a n σ
@[reducible] noncomputable def JK (f k:Nat) (a:Code) (n:Nat) (r:Option (Out×St)):Option (Out×St):=jumpsK Try.prog (callV Try.prog ctx hints k) hints f k a n r
@[reducible] noncomputable def jI (x:Int):V:=.p (.int .i64 x)
@[reducible] noncomputable def jU (x:Int):V:=.p (.int .u32 x)
theorem EE:(type_of% @finK_norm)∧(type_of% @finK_ret)∧(type_of% @jI.eq_1)∧(type_of% @jU.eq_1)∧(type_of% @CV.eq_1)∧(type_of% @EX.eq_1)∧(type_of% @EL.eq_1)∧(type_of% @SQ.eq_1)∧(type_of% @LP.eq_1)∧(type_of% @JK.eq_1):=⟨@finK_norm,@finK_ret,@jI.eq_1,@jU.eq_1,@CV.eq_1,@EX.eq_1,@EL.eq_1,@SQ.eq_1,@LP.eq_1,@JK.eq_1⟩
noncomputable def B4:Code:=(Try.f4.body).getD .skip
theorem fin4:Try.f4.results.toList=[ResultVar.tmp 6]:=rfl
noncomputable def B9:Code:=(Try.f9.body).getD .skip
theorem fin9:Try.f9.results.toList=[ResultVar.cell 8 26,ResultVar.tmp 9,ResultVar.tmp 10]:=rfl
noncomputable def B16:Code:=(Try.f16.body).getD .skip
theorem fin16:Try.f16.results.toList=[ResultVar.cell 2 26,ResultVar.tmp 3]:=rfl
noncomputable def B17:Code:=(Try.f17.body).getD .skip
theorem fin17:Try.f17.results.toList=[ResultVar.tmp 6]:=rfl
noncomputable def B18:Code:=(Try.f18.body).getD .skip
theorem fin18:Try.f18.results.toList=[ResultVar.cell 6 26,ResultVar.cell 7 48,ResultVar.tmp 8]:=rfl
noncomputable def B19:Code:=(Try.f19.body).getD .skip
theorem fin19:Try.f19.results.toList=[ResultVar.tmp 2]:=rfl
noncomputable def B20:Code:=(Try.f20.body).getD .skip
theorem fin20:Try.f20.results.toList=[ResultVar.tmp 4]:=rfl
noncomputable def B23:Code:=(Try.f23.body).getD .skip
theorem fin23:Try.f23.results.toList=[ResultVar.tmp 6]:=rfl
noncomputable def B24:Code:=(Try.f24.body).getD .skip
theorem fin24:Try.f24.results.toList=[ResultVar.tmp 2]:=rfl
noncomputable def B25:Code:=(Try.f25.body).getD .skip
theorem fin25:Try.f25.results.toList=[ResultVar.tmp 4,ResultVar.tmp 5]:=rfl
noncomputable def B26:Code:=(Try.f26.body).getD .skip
theorem fin26:Try.f26.results.toList=[ResultVar.cell 2 26]:=rfl
noncomputable def B32:Code:=(Try.f32.body).getD .skip
theorem fin32:Try.f32.results.toList=[ResultVar.cell 6 48]:=rfl
noncomputable def B33:Code:=(Try.f33.body).getD .skip
theorem fin33:Try.f33.results.toList=[ResultVar.tmp 4]:=rfl
noncomputable def B34:Code:=(Try.f34.body).getD .skip
theorem fin34:Try.f34.results.toList=[ResultVar.tmp 2]:=rfl
noncomputable def B35:Code:=(Try.f35.body).getD .skip
theorem fin35:Try.f35.results.toList=[ResultVar.tmp 2,ResultVar.tmp 3]:=rfl
noncomputable def B36:Code:=(Try.f36.body).getD .skip
theorem fin36:Try.f36.results.toList=[ResultVar.tmp 4]:=rfl
noncomputable def B37:Code:=(Try.f37.body).getD .skip
theorem fin37:Try.f37.results.toList=[ResultVar.cell 2 79]:=rfl
noncomputable def B38:Code:=(Try.f38.body).getD .skip
theorem fin38:Try.f38.results.toList=[ResultVar.tmp 4]:=rfl
noncomputable def B41:Code:=(Try.f41.body).getD .skip
theorem fin41:Try.f41.results.toList=[ResultVar.tmp 4]:=rfl
noncomputable def B42:Code:=(Try.f42.body).getD .skip
theorem fin42:Try.f42.results.toList=[ResultVar.tmp 4]:=rfl
noncomputable def B44:Code:=(Try.f44.body).getD .skip
theorem fin44:Try.f44.results.toList=[ResultVar.tmp 4]:=rfl
noncomputable def B45:Code:=(Try.f45.body).getD .skip
theorem fin45:Try.f45.results.toList=[ResultVar.tmp 6]:=rfl
noncomputable def B46:Code:=(Try.f46.body).getD .skip
theorem fin46:Try.f46.results.toList=[ResultVar.tmp 4]:=rfl
noncomputable def B51:Code:=(Try.f51.body).getD .skip
theorem fin51:Try.f51.results.toList=[ResultVar.cell 2 48]:=rfl
noncomputable def B52:Code:=(Try.f52.body).getD .skip
theorem fin52:Try.f52.results.toList=[ResultVar.tmp 4]:=rfl
noncomputable def B53:Code:=(Try.f53.body).getD .skip
theorem fin53:Try.f53.results.toList=[ResultVar.cell 2 65]:=rfl
noncomputable def B54:Code:=(Try.f54.body).getD .skip
theorem fin54:Try.f54.results.toList=[]:=rfl
noncomputable def B55:Code:=(Try.f55.body).getD .skip
theorem fin55:Try.f55.results.toList=[ResultVar.tmp 3]:=rfl
noncomputable def B56:Code:=(Try.f56.body).getD .skip
theorem fin56:Try.f56.results.toList=[ResultVar.cell 2 39,ResultVar.tmp 3]:=rfl
noncomputable def B57:Code:=(Try.f57.body).getD .skip
theorem fin57:Try.f57.results.toList=[ResultVar.tmp 3]:=rfl
noncomputable def B58:Code:=(Try.f58.body).getD .skip
theorem fin58:Try.f58.results.toList=[ResultVar.tmp 2,ResultVar.tmp 3,ResultVar.tmp 4]:=rfl
noncomputable def B59:Code:=(Try.f59.body).getD .skip
theorem fin59:Try.f59.results.toList=[ResultVar.tmp 2]:=rfl
noncomputable def B60:Code:=(Try.f60.body).getD .skip
theorem fin60:Try.f60.results.toList=[ResultVar.tmp 4]:=rfl
noncomputable def B61:Code:=(Try.f61.body).getD .skip
theorem fin61:Try.f61.results.toList=[ResultVar.tmp 4]:=rfl
noncomputable def B62:Code:=(Try.f62.body).getD .skip
theorem fin62:Try.f62.results.toList=[]:=rfl
noncomputable def B63:Code:=(Try.f63.body).getD .skip
theorem fin63:Try.f63.results.toList=[ResultVar.cell 2 63]:=rfl
noncomputable def B64:Code:=(Try.f64.body).getD .skip
theorem fin64:Try.f64.results.toList=[ResultVar.tmp 6]:=rfl
noncomputable def B65:Code:=(Try.f65.body).getD .skip
theorem fin65:Try.f65.results.toList=[ResultVar.tmp 4]:=rfl
noncomputable def B66:Code:=(Try.f66.body).getD .skip
theorem fin66:Try.f66.results.toList=[ResultVar.cell 2 106]:=rfl
noncomputable def B67:Code:=(Try.f67.body).getD .skip
theorem fin67:Try.f67.results.toList=[ResultVar.tmp 4]:=rfl
theorem rg (B:Code) (p:List Nat) (n:Nat) (b:Bool) {o:Array Oper} (h:nav B p=.region n o b):nav B p=.region n o b:=h
theorem bs {α β:Type} {x:Option α} {f:α→Option β} {b:β} (h:x.bind f=some b):∃ a,x=some a∧f a=some b:=Option.bind_eq_some_iff.1 h
end Go.Proofs.YticggdfaehneeaaV