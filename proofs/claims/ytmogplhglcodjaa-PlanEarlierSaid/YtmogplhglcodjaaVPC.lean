/- The kinds of data, and the code's parts by names. -/
import Derived.Test.YtmogplhglcodjaaHVi26
import Derived.Test.YtmogplhglcodjaaHViH
namespace Go.Proofs.YtmogplhglcodjaaV
open Go
set_option linter.unusedVariables false
set_option linter.unusedSimpArgs false
set_option maxRecDepth 8000
set_option maxHeartbeats 4000000
structure T44 where
  From : Int
  To : Int
  Start : Int
  End : Int
  Rate : Int
  Delay : Int
  deriving DecidableEq
noncomputable def encT44 (x : T44) : List V := [V.p (Value.int .i64 x.From), V.p (Value.int .i64 x.To), V.p (Value.int .i64 x.Start), V.p (Value.int .i64 x.End), V.p (Value.int .i64 x.Rate), V.p (Value.int .i64 x.Delay)]
theorem encT44_eq {x : T44} : encT44 x = [V.p (Value.int .i64 x.From), V.p (Value.int .i64 x.To), V.p (Value.int .i64 x.Start), V.p (Value.int .i64 x.End), V.p (Value.int .i64 x.Rate), V.p (Value.int .i64 x.Delay)] := rfl
structure T24 where
  Nodes : Int
  Contacts : List T44
  deriving DecidableEq
noncomputable def encT24 (x : T24) : List V := [V.p (Value.int .i64 x.Nodes), V.sl 6 (rowsOf encT44 x.Contacts)]
theorem encT24_eq {x : T24} : encT24 x = [V.p (Value.int .i64 x.Nodes), V.sl 6 (rowsOf encT44 x.Contacts)] := rfl
structure T27 where
  From : Int
  To : Int
  Now : Int
  Need : Int
  deriving DecidableEq
noncomputable def encT27 (x : T27) : List V := [V.p (Value.int .i64 x.From), V.p (Value.int .i64 x.To), V.p (Value.int .i64 x.Now), V.p (Value.int .i64 x.Need)]
theorem encT27_eq {x : T27} : encT27 x = [V.p (Value.int .i64 x.From), V.p (Value.int .i64 x.To), V.p (Value.int .i64 x.Now), V.p (Value.int .i64 x.Need)] := rfl
@[reducible] noncomputable def CV (k f : Nat) (args : List V) (exts : List O) : Option (V × List O × List O) := callV Try.prog ctx hints k f args exts
@[reducible] noncomputable def EX (f k : Nat) (c : Code) (σ : St) : Option (Out × St) := exec Try.prog (callV Try.prog ctx hints k) hints f k none c σ
@[reducible] noncomputable def EL (f k l : Nat) (c : Code) (σ : St) : Option (Out × St) := exec Try.prog (callV Try.prog ctx hints k) hints f k (some l) c σ
@[reducible] noncomputable def SQ (f k : Nat) (b : Code) (r : Option (Out × St)) : Option (Out × St) := seqK Try.prog (callV Try.prog ctx hints k) hints f k b r
@[reducible] noncomputable def LP (f k : Nat) (a : Code) (n : Nat) (σ : St) : Option (Out × St) := loopK Try.prog (callV Try.prog ctx hints k) hints f k a n σ
@[reducible] noncomputable def JK (f k : Nat) (a : Code) (n : Nat) (r : Option (Out × St)) : Option (Out × St) := jumpsK Try.prog (callV Try.prog ctx hints k) hints f k a n r
theorem EE : (type_of% @CV.eq_1) ∧ (type_of% @EX.eq_1) ∧ (type_of% @EL.eq_1) ∧ (type_of% @SQ.eq_1) ∧ (type_of% @LP.eq_1) ∧ (type_of% @JK.eq_1) := ⟨@CV.eq_1, @EX.eq_1, @EL.eq_1, @SQ.eq_1, @LP.eq_1, @JK.eq_1⟩
noncomputable def B4 : Code := (Try.f4.body).getD .skip
theorem fin4 : Try.f4.results.toList = [ResultVar.tmp 6] := rfl
noncomputable def B8 : Code := (Try.f8.body).getD .skip
theorem fin8 : Try.f8.results.toList = [ResultVar.tmp 12, ResultVar.tmp 13, ResultVar.tmp 14] := rfl
noncomputable def B12 : Code := (Try.f12.body).getD .skip
theorem fin12 : Try.f12.results.toList = [ResultVar.tmp 2] := rfl
noncomputable def B14 : Code := (Try.f14.body).getD .skip
theorem fin14 : Try.f14.results.toList = [ResultVar.tmp 2] := rfl
noncomputable def B16 : Code := (Try.f16.body).getD .skip
theorem fin16 : Try.f16.results.toList = [ResultVar.tmp 2] := rfl
noncomputable def B19 : Code := (Try.f19.body).getD .skip
theorem fin19 : Try.f19.results.toList = [ResultVar.tmp 4] := rfl
noncomputable def B20 : Code := (Try.f20.body).getD .skip
theorem fin20 : Try.f20.results.toList = [ResultVar.tmp 2] := rfl
noncomputable def B21 : Code := (Try.f21.body).getD .skip
theorem fin21 : Try.f21.results.toList = [ResultVar.tmp 6] := rfl
noncomputable def B22 : Code := (Try.f22.body).getD .skip
theorem fin22 : Try.f22.results.toList = [ResultVar.tmp 6] := rfl
noncomputable def B23 : Code := (Try.f23.body).getD .skip
theorem fin23 : Try.f23.results.toList = [ResultVar.tmp 8, ResultVar.tmp 9] := rfl
noncomputable def B28 : Code := (Try.f28.body).getD .skip
theorem fin28 : Try.f28.results.toList = [ResultVar.tmp 4] := rfl
noncomputable def B29 : Code := (Try.f29.body).getD .skip
theorem fin29 : Try.f29.results.toList = [] := rfl
end Go.Proofs.YtmogplhglcodjaaV
