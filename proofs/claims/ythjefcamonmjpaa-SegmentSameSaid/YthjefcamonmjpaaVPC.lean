/- The kinds of data, and the code's parts by names. -/
import Derived.Test.YthjefcamonmjpaaHVi26
import Derived.Test.YthjefcamonmjpaaHViH
namespace Go.Proofs.YthjefcamonmjpaaV
open Go
set_option linter.unusedVariables false
set_option linter.unusedSimpArgs false
set_option maxRecDepth 8000
set_option maxHeartbeats 4000000
structure T45 where
  At : Int
  N : Int
  deriving DecidableEq
noncomputable def encT45 (x : T45) : List V := [V.p (Value.int .i64 x.At), V.p (Value.int .i64 x.N)]
theorem encT45_eq {x : T45} : encT45 x = [V.p (Value.int .i64 x.At), V.p (Value.int .i64 x.N)] := rfl
structure T26 where
  Kind : Int
  Source : Int
  Session : Int
  Serial : Int
  Checks : Int
  Offset : Int
  Total : Int
  Lower : Int
  Upper : Int
  Reason : Int
  Check : Bool
  Data : List Int
  Claims : List T45
  deriving DecidableEq
noncomputable def encT26 (x : T26) : List V := [V.p (Value.int .i64 x.Kind), V.p (Value.int .i64 x.Source), V.p (Value.int .u32 x.Session), V.p (Value.int .u32 x.Serial), V.p (Value.int .u32 x.Checks), V.p (Value.int .i64 x.Offset), V.p (Value.int .i64 x.Total), V.p (Value.int .i64 x.Lower), V.p (Value.int .i64 x.Upper), V.p (Value.int .i64 x.Reason), V.p (Value.bool x.Check), V.sl 1 (rowsOf (encI .u8) x.Data), V.sl 2 (rowsOf encT45 x.Claims)]
theorem encT26_eq {x : T26} : encT26 x = [V.p (Value.int .i64 x.Kind), V.p (Value.int .i64 x.Source), V.p (Value.int .u32 x.Session), V.p (Value.int .u32 x.Serial), V.p (Value.int .u32 x.Checks), V.p (Value.int .i64 x.Offset), V.p (Value.int .i64 x.Total), V.p (Value.int .i64 x.Lower), V.p (Value.int .i64 x.Upper), V.p (Value.int .i64 x.Reason), V.p (Value.bool x.Check), V.sl 1 (rowsOf (encI .u8) x.Data), V.sl 2 (rowsOf encT45 x.Claims)] := rfl
@[reducible] noncomputable def CV (k f : Nat) (args : List V) (exts : List O) : Option (V × List O × List O) := callV Try.prog ctx hints k f args exts
@[reducible] noncomputable def EX (f k : Nat) (c : Code) (σ : St) : Option (Out × St) := exec Try.prog (callV Try.prog ctx hints k) hints f k none c σ
@[reducible] noncomputable def EL (f k l : Nat) (c : Code) (σ : St) : Option (Out × St) := exec Try.prog (callV Try.prog ctx hints k) hints f k (some l) c σ
@[reducible] noncomputable def SQ (f k : Nat) (b : Code) (r : Option (Out × St)) : Option (Out × St) := seqK Try.prog (callV Try.prog ctx hints k) hints f k b r
@[reducible] noncomputable def LP (f k : Nat) (a : Code) (n : Nat) (σ : St) : Option (Out × St) := loopK Try.prog (callV Try.prog ctx hints k) hints f k a n σ
@[reducible] noncomputable def JK (f k : Nat) (a : Code) (n : Nat) (r : Option (Out × St)) : Option (Out × St) := jumpsK Try.prog (callV Try.prog ctx hints k) hints f k a n r
theorem EE : (type_of% @CV.eq_1) ∧ (type_of% @EX.eq_1) ∧ (type_of% @EL.eq_1) ∧ (type_of% @SQ.eq_1) ∧ (type_of% @LP.eq_1) ∧ (type_of% @JK.eq_1) := ⟨@CV.eq_1, @EX.eq_1, @EL.eq_1, @SQ.eq_1, @LP.eq_1, @JK.eq_1⟩
noncomputable def B3 : Code := (Try.f3.body).getD .skip
theorem fin3 : Try.f3.results.toList = [ResultVar.tmp 4] := rfl
noncomputable def B8 : Code := (Try.f8.body).getD .skip
theorem fin8 : Try.f8.results.toList = [ResultVar.cell 2 26] := rfl
noncomputable def B9 : Code := (Try.f9.body).getD .skip
theorem fin9 : Try.f9.results.toList = [ResultVar.tmp 4] := rfl
noncomputable def B10 : Code := (Try.f10.body).getD .skip
theorem fin10 : Try.f10.results.toList = [ResultVar.tmp 4] := rfl
noncomputable def B11 : Code := (Try.f11.body).getD .skip
theorem fin11 : Try.f11.results.toList = [ResultVar.cell 2 26] := rfl
noncomputable def B19 : Code := (Try.f19.body).getD .skip
theorem fin19 : Try.f19.results.toList = [ResultVar.cell 2 47] := rfl
noncomputable def B20 : Code := (Try.f20.body).getD .skip
theorem fin20 : Try.f20.results.toList = [ResultVar.tmp 4] := rfl
noncomputable def B21 : Code := (Try.f21.body).getD .skip
theorem fin21 : Try.f21.results.toList = [ResultVar.tmp 4] := rfl
end Go.Proofs.YthjefcamonmjpaaV
