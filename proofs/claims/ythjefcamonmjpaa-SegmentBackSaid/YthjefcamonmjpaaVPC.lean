/- The kinds of data, and the code's parts by names. -/
import Derived.Test.YthjefcamonmjpaaHVi26
import Derived.Test.YthjefcamonmjpaaHViH
namespace Go.Proofs.YthjefcamonmjpaaV
open Go
set_option linter.unusedVariables false
set_option linter.unusedSimpArgs false
set_option maxRecDepth 8000
set_option maxHeartbeats 4000000
structure T45 where
  At : Int
  N : Int
  deriving DecidableEq
noncomputable def encT45 (x : T45) : List V := [V.p (Value.int .i64 x.At), V.p (Value.int .i64 x.N)]
theorem encT45_eq {x : T45} : encT45 x = [V.p (Value.int .i64 x.At), V.p (Value.int .i64 x.N)] := rfl
structure T26 where
  Kind : Int
  Source : Int
  Session : Int
  Serial : Int
  Checks : Int
  Offset : Int
  Total : Int
  Lower : Int
  Upper : Int
  Reason : Int
  Check : Bool
  Data : List Int
  Claims : List T45
  deriving DecidableEq
noncomputable def encT26 (x : T26) : List V := [V.p (Value.int .i64 x.Kind), V.p (Value.int .i64 x.Source), V.p (Value.int .u32 x.Session), V.p (Value.int .u32 x.Serial), V.p (Value.int .u32 x.Checks), V.p (Value.int .i64 x.Offset), V.p (Value.int .i64 x.Total), V.p (Value.int .i64 x.Lower), V.p (Value.int .i64 x.Upper), V.p (Value.int .i64 x.Reason), V.p (Value.bool x.Check), V.sl 1 (rowsOf (encI .u8) x.Data), V.sl 2 (rowsOf encT45 x.Claims)]
theorem encT26_eq {x : T26} : encT26 x = [V.p (Value.int .i64 x.Kind), V.p (Value.int .i64 x.Source), V.p (Value.int .u32 x.Session), V.p (Value.int .u32 x.Serial), V.p (Value.int .u32 x.Checks), V.p (Value.int .i64 x.Offset), V.p (Value.int .i64 x.Total), V.p (Value.int .i64 x.Lower), V.p (Value.int .i64 x.Upper), V.p (Value.int .i64 x.Reason), V.p (Value.bool x.Check), V.sl 1 (rowsOf (encI .u8) x.Data), V.sl 2 (rowsOf encT45 x.Claims)] := rfl
@[reducible] noncomputable def CV (k f : Nat) (args : List V) (exts : List O) : Option (V × List O × List O) := callV Try.prog ctx hints k f args exts
@[reducible] noncomputable def EX (f k : Nat) (c : Code) (σ : St) : Option (Out × St) := exec Try.prog (callV Try.prog ctx hints k) hints f k none c σ
@[reducible] noncomputable def EL (f k l : Nat) (c : Code) (σ : St) : Option (Out × St) := exec Try.prog (callV Try.prog ctx hints k) hints f k (some l) c σ
@[reducible] noncomputable def SQ (f k : Nat) (b : Code) (r : Option (Out × St)) : Option (Out × St) := seqK Try.prog (callV Try.prog ctx hints k) hints f k b r
@[reducible] noncomputable def LP (f k : Nat) (a : Code) (n : Nat) (σ : St) : Option (Out × St) := loopK Try.prog (callV Try.prog ctx hints k) hints f k a n σ
@[reducible] noncomputable def JK (f k : Nat) (a : Code) (n : Nat) (r : Option (Out × St)) : Option (Out × St) := jumpsK Try.prog (callV Try.prog ctx hints k) hints f k a n r
theorem EE : (type_of% @CV.eq_1) ∧ (type_of% @EX.eq_1) ∧ (type_of% @EL.eq_1) ∧ (type_of% @SQ.eq_1) ∧ (type_of% @LP.eq_1) ∧ (type_of% @JK.eq_1) := ⟨@CV.eq_1, @EX.eq_1, @EL.eq_1, @SQ.eq_1, @LP.eq_1, @JK.eq_1⟩
noncomputable def B5 : Code := (Try.f5.body).getD .skip
theorem fin5 : Try.f5.results.toList = [ResultVar.tmp 4] := rfl
noncomputable def B8 : Code := (Try.f8.body).getD .skip
theorem fin8 : Try.f8.results.toList = [ResultVar.cell 2 26] := rfl
noncomputable def B9 : Code := (Try.f9.body).getD .skip
theorem fin9 : Try.f9.results.toList = [ResultVar.tmp 4] := rfl
noncomputable def B12 : Code := (Try.f12.body).getD .skip
theorem fin12 : Try.f12.results.toList = [ResultVar.tmp 2, ResultVar.tmp 3] := rfl
noncomputable def B13 : Code := (Try.f13.body).getD .skip
theorem fin13 : Try.f13.results.toList = [ResultVar.cell 2 26, ResultVar.tmp 3] := rfl
noncomputable def B14 : Code := (Try.f14.body).getD .skip
theorem fin14 : Try.f14.results.toList = [ResultVar.tmp 2] := rfl
noncomputable def B15 : Code := (Try.f15.body).getD .skip
theorem fin15 : Try.f15.results.toList = [ResultVar.tmp 2] := rfl
noncomputable def B16 : Code := (Try.f16.body).getD .skip
theorem fin16 : Try.f16.results.toList = [ResultVar.tmp 4] := rfl
noncomputable def B19 : Code := (Try.f19.body).getD .skip
theorem fin19 : Try.f19.results.toList = [ResultVar.cell 2 47] := rfl
noncomputable def B20 : Code := (Try.f20.body).getD .skip
theorem fin20 : Try.f20.results.toList = [ResultVar.tmp 4] := rfl
noncomputable def B21 : Code := (Try.f21.body).getD .skip
theorem fin21 : Try.f21.results.toList = [ResultVar.tmp 4] := rfl
noncomputable def B22 : Code := (Try.f22.body).getD .skip
theorem fin22 : Try.f22.results.toList = [] := rfl
noncomputable def B23 : Code := (Try.f23.body).getD .skip
theorem fin23 : Try.f23.results.toList = [ResultVar.tmp 2] := rfl
noncomputable def B24 : Code := (Try.f24.body).getD .skip
theorem fin24 : Try.f24.results.toList = [ResultVar.tmp 2, ResultVar.tmp 3] := rfl
noncomputable def B25 : Code := (Try.f25.body).getD .skip
theorem fin25 : Try.f25.results.toList = [ResultVar.tmp 2] := rfl
noncomputable def B26 : Code := (Try.f26.body).getD .skip
theorem y26_1_0 {call : CallF} {k : Nat} {σ : St} : exec Try.prog call hints 26 k (some 0) (nav B26 [1]) σ = seqK Try.prog call hints 26 k (nav B26 [2, 2, 2, 1]) (some (.norm, σ)) := by rw [show (nav B26 [1]) = Code.seq (nav B26 [1, 1]) (nav B26 [2, 1]) from rfl, ev_lab_right (by kernel_rfl), show (nav B26 [2, 1]) = Code.seq (nav B26 [1, 2, 1]) (nav B26 [2, 2, 1]) from rfl, ev_lab_right (by kernel_rfl), show (nav B26 [2, 2, 1]) = Code.seq (nav B26 [1, 2, 2, 1]) (nav B26 [2, 2, 2, 1]) from rfl, ev_lab_left (by kernel_rfl), show (nav B26 [1, 2, 2, 1]) = Code.label 0 from rfl, ev_lab]
theorem fin26 : Try.f26.results.toList = [] := rfl
noncomputable def B27 : Code := (Try.f27.body).getD .skip
theorem fin27 : Try.f27.results.toList = [ResultVar.tmp 6] := rfl
noncomputable def B28 : Code := (Try.f28.body).getD .skip
theorem fin28 : Try.f28.results.toList = [ResultVar.tmp 6] := rfl
noncomputable def B29 : Code := (Try.f29.body).getD .skip
theorem fin29 : Try.f29.results.toList = [ResultVar.tmp 4] := rfl
noncomputable def B30 : Code := (Try.f30.body).getD .skip
theorem fin30 : Try.f30.results.toList = [ResultVar.tmp 6] := rfl
noncomputable def B31 : Code := (Try.f31.body).getD .skip
theorem fin31 : Try.f31.results.toList = [ResultVar.tmp 2] := rfl
noncomputable def B32 : Code := (Try.f32.body).getD .skip
theorem fin32 : Try.f32.results.toList = [ResultVar.tmp 6, ResultVar.tmp 7] := rfl
noncomputable def B33 : Code := (Try.f33.body).getD .skip
theorem y33_2_1_0 {call : CallF} {k : Nat} {σ : St} : exec Try.prog call hints 33 k (some 0) (nav B33 [1, 2]) σ = seqK Try.prog call hints 33 k (nav B33 [2, 2, 2, 1, 2]) (some (.norm, σ)) := by rw [show (nav B33 [1, 2]) = Code.seq (nav B33 [1, 1, 2]) (nav B33 [2, 1, 2]) from rfl, ev_lab_right (by kernel_rfl), show (nav B33 [2, 1, 2]) = Code.seq (nav B33 [1, 2, 1, 2]) (nav B33 [2, 2, 1, 2]) from rfl, ev_lab_right (by kernel_rfl), show (nav B33 [2, 2, 1, 2]) = Code.seq (nav B33 [1, 2, 2, 1, 2]) (nav B33 [2, 2, 2, 1, 2]) from rfl, ev_lab_left (by kernel_rfl), show (nav B33 [1, 2, 2, 1, 2]) = Code.label 0 from rfl, ev_lab]
theorem fin33 : Try.f33.results.toList = [ResultVar.tmp 2, ResultVar.tmp 3, ResultVar.tmp 4] := rfl
noncomputable def B35 : Code := (Try.f35.body).getD .skip
theorem fin35 : Try.f35.results.toList = [ResultVar.tmp 2] := rfl
noncomputable def B36 : Code := (Try.f36.body).getD .skip
theorem fin36 : Try.f36.results.toList = [ResultVar.tmp 4] := rfl
noncomputable def B37 : Code := (Try.f37.body).getD .skip
theorem fin37 : Try.f37.results.toList = [ResultVar.tmp 2] := rfl
end Go.Proofs.YthjefcamonmjpaaV
