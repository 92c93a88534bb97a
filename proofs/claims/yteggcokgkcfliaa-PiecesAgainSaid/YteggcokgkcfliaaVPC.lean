/- The kinds of data, and the code's parts by names. -/
import Derived.Test.YteggcokgkcfliaaHVi26
import Derived.Test.YteggcokgkcfliaaHViH
namespace Go.Proofs.YteggcokgkcfliaaV
open Go
set_option linter.unusedVariables false
set_option linter.unusedSimpArgs false
set_option maxRecDepth 8000
set_option maxHeartbeats 4000000
structure T25 where
  Source : Int
  Dest : Int
  Seq : Int
  Created : Int
  Lifetime : Int
  HopLimit : Int
  Hops : Int
  Priority : Int
  Offset : Int
  Total : Int
  Payload : List Int
  deriving DecidableEq
noncomputable def encT25 (x : T25) : List V := [V.p (Value.int .i64 x.Source), V.p (Value.int .i64 x.Dest), V.p (Value.int .u32 x.Seq), V.p (Value.int .i64 x.Created), V.p (Value.int .i64 x.Lifetime), V.p (Value.int .i64 x.HopLimit), V.p (Value.int .i64 x.Hops), V.p (Value.int .i64 x.Priority), V.p (Value.int .i64 x.Offset), V.p (Value.int .i64 x.Total), V.sl 1 (rowsOf (encI .u8) x.Payload)]
theorem encT25_eq {x : T25} : encT25 x = [V.p (Value.int .i64 x.Source), V.p (Value.int .i64 x.Dest), V.p (Value.int .u32 x.Seq), V.p (Value.int .i64 x.Created), V.p (Value.int .i64 x.Lifetime), V.p (Value.int .i64 x.HopLimit), V.p (Value.int .i64 x.Hops), V.p (Value.int .i64 x.Priority), V.p (Value.int .i64 x.Offset), V.p (Value.int .i64 x.Total), V.sl 1 (rowsOf (encI .u8) x.Payload)] := rfl
structure T47 where
  At : Int
  N : Int
  deriving DecidableEq
noncomputable def encT47 (x : T47) : List V := [V.p (Value.int .i64 x.At), V.p (Value.int .i64 x.N)]
theorem encT47_eq {x : T47} : encT47 x = [V.p (Value.int .i64 x.At), V.p (Value.int .i64 x.N)] := rfl
@[reducible] noncomputable def CV (k f : Nat) (args : List V) (exts : List O) : Option (V × List O × List O) := callV Try.prog ctx hints k f args exts
@[reducible] noncomputable def EX (f k : Nat) (c : Code) (σ : St) : Option (Out × St) := exec Try.prog (callV Try.prog ctx hints k) hints f k none c σ
@[reducible] noncomputable def EL (f k l : Nat) (c : Code) (σ : St) : Option (Out × St) := exec Try.prog (callV Try.prog ctx hints k) hints f k (some l) c σ
@[reducible] noncomputable def SQ (f k : Nat) (b : Code) (r : Option (Out × St)) : Option (Out × St) := seqK Try.prog (callV Try.prog ctx hints k) hints f k b r
@[reducible] noncomputable def LP (f k : Nat) (a : Code) (n : Nat) (σ : St) : Option (Out × St) := loopK Try.prog (callV Try.prog ctx hints k) hints f k a n σ
@[reducible] noncomputable def JK (f k : Nat) (a : Code) (n : Nat) (r : Option (Out × St)) : Option (Out × St) := jumpsK Try.prog (callV Try.prog ctx hints k) hints f k a n r
theorem EE : (type_of% @CV.eq_1) ∧ (type_of% @EX.eq_1) ∧ (type_of% @EL.eq_1) ∧ (type_of% @SQ.eq_1) ∧ (type_of% @LP.eq_1) ∧ (type_of% @JK.eq_1) := ⟨@CV.eq_1, @EX.eq_1, @EL.eq_1, @SQ.eq_1, @LP.eq_1, @JK.eq_1⟩
noncomputable def B5 : Code := (Try.f5.body).getD .skip
theorem fin5 : Try.f5.results.toList = [ResultVar.tmp 6] := rfl
noncomputable def B10 : Code := (Try.f10.body).getD .skip
theorem fin10 : Try.f10.results.toList = [ResultVar.cell 2 25] := rfl
noncomputable def B11 : Code := (Try.f11.body).getD .skip
theorem fin11 : Try.f11.results.toList = [ResultVar.tmp 4, ResultVar.tmp 5] := rfl
noncomputable def B16 : Code := (Try.f16.body).getD .skip
theorem fin16 : Try.f16.results.toList = [ResultVar.tmp 4] := rfl
noncomputable def B18 : Code := (Try.f18.body).getD .skip
theorem fin18 : Try.f18.results.toList = [ResultVar.cell 2 25, ResultVar.tmp 3] := rfl
noncomputable def B19 : Code := (Try.f19.body).getD .skip
theorem fin19 : Try.f19.results.toList = [ResultVar.tmp 2] := rfl
noncomputable def B20 : Code := (Try.f20.body).getD .skip
theorem fin20 : Try.f20.results.toList = [ResultVar.tmp 4] := rfl
noncomputable def B26 : Code := (Try.f26.body).getD .skip
theorem fin26 : Try.f26.results.toList = [ResultVar.tmp 2] := rfl
noncomputable def B27 : Code := (Try.f27.body).getD .skip
theorem fin27 : Try.f27.results.toList = [ResultVar.tmp 4] := rfl
noncomputable def B30 : Code := (Try.f30.body).getD .skip
theorem fin30 : Try.f30.results.toList = [ResultVar.tmp 4] := rfl
noncomputable def B31 : Code := (Try.f31.body).getD .skip
theorem fin31 : Try.f31.results.toList = [ResultVar.tmp 2, ResultVar.tmp 3, ResultVar.tmp 4] := rfl
noncomputable def B32 : Code := (Try.f32.body).getD .skip
theorem fin32 : Try.f32.results.toList = [ResultVar.tmp 2] := rfl
noncomputable def B33 : Code := (Try.f33.body).getD .skip
theorem fin33 : Try.f33.results.toList = [ResultVar.tmp 4] := rfl
noncomputable def B34 : Code := (Try.f34.body).getD .skip
theorem fin34 : Try.f34.results.toList = [ResultVar.tmp 4] := rfl
noncomputable def B36 : Code := (Try.f36.body).getD .skip
theorem fin36 : Try.f36.results.toList = [ResultVar.tmp 6] := rfl
noncomputable def B37 : Code := (Try.f37.body).getD .skip
theorem fin37 : Try.f37.results.toList = [] := rfl
noncomputable def B38 : Code := (Try.f38.body).getD .skip
theorem fin38 : Try.f38.results.toList = [ResultVar.tmp 4] := rfl
noncomputable def B39 : Code := (Try.f39.body).getD .skip
theorem fin39 : Try.f39.results.toList = [ResultVar.cell 2 69] := rfl
end Go.Proofs.YteggcokgkcfliaaV
