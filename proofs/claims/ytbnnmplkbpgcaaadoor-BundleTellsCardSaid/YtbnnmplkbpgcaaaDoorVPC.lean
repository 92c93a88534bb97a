/- The kinds of data, and the code's parts by names. -/
import Derived.Test.YtbnnmplkbpgcaaaDoorHVi26
import Derived.Test.YtbnnmplkbpgcaaaDoorHViH
namespace Go.Proofs.YtbnnmplkbpgcaaaDoorV
open Go
set_option linter.unusedVariables false
set_option linter.unusedSimpArgs false
set_option maxRecDepth 8000
set_option maxHeartbeats 4000000
structure T26 where
  Source : Int
  Dest : Int
  Seq : Int
  Created : Int
  Lifetime : Int
  HopLimit : Int
  Hops : Int
  Priority : Int
  Offset : Int
  Total : Int
  Payload : List Int
  deriving DecidableEq
noncomputable def encT26 (x : T26) : List V := [V.p (Value.int .i64 x.Source), V.p (Value.int .i64 x.Dest), V.p (Value.int .u32 x.Seq), V.p (Value.int .i64 x.Created), V.p (Value.int .i64 x.Lifetime), V.p (Value.int .i64 x.HopLimit), V.p (Value.int .i64 x.Hops), V.p (Value.int .i64 x.Priority), V.p (Value.int .i64 x.Offset), V.p (Value.int .i64 x.Total), V.sl 1 (rowsOf (encI .u8) x.Payload)]
theorem encT26_eq {x : T26} : encT26 x = [V.p (Value.int .i64 x.Source), V.p (Value.int .i64 x.Dest), V.p (Value.int .u32 x.Seq), V.p (Value.int .i64 x.Created), V.p (Value.int .i64 x.Lifetime), V.p (Value.int .i64 x.HopLimit), V.p (Value.int .i64 x.Hops), V.p (Value.int .i64 x.Priority), V.p (Value.int .i64 x.Offset), V.p (Value.int .i64 x.Total), V.sl 1 (rowsOf (encI .u8) x.Payload)] := rfl
@[reducible] noncomputable def CV (k f : Nat) (args : List V) (exts : List O) : Option (V × List O × List O) := callV Tryd.prog ctx hints k f args exts
@[reducible] noncomputable def EX (f k : Nat) (c : Code) (σ : St) : Option (Out × St) := exec Tryd.prog (callV Tryd.prog ctx hints k) hints f k none c σ
@[reducible] noncomputable def EL (f k l : Nat) (c : Code) (σ : St) : Option (Out × St) := exec Tryd.prog (callV Tryd.prog ctx hints k) hints f k (some l) c σ
@[reducible] noncomputable def SQ (f k : Nat) (b : Code) (r : Option (Out × St)) : Option (Out × St) := seqK Tryd.prog (callV Tryd.prog ctx hints k) hints f k b r
@[reducible] noncomputable def LP (f k : Nat) (a : Code) (n : Nat) (σ : St) : Option (Out × St) := loopK Tryd.prog (callV Tryd.prog ctx hints k) hints f k a n σ
@[reducible] noncomputable def JK (f k : Nat) (a : Code) (n : Nat) (r : Option (Out × St)) : Option (Out × St) := jumpsK Tryd.prog (callV Tryd.prog ctx hints k) hints f k a n r
theorem EE : (type_of% @CV.eq_1) ∧ (type_of% @EX.eq_1) ∧ (type_of% @EL.eq_1) ∧ (type_of% @SQ.eq_1) ∧ (type_of% @LP.eq_1) ∧ (type_of% @JK.eq_1) := ⟨@CV.eq_1, @EX.eq_1, @EL.eq_1, @SQ.eq_1, @LP.eq_1, @JK.eq_1⟩
noncomputable def B8 : Code := (Tryd.f8.body).getD .skip
theorem fin8 : Tryd.f8.results.toList = [ResultVar.tmp 6] := rfl
noncomputable def B12 : Code := (Tryd.f12.body).getD .skip
theorem fin12 : Tryd.f12.results.toList = [ResultVar.tmp 4] := rfl
noncomputable def B13 : Code := (Tryd.f13.body).getD .skip
theorem fin13 : Tryd.f13.results.toList = [ResultVar.cell 2 26] := rfl
noncomputable def B15 : Code := (Tryd.f15.body).getD .skip
theorem fin15 : Tryd.f15.results.toList = [ResultVar.tmp 2] := rfl
noncomputable def B16 : Code := (Tryd.f16.body).getD .skip
theorem fin16 : Tryd.f16.results.toList = [ResultVar.tmp 2] := rfl
noncomputable def B19 : Code := (Tryd.f19.body).getD .skip
theorem fin19 : Tryd.f19.results.toList = [ResultVar.tmp 4] := rfl
noncomputable def B20 : Code := (Tryd.f20.body).getD .skip
theorem fin20 : Tryd.f20.results.toList = [ResultVar.tmp 4] := rfl
noncomputable def B21 : Code := (Tryd.f21.body).getD .skip
theorem fin21 : Tryd.f21.results.toList = [ResultVar.tmp 4] := rfl
noncomputable def B22 : Code := (Tryd.f22.body).getD .skip
theorem fin22 : Tryd.f22.results.toList = [ResultVar.cell 2 43] := rfl
noncomputable def B23 : Code := (Tryd.f23.body).getD .skip
theorem fin23 : Tryd.f23.results.toList = [ResultVar.tmp 2] := rfl
noncomputable def B24 : Code := (Tryd.f24.body).getD .skip
theorem fin24 : Tryd.f24.results.toList = [ResultVar.tmp 4] := rfl
noncomputable def B38 : Code := (Tryd.f38.body).getD .skip
theorem fin38 : Tryd.f38.results.toList = [ResultVar.tmp 6] := rfl
noncomputable def B42 : Code := (Tryd.f42.body).getD .skip
theorem fin42 : Tryd.f42.results.toList = [ResultVar.tmp 4] := rfl
noncomputable def B43 : Code := (Tryd.f43.body).getD .skip
theorem fin43 : Tryd.f43.results.toList = [ResultVar.tmp 4] := rfl
noncomputable def B59 : Code := (Tryd.f59.body).getD .skip
theorem fin59 : Tryd.f59.results.toList = [ResultVar.cell 2 86] := rfl
end Go.Proofs.YtbnnmplkbpgcaaaDoorV
