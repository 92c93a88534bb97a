/- The kinds of data, and the code's parts by names. -/
import Derived.Test.YtiompmmbjpjjeaaDoorHVi26
import Derived.Test.YtiompmmbjpjjeaaDoorHViH
namespace Go.Proofs.YtiompmmbjpjjeaaDoorV
open Go
set_option linter.unusedVariables false
set_option linter.unusedSimpArgs false
set_option maxRecDepth 8000
set_option maxHeartbeats 4000000
structure T56 where
  Key_Source : Int
  Key_Seq : Int
  Key_Offset : Int
  To : Int
  Contact : Int
  deriving DecidableEq
noncomputable def encT56 (x : T56) : List V := [V.p (Value.int .i64 x.Key_Source), V.p (Value.int .u32 x.Key_Seq), V.p (Value.int .i64 x.Key_Offset), V.p (Value.int .i64 x.To), V.p (Value.int .i64 x.Contact)]
theorem encT56_eq {x : T56} : encT56 x = [V.p (Value.int .i64 x.Key_Source), V.p (Value.int .u32 x.Key_Seq), V.p (Value.int .i64 x.Key_Offset), V.p (Value.int .i64 x.To), V.p (Value.int .i64 x.Contact)] := rfl
structure T44 where
  Source : Int
  Seq : Int
  Offset : Int
  deriving DecidableEq
noncomputable def encT44 (x : T44) : List V := [V.p (Value.int .i64 x.Source), V.p (Value.int .u32 x.Seq), V.p (Value.int .i64 x.Offset)]
theorem encT44_eq {x : T44} : encT44 x = [V.p (Value.int .i64 x.Source), V.p (Value.int .u32 x.Seq), V.p (Value.int .i64 x.Offset)] := rfl
structure T37 where
  Go : List T56
  Waits : List T44
  Stuck : List T44
  Left : List Int
  deriving DecidableEq
noncomputable def encT37 (x : T37) : List V := [V.sl 5 (rowsOf encT56 x.Go), V.sl 3 (rowsOf encT44 x.Waits), V.sl 3 (rowsOf encT44 x.Stuck), V.sl 1 (rowsOf (encI .i64) x.Left)]
theorem encT37_eq {x : T37} : encT37 x = [V.sl 5 (rowsOf encT56 x.Go), V.sl 3 (rowsOf encT44 x.Waits), V.sl 3 (rowsOf encT44 x.Stuck), V.sl 1 (rowsOf (encI .i64) x.Left)] := rfl
@[reducible] noncomputable def CV (k f : Nat) (args : List V) (exts : List O) : Option (V × List O × List O) := callV Tryd.prog ctx hints k f args exts
@[reducible] noncomputable def EX (f k : Nat) (c : Code) (σ : St) : Option (Out × St) := exec Tryd.prog (callV Tryd.prog ctx hints k) hints f k none c σ
@[reducible] noncomputable def EL (f k l : Nat) (c : Code) (σ : St) : Option (Out × St) := exec Tryd.prog (callV Tryd.prog ctx hints k) hints f k (some l) c σ
@[reducible] noncomputable def SQ (f k : Nat) (b : Code) (r : Option (Out × St)) : Option (Out × St) := seqK Tryd.prog (callV Tryd.prog ctx hints k) hints f k b r
@[reducible] noncomputable def LP (f k : Nat) (a : Code) (n : Nat) (σ : St) : Option (Out × St) := loopK Tryd.prog (callV Tryd.prog ctx hints k) hints f k a n σ
@[reducible] noncomputable def JK (f k : Nat) (a : Code) (n : Nat) (r : Option (Out × St)) : Option (Out × St) := jumpsK Tryd.prog (callV Tryd.prog ctx hints k) hints f k a n r
theorem EE : (type_of% @CV.eq_1) ∧ (type_of% @EX.eq_1) ∧ (type_of% @EL.eq_1) ∧ (type_of% @SQ.eq_1) ∧ (type_of% @LP.eq_1) ∧ (type_of% @JK.eq_1) := ⟨@CV.eq_1, @EX.eq_1, @EL.eq_1, @SQ.eq_1, @LP.eq_1, @JK.eq_1⟩
noncomputable def B7 : Code := (Tryd.f7.body).getD .skip
theorem fin7 : Tryd.f7.results.toList = [ResultVar.tmp 4] := rfl
noncomputable def B21 : Code := (Tryd.f21.body).getD .skip
theorem fin21 : Tryd.f21.results.toList = [ResultVar.cell 2 37] := rfl
noncomputable def B22 : Code := (Tryd.f22.body).getD .skip
theorem fin22 : Tryd.f22.results.toList = [ResultVar.tmp 4] := rfl
noncomputable def B23 : Code := (Tryd.f23.body).getD .skip
theorem fin23 : Tryd.f23.results.toList = [ResultVar.tmp 4] := rfl
noncomputable def B43 : Code := (Tryd.f43.body).getD .skip
theorem fin43 : Tryd.f43.results.toList = [ResultVar.tmp 4] := rfl
noncomputable def B44 : Code := (Tryd.f44.body).getD .skip
theorem fin44 : Tryd.f44.results.toList = [ResultVar.tmp 4] := rfl
noncomputable def B45 : Code := (Tryd.f45.body).getD .skip
theorem fin45 : Tryd.f45.results.toList = [ResultVar.tmp 4] := rfl
end Go.Proofs.YtiompmmbjpjjeaaDoorV
