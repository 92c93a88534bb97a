/- The kinds of data, and the code's parts by names. -/
import Derived.Test.YtiompmmbjpjjeaaDoorHVi26
import Derived.Test.YtiompmmbjpjjeaaDoorHViH
namespace Go.Proofs.YtiompmmbjpjjeaaDoorV
open Go
set_option linter.unusedVariables false
set_option linter.unusedSimpArgs false
set_option maxRecDepth 8000
set_option maxHeartbeats 4000000
structure T54 where
  From : Int
  To : Int
  Start : Int
  End : Int
  Rate : Int
  Delay : Int
  deriving DecidableEq
noncomputable def encT54 (x : T54) : List V := [V.p (Value.int .i64 x.From), V.p (Value.int .i64 x.To), V.p (Value.int .i64 x.Start), V.p (Value.int .i64 x.End), V.p (Value.int .i64 x.Rate), V.p (Value.int .i64 x.Delay)]
theorem encT54_eq {x : T54} : encT54 x = [V.p (Value.int .i64 x.From), V.p (Value.int .i64 x.To), V.p (Value.int .i64 x.Start), V.p (Value.int .i64 x.End), V.p (Value.int .i64 x.Rate), V.p (Value.int .i64 x.Delay)] := rfl
structure T24 where
  Nodes : Int
  Contacts : List T54
  deriving DecidableEq
noncomputable def encT24 (x : T24) : List V := [V.p (Value.int .i64 x.Nodes), V.sl 6 (rowsOf encT54 x.Contacts)]
theorem encT24_eq {x : T24} : encT24 x = [V.p (Value.int .i64 x.Nodes), V.sl 6 (rowsOf encT54 x.Contacts)] := rfl
structure T58 where
  E0 : Int
  E1 : Int
  deriving DecidableEq
noncomputable def encT58 (x : T58) : List V := [V.p (Value.int .i64 x.E0), V.p (Value.int .i64 x.E1)]
theorem encT58_eq {x : T58} : encT58 x = [V.p (Value.int .i64 x.E0), V.p (Value.int .i64 x.E1)] := rfl
structure T44 where
  Source : Int
  Seq : Int
  Offset : Int
  deriving DecidableEq
noncomputable def encT44 (x : T44) : List V := [V.p (Value.int .i64 x.Source), V.p (Value.int .u32 x.Seq), V.p (Value.int .i64 x.Offset)]
theorem encT44_eq {x : T44} : encT44 x = [V.p (Value.int .i64 x.Source), V.p (Value.int .u32 x.Seq), V.p (Value.int .i64 x.Offset)] := rfl
@[reducible] noncomputable def CV (k f : Nat) (args : List V) (exts : List O) : Option (V × List O × List O) := callV Tryd.prog ctx hints k f args exts
@[reducible] noncomputable def EX (f k : Nat) (c : Code) (σ : St) : Option (Out × St) := exec Tryd.prog (callV Tryd.prog ctx hints k) hints f k none c σ
@[reducible] noncomputable def EL (f k l : Nat) (c : Code) (σ : St) : Option (Out × St) := exec Tryd.prog (callV Tryd.prog ctx hints k) hints f k (some l) c σ
@[reducible] noncomputable def SQ (f k : Nat) (b : Code) (r : Option (Out × St)) : Option (Out × St) := seqK Tryd.prog (callV Tryd.prog ctx hints k) hints f k b r
@[reducible] noncomputable def LP (f k : Nat) (a : Code) (n : Nat) (σ : St) : Option (Out × St) := loopK Tryd.prog (callV Tryd.prog ctx hints k) hints f k a n σ
@[reducible] noncomputable def JK (f k : Nat) (a : Code) (n : Nat) (r : Option (Out × St)) : Option (Out × St) := jumpsK Tryd.prog (callV Tryd.prog ctx hints k) hints f k a n r
theorem EE : (type_of% @CV.eq_1) ∧ (type_of% @EX.eq_1) ∧ (type_of% @EL.eq_1) ∧ (type_of% @SQ.eq_1) ∧ (type_of% @LP.eq_1) ∧ (type_of% @JK.eq_1) := ⟨@CV.eq_1, @EX.eq_1, @EL.eq_1, @SQ.eq_1, @LP.eq_1, @JK.eq_1⟩
noncomputable def B5 : Code := (Tryd.f5.body).getD .skip
theorem fin5 : Tryd.f5.results.toList = [ResultVar.tmp 6] := rfl
noncomputable def B9 : Code := (Tryd.f9.body).getD .skip
theorem fin9 : Tryd.f9.results.toList = [ResultVar.cell 2 28] := rfl
noncomputable def B16 : Code := (Tryd.f16.body).getD .skip
theorem fin16 : Tryd.f16.results.toList = [ResultVar.tmp 8, ResultVar.tmp 9] := rfl
noncomputable def B17 : Code := (Tryd.f17.body).getD .skip
theorem fin17 : Tryd.f17.results.toList = [ResultVar.tmp 4] := rfl
noncomputable def B18 : Code := (Tryd.f18.body).getD .skip
theorem fin18 : Tryd.f18.results.toList = [ResultVar.tmp 2] := rfl
noncomputable def B19 : Code := (Tryd.f19.body).getD .skip
theorem fin19 : Tryd.f19.results.toList = [ResultVar.tmp 4] := rfl
noncomputable def B33 : Code := (Tryd.f33.body).getD .skip
theorem fin33 : Tryd.f33.results.toList = [ResultVar.tmp 2] := rfl
noncomputable def B34 : Code := (Tryd.f34.body).getD .skip
theorem fin34 : Tryd.f34.results.toList = [ResultVar.tmp 4] := rfl
noncomputable def B36 : Code := (Tryd.f36.body).getD .skip
theorem fin36 : Tryd.f36.results.toList = [ResultVar.tmp 6] := rfl
noncomputable def B40 : Code := (Tryd.f40.body).getD .skip
theorem fin40 : Tryd.f40.results.toList = [ResultVar.tmp 4] := rfl
noncomputable def B41 : Code := (Tryd.f41.body).getD .skip
theorem fin41 : Tryd.f41.results.toList = [ResultVar.tmp 6] := rfl
noncomputable def B54 : Code := (Tryd.f54.body).getD .skip
theorem fin54 : Tryd.f54.results.toList = [ResultVar.tmp 4] := rfl
noncomputable def B63 : Code := (Tryd.f63.body).getD .skip
theorem fin63 : Tryd.f63.results.toList = [ResultVar.tmp 2] := rfl
end Go.Proofs.YtiompmmbjpjjeaaDoorV
