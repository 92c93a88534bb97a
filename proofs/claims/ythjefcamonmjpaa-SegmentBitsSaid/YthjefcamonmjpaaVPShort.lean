/- What short answers. -/
import Derived.Test.YthjefcamonmjpaaVPEq
namespace Go.Proofs.YthjefcamonmjpaaV
open Go
set_option linter.unusedVariables false
set_option linter.unusedSimpArgs false
/-- A segment that can be played in time. -/
def shortT (s : T26) : T26 := { s with Data := s.Data.take 300, Claims := s.Claims.take 40 }
theorem short_sp (s : T26) : Evn fun k => f8_ai10brrz k s.Kind s.Source s.Session s.Serial s.Checks s.Offset s.Total s.Lower s.Upper s.Reason s.Check s.Data s.Claims = some (.o0 s.Kind s.Source s.Session s.Serial s.Checks s.Offset s.Total s.Lower s.Upper s.Reason s.Check 0 (s.Data.take 300).length 0 (s.Claims.take 40).length (s.Data.take 300 ++ [7]) (s.Claims.take 40 ++ [T45.mk 77 0])) := by
  refine Evn.up (Evn.all fun k => ?_)
  simp only [f8_ai10brrz, f8_ai10brrz_e]
  generalize hn : min s.Data.length 300 = n
  generalize hm : min s.Claims.length 40 = m
  have hn' : (if (300 : Int) < (s.Data.length : Int) then (300 : Int) else (s.Data.length : Int)) = (n : Int) := by split <;> omega
  have hm' : (if (40 : Int) < (s.Claims.length : Int) then (40 : Int) else (s.Claims.length : Int)) = (m : Int) := by split <;> omega
  have w1 : IntKind.i64.wrap ((n : Int) + 2) = (n : Int) + 2 := wrap_i64 (by omega) (by omega)
  have w2 : IntKind.i64.wrap ((m : Int) + 2) = (m : Int) + 2 := wrap_i64 (by omega) (by omega)
  have t1 : s.Data.take n = s.Data.take 300 := by
    rw [← hn, List.take_eq_take_iff]; omega
  have t2 : s.Claims.take m = s.Claims.take 40 := by
    rw [← hm, List.take_eq_take_iff]; omega
  have l1 : (s.Data.take 300).length = n := by rw [List.length_take]; omega
  have l2 : (s.Claims.take 40).length = m := by rw [List.length_take]; omega
  simp only [hn', hm', w1, w2, Int.toNat_natCast, t1, t2, l1, l2, List.length_append, List.length_cons, List.length_nil]
  rw [ifE_pos (by omega), ifE_pos (by unfold roomy; omega), ifE_pos (by omega), ifE_pos (by omega), ifE_pos (by unfold roomy; omega), ifE_pos (by unfold roomy; omega), ifE_pos (by omega),
    ifE_pos (by omega), ifE_pos (by unfold roomy; omega), ifE_pos (by omega), ifE_pos (by omega), ifE_pos (by unfold roomy; omega), ifE_pos (by unfold roomy; omega), ifE_pos (by omega)]
end Go.Proofs.YthjefcamonmjpaaV
