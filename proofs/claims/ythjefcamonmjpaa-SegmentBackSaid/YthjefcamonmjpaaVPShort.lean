/- What short answers; bytes and their strings. -/
import Derived.Test.YthjefcamonmjpaaVPEq
namespace Go.Proofs.YthjefcamonmjpaaV
open Go
set_option linter.unusedVariables false
set_option linter.unusedSimpArgs false
/-- A segment that can be played in time. -/
def shortT (s : T26) : T26 := { s with Data := s.Data.take 300, Claims := s.Claims.take 40 }
theorem short_sp (s : T26) : Evn fun k => f8_ai10brrz k s.Kind s.Source s.Session s.Serial s.Checks s.Offset s.Total s.Lower s.Upper s.Reason s.Check s.Data s.Claims = some (.o0 s.Kind s.Source s.Session s.Serial s.Checks s.Offset s.Total s.Lower s.Upper s.Reason s.Check 0 (s.Data.take 300).length 0 (s.Claims.take 40).length (s.Data.take 300 ++ [7]) (s.Claims.take 40 ++ [T45.mk 77 0])) := by
  refine Evn.up (Evn.all fun k => ?_)
  simp only [f8_ai10brrz, f8_ai10brrz_e]
  generalize hn : min s.Data.length 300 = n
  generalize hm : min s.Claims.length 40 = m
  have hn' : (if (300 : Int) < (s.Data.length : Int) then (300 : Int) else (s.Data.length : Int)) = (n : Int) := by split <;> omega
  have hm' : (if (40 : Int) < (s.Claims.length : Int) then (40 : Int) else (s.Claims.length : Int)) = (m : Int) := by split <;> omega
  have w1 : IntKind.i64.wrap ((n : Int) + 2) = (n : Int) + 2 := wrap_i64 (by omega) (by omega)
  have w2 : IntKind.i64.wrap ((m : Int) + 2) = (m : Int) + 2 := wrap_i64 (by omega) (by omega)
  have t1 : s.Data.take n = s.Data.take 300 := by
    rw [← hn, List.take_eq_take_iff]; omega
  have t2 : s.Claims.take m = s.Claims.take 40 := by
    rw [← hm, List.take_eq_take_iff]; omega
  have l1 : (s.Data.take 300).length = n := by rw [List.length_take]; omega
  have l2 : (s.Claims.take 40).length = m := by rw [List.length_take]; omega
  simp only [hn', hm', w1, w2, Int.toNat_natCast, t1, t2, l1, l2, List.length_append, List.length_cons, List.length_nil]
  rw [ifE_pos (by omega), ifE_pos (by unfold roomy; omega), ifE_pos (by omega), ifE_pos (by omega), ifE_pos (by unfold roomy; omega), ifE_pos (by unfold roomy; omega), ifE_pos (by omega),
    ifE_pos (by omega), ifE_pos (by unfold roomy; omega), ifE_pos (by omega), ifE_pos (by omega), ifE_pos (by unfold roomy; omega), ifE_pos (by unfold roomy; omega), ifE_pos (by omega)]
/-- Bytes are told by their string. -/
theorem strOf_inj {a b : List Int} (ha : ∀ x ∈ a, 0 ≤ x ∧ x < 256) (hb : ∀ x ∈ b, 0 ≤ x ∧ x < 256) : ((strOf a).toList == (strOf b).toList) = decide (a = b) := by
  have e : ∀ l : List Int, (strOf l).toList = l.map fun n => UInt8.ofNat n.toNat := fun l => by
    rw [strOf, ByteArray.toList_eq]
  rw [e, e, Bool.eq_iff_iff]
  simp only [beq_iff_eq, decide_eq_true_eq]
  refine ⟨fun h => ?_, fun h => by rw [h]⟩
  have key : ∀ (a b : List Int), (∀ x ∈ a, 0 ≤ x ∧ x < 256) → (∀ x ∈ b, 0 ≤ x ∧ x < 256) → (a.map fun n => UInt8.ofNat n.toNat) = (b.map fun n => UInt8.ofNat n.toNat) → a = b := by
    intro a
    induction a with
    | nil => intro b _ _ h; cases b <;> simp_all
    | cons x a ih =>
      intro b ha hb h
      cases b with
      | nil => simp at h
      | cons y b =>
        simp only [List.map_cons, List.cons.injEq] at h
        obtain ⟨h1, h2⟩ := h
        have hx := ha x (by simp)
        have hy := hb y (by simp)
        have h3 := congrArg UInt8.toNat h1
        simp only [UInt8.toNat_ofNat'] at h3
        have : x = y := by omega
        rw [this, ih b (fun z hz => ha z (by simp [hz])) (fun z hz => hb z (by simp [hz])) h2]
  exact key a b ha hb h
end Go.Proofs.YthjefcamonmjpaaV
