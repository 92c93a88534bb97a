/- The plain law of PlanChecks. -/
import Derived.Test.YtmogplhglcodjaaVStmtPlanChecks
import Derived.Test.YtmogplhglcodjaaVPPlanV
import Derived.Test.YtmogplhglcodjaaVPPlanO
namespace Go.Proofs.YtmogplhglcodjaaV
open Go Go.RowKit
set_option linter.unusedVariables false
set_option linter.unusedSimpArgs false
theorem copied_at (n : Int) (l : List T44) (hl : l.length * 48 ≤ 140737488351232) (k : Nat) (hk : 1 ≤ k) : f9_airz k n l = some (.o0 n l) := by
  obtain ⟨k, rfl⟩ : ∃ m, k = m + 1 := ⟨k - 1, by omega⟩
  simp only [f9_airz, f9_airz_e]
  rw [ifE_pos (show l.length * 48 ≤ roomy from hl)]
theorem pchk_l (k : Nat) (hk : 1 ≤ k) {N : Int} {L : List Ct} (hL : ∀ c ∈ L, CtOk N c ∧ 1 ≤ c.Rate ∧ c.Rate ≤ 4096) (hl : L.length ≤ 24) : ∀ (d i n : Nat), i + d = L.length → d < n →
    f5_airzai4z_l4 k n L L.length i (vols L) = some (.o2 L L.length L.length false (vols L)) := by
  intro d
  induction d with
  | zero =>
    intro i n hid hn
    obtain ⟨n, rfl⟩ : ∃ m, n = m + 1 := ⟨n - 1, by omega⟩
    have e3 : i = L.length := by omega
    simp [f5_airzai4z_l4, f5_airzai4z_l4_b, e3]
  | succ d ih =>
    intro i n hid hn
    obtain ⟨n, rfl⟩ : ∃ m, n = m + 1 := ⟨n - 1, by omega⟩
    have h1 : i < L.length := by omega
    have hlt : ((i : Int) < (L.length : Int)) := by omega
    have g1 : L[i]? = some L[i] := List.getElem?_eq_getElem h1
    have hv : (vols L).length = L.length := by simp [vols]
    have g2 : (vols L)[i]? = some (L[i].Rate * (L[i].End - L[i].Start)) := by simp [vols, g1]
    have hc := hL L[i] (List.getElem_mem h1)
    have ih' := ih (i + 1) n (by omega) (by omega)
    simp only [f5_airzai4z_l4, f5_airzai4z_l4_b, f5_airzai4z_l4_j1, f5_airzai4z_l4_j2, decide_eq_true hlt, cond_true, ifE_pos (show (0 : Int) ≤ i by omega), Int.toNat_natCast, g1, Option.bind_some, ctvol_at hc.1 hc.2.1 hc.2.2 k hk, (ct_vol hc.1 hc.2.1 hc.2.2).1, ifE_pos (show (i : Int) < ((vols L).length : Int) by omega), g2, bne_self_eq_false, cond_false, nat_next h1 (by omega), ih']
theorem purePlanChecks : StmtPlanChecks := by
  intro p a hp ha
  have hl : p.Contacts.length * 48 ≤ 140737488351232 := hp.2.2.1
  obtain ⟨K, hK⟩ : ∃ K, K = 100 := ⟨_, rfl⟩
  refine ⟨K + 1, ?_⟩
  have s1 := copied_at p.Nodes p.Contacts hl K (by omega)
  have s2 := right_at K p.Nodes p.Contacts (by omega)
  have s3 := open_at K p.Nodes p.Contacts a.From a.To a.Now (by omega)
  have s4 := vols_at K (by omega) p.Nodes p.Contacts
  have s5 := check_at K p.Nodes p.Contacts (by omega)
  simp only [f5_airzai4z, f5_airzai4z_e, f7_, ifE_pos (show 60 ≤ K by omega), Option.bind_some, Bool.not_true, cond_false]
  unfold f5_airzai4z_j1
  simp only [s1, s2, s3, s4, s5, Option.bind_some]
  cases hc : chkB p.Nodes p.Contacts with
  | false => rfl
  | true =>
    rw [hc, cond_true] at s5
    obtain ⟨hN1, hN, hl24, hL⟩ := chkB_ok hc
    have s6 := ropen_at K p.Nodes p.Contacts a.From a.To a.Now hl24 (by omega)
    have q := pchk_l K (by omega) hL hl24 p.Contacts.length 0 K (by omega) (by omega)
    simp only [Int.natCast_zero] at q
    have hv : (vols p.Contacts).length = p.Contacts.length := by simp [vols]
    have j3 : ∀ b, f5_airzai4z_j3 K b p.Nodes p.Contacts (vols p.Contacts) = some (.o0 true) := by
      intro b
      simp only [f5_airzai4z_j3, q, Option.bind_some, f5_airzai4z_j5]
    by_cases h : openL a.From a.To a.Now p.Contacts 0 < 0
    · rw [if_pos h] at s6
      simp only [cond_true, Bool.not_true, cond_false, if_pos h]
      simp only [f5_airzai4z_j2, s1, s5, s6, Option.bind_some, hv, bne_self_eq_false, cond_true, cond_false, j3, decide_eq_true (show (-1 : Int) < 0 by decide), decide_eq_false (show ¬ ((-1 : Int) ≥ 0) by decide)]
    · rw [if_neg h] at s6
      simp only [cond_true, Bool.not_true, cond_false, if_neg h]
      simp only [f5_airzai4z_j2, s1, s5, s6, Option.bind_some, hv, bne_self_eq_false, cond_true, cond_false, j3, decide_eq_false h, decide_eq_true (show openL a.From a.To a.Now p.Contacts 0 ≥ 0 by omega)]
end Go.Proofs.YtmogplhglcodjaaV
