/- What plan.Volume and plan.Volumes answer. -/
import Derived.Test.YtmogplhglcodjaaVPPlanC
namespace Go.Proofs.YtmogplhglcodjaaV
open Go
set_option linter.unusedVariables false
set_option linter.unusedSimpArgs false
theorem ct_vol {N : Int} {c : Ct} (h : CtOk N c) (r1 : 1 ≤ c.Rate) (r2 : c.Rate ≤ 4096) : IntKind.i64.wrap (c.Rate * (IntKind.i64.wrap (c.End - c.Start))) = c.Rate * (c.End - c.Start) ∧ 0 ≤ c.Rate * (c.End - c.Start) ∧ c.Rate * (c.End - c.Start) ≤ 4294967296 := by
  have g1 := h.s1
  have g2 := h.s2
  have g3 := h.e2
  have hm : c.Rate * (c.End - c.Start) ≤ 4096 * 1048576 := Int.mul_le_mul (by omega) (by omega) (by omega) (by omega)
  have h0 : 0 ≤ c.Rate * (c.End - c.Start) := Int.mul_nonneg (by omega) (by omega)
  have w1 : IntKind.i64.wrap (c.End - c.Start) = c.End - c.Start := wrap_i64 (by omega) (by omega)
  have w2 : IntKind.i64.wrap (c.Rate * (c.End - c.Start)) = c.Rate * (c.End - c.Start) := wrap_i64 (by omega) (by omega)
  exact ⟨by rw [w1, w2], h0, by omega⟩
theorem ctvol_at {N : Int} {c : Ct} (h : CtOk N c) (r1 : 1 ≤ c.Rate) (r2 : c.Rate ≤ 4096) (k : Nat) (hk : 1 ≤ k) : f16_ai6z k c.From c.To c.Start c.End c.Rate c.Delay = some (.o0 (c.Rate * (c.End - c.Start))) := by
  obtain ⟨k, rfl⟩ : ∃ m, k = m + 1 := ⟨k - 1, by omega⟩
  have g1 := h.s1
  have g2 := h.s2
  have g3 := h.e2
  simp only [f16_ai6z, f16_ai6z_e, f16_ai6z_j1, (ct_vol h r1 r2).1, decide_eq_false (show ¬ c.Rate < 0 by omega), decide_eq_false (show ¬ c.Start < 0 by omega), decide_eq_false (show ¬ c.End ≤ c.Start by omega), decide_eq_false (show ¬ c.Rate > 1048576 by omega), decide_eq_false (show ¬ c.End > 1048576 by omega), cond_false]
def vols (L : List Ct) : List Int := L.map fun c => c.Rate * (c.End - c.Start)
theorem vols_l (k : Nat) (hk : 1 ≤ k) {N : Int} {L : List Ct} (hL : ∀ c ∈ L, CtOk N c ∧ 1 ≤ c.Rate ∧ c.Rate ≤ 4096) (hl : L.length ≤ 24) : ∀ (d i n : Nat) (acc : List Int), i + d = L.length → d < n → acc.length = i →
    f12_airz_l2 k n L L.length i acc = some (.o1 L L.length L.length false (acc ++ vols (L.drop i))) := by
  intro d
  induction d with
  | zero =>
    intro i n acc hid hn ha
    obtain ⟨n, rfl⟩ : ∃ m, n = m + 1 := ⟨n - 1, by omega⟩
    have e1 : L.drop i = [] := List.drop_eq_nil_of_le (by omega)
    have e3 : i = L.length := by omega
    rw [e1]
    simp [f12_airz_l2, f12_airz_l2_b, vols, e3]
  | succ d ih =>
    intro i n acc hid hn ha
    obtain ⟨n, rfl⟩ : ∃ m, n = m + 1 := ⟨n - 1, by omega⟩
    have h1 : i < L.length := by omega
    have hlt : ((i : Int) < (L.length : Int)) := by omega
    have g1 : L[i]? = some L[i] := List.getElem?_eq_getElem h1
    have hc := hL L[i] (List.getElem_mem h1)
    have ih' := ih (i + 1) n (acc ++ [L[i].Rate * (L[i].End - L[i].Start)]) (by omega) (by omega) (by simp [ha])
    have hb8 : (acc.length + 1) * 8 ≤ 8000 := by omega
    have hb : (acc.length + 1) * 8 ≤ roomy := Nat.le_trans hb8 (by decide)
    rw [List.drop_eq_getElem_cons h1]
    simp only [f12_airz_l2, f12_airz_l2_b, f12_airz_l2_j1, f12_airz_l2_j2, decide_eq_true hlt, cond_true, ifE_pos (show (0 : Int) ≤ i by omega), Int.toNat_natCast, g1, Option.bind_some, ctvol_at hc.1 hc.2.1 hc.2.2 k hk, ifE_pos hb, nat_next h1 (by omega), ih']
    simp only [vols, List.map_cons, List.append_assoc, List.cons_append, List.nil_append]
theorem vols_at (k : Nat) (hk : 30 ≤ k) (N : Int) (L : List Ct) : f12_airz k N L = some (.o0 (cond (chkB N L) (vols L) [])) := by
  obtain ⟨k, rfl⟩ : ∃ m, k = m + 1 := ⟨k - 1, by omega⟩
  simp only [f12_airz, f12_airz_e, check_at k N L (by omega), Option.bind_some]
  cases hc : chkB N L with
  | false => rfl
  | true =>
    obtain ⟨hN1, hN, hl, hL⟩ := chkB_ok hc
    have q := vols_l k (by omega) hL hl L.length 0 k [] (by omega) (by omega) rfl
    simp only [Int.natCast_zero] at q
    simp only [cond_true, bne_self_eq_false, cond_false, f12_airz_j1, q, Option.bind_some, f12_airz_j3, List.nil_append, List.drop_zero]
end Go.Proofs.YtmogplhglcodjaaV
