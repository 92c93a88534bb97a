/- The plain law of BundleHops. -/
import Derived.Test.YtbnnmplkbpgcaaaDoorVStmtBundleHops
import Derived.Test.YtbnnmplkbpgcaaaDoorVPEncH
namespace Go.Proofs.YtbnnmplkbpgcaaaDoorV
open Go Go.RowKit
set_option linter.unusedVariables false
set_option linter.unusedSimpArgs false
def dif : List Int → List Int → Nat
  | a :: x, b :: y => (if a = b then 0 else 1) + dif x y
  | _, _ => 0
theorem dif_self : ∀ x, dif x x = 0
  | [] => rfl
  | a :: x => by simp [dif, dif_self x]
theorem dif_mid (p q : Int) (B : List Int) : ∀ A : List Int, dif (A ++ p :: B) (A ++ q :: B) = if p = q then 0 else 1
  | [] => by simp [dif, dif_self]
  | a :: A => by simp [dif, dif_mid p q B A]
theorem dif_le : ∀ x y, dif x y ≤ x.length
  | [], y => by simp [dif]
  | a :: x, [] => by simp [dif]
  | a :: x, b :: y => by have := dif_le x y; simp only [dif, List.length_cons]; split <;> omega
theorem hop_byte {h : Int} (h0 : 0 ≤ h) (h1 : h ≤ 16) : or8 (sh5 0) (IntKind.u8.wrap h) = h := by
  obtain ⟨n, rfl⟩ := Int.eq_ofNat_of_zero_le h0
  have : n = 0 ∨ n = 1 ∨ n = 2 ∨ n = 3 ∨ n = 4 ∨ n = 5 ∨ n = 6 ∨ n = 7 ∨ n = 8 ∨ n = 9 ∨ n = 10 ∨ n = 11 ∨ n = 12 ∨ n = 13 ∨ n = 14 ∨ n = 15 ∨ n = 16 := by omega
  rcases this with rfl | rfl | rfl | rfl | rfl | rfl | rfl | rfl | rfl | rfl | rfl | rfl | rfl | rfl | rfl | rfl | rfl <;> decide
theorem hops_l (k : Nat) (x1 : Int) (a0 a1 a2 a3 a4 a5 a6 a7 a8 a9 : Int) (pl x y : List Int) (hx : x.length ≤ 100000) (hxy : x.length = y.length) : ∀ (d i n c : Nat), i + d = x.length → d < n → c ≤ i →
    f4_ai10rzi_l13 k n x1 c x.length i a0 a1 a2 a3 a4 a5 a6 a7 a8 a9 pl x y = some (.o1 x1 ((c + dif (x.drop i) (y.drop i) : Nat) : Int) x.length x.length false a0 a1 a2 a3 a4 a5 a6 a7 a8 a9 pl x y) := by
  intro d
  induction d with
  | zero =>
    intro i n c hi hq hc
    obtain ⟨n, rfl⟩ : ∃ m, n = m + 1 := ⟨n - 1, by omega⟩
    have e3 : i = x.length := by omega
    subst e3
    simp [f4_ai10rzi_l13, f4_ai10rzi_l13_b, dif]
  | succ d ih =>
    intro i n c hi hq hc
    obtain ⟨n, rfl⟩ : ∃ m, n = m + 1 := ⟨n - 1, by omega⟩
    have h1 : i < x.length := by omega
    have h2 : i < y.length := by omega
    have g1 : x[i]? = some x[i] := List.getElem?_eq_getElem h1
    have g2 : y[i]? = some y[i] := List.getElem?_eq_getElem h2
    have hlt : ((i : Int) < (x.length : Int)) := by omega
    have hlt2 : ((i : Int) < (y.length : Int)) := by omega
    have hge : ¬ ((i : Int) ≥ (y.length : Int)) := by omega
    have hw := nextN h1 (by omega)
    have hwc : IntKind.i64.wrap ((c : Int) + 1) = ((c + 1 : Nat) : Int) := by rw [wrap_i64 (by omega) (by omega)]; rfl
    rw [List.drop_eq_getElem_cons h1, List.drop_eq_getElem_cons h2]
    by_cases he : x[i] = y[i]
    · have hb : (x[i] != y[i]) = false := by rw [he]; exact bne_self_eq_false _
      have ih' := ih (i + 1) n c (by omega) (by omega) (by omega)
      simp only [f4_ai10rzi_l13, f4_ai10rzi_l13_b, f4_ai10rzi_l13_j1, f4_ai10rzi_l13_j3, decide_eq_true hlt, decide_eq_false hge, cond_true, cond_false, ifE_pos (show (0 : Int) ≤ i by omega), ifE_pos hlt, ifE_pos hlt2, Int.toNat_natCast, g1, g2, Option.bind_some, hb, hw, ih', dif, if_pos he, Nat.zero_add]
    · have hb : (x[i] != y[i]) = true := by simpa using he
      have ih' := ih (i + 1) n (c + 1) (by omega) (by omega) (by omega)
      simp only [f4_ai10rzi_l13, f4_ai10rzi_l13_b, f4_ai10rzi_l13_j1, f4_ai10rzi_l13_j2, decide_eq_true hlt, decide_eq_false hge, cond_true, cond_false, ifE_pos (show (0 : Int) ≤ i by omega), ifE_pos hlt, ifE_pos hlt2, Int.toNat_natCast, g1, g2, Option.bind_some, hb, hw, hwc, ih', dif, if_neg he, Nat.add_assoc]
theorem pureBundleHops : StmtBundleHops := by
  intro b hops g0 g1
  refine ⟨60001, ?_⟩
  have e9 : f9_ 60000 = some (.o0 true) := by simp only [f9_]; exact ifE_pos (by omega)
  by_cases hp : b.Payload.length ≤ 5000
  · have hpl : ¬ ((b.Payload.length : Int) > 5000) := by omega
    have hr : b.Payload.length ≤ roomy := by unfold roomy; omega
    have e13 : f13_ai10rz 60000 b.Source b.Dest b.Seq b.Created b.Lifetime b.HopLimit b.Hops b.Priority b.Offset b.Total b.Payload = some (.o0 b.Source b.Dest b.Seq b.Created b.Lifetime b.HopLimit b.Hops b.Priority b.Offset b.Total b.Payload) := by
      simp only [f13_ai10rz, f13_ai10rz_e, ifE_pos hr]
    obtain ⟨A, B, hA, hB, he⟩ := enc_h 60000 (by omega) b hp
    rcases he b.Hops with ⟨e, ne, q1⟩ | ⟨p0, p1, q1⟩
    · rcases he hops with ⟨e', ne', q2⟩ | ⟨p0', p1', q2⟩
      · simp only [f4_ai10rzi, f4_ai10rzi_e, f4_ai10rzi_j1, f4_ai10rzi_j2, e9, Option.bind_some, Bool.not_true, cond_false, decide_eq_false hpl, e13, q1, q2, ne, cond_true]
      · simp only [f4_ai10rzi, f4_ai10rzi_e, f4_ai10rzi_j1, f4_ai10rzi_j2, e9, Option.bind_some, Bool.not_true, cond_false, decide_eq_false hpl, e13, q1, q2, ne, cond_true]
    · rcases he hops with ⟨e', ne', q2⟩ | ⟨p0', p1', q2⟩
      · simp only [f4_ai10rzi, f4_ai10rzi_e, f4_ai10rzi_j1, f4_ai10rzi_j2, e9, Option.bind_some, Bool.not_true, cond_false, decide_eq_false hpl, e13, q1, q2, ne', cond_true, bne_self_eq_false]
      · rw [hop_byte p0 p1] at q1
        rw [hop_byte p0' p1'] at q2
        have hl := hops_l 60000 hops b.Source b.Dest b.Seq b.Created b.Lifetime b.HopLimit b.Hops b.Priority b.Offset b.Total b.Payload (A ++ b.Hops :: B) (A ++ hops :: B) (by simp; omega) (by simp) (A ++ b.Hops :: B).length 0 60000 0 (by omega) (by simp; omega) (by omega)
        rw [List.drop_zero, List.drop_zero, dif_mid, Nat.zero_add, Int.natCast_zero] at hl
        have hlen : (((A ++ b.Hops :: B).length : Int) == ((A ++ hops :: B).length : Int)) = true := by simp
        simp only [f4_ai10rzi, f4_ai10rzi_e, f4_ai10rzi_j1, f4_ai10rzi_j2, f4_ai10rzi_j12, f4_ai10rzi_j14, e9, Option.bind_some, Bool.not_true, cond_false, decide_eq_false hpl, e13, q1, q2, cond_true, bne_self_eq_false, hl, hlen]
        by_cases h : b.Hops = hops
        · simp [h]
        · have hb : (b.Hops == hops) = false := by simpa using h
          rw [if_neg h, hb]
          rfl
  · have hpl : ((b.Payload.length : Int) > 5000) := by omega
    simp only [f4_ai10rzi, f4_ai10rzi_e, f4_ai10rzi_j1, e9, Option.bind_some, Bool.not_true, cond_false, decide_eq_true hpl, cond_true]
end Go.Proofs.YtbnnmplkbpgcaaaDoorV
