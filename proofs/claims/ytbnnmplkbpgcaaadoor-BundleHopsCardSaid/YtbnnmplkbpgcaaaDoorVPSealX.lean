/- Sums end, and seals are longer by their sums. -/
import Derived.Test.YtbnnmplkbpgcaaaDoorVPPutL
namespace Go.Proofs.YtbnnmplkbpgcaaaDoorV
open Go
set_option linter.unusedVariables false
set_option linter.unusedSimpArgs false
theorem sum16_l2 (k : Nat) (p : Int) (l : List Int) (a b : Int) : ∀ (d : Nat) (s : Int) (n : Nat), d ≤ 8 → d < n → ∃ s', f68_ri_l1_l2 k n p s l a b ((8 : Int) - d) = some (.o1 p s' l a b 8 false) := by
  intro d
  induction d with
  | zero =>
    intro s n _ hq
    obtain ⟨n, rfl⟩ : ∃ m, n = m + 1 := ⟨n - 1, by omega⟩
    exact ⟨s, by simp [f68_ri_l1_l2, f68_ri_l1_l2_b]⟩
  | succ d ih =>
    intro s n h8 hq
    obtain ⟨n, rfl⟩ : ∃ m, n = m + 1 := ⟨n - 1, by omega⟩
    have hw : IntKind.i64.wrap ((8 : Int) - ((d + 1 : Nat) : Int) + 1) = (8 : Int) - d := by rw [wrap_i64 (by omega) (by omega)]; omega
    have hlt : ((8 : Int) - ((d + 1 : Nat) : Int)) < 8 := by omega
    by_cases hc : ((IntKind.u16.wrap ((BitVec.ofInt (IntKind.bits .u16) s &&& BitVec.ofInt (IntKind.bits .u16) (1 : Int)).toNat : Nat)) == 1) = true
    · obtain ⟨s', e⟩ := ih (IntKind.u16.wrap ((BitVec.ofInt (IntKind.bits .u16) (Int.fdiv s (2 ^ (min 1 (IntKind.bits .u16)))) ^^^ BitVec.ofInt (IntKind.bits .u16) p).toNat : Nat)) n (by omega) (by omega)
      exact ⟨s', by simp only [f68_ri_l1_l2, f68_ri_l1_l2_b, f68_ri_l1_l2_j1, f68_ri_l1_l2_j2, decide_eq_true hlt, cond_true, hc, Option.bind_some, hw, e]⟩
    · rw [Bool.not_eq_true] at hc
      obtain ⟨s', e⟩ := ih (Int.fdiv s (2 ^ (min 1 (IntKind.bits .u16)))) n (by omega) (by omega)
      exact ⟨s', by simp only [f68_ri_l1_l2, f68_ri_l1_l2_b, f68_ri_l1_l2_j1, f68_ri_l1_l2_j3, decide_eq_true hlt, cond_true, cond_false, hc, Option.bind_some, hw, e]⟩
theorem sum16_l1 (k : Nat) (hk : 9 ≤ k) (p : Int) (l : List Int) (hl : l.length ≤ 100000) : ∀ (d i : Nat) (s : Int) (n : Nat), i + d = l.length → d < n → ∃ s', f68_ri_l1 k n p s l l.length i = some (.o1 p s' l l.length l.length false) := by
  intro d
  induction d with
  | zero =>
    intro i s n hi hq
    obtain ⟨n, rfl⟩ : ∃ m, n = m + 1 := ⟨n - 1, by omega⟩
    have e3 : i = l.length := by omega
    subst e3
    exact ⟨s, by simp [f68_ri_l1, f68_ri_l1_b]⟩
  | succ d ih =>
    intro i s n hi hq
    obtain ⟨n, rfl⟩ : ∃ m, n = m + 1 := ⟨n - 1, by omega⟩
    have h1 : i < l.length := by omega
    have g1 : l[i]? = some l[i] := List.getElem?_eq_getElem h1
    have hlt : ((i : Int) < (l.length : Int)) := by omega
    have hw := nextN h1 (by omega)
    obtain ⟨s1, e1⟩ := sum16_l2 k p l l.length i 8 (IntKind.u16.wrap ((BitVec.ofInt (IntKind.bits .u16) s ^^^ BitVec.ofInt (IntKind.bits .u16) (IntKind.u16.wrap l[i])).toNat : Nat)) k (by omega) (by omega)
    rw [show (8 : Int) - ((8 : Nat) : Int) = 0 by omega] at e1
    obtain ⟨s', e⟩ := ih (i + 1) s1 n (by omega) (by omega)
    exact ⟨s', by simp only [f68_ri_l1, f68_ri_l1_b, f68_ri_l1_j1, f68_ri_l1_j3, decide_eq_true hlt, cond_true, ifE_pos (show (0 : Int) ≤ i by omega), Int.toNat_natCast, g1, Option.bind_some, e1, hw, e]⟩
theorem sum16_ex (k : Nat) (p : Int) (l : List Int) (hl : l.length ≤ 100000) (hk : l.length + 12 ≤ k) : ∃ v, f68_ri k l p = some (.o0 v) := by
  obtain ⟨k, rfl⟩ : ∃ m, k = m + 1 := ⟨k - 1, by omega⟩
  obtain ⟨s', e⟩ := sum16_l1 k (by omega) p l hl l.length 0 (flipI .u16 (IntKind.u16.wrap 0)) k (by omega) (by omega)
  rw [Int.natCast_zero] at e
  exact ⟨flipI .u16 s', by simp only [f68_ri, f68_ri_e, e, Option.bind_some, f68_ri_j2]⟩
theorem sum32_l2 (k : Nat) (p : Int) (l : List Int) (a b : Int) : ∀ (d : Nat) (s : Int) (n : Nat), d ≤ 8 → d < n → ∃ s', f69_ri_l1_l2 k n p s l a b ((8 : Int) - d) = some (.o1 p s' l a b 8 false) := by
  intro d
  induction d with
  | zero =>
    intro s n _ hq
    obtain ⟨n, rfl⟩ : ∃ m, n = m + 1 := ⟨n - 1, by omega⟩
    exact ⟨s, by simp [f69_ri_l1_l2, f69_ri_l1_l2_b]⟩
  | succ d ih =>
    intro s n h8 hq
    obtain ⟨n, rfl⟩ : ∃ m, n = m + 1 := ⟨n - 1, by omega⟩
    have hw : IntKind.i64.wrap ((8 : Int) - ((d + 1 : Nat) : Int) + 1) = (8 : Int) - d := by rw [wrap_i64 (by omega) (by omega)]; omega
    have hlt : ((8 : Int) - ((d + 1 : Nat) : Int)) < 8 := by omega
    by_cases hc : ((IntKind.u32.wrap ((BitVec.ofInt (IntKind.bits .u32) s &&& BitVec.ofInt (IntKind.bits .u32) (1 : Int)).toNat : Nat)) == 1) = true
    · obtain ⟨s', e⟩ := ih (IntKind.u32.wrap ((BitVec.ofInt (IntKind.bits .u32) (Int.fdiv s (2 ^ (min 1 (IntKind.bits .u32)))) ^^^ BitVec.ofInt (IntKind.bits .u32) p).toNat : Nat)) n (by omega) (by omega)
      exact ⟨s', by simp only [f69_ri_l1_l2, f69_ri_l1_l2_b, f69_ri_l1_l2_j1, f69_ri_l1_l2_j2, decide_eq_true hlt, cond_true, hc, Option.bind_some, hw, e]⟩
    · rw [Bool.not_eq_true] at hc
      obtain ⟨s', e⟩ := ih (Int.fdiv s (2 ^ (min 1 (IntKind.bits .u32)))) n (by omega) (by omega)
      exact ⟨s', by simp only [f69_ri_l1_l2, f69_ri_l1_l2_b, f69_ri_l1_l2_j1, f69_ri_l1_l2_j3, decide_eq_true hlt, cond_true, cond_false, hc, Option.bind_some, hw, e]⟩
theorem sum32_l1 (k : Nat) (hk : 9 ≤ k) (p : Int) (l : List Int) (hl : l.length ≤ 100000) : ∀ (d i : Nat) (s : Int) (n : Nat), i + d = l.length → d < n → ∃ s', f69_ri_l1 k n p s l l.length i = some (.o1 p s' l l.length l.length false) := by
  intro d
  induction d with
  | zero =>
    intro i s n hi hq
    obtain ⟨n, rfl⟩ : ∃ m, n = m + 1 := ⟨n - 1, by omega⟩
    have e3 : i = l.length := by omega
    subst e3
    exact ⟨s, by simp [f69_ri_l1, f69_ri_l1_b]⟩
  | succ d ih =>
    intro i s n hi hq
    obtain ⟨n, rfl⟩ : ∃ m, n = m + 1 := ⟨n - 1, by omega⟩
    have h1 : i < l.length := by omega
    have g1 : l[i]? = some l[i] := List.getElem?_eq_getElem h1
    have hlt : ((i : Int) < (l.length : Int)) := by omega
    have hw := nextN h1 (by omega)
    obtain ⟨s1, e1⟩ := sum32_l2 k p l l.length i 8 (IntKind.u32.wrap ((BitVec.ofInt (IntKind.bits .u32) s ^^^ BitVec.ofInt (IntKind.bits .u32) (IntKind.u32.wrap l[i])).toNat : Nat)) k (by omega) (by omega)
    rw [show (8 : Int) - ((8 : Nat) : Int) = 0 by omega] at e1
    obtain ⟨s', e⟩ := ih (i + 1) s1 n (by omega) (by omega)
    exact ⟨s', by simp only [f69_ri_l1, f69_ri_l1_b, f69_ri_l1_j1, f69_ri_l1_j3, decide_eq_true hlt, cond_true, ifE_pos (show (0 : Int) ≤ i by omega), Int.toNat_natCast, g1, Option.bind_some, e1, hw, e]⟩
theorem sum32_ex (k : Nat) (p : Int) (l : List Int) (hl : l.length ≤ 100000) (hk : l.length + 12 ≤ k) : ∃ v, f69_ri k l p = some (.o0 v) := by
  obtain ⟨k, rfl⟩ : ∃ m, k = m + 1 := ⟨k - 1, by omega⟩
  obtain ⟨s', e⟩ := sum32_l1 k (by omega) p l hl l.length 0 (flipI .u32 (IntKind.u32.wrap 0)) k (by omega) (by omega)
  rw [Int.natCast_zero] at e
  exact ⟨flipI .u32 s', by simp only [f69_ri, f69_ri_e, e, Option.bind_some, f69_ri_j2]⟩
theorem seal_l (k : Nat) (x : Int) (w : Nat) (hw8 : w ≤ 8) : ∀ (d i n : Nat) (h : List Int), i + d = w → d < n → h.length + d ≤ 100000 → ∃ h', f54_rii_l1 k n x w i h = some (.o1 x w w false h') ∧ h'.length = h.length + d := by
  intro d
  induction d with
  | zero =>
    intro i n h hi hq _
    obtain ⟨n, rfl⟩ : ∃ m, n = m + 1 := ⟨n - 1, by omega⟩
    have e3 : i = w := by omega
    subst e3
    exact ⟨h, by simp [f54_rii_l1, f54_rii_l1_b], rfl⟩
  | succ d ih =>
    intro i n h hi hq hl
    obtain ⟨n, rfl⟩ : ∃ m, n = m + 1 := ⟨n - 1, by omega⟩
    have e2 : IntKind.i64.wrap ((8 : Int) * (i : Int)) = ((8 * i : Nat) : Int) := by rw [wrap_i64 (by omega) (by omega)]; simp
    have hlt : ((i : Int) < (w : Int)) := by omega
    have hw := nextN (show i < w by omega) (by omega)
    have hr : h.length + 1 ≤ roomy := by unfold roomy; omega
    obtain ⟨h', e, el⟩ := ih (i + 1) n (h ++ [IntKind.u8.wrap (Int.fdiv x (2 ^ (min (8 * i) (IntKind.bits .u32))))]) (by omega) (by omega) (by rw [List.length_append]; simp; omega)
    refine ⟨h', ?_, by rw [el, List.length_append]; simp; omega⟩
    simp only [f54_rii_l1, f54_rii_l1_b, f54_rii_l1_j1, f54_rii_l1_j2, decide_eq_true hlt, cond_true, e2, ifE_pos (show ¬ (((8 * i : Nat) : Int) < 0) by omega), ifE_pos hr, Int.toNat_natCast, Option.bind_some, hw, e]
theorem seal_ex (k : Nat) (hk : 12 ≤ k) (l : List Int) (x : Int) (w : Nat) (hw : w ≤ 8) (hl : l.length ≤ 90000) : ∃ s, f54_rii k l x w = some (.o0 s) ∧ s.length = l.length + w := by
  obtain ⟨k, rfl⟩ : ∃ m, k = m + 2 := ⟨k - 2, by omega⟩
  have hr : l.length * 1 ≤ roomy := by unfold roomy; omega
  obtain ⟨h', e, el⟩ := seal_l (k + 1) x w hw w 0 (k + 1) l (by omega) (by omega) (by omega)
  rw [Int.natCast_zero] at e
  exact ⟨h', by simp only [f54_rii, f54_rii_e, f54_rii_j2, f53_r, ifE_pos hr, Option.bind_some, e], el⟩
theorem seal16_ex (k : Nat) (l : List Int) (hl : l.length ≤ 80000) (hk : l.length + 20 ≤ k) : ∃ s, f35_r k l = some (.o0 s) ∧ s.length = l.length + 2 := by
  obtain ⟨k, rfl⟩ : ∃ m, k = m + 2 := ⟨k - 2, by omega⟩
  obtain ⟨v, e⟩ := sum16_ex k 33800 l (by omega) (by omega)
  obtain ⟨s, e1, e2⟩ := seal_ex (k + 1) (by omega) l (IntKind.u32.wrap v) 2 (by omega) (by omega)
  exact ⟨s, by simp only [f35_r, f35_r_e, f55_r, f55_r_e, e, Option.bind_some]; exact (by rw [show (2 : Int) = ((2 : Nat) : Int) from rfl, e1]; rfl), e2⟩
theorem seal32_ex (k : Nat) (l : List Int) (hl : l.length ≤ 80000) (hk : l.length + 20 ≤ k) : ∃ s, f37_r k l = some (.o0 s) ∧ s.length = l.length + 4 := by
  obtain ⟨k, rfl⟩ : ∃ m, k = m + 2 := ⟨k - 2, by omega⟩
  obtain ⟨v, e⟩ := sum32_ex k 2197175160 l (by omega) (by omega)
  obtain ⟨s, e1, e2⟩ := seal_ex (k + 1) (by omega) l v 4 (by omega) (by omega)
  exact ⟨s, by simp only [f37_r, f37_r_e, f56_r, f56_r_e, e, Option.bind_some]; exact (by rw [show (4 : Int) = ((4 : Nat) : Int) from rfl, e1]; rfl), e2⟩
end Go.Proofs.YtbnnmplkbpgcaaaDoorV
