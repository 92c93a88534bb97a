/- What the program cuts. -/
import Derived.Test.YteggcokgkcfliaaVPCut
namespace Go.Proofs.YteggcokgkcfliaaV
open Go
set_option linter.unusedVariables false
set_option linter.unusedSimpArgs false
theorem rnd_at (k : Nat) (hk : 2 ≤ k) (b : Bun) (hb : okP b) (o m : Nat) (h : o + m ≤ b.Payload.length) (acc : List Bun) (ha : acc.length ≤ 1000) :
    f999999999_iry_lppbiiiiiiiiiirbow k o (List.drop o (List.take (o + m) b.Payload)) b.Source b.Dest b.Seq b.Created b.Lifetime b.HopLimit b.Hops b.Priority b.Offset b.Total b.Payload acc = some (.o0 b.Source b.Dest b.Seq b.Created b.Lifetime b.HopLimit b.Hops b.Priority b.Offset b.Total b.Payload (acc ++ [piece b o m])) := by
  obtain ⟨k, rfl⟩ : ∃ z, k = z + 2 := ⟨k - 2, by omega⟩
  have bb := hb.b
  have e1 : List.drop o (List.take (o + m) b.Payload) = List.take m (List.drop o b.Payload) := by rw [List.drop_take, show o + m - o = m by omega]
  have h8 : (List.take m (List.drop o b.Payload)).length * 1 ≤ 8000 := by rw [List.length_take, List.length_drop]; omega
  have hr : (List.take m (List.drop o b.Payload)).length * 1 ≤ roomy := Nat.le_trans h8 (by decide)
  have h104 : (acc.length + 1) * 104 ≤ 200000 := by omega
  have hr2 : (acc.length + 1) * 104 ≤ roomy := Nat.le_trans h104 (by decide)
  have hw : IntKind.i64.wrap (b.Offset + (o : Int)) = b.Offset + o := wrap_i64 (by omega) (by omega)
  rw [e1]
  simp only [f999999999_iry_lppbiiiiiiiiiirbow, f999999999_iry_lppbiiiiiiiiiirbow_e, f28_r, ifE_pos hr, Option.bind_some, ifE_pos hr2, hw]
  rfl
theorem cut_step (b : Bun) (hb : okP b) (n : Int) (hn : 1 ≤ n) (o : Nat) (ho : o < b.Payload.length) :
    (if IntKind.i64.wrap ((b.Payload.length : Int) - (o : Int)) < n then IntKind.i64.wrap ((b.Payload.length : Int) - (o : Int)) else n) = ((min n.toNat (b.Payload.length - o) : Nat) : Int) ∧ IntKind.i64.wrap (((min n.toNat (b.Payload.length - o) : Nat) : Int) + (o : Int)) = ((o + min n.toNat (b.Payload.length - o) : Nat) : Int) := by
  have bb := hb.b
  rw [show IntKind.i64.wrap ((b.Payload.length : Int) - (o : Int)) = (b.Payload.length : Int) - o from wrap_i64 (by omega) (by omega)]
  refine ⟨by split <;> omega, ?_⟩
  rw [wrap_i64 (by omega) (by omega)]; omega
theorem cut_l2 (k : Nat) (hk : 2 ≤ k) (b : Bun) (hb : okP b) (n : Int) (hn : 1 ≤ n) : ∀ (f o m : Nat) (acc : List Bun), b.Payload.length ≤ o + f → o ≤ b.Payload.length → f < m → acc.length ≤ o →
    f37_ypp_lppbiiiiiiiiiirbowbrbi_l2 k m o b.Source b.Dest b.Seq b.Created b.Lifetime b.HopLimit b.Hops b.Priority b.Offset b.Total b.Payload acc b.Payload n = some (.o1 b.Payload.length false b.Source b.Dest b.Seq b.Created b.Lifetime b.HopLimit b.Hops b.Priority b.Offset b.Total b.Payload (acc ++ cutS b n.toNat f o) b.Payload n) := by
  have bb := hb.b
  intro f
  induction f with
  | zero =>
    intro o m acc h1 h2 h3 h4
    obtain ⟨m, rfl⟩ : ∃ z, m = z + 1 := ⟨m - 1, by omega⟩
    have e3 : o = b.Payload.length := by omega
    subst e3
    simp only [f37_ypp_lppbiiiiiiiiiirbowbrbi_l2, f37_ypp_lppbiiiiiiiiiirbowbrbi_l2_b, decide_eq_false (Int.lt_irrefl _), cond_false, Option.bind_some, cutS, List.append_nil]
  | succ f ih =>
    intro o m acc h1 h2 h3 h4
    obtain ⟨m, rfl⟩ : ∃ z, m = z + 1 := ⟨m - 1, by omega⟩
    by_cases ho : o < b.Payload.length
    · obtain ⟨s1, s2⟩ := cut_step b hb n hn o ho
      have hm : 1 ≤ min n.toNat (b.Payload.length - o) := by omega
      have hm2 : o + min n.toNat (b.Payload.length - o) ≤ b.Payload.length := by omega
      have r := rnd_at k hk b hb o (min n.toNat (b.Payload.length - o)) hm2 acc (by omega)
      have ih' := ih (o + min n.toNat (b.Payload.length - o)) m (acc ++ [piece b o (min n.toNat (b.Payload.length - o))]) (by omega) hm2 (by omega) (by simp; omega)
      rw [cutS, if_pos ho]
      simp only [f37_ypp_lppbiiiiiiiiiirbowbrbi_l2, f37_ypp_lppbiiiiiiiiiirbowbrbi_l2_b, f37_ypp_lppbiiiiiiiiiirbowbrbi_l2_j1, f37_ypp_lppbiiiiiiiiiirbowbrbi_l2_j2, decide_eq_true (show (o : Int) < (b.Payload.length : Int) by omega), cond_true, s1, s2, Int.toNat_natCast, ifE_pos (show (0 : Int) ≤ (o : Int) by omega), ifE_pos (show (0 : Int) ≤ ((o + min n.toNat (b.Payload.length - o) : Nat) : Int) by omega), ifE_pos (show o ≤ o + min n.toNat (b.Payload.length - o) by omega), ifE_pos hm2, r, Option.bind_some, ih', List.append_assoc, List.cons_append, List.nil_append]
    · have e3 : o = b.Payload.length := by omega
      rw [cutS, if_neg ho]
      subst e3
      simp only [f37_ypp_lppbiiiiiiiiiirbowbrbi_l2, f37_ypp_lppbiiiiiiiiiirbowbrbi_l2_b, decide_eq_false (Int.lt_irrefl _), cond_false, Option.bind_some, List.append_nil]
theorem cut_at (k : Nat) (hk : 1000 ≤ k) (b : Bun) (n : Int) : f11_ai10rzi k b.Source b.Dest b.Seq b.Created b.Lifetime b.HopLimit b.Hops b.Priority b.Offset b.Total b.Payload n = some (if okP b then (if n < 1 then .o0 2 [] else .o0 0 (cutB b n.toNat)) else .o0 190 []) := by
  obtain ⟨k, rfl⟩ : ∃ z, k = z + 2 := ⟨k - 2, by omega⟩
  simp only [f11_ai10rzi, f11_ai10rzi_e, chk_at (k + 1) (by omega) b, Option.bind_some]
  by_cases hb : okP b
  case neg => simp only [if_neg hb, show ((190 : Int) != 0) = true by decide, cond_true]
  simp only [if_pos hb, bne_self_eq_false, cond_false]
  by_cases hn : n < 1
  · simp only [decide_eq_true hn, cond_true, if_pos hn]
  · have bb := hb.b
    simp only [decide_eq_false hn, cond_false, if_neg hn, f11_ai10rzi_j1, f27_ri, f27_ri_e, Option.bind_some, f37_ypp_lppbiiiiiiiiiirbowbrbi, f37_ypp_lppbiiiiiiiiiirbowbrbi_e]
    obtain ⟨k', hk'⟩ : ∃ z, k = z + 1 := ⟨k - 1, by omega⟩
    obtain ⟨s1, s2⟩ := cut_step b hb n (by omega) 0 (by omega)
    have e0 : ((0 : Nat) : Int) = 0 := rfl
    rw [e0] at s1 s2
    rw [Nat.sub_zero, Nat.zero_add] at s2
    rw [Nat.sub_zero] at s1
    have hm2 : 0 + min n.toNat b.Payload.length ≤ b.Payload.length := by omega
    have r := rnd_at k (by omega) b hb 0 (min n.toNat b.Payload.length) hm2 [] (by simp)
    rw [e0, Nat.zero_add] at r
    have l2 := cut_l2 k (by omega) b hb n (by omega) (b.Payload.length - 1) (min n.toNat b.Payload.length) k' ([] ++ [piece b 0 (min n.toNat b.Payload.length)]) (by omega) (by omega) (by omega) (by simp; omega)
    have hc : cutB b n.toNat = [] ++ [piece b 0 (min n.toNat b.Payload.length)] ++ cutS b n.toNat (b.Payload.length - 1) (min n.toNat b.Payload.length) := by
      unfold cutB
      obtain ⟨z, hz⟩ : ∃ z, b.Payload.length = z + 1 := ⟨b.Payload.length - 1, by omega⟩
      have hcs : cutS b n.toNat (z + 1) 0 = if 0 < b.Payload.length then piece b 0 (min n.toNat (b.Payload.length - 0)) :: cutS b n.toNat z (0 + min n.toNat (b.Payload.length - 0)) else [] := by rw [cutS]
      rw [show cutS b n.toNat b.Payload.length 0 = cutS b n.toNat (z + 1) 0 by rw [hz], hcs, if_pos (by omega), Nat.sub_zero, Nat.zero_add, show b.Payload.length - 1 = z by omega]
      rfl
    have l1 : f37_ypp_lppbiiiiiiiiiirbowbrbi_l1 k k 0 b.Source b.Dest b.Seq b.Created b.Lifetime b.HopLimit b.Hops b.Priority b.Offset b.Total b.Payload [] b.Payload n = some (.o2 b.Payload.length false b.Source b.Dest b.Seq b.Created b.Lifetime b.HopLimit b.Hops b.Priority b.Offset b.Total b.Payload (cutB b n.toNat) b.Payload n) := by
      rw [show f37_ypp_lppbiiiiiiiiiirbowbrbi_l1 k k = f37_ypp_lppbiiiiiiiiiirbowbrbi_l1 k (k' + 1) by rw [← hk']]
      simp only [f37_ypp_lppbiiiiiiiiiirbowbrbi_l1, f37_ypp_lppbiiiiiiiiiirbowbrbi_l1_b, f37_ypp_lppbiiiiiiiiiirbowbrbi_l1_j1, f37_ypp_lppbiiiiiiiiiirbowbrbi_l1_j2, decide_eq_true (show (0 : Int) < (b.Payload.length : Int) by omega), cond_true, s1, s2, Int.toNat_natCast, show (0 : Int).toNat = 0 from rfl, ifE_pos (show (0 : Int) ≤ 0 by decide), ifE_pos (show (0 : Int) ≤ ((min n.toNat b.Payload.length : Nat) : Int) by omega), ifE_pos (show 0 ≤ min n.toNat b.Payload.length by omega), ifE_pos (show min n.toNat b.Payload.length ≤ b.Payload.length by omega), r, Option.bind_some, l2]
      rw [hc]
    simp only [l1, Option.bind_some, f11_ai10rzi_j3]
theorem cutB_chain {b : Bun} {n : Int} (hn : 1 ≤ n) : Chain b n.toNat 0 (cutB b n.toNat) b.Payload.length := cut_chain b n.toNat (by omega) b.Payload.length 0 (by omega) (by omega)
end Go.Proofs.YteggcokgkcfliaaV
