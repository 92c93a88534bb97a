/- The plain law of PiecesAgain. -/
import Derived.Test.YteggcokgkcfliaaVStmtPiecesAgain
import Derived.Test.YteggcokgkcfliaaVPWhole
namespace Go.Proofs.YteggcokgkcfliaaV
open Go Go.RowKit
set_option linter.unusedVariables false
set_option linter.unusedSimpArgs false
theorem fit_one {b : Bun} (h : GT25 b) : Fit (oneB b) := ⟨(wf_u32 h.2.2.1).1, oneB_len b, fun x hx => wf_u8 (h.2.2.2.2.2.2.2.2.2.2.2.2 x (List.mem_of_mem_take hx))⟩
def sumL : List Bun → Nat
  | [] => 0
  | p :: l => p.Payload.length + sumL l
theorem Chain.sum {b : Bun} {n o e : Nat} {l : List Bun} (h : Chain b n o l e) : o + sumL l = e := by
  induction h with
  | nil o => rfl
  | cons o m e l h1 h2 h3 h ih => rw [sumL, piece_len h3]; omega
theorem piece_piece {b : Bun} {o m o2 m2 : Nat} (h : o2 + m2 ≤ m) : piece (piece b o m) o2 m2 = piece b (o + o2) m2 := by
  unfold piece
  simp only []
  rw [List.drop_take, List.take_take, List.drop_drop, Nat.min_eq_left (by omega)]
  have : b.Offset + (o : Int) + (o2 : Int) = b.Offset + ((o + o2 : Nat) : Int) := by omega
  rw [this]
theorem piece_self (b : Bun) : piece b 0 b.Payload.length = b := by
  unfold piece
  rw [List.drop_zero, List.take_length, show b.Offset + ((0 : Nat) : Int) = b.Offset by omega]
theorem again_in (k : Nat) (hk : 1000 ≤ k) (b : Bun) (hb : okP b) (fb : Fit b) (n m : Int) (l A : List Bun) (x35 x36 : Int) (kk : List Bun) (hkl : kk.length ≤ 400) (hkk : ∀ y ∈ kk, Fit y ∧ togP b y ∧ (y.Payload.length : Int) ≤ m ∧ (y.Payload.length : Int) ≤ n) : ∀ (d j q t : Nat), j + d = kk.length → d < q → t + sumL (kk.drop j) ≤ 400 →
    f5_ai10rzii_l3_l3 k q n m t x35 x36 kk.length j b.Source b.Dest b.Seq b.Created b.Lifetime b.HopLimit b.Hops b.Priority b.Offset b.Total b.Payload A kk l = some (.o2 n m ((t + sumL (kk.drop j) : Nat) : Int) x35 x36 kk.length kk.length false b.Source b.Dest b.Seq b.Created b.Lifetime b.HopLimit b.Hops b.Priority b.Offset b.Total b.Payload A kk l) := by
  intro d
  induction d with
  | zero =>
    intro j q t hid hn ht
    obtain ⟨q, rfl⟩ : ∃ z, q = z + 1 := ⟨q - 1, by omega⟩
    have e1 : kk.drop j = [] := List.drop_eq_nil_of_le (by omega)
    have e3 : j = kk.length := by omega
    rw [e1]
    subst e3
    simp only [f5_ai10rzii_l3_l3, f5_ai10rzii_l3_l3_b, decide_eq_false (Int.lt_irrefl _), cond_false, Option.bind_some, sumL, Nat.add_zero]
  | succ d ih =>
    intro j q t hid hn ht
    obtain ⟨q, rfl⟩ : ∃ z, q = z + 1 := ⟨q - 1, by omega⟩
    have h1 : j < kk.length := by omega
    have g1 : kk[j]? = some kk[j] := List.getElem?_eq_getElem h1
    obtain ⟨fy, ty, y1, y2⟩ := hkk kk[j] (List.getElem_mem h1)
    rw [List.drop_eq_getElem_cons h1, sumL] at ht ⊢
    have ih' := ih (j + 1) q (t + kk[j].Payload.length) (by omega) (by omega) (by omega)
    have tb := togB_at k (by omega) fb fy
    rw [(togB_iff _ _).2 ty] at tb
    have hw : IntKind.i64.wrap ((t : Int) + (kk[j].Payload.length : Int)) = ((t + kk[j].Payload.length : Nat) : Int) := by rw [wrap_i64 (by omega) (by omega)]; rfl
    simp only [f5_ai10rzii_l3_l3, f5_ai10rzii_l3_l3_b, f5_ai10rzii_l3_l3_j1, f5_ai10rzii_l3_l3_j2, f5_ai10rzii_l3_l3_j3, decide_eq_true (show (j : Int) < (kk.length : Int) by omega), cond_true, cond_false, ifE_pos (show (0 : Int) ≤ (j : Int) by omega), ifE_pos (show (j : Int) < (kk.length : Int) by omega), Int.toNat_natCast, g1, Option.bind_some, tb, Bool.not_true, decide_eq_false (show ¬ (kk[j].Payload.length : Int) > m by omega), decide_eq_false (show ¬ (kk[j].Payload.length : Int) > n by omega), hw, i_next h1 (by omega), ih', Nat.add_assoc]
theorem again_l (k : Nat) (hk : 1000 ≤ k) (b : Bun) (hb : okP b) (fb : Fit b) (n m : Int) (hm : 1 ≤ m) (l : List Bun) (hll : l.length ≤ 400) (hl : ∀ p ∈ l, ∃ o z, p = piece b o z ∧ 1 ≤ z ∧ (z : Int) ≤ n ∧ o + z ≤ b.Payload.length) : ∀ (d i q t : Nat) (A : List Bun), i + d = l.length → d < q → t + sumL (l.drop i) ≤ 400 → A.length ≤ t → Pc b A →
    ∃ A', f5_ai10rzii_l3 k q n m t l.length i b.Source b.Dest b.Seq b.Created b.Lifetime b.HopLimit b.Hops b.Priority b.Offset b.Total b.Payload A l = some (.o2 n m ((t + sumL (l.drop i) : Nat) : Int) l.length l.length false b.Source b.Dest b.Seq b.Created b.Lifetime b.HopLimit b.Hops b.Priority b.Offset b.Total b.Payload A' l) ∧ A'.length ≤ 400 ∧ Pc b A' ∧ (∀ p ∈ A, p ∈ A') ∧ (∀ (j o z : Nat), i ≤ j → l[j]? = some (piece b o z) → o + z ≤ b.Payload.length → 1 ≤ z → ∀ w, o ≤ w → w < o + z → covers b A' w) := by
  have bb := hb.b
  intro d
  induction d with
  | zero =>
    intro i q t A hid hn ht hA hP
    obtain ⟨q, rfl⟩ : ∃ z, q = z + 1 := ⟨q - 1, by omega⟩
    have e1 : l.drop i = [] := List.drop_eq_nil_of_le (by omega)
    have e3 : i = l.length := by omega
    rw [e1]
    subst e3
    refine ⟨A, by simp only [f5_ai10rzii_l3, f5_ai10rzii_l3_b, decide_eq_false (Int.lt_irrefl _), cond_false, Option.bind_some, sumL, Nat.add_zero], by omega, hP, fun p hp => hp, fun j o z h1 h2 => ?_⟩
    have := (List.getElem?_eq_some_iff.1 h2).1
    omega
  | succ d ih =>
    intro i q t A hid hn ht hA hP
    obtain ⟨q, rfl⟩ : ∃ z, q = z + 1 := ⟨q - 1, by omega⟩
    have h1 : i < l.length := by omega
    have g1 : l[i]? = some l[i] := List.getElem?_eq_getElem h1
    obtain ⟨o, z, hx, z1, z2, z3⟩ := hl l[i] (List.getElem_mem h1)
    have okx : okP l[i] := by rw [hx]; exact piece_ok hb z3 z1
    have lx : l[i].Payload.length = z := by rw [hx]; exact piece_len z3
    rw [List.drop_eq_getElem_cons h1, sumL, lx] at ht ⊢
    have hcut := cut_at k (by omega) l[i] m
    rw [if_pos okx, if_neg (by omega)] at hcut
    have hch := cutB_chain (b := l[i]) (n := m) hm
    generalize cutB l[i] m.toNat = kk at hcut hch
    have hsum := hch.sum
    have hkl := hch.le.2
    have hcv := hch.cov
    have hpc : ∀ y ∈ kk, ∃ o2 m2, y = piece b (o + o2) m2 ∧ y = piece l[i] o2 m2 ∧ 1 ≤ m2 ∧ o2 + m2 ≤ z := by
      intro y hy
      obtain ⟨o2, m2, e, k1, k2⟩ := hch.pc y hy
      refine ⟨o2, m2, ?_, e, k1, by omega⟩
      rw [e, hx, piece_piece (by omega)]
    have hlen : ∀ y ∈ kk, (y.Payload.length : Int) ≤ m := by
      have : ∀ {o e : Nat} {kk : List Bun}, Chain l[i] m.toNat o kk e → ∀ y ∈ kk, (y.Payload.length : Int) ≤ m := by
        intro o e kk h
        induction h with
        | nil o => intro y hy; cases hy
        | cons o mm e l' h1 h2 h3 h ih =>
          intro y hy
          rcases List.mem_cons.1 hy with rfl | hy
          · rw [piece_len h3]; omega
          · exact ih y hy
      exact this hch
    have hkk : ∀ y ∈ kk, Fit y ∧ togP b y ∧ (y.Payload.length : Int) ≤ m ∧ (y.Payload.length : Int) ≤ n := by
      intro y hy
      obtain ⟨o2, m2, e, e2, k1, k2⟩ := hpc y hy
      have hly : y.Payload.length = m2 := by rw [e]; exact piece_len (by omega)
      refine ⟨by rw [e]; exact piece_fit fb _ _, ?_, hlen y hy, by omega⟩
      have := piece_tog hb (o := 0) (m := b.Payload.length) (o' := o + o2) (m' := m2) (by omega) (by omega) (by omega) k1
      rw [piece_self] at this
      rw [e]; exact this
    have inn := again_in k hk b hb fb n m l A l.length i kk (by omega) hkk kk.length 0 k t (by omega) (by omega) (by rw [List.drop_zero]; omega)
    have e0 : ((0 : Nat) : Int) = 0 := rfl
    rw [e0, List.drop_zero, show sumL kk = z by omega] at inn
    obtain ⟨A', r, r1, r2, r3, r4⟩ := ih (i + 1) q (t + z) (A ++ kk) (by omega) (by omega) (by omega) (by rw [List.length_append]; omega) (fun p hp => by
      rcases List.mem_append.1 hp with h | h
      · exact hP p h
      · obtain ⟨o2, m2, e, e2, k1, k2⟩ := hpc p h
        exact ⟨o + o2, m2, e, k1, by omega⟩)
    have h104 : (A.length + kk.length) * 104 ≤ 100000 := by omega
    have hr : (A.length + kk.length) * 104 ≤ roomy := Nat.le_trans h104 (by decide)
    refine ⟨A', ?_, r1, r2, fun p hp => r3 p (by simp [hp]), fun j oo zz hj hp hz hz1 w w1 w2 => ?_⟩
    · simp only [f5_ai10rzii_l3, f5_ai10rzii_l3_b, f5_ai10rzii_l3_j1, decide_eq_true (show (i : Int) < (l.length : Int) by omega), cond_true, ifE_pos (show (0 : Int) ≤ (i : Int) by omega), ifE_pos (show (i : Int) < (l.length : Int) by omega), Int.toNat_natCast, g1, Option.bind_some, hcut, bne_self_eq_false, cond_false, f5_ai10rzii_l3_j2, inn, f5_ai10rzii_l3_j4, ifE_pos hr, f5_ai10rzii_l3_j5, i_next h1 (by omega), r, Nat.add_assoc]
    · by_cases e : j = i
      · rw [e, g1] at hp
        have hp := Option.some.inj hp
        have eo : oo = o := by
          have := congrArg T25.Offset (hp.symm.trans hx)
          simp only [piece] at this
          omega
        have ez : zz = z := by
          have h2 := piece_len hz
          rw [← hp, lx] at h2
          exact h2.symm
        obtain ⟨o2, m2, k0, k1, k2, k3, k4⟩ := hcv (w - o) (by omega) (by omega)
        refine ⟨o + o2, m2, ?_, k1, by omega, by omega, by omega⟩
        refine r3 _ ?_
        have : piece l[i] o2 m2 = piece b (o + o2) m2 := by rw [hx, piece_piece (by omega)]
        rw [this] at k0
        simp [k0]
      · exact r4 j oo zz (by omega) hp hz hz1 w w1 w2
theorem Chain.pcn {b : Bun} {n o e : Nat} {l : List Bun} (h : Chain b n o l e) : ∀ p ∈ l, ∃ o z, p = piece b o z ∧ 1 ≤ z ∧ z ≤ n ∧ o + z ≤ b.Payload.length := by
  induction h with
  | nil o => intro p hp; cases hp
  | cons o m e l h1 h2 h3 h ih =>
    intro p hp
    rcases List.mem_cons.1 hp with rfl | hp
    · exact ⟨o, m, rfl, h1, h2, h3⟩
    · exact ih p hp
theorem purePiecesAgain : StmtPiecesAgain := by
  intro b0 n m hb0 hn hm
  obtain ⟨K, hK⟩ : ∃ K, K = 3000 := ⟨_, rfl⟩
  refine ⟨K + 1, ?_⟩
  obtain ⟨b, hbd⟩ : ∃ b, b = oneB b0 := ⟨_, rfl⟩
  have fb : Fit b := by rw [hbd]; exact fit_one hb0
  have s1 : f10_ai10rz K b0.Source b0.Dest b0.Seq b0.Created b0.Lifetime b0.HopLimit b0.Hops b0.Priority b0.Offset b0.Total b0.Payload = some (.o0 b.Source b.Dest b.Seq b.Created b.Lifetime b.HopLimit b.Hops b.Priority b.Offset b.Total b.Payload) := by rw [one_at K (by omega) b0, hbd]
  have s2 := cut_at K (by omega) b n
  simp only [f5_ai10rzii, f5_ai10rzii_e, f9_, ifE_pos (show 100 ≤ K by omega), Option.bind_some, Bool.not_true, cond_false, f5_ai10rzii_j1, s1, s2]
  by_cases hb : okP b
  case neg => simp only [if_neg hb, show ((190 : Int) != 0) = true by decide, cond_true]
  by_cases hn1 : n < 1
  · simp only [if_pos hb, if_pos hn1, show ((2 : Int) != 0) = true by decide, cond_true]
  simp only [if_pos hb, if_neg hn1, bne_self_eq_false, cond_false]
  by_cases hm1 : m < 1
  · simp only [decide_eq_true hm1, cond_true]
  simp only [decide_eq_false hm1, cond_false]
  have bb := hb.b
  have hch := cutB_chain (b := b) (n := n) (by omega)
  have hpc := hch.pcn
  have hle := hch.le.2
  have hcv := hch.cov
  have hsum := hch.sum
  generalize cutB b n.toNat = l at hch hpc hle hcv hsum
  obtain ⟨M, r, r1, r2, r3, r4⟩ := again_l K (by omega) b hb fb n m (by omega) l (by omega) (fun p hp => by obtain ⟨o, z, e, z1, z2, z3⟩ := hpc p hp; exact ⟨o, z, e, z1, by omega, z3⟩) l.length 0 K 0 [] (by omega) (by omega) (by rw [List.drop_zero]; omega) (by simp) (fun p hp => by cases hp)
  have e0 : ((0 : Nat) : Int) = 0 := rfl
  rw [e0, List.drop_zero, hsum] at r
  have hcov : ∀ q, q < b.Payload.length → covers b M q := by
    intro q hq
    obtain ⟨o, z, h1, h2, h3, h4, h5⟩ := hcv q (by omega) hq
    obtain ⟨j, hj⟩ := List.getElem?_of_mem h1
    exact r4 j o z (by omega) hj h3 h2 q h4 h5
  have hMne : M ≠ [] := by
    intro e
    obtain ⟨o, z, h1, _⟩ := hcov 0 (by omega)
    rw [e] at h1; cases h1
  have jp := join_pieces K (by omega) hb fb r2 hMne (by omega) hcov
  have hw := whole_at K (by omega) b
  simp only [f5_ai10rzii_j2, r, Option.bind_some, f5_ai10rzii_j4, bne_self_eq_false, cond_false]
  by_cases hwh : (b.Payload.length : Int) = b.Total
  · have hs := same_at K b b (by omega) (by omega)
    rw [decide_eq_true rfl] at hs
    have hwb : ((b.Payload.length : Int) == b.Total) = true := by rw [beq_iff_eq]; exact hwh
    rw [hwb] at hw
    simp only [f5_ai10rzii_j5, jp.1 hwh, hw, Option.bind_some, cond_true, beq_self_eq_true, hs]
  · have j1 := jp.2 hwh
    have hwb : ((b.Payload.length : Int) == b.Total) = false := by rw [beq_eq_false_iff_ne]; exact hwh
    rw [hwb] at hw
    simp only [f5_ai10rzii_j5, j1, hw, Option.bind_some, cond_false, beq_self_eq_true]
end Go.Proofs.YteggcokgkcfliaaV
