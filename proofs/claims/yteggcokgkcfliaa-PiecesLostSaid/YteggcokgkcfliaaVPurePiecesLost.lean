/- The plain law of PiecesLost. -/
import Derived.Test.YteggcokgkcfliaaVStmtPiecesLost
import Derived.Test.YteggcokgkcfliaaVPWhole
namespace Go.Proofs.YteggcokgkcfliaaV
open Go Go.RowKit
set_option linter.unusedVariables false
set_option linter.unusedSimpArgs false
theorem fit_one {b : Bun} (h : GT25 b) : Fit (oneB b) := ⟨(wf_u32 h.2.2.1).1, oneB_len b, fun x hx => wf_u8 (h.2.2.2.2.2.2.2.2.2.2.2.2 x (List.mem_of_mem_take hx))⟩
theorem gapsS_rt : ∀ (o : Nat) (r : List Bool) (i : Nat), gapsS (List.replicate o true ++ r) i none = gapsS r (i + o) none
  | 0, r, i => by simp
  | o + 1, r, i => by rw [List.replicate_succ, List.cons_append, gapsS, gapsS_rt o r (i + 1), show i + 1 + o = i + (o + 1) by omega]
theorem gapsS_rf : ∀ (m : Nat) (r : List Bool) (i s : Nat), gapsS (List.replicate m false ++ r) i (some s) = gapsS r (i + m) (some s)
  | 0, r, i, s => by simp
  | m + 1, r, i, s => by rw [List.replicate_succ, List.cons_append, gapsS, gapsS_rf m r (i + 1) s, show i + 1 + m = i + (m + 1) by omega]
theorem gaps_one (o m c : Nat) (hm : 1 ≤ m) : gapsF (List.replicate o true ++ (List.replicate m false ++ List.replicate c true)) = [⟨(o : Int), (m : Int)⟩] := by
  unfold gapsF
  rw [gapsS_rt, Nat.zero_add]
  obtain ⟨m, rfl⟩ : ∃ z, m = z + 1 := ⟨m - 1, by omega⟩
  rw [List.replicate_succ, List.cons_append, gapsS, gapsS_rf]
  have e : (((o + 1 + m : Nat) : Int)) - (o : Int) = ((m + 1 : Nat) : Int) := by omega
  cases c with
  | zero => rw [List.replicate_zero, gapsS, e]
  | succ c =>
    rw [List.replicate_succ, gapsS, e, gapsS_true _ _ fun x hx => (List.mem_replicate.1 hx).2]
theorem lost_has {b : Bun} (hb : okP b) (hw : (b.Payload.length : Int) = b.Total) {n : Nat} {pre suf : List Bun} {o m : Nat} (h1 : Chain b n 0 pre o) (h2 : Chain b n (o + m) suf b.Payload.length) (hm : 1 ≤ m) (ho : o + m ≤ b.Payload.length) (hne : pre ++ suf ≠ []) :
    hasF (pre ++ suf) = List.replicate o true ++ (List.replicate m false ++ List.replicate (b.Payload.length - (o + m)) true) := by
  have bb := hb.b
  have hP : Pc b (pre ++ suf) := fun p hp => (List.mem_append.1 hp).elim (h1.pc p) (h2.pc p)
  have hoff : b.Offset.toNat = 0 := by omega
  have cov : ∀ q, covers b (pre ++ suf) q → q < o ∨ o + m ≤ q := by
    rintro q ⟨o', m', k, r⟩
    rcases List.mem_append.1 k with k | k
    · exact .inl (h1.uncov q ⟨o', m', k, r⟩).2
    · exact .inr (h2.uncov q ⟨o', m', k, r⟩).1
  have covs : ∀ q, q < b.Payload.length → (q < o ∨ o + m ≤ q) → covers b (pre ++ suf) q := by
    intro q hq h
    rcases h with h | h
    · exact (h1.cov q (by omega) h).mono fun p hp => List.mem_append_left _ hp
    · exact (h2.cov q h hq).mono fun p hp => List.mem_append_right _ hp
  obtain ⟨c, r, hcr⟩ : ∃ c r, pre ++ suf = c :: r := by
    cases hx : pre ++ suf with
    | nil => exact absurd hx hne
    | cons c r => exact ⟨c, r, rfl⟩
  rw [hcr] at hP cov covs ⊢
  have e1 := (hasF_pc hb hP).1
  have hl := hasL_len (c :: r) (List.replicate b.Total.toNat false) (fun p hp => by
    obtain ⟨o, m, rfl, m1, m2⟩ := hP p hp
    exact ⟨piece_ok hb m2 m1, by simp only [piece, List.length_replicate]; omega⟩)
  rw [List.length_replicate] at hl
  rw [e1]
  refine List.ext_getElem? fun q => ?_
  by_cases hq : q < b.Payload.length
  · have g := has_get hb (c :: r) (List.replicate b.Total.toNat false) hP (by rw [List.length_replicate]; omega) q hq
    rw [hoff, Nat.zero_add] at g
    by_cases q1 : q < o
    · rw [g.1 (covs q hq (.inl q1)), List.getElem?_append_left (by rw [List.length_replicate]; exact q1), List.getElem?_replicate, if_pos q1]
    · rw [List.getElem?_append_right (by rw [List.length_replicate]; omega), List.length_replicate]
      by_cases q2 : q < o + m
      · rw [g.2.2 (fun h => by have := cov q h; omega), List.getElem?_replicate, if_pos (by omega), List.getElem?_append_left (by rw [List.length_replicate]; omega), List.getElem?_replicate, if_pos (by omega)]
      · rw [g.1 (covs q hq (.inr (by omega))), List.getElem?_append_right (by rw [List.length_replicate]; omega), List.length_replicate, List.getElem?_replicate, if_pos (by omega)]
  · rw [List.getElem?_eq_none (by omega), List.getElem?_eq_none (by simp only [List.length_append, List.length_replicate]; omega)]
theorem samen_at (k : Nat) (hk : 10 ≤ k) : f20_ai10rzai10nz k 0 0 0 0 0 0 0 0 0 0 [] 0 0 0 0 0 0 0 0 0 0 = some (.o0 true) := by
  obtain ⟨k, rfl⟩ : ∃ m, k = m + 3 := ⟨k - 3, by omega⟩
  have h := seq_at [] [] (by simp) (k + 1) (by simp; omega)
  rw [decide_eq_true rfl] at h
  simp only [f20_ai10rzai10nz, f20_ai10rzai10nz_e, f33_rr, f33_rr_e, h, Option.bind_some, cond_true, f34_ai10rzai10rz, f34_ai10rzai10rz_e, f39_ai10rz, f39_ai10rz_e, beq_self_eq_true, Bool.and_self]
theorem purePiecesLost : StmtPiecesLost := by
  intro b0 n lost hb0 hn hlost
  obtain ⟨K, hK⟩ : ∃ K, K = 3000 := ⟨_, rfl⟩
  refine ⟨K + 1, ?_⟩
  obtain ⟨b, hbd⟩ : ∃ b, b = oneB b0 := ⟨_, rfl⟩
  have fb : Fit b := by rw [hbd]; exact fit_one hb0
  have s1 : f10_ai10rz K b0.Source b0.Dest b0.Seq b0.Created b0.Lifetime b0.HopLimit b0.Hops b0.Priority b0.Offset b0.Total b0.Payload = some (.o0 b.Source b.Dest b.Seq b.Created b.Lifetime b.HopLimit b.Hops b.Priority b.Offset b.Total b.Payload) := by rw [one_at K (by omega) b0, hbd]
  have s2 := cut_at K (by omega) b n
  have s3 := whole_at K (by omega) b
  simp only [f8_ai10rzii, f8_ai10rzii_e, f9_, ifE_pos (show 100 ≤ K by omega), Option.bind_some, Bool.not_true, cond_false, f8_ai10rzii_j1, s1, s2, s3]
  by_cases hb : okP b
  case neg => simp only [if_neg hb, show ((190 : Int) != 0) = true by decide, cond_true]
  by_cases hn1 : n < 1
  · simp only [if_pos hb, if_pos hn1, show ((2 : Int) != 0) = true by decide, cond_true]
  simp only [if_pos hb, if_neg hn1, bne_self_eq_false, cond_false]
  by_cases hw : (b.Payload.length : Int) = b.Total
  case neg => rw [show ((b.Payload.length : Int) == b.Total) = false by rw [beq_eq_false_iff_ne]; exact hw]; rfl
  rw [show ((b.Payload.length : Int) == b.Total) = true by rw [beq_iff_eq]; exact hw]
  simp only [Bool.not_true, cond_false]
  have bb := hb.b
  have hch := cutB_chain (b := b) (n := n) (by omega)
  have hle := hch.le.2
  generalize cutB b n.toNat = l at hch hle
  by_cases hl2 : (l.length : Int) < 2
  · simp only [decide_eq_true hl2, cond_true]
  simp only [decide_eq_false hl2, cond_false]
  obtain ⟨z, hz, ez⟩ := umod (x := lost) (show 0 < l.length by omega) (by omega)
  have gz : l[z]? = some l[z] := List.getElem?_eq_getElem hz
  have hu : ¬ IntKind.u64.wrap (l.length : Int) = 0 := by rw [wrap_u64 (by omega) (by omega)]; omega
  have hsp : l = l.take z ++ l[z] :: l.drop (z + 1) := by rw [← List.drop_eq_getElem_cons hz, List.take_append_drop]
  have hch2 := hch
  rw [hsp] at hch2
  obtain ⟨o, m, ex, m1, m2, m3, c1, c2⟩ := Chain.split hch2
  have htl : List.take (l.length - (z + 1)) (List.drop (z + 1) l) = List.drop (z + 1) l := List.take_of_length_le (by rw [List.length_drop]; exact Nat.le_refl _)
  have hne : l.take z ++ l.drop (z + 1) ≠ [] := by
    intro e
    have := congrArg List.length e
    simp only [List.length_append, List.length_take, List.length_drop, List.length_nil] at this
    omega
  have hrl : (l.take z ++ l.drop (z + 1)).length ≤ 1000 := by simp only [List.length_append, List.length_take, List.length_drop]; omega
  have hP : Pc b (l.take z ++ l.drop (z + 1)) := fun p hp => (List.mem_append.1 hp).elim (c1.pc p) (c2.pc p)
  have hh := lost_has hb hw c1 c2 m1 m3 hne
  have hg : gapsF (hasF (l.take z ++ l.drop (z + 1))) = [⟨(o : Int), (m : Int)⟩] := by rw [hh, gaps_one o m _ m1]
  have hck := Pc.chk hb hP hne
  have q1 := join_at K (by omega) (l.take z ++ l.drop (z + 1)) hrl (Pc.fit fb hP)
  have q2 := miss_at K (by omega) (l.take z ++ l.drop (z + 1)) hrl (Pc.fit fb hP)
  rw [hck, cond_true, hg, show decide ((([(⟨(o : Int), (m : Int)⟩ : Cl)].length : Int)) > 0) = true from rfl, cond_true] at q1
  rw [hck, cond_true, hg] at q2
  have w1 : IntKind.i64.wrap ((z : Int) + 1) = ((z + 1 : Nat) : Int) := i_next hz (by omega)
  have hr1 : (l.take z).length * 104 ≤ roomy := Nat.le_trans (show (l.take z).length * 104 ≤ 50000 by rw [List.length_take]; omega) (by decide)
  have hr2 : ((l.take z).length + (l.drop (z + 1)).length) * 104 ≤ roomy := Nat.le_trans (show ((l.take z).length + (l.drop (z + 1)).length) * 104 ≤ 100000 by rw [List.length_take, List.length_drop]; omega) (by decide)
  have hxo : l[z].Offset = (o : Int) := by rw [ex]; simp only [piece]; omega
  have hxl : l[z].Payload.length = m := by rw [ex]; exact piece_len m3
  simp only [f8_ai10rzii_j2, ifE_pos hu, ez, Int.toNat_natCast, ifE_pos (show (0 : Int) ≤ (z : Int) by omega), ifE_pos (show (z : Int) < (l.length : Int) by omega), gz, Option.bind_some, ifE_pos (show z ≤ l.length by omega), ifE_pos hr1, w1, ifE_pos (show (0 : Int) ≤ ((z + 1 : Nat) : Int) by omega), ifE_pos (show z + 1 ≤ l.length by omega), ifE_pos (show z + 1 + (l.length - (z + 1)) ≤ l.length by omega), htl, ifE_pos hr2, q1, q2, beq_self_eq_true, cond_true, samen_at K (by omega), List.length_singleton, show ((((1 : Nat) : Int)) == 1) = true from rfl, ifE_pos (show (0 : Int) < ((1 : Nat) : Int) by decide), List.getElem?_cons_zero, hxo, hxl]
end Go.Proofs.YteggcokgkcfliaaV
