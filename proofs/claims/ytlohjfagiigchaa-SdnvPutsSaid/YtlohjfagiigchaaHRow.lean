/- Rows of numbers: what the printed functions answer. -/
import Derived.Test.YtlohjfagiigchaaPxf20
import Derived.Test.YtlohjfagiigchaaPxf22
import Derived.Test.YtlohjfagiigchaaHSdnv
namespace Go.Proofs.Ytlohjfagiigchaa.P
open Go.RowKit Go.Proofs.YtlohjfagiigchaaW.PrintWords Go.Proofs.YtlohjfagiigchaaW.PrintLast Go.Proofs.YtlohjfagiigchaaW.PrintMore
set_option linter.unusedVariables false
set_option linter.unusedSimpArgs false
/-- The bytes of numbers, one behind the other. -/
def rowb : List Nat → List Int
  | [] => []
  | n :: l => pl n (sz n) ++ rowb l
theorem rowb_append : ∀ a b, rowb (a ++ b) = rowb a ++ rowb b
  | [], b => rfl
  | n :: a, b => by rw [List.cons_append, rowb, rowb, rowb_append a b, List.append_assoc]
theorem rowb_bytes : ∀ l, Bytes (rowb l)
  | [] => by intro x hx; simp [rowb] at hx
  | n :: l => (pl_bytes n _).append (rowb_bytes l)
theorem rowb_length : ∀ l, (rowb l).length ≤ 10 * l.length
  | [] => by simp [rowb]
  | n :: l => by
    have := rowb_length l
    have := sz_le n
    rw [rowb, List.length_append, pl_length, List.length_cons]
    omega
/-- Whole numbers as the model holds them. -/
def ofN (l : List Nat) : List Int := l.map Int.ofNat
theorem ofN_length (l : List Nat) : (ofN l).length = l.length := by simp [ofN]
theorem ofN_wf : ∀ {l : List Int}, (∀ x ∈ l, (Lit.int .u64 x).wf = true) → ∃ m : List Nat, l = ofN m ∧ ∀ n ∈ m, n < 2 ^ 64
  | [], _ => ⟨[], rfl, by simp⟩
  | x :: l, h => by
    obtain ⟨m, rfl, hm⟩ := ofN_wf (l := l) fun y hy => h y (List.mem_cons_of_mem _ hy)
    obtain ⟨n, rfl, hn⟩ := u64_wf (h x (List.mem_cons_self ..))
    refine ⟨n :: m, rfl, ?_⟩
    intro z hz
    rcases List.mem_cons.1 hz with e | e
    · rw [e]; exact hn
    · exact hm z e
theorem row_l0 {l : List Nat} (hl : l.length < 10000000000) (h64 : ∀ n ∈ l, n < 2 ^ 64) : ∀ (m i : Nat) (x : List Int), m + i = l.length → x.length + 10 * m < 140737488355328 → Ev (fun k => sdnv_Row.l0 k x (ofN l) (l.length : Int) (i : Int)) (x ++ rowb (l.drop i))
  | 0, i, x, h, hx => Ev.one fun k => by
    show sdnv_Row.l0 (k + 1) _ _ _ _ = _
    simp only [sdnv_Row.l0]
    rw [if_neg (by omega), List.drop_eq_nil_of_le (by omega), rowb, List.append_nil]
  | m + 1, i, x, h, hx => by
    have hi : i < l.length := by omega
    have hrd : rd (ofN l) (i : Int) = (l[i] : Int) := by rw [rd_at (by rw [ofN_length]; exact hi)]; simp [ofN]
    have hn := h64 l[i] (List.getElem_mem hi)
    have hle := sz_le l[i]
    refine Ev.step (f := fun k => (sdnv_Put.f k x (l[i] : Int)).bind fun t => sdnv_Row.l0 k t (ofN l) (l.length : Int) ((i + 1 : Nat) : Int)) (fun k => ?_) (Ev.bind (put_ev hn (by omega)) ?_)
    · simp only [sdnv_Row.l0]
      rw [if_pos (by omega), if_pos (by omega), if_pos (by rw [ofN_length]; omega), hrd, w64_succ (by omega)]
    · have := row_l0 hl h64 m (i + 1) (x ++ pl l[i] (sz l[i])) (by omega) (by rw [List.length_append, pl_length]; omega)
      rw [List.drop_eq_getElem_cons hi, rowb, ← List.append_assoc]
      exact this
theorem row_ev {l : List Nat} (hl : l.length < 10000000000) (h64 : ∀ n ∈ l, n < 2 ^ 64) : Ev (fun k => sdnv_Row.f k (ofN l)) (rowb l) := by
  have := row_l0 hl h64 l.length 0 [] (by omega) (by simp; omega)
  rw [List.drop_zero, List.nil_append] at this
  unfold sdnv_Row.f
  rw [ofN_length]
  exact this

/-- As many numbers as are asked for, out of bytes. -/
def rowsS : Nat → List Int → Nat → List Int → List Int × Int × Int
  | 0, acc, at_, _ => (acc, (at_ : Int), 0)
  | m + 1, acc, at_, b => if (gets b).2.2 = 0 then rowsS m (acc ++ [(gets b).1]) (at_ + (gets b).2.1.toNat) (b.drop (gets b).2.1.toNat) else ([], 0, (gets b).2.2)
def rows (b : List Int) (n : Int) : List Int × Int × Int := if n < 0 ∨ 65536 < n then ([], 0, 2) else rowsS n.toNat [] 0 b
theorem gets_len {b : List Int} (hb : Bytes b) (h : (gets b).2.2 = 0) : ∃ j : Nat, (gets b).2.1 = (j : Int) ∧ j ≤ b.length ∧ 0 < j := by
  obtain ⟨n, hn, e1, e2, e3, e4⟩ := gets_back hb (r1 := (gets b).1) (r2 := (gets b).2.1) (by rw [← h])
  exact ⟨_, e2, e3, sz_pos n⟩
theorem rows_l0 {b : List Int} (hb : Bytes b) (hl : b.length < 140737488355328) (N : Nat) (hN : N ≤ 65536) : ∀ (m i at_ : Nat) (acc : List Int), m + i = N → at_ ≤ b.length → acc.length ≤ i → Ev (fun k => sdnv_Rows.l0 k b acc (at_ : Int) (N : Int) (i : Int)) (rowsS m acc at_ (b.drop at_))
  | 0, i, at_, acc, h, ha, hc => Ev.one fun k => by
    show sdnv_Rows.l0 (k + 1) _ _ _ _ _ = _
    simp only [sdnv_Rows.l0]
    rw [if_neg (by omega), rowsS]
  | m + 1, i, at_, acc, h, ha, hc => by
    have hbd := hb.drop at_
    have hg := get_ev (l := b.drop at_) hbd (by rw [List.length_drop]; omega)
    rw [rowsS]
    refine Ev.step (f := fun k => (sdnv_Get.f k (b.drop at_)).bind fun t => if t.2.2 = 0 then sdnv_Rows.l0 k b (acc ++ [t.1]) (wrap64 ((at_ : Int) + t.2.1)) (N : Int) ((i + 1 : Nat) : Int) else some ([], 0, t.2.2)) (fun k => ?_) (Ev.bind hg ?_)
    · simp only [sdnv_Rows.l0]
      rw [if_pos (by omega), if_pos (by omega), if_pos (by omega), Int.toNat_natCast, w64_succ (by omega)]
      simp only [show acc.length < 17592186044416 by omega, if_true]
    · by_cases h0 : (gets (b.drop at_)).2.2 = 0
      · refine Ev.pos h0 ?_
        rw [if_pos h0]
        obtain ⟨j, e, hj, hj0⟩ := gets_len hbd h0
        rw [List.length_drop] at hj
        rw [e, Int.toNat_natCast, List.drop_drop, show wrap64 ((at_ : Int) + (j : Int)) = ((at_ + j : Nat) : Int) by unfold wrap64; omega]
        exact rows_l0 hb hl N hN m (i + 1) (at_ + j) _ (by omega) (by omega) (by simp; omega)
      · refine Ev.neg h0 ?_
        rw [if_neg h0]
        exact Ev.now _
theorem rows_ev {b : List Int} (hb : Bytes b) (hl : b.length < 140737488355328) (n : Int) : Ev (fun k => sdnv_Rows.f k b n) (rows b n) := by
  unfold sdnv_Rows.f rows
  by_cases h1 : n < 0
  · refine Ev.pos h1 (Ev.one fun k => ?_)
    show sdnv_Rows.j0 (k + 1) _ _ _ = _
    rw [if_pos (.inl h1), sdnv_Rows.j0, if_pos rfl]
  · refine Ev.neg h1 ?_
    by_cases h2 : n > 65536
    · rw [decide_eq_true h2, if_pos (.inr h2)]
      exact Ev.one fun k => by
        show sdnv_Rows.j0 (k + 1) _ _ _ = _
        rw [sdnv_Rows.j0, if_pos rfl]
    · rw [decide_eq_false h2, if_neg (by omega)]
      obtain ⟨N, rfl⟩ := Int.eq_ofNat_of_zero_le (show 0 ≤ n by omega)
      rw [Int.toNat_natCast]
      have := rows_l0 hb hl N (by omega) N 0 0 [] rfl (by omega) (by simp)
      rw [List.drop_zero] at this
      refine Ev.step (fun k => ?_) this
      simp only [sdnv_Rows.j0]
      rfl
theorem rowsS_back (behind : List Int) : ∀ (l : List Nat) (acc : List Int) (i : Nat), (∀ n ∈ l, n < 2 ^ 64) → rowsS l.length acc i (rowb l ++ behind) = (acc ++ ofN l, ((i + (rowb l).length : Nat) : Int), 0)
  | [], acc, i, _ => by simp [rowsS, rowb, ofN]
  | n :: l, acc, i, h => by
    have hn := h n (List.mem_cons_self ..)
    rw [List.length_cons, rowsS, rowb, List.append_assoc, gets_pl hn, if_pos rfl, Int.toNat_natCast, List.drop_left' (pl_length n _), rowsS_back behind l _ _ fun x hx => h x (List.mem_cons_of_mem _ hx), List.length_append, pl_length]
    simp [ofN]
    omega
theorem rows_back {l : List Nat} (hl : l.length ≤ 65536) (h : ∀ n ∈ l, n < 2 ^ 64) (behind : List Int) : rows (rowb l ++ behind) (l.length : Int) = (ofN l, ((rowb l).length : Int), 0) := by
  unfold rows
  rw [if_neg (by omega), Int.toNat_natCast, rowsS_back behind l [] 0 h]
  simp
end Go.Proofs.Ytlohjfagiigchaa.P
