/- Numbers' bytes, behind whatever bytes. -/
import Derived.Test.YtlohjfagiigchaaPxf7
import Derived.Test.YtlohjfagiigchaaHRef
import Derived.Test.YtlohjfagiigchaaHRow
namespace Go.Proofs.Ytlohjfagiigchaa.Pure
open Go.RowKit Go.Proofs.YtlohjfagiigchaaW.PrintWords Go.Proofs.YtlohjfagiigchaaW.PrintLast Go.Proofs.YtlohjfagiigchaaW.PrintMore Go.Proofs.Ytlohjfagiigchaa.P
set_option linter.unusedVariables false
set_option linter.unusedSimpArgs false
theorem refbytes_l0 {n : Nat} (hn : n < 2 ^ 64) : ∀ (m i : Nat), m + i = sz n → 1 ≤ i → Ev (fun k => heliographref08_Bytes.l0 k ((n / 128 ^ i : Nat) : Int) (pl n i)) (pl n (sz n))
  | 0, i, h, hi => by
    have hz : n / 128 ^ i = 0 := Nat.div_eq_of_lt (by rw [show i = sz n by omega]; exact sz_lt hn)
    refine Ev.one fun k => ?_
    show heliographref08_Bytes.l0 (k + 1) _ _ = _
    rw [heliographref08_Bytes.l0, hz, if_neg (by decide), show i = sz n by omega]
  | m + 1, i, h, hi => by
    have hle := sz_le n
    have hpos : 0 < n / 128 ^ i := by
      rcases sz_ge n with e | e
      · omega
      · have := Nat.pow_le_pow_right (n := 128) (by decide) (show i ≤ sz n - 1 by omega)
        exact (Nat.le_div_iff_mul_le (Nat.pow_pos (by decide))).2 (by omega)
    have hlt : n / 128 ^ i < 2 ^ 64 := Nat.lt_of_le_of_lt (Nat.div_le_self _ _) hn
    refine Ev.step (fun k => by rw [heliographref08_Bytes.l0]) ?_
    refine Ev.pos (by omega) (Ev.som (Ev.pos ?_ ?_))
    · rw [pl_length]; simp; omega
    · have e1 : ((Int.tmod ((n / 128 ^ i : Nat) : Int) 128) % 256 + 128) % 256 = ((n / 128 ^ i % 128 + 128 : Nat) : Int) := by
        rw [show Int.tmod ((n / 128 ^ i : Nat) : Int) 128 = ((n / 128 ^ i % 128 : Nat) : Int) from rfl]
        omega
      have e2 : IntKind.u64.wrap (Int.tdiv ((n / 128 ^ i : Nat) : Int) 128) = ((n / 128 ^ (i + 1) : Nat) : Int) := by
        rw [show Int.tdiv ((n / 128 ^ i : Nat) : Int) 128 = ((n / 128 ^ i / 128 : Nat) : Int) from rfl, wrap_u64 _ (by omega) (by omega), Nat.pow_succ, Nat.div_div_eq_div_mul]
      have e3 : [((n / 128 ^ i % 128 + 128 : Nat) : Int)] ++ pl n i = pl n (i + 1) := by
        rw [pl, if_pos (by omega)]
        rfl
      rw [e1, e2, e3]
      exact refbytes_l0 hn m (i + 1) (by omega) (by omega)
theorem refbytes_ev {n : Nat} (hn : n < 2 ^ 64) : Ev (fun k => heliographref08_Bytes.f k (n : Int)) (pl n (sz n)) := by
  unfold heliographref08_Bytes.f
  have hp := sz_pos n
  have e1 : (Int.tmod (n : Int) 128) % 256 = ((n % 128 : Nat) : Int) := by
    rw [show Int.tmod (n : Int) 128 = ((n % 128 : Nat) : Int) from rfl]
    omega
  have e2 : IntKind.u64.wrap (Int.tdiv (n : Int) 128) = ((n / 128 ^ 1 : Nat) : Int) := by
    rw [show Int.tdiv (n : Int) 128 = ((n / 128 : Nat) : Int) from rfl, wrap_u64 _ (by omega) (by omega), Nat.pow_one]
  have e3 : [((n % 128 : Nat) : Int)] = pl n 1 := by simp [pl]
  rw [e1, e2, e3]
  exact refbytes_l0 hn (sz n - 1) 1 (by omega) (Nat.le_refl _)
section
variable {b l want x9 : List Int} {i : Int} {r : Bool}
theorem puts_l1 (hb : Bytes b) (hw : want.length + x9.length < 140737488355328) (K : Ev (fun k => heliographlaw08_SdnvPuts.l0 k b l b (want ++ x9) l (l.length : Int) (wrap64 (i + 1))) r) : ∀ (m j : Nat) (got : List Int), m + j = got.length → got.length < 1000 → Ev (fun k => heliographlaw08_SdnvPuts.l1 k b l b want x9 got l (l.length : Int) i (got.length : Int) (j : Int)) r
  | 0, j, got, h, hg => by
    refine Ev.step (fun k => by rw [heliographlaw08_SdnvPuts.l1]) ?_
    refine Ev.neg (by omega) (Ev.eq (equal_at hb hb) (Ev.pos (by simp) (Ev.pos hw K)))
  | m + 1, j, got, h, hg => by
    have := puts_l1 hb hw K m (j + 1) (got.set j 238) (by simp; omega) (by simpa using hg)
    rw [List.length_set] at this
    refine Ev.step (fun k => ?_) this
    simp only [heliographlaw08_SdnvPuts.l1]
    rw [if_pos (by omega), if_pos (by omega), if_pos (by omega), Int.toNat_natCast, w64_succ (by omega)]
end
theorem rd_last (b : List Int) (z : Int) : rd (b ++ [z]) (b.length : Int) = z := by
  rw [rd_at (by simp)]
  simp
theorem puts_l0 {b : List Int} {l : List Nat} (hb : Bytes b) (hbl : b.length ≤ 300) (hl : l.length ≤ 100) (h64 : ∀ n ∈ l, n < 2 ^ 64) : ∀ (m i : Nat), m + i = l.length → Ev (fun k => heliographlaw08_SdnvPuts.l0 k b (ofN l) b (rowb (l.take i)) (ofN l) ((ofN l).length : Int) (i : Int)) true := by
  intro m
  induction m with
  | zero =>
    intro i h
    have hr := rowb_bytes l
    refine Ev.step (fun k => by rw [heliographlaw08_SdnvPuts.l0]) ?_
    refine Ev.neg (by rw [ofN_length]; omega) (Ev.bind (row_ev (by omega) h64) ?_)
    rw [List.take_of_length_le (by omega), equal_at hr hr]
    exact Ev.at (by simp)
  | succ m ih =>
    intro i h
    have hi : i < l.length := by omega
    have hrd : rd (ofN l) (i : Int) = (l[i] : Int) := by rw [rd_at (by rw [ofN_length]; exact hi)]; simp [ofN]
    have hn := h64 l[i] (List.getElem_mem hi)
    have hle := sz_le l[i]
    have hlen := pl_length l[i] (sz l[i])
    have hpb := pl_bytes l[i] (sz l[i])
    have hbb := hb.append hpb
    have hwl := rowb_length (l.take i)
    rw [List.length_take] at hwl
    have h00 : ([] : List Int).length + b.length < 140737488355328 := by simp only [List.length_nil]; omega
    have h01 : b.length + (pl l[i] (sz l[i])).length < 140737488355328 := by omega
    have k1 : (0 : Int) ≤ ((b.length + 1 : Nat) : Int) := by omega
    have k2 : ((b.length + 1 : Nat) : Int) ≤ (b.length : Int) + 1 := by omega
    have k3 : (0 : Int) ≤ (b.length : Int) := by omega
    have k4 : (b.length : Int) < ((b ++ [(7 : Int)]).length : Int) := by simp only [List.length_append, List.length_singleton]; omega
    have h02 : (rowb (l.take i)).length + (pl l[i] (sz l[i])).length < 140737488355328 := by omega
    have h03 : (b ++ pl l[i] (sz l[i])).length < 1000 := by rw [List.length_append]; omega
    have hb10 : b.length + 10 < 140737488355328 := by omega
    have hz : wrap64 ((b.length : Int) + 1) = ((b.length + 1 : Nat) : Int) := by unfold wrap64; omega
    refine Ev.step (fun k => by rw [heliographlaw08_SdnvPuts.l0, hrd, hz]) ?_
    refine Ev.pos (by rw [ofN_length]; omega) ?_
    refine Ev.pos (by omega) ?_
    refine Ev.pos (by rw [ofN_length]; omega) ?_
    refine Ev.bind (refbytes_ev hn) ?_
    refine Ev.bind (put_ev (l := b) hn hb10) ?_
    refine Ev.som ?_
    refine Ev.pos h00 ?_
    refine Ev.som ?_
    rw [List.nil_append]
    refine Ev.pos h01 ?_
    refine Ev.eq (equal_at hbb hbb) ?_
    refine Ev.pos (decide_eq_true rfl) ?_
    refine Ev.bind (size_ev hn) ?_
    refine Ev.pos (by rw [hlen]) ?_
    refine Ev.eq (equal_at hb hb) ?_
    refine Ev.pos (decide_eq_true rfl) ?_
    refine Ev.pos k1 ?_
    refine Ev.pos k2 ?_
    refine Ev.som ?_
    refine Ev.pos k3 ?_
    refine Ev.pos k4 ?_
    rw [rd_last]
    have hnext := ih (i + 1) (by omega)
    rw [← w64_succ (by omega), List.take_succ_eq_append_getElem hi, rowb_append] at hnext
    simp only [rowb, List.append_nil] at hnext
    have := puts_l1 (b := b) (l := ofN l) (want := rowb (l.take i)) (x9 := pl l[i] (sz l[i])) (i := (i : Int)) (r := true) hb h02 hnext (b ++ pl l[i] (sz l[i])).length 0 (b ++ pl l[i] (sz l[i])) rfl h03
    refine Ev.step (fun k => ?_) this
    rw [heliographlaw08_SdnvPuts.j1, if_neg (by decide)]
    rfl
theorem SdnvPuts : heliographlaw08_SdnvPuts.Pure := by
  intro l0 l1 _ _ hw0 _ _ hw1
  have hb := bytes_wf hw0
  obtain ⟨l, rfl, h64⟩ := ofN_wf hw1
  apply Ev.rounds
  unfold heliographlaw08_SdnvPuts.f
  obtain ⟨q, hq, hq2⟩ : ∃ q : Nat, mn (l0.length : Int) 300 = (q : Int) ∧ q ≤ 300 ∧ q ≤ l0.length := ⟨min l0.length 300, by unfold mn; split <;> omega, by omega, by omega⟩
  obtain ⟨p, hp, hp2⟩ : ∃ p : Nat, mn ((ofN l).length : Int) 100 = (p : Int) ∧ p ≤ 100 ∧ p ≤ (ofN l).length := ⟨min (ofN l).length 100, by unfold mn; split <;> omega, by omega, by omega⟩
  rw [hq, hp]
  have hx : (ofN l).take (p : Int).toNat = ofN (l.take p) := by simp [ofN]
  have hxl : (l.take p).length = p := by rw [List.length_take]; rw [ofN_length] at hp2; omega
  have h64' : ∀ n ∈ l.take p, n < 2 ^ 64 := fun n hn => h64 n (List.mem_of_mem_take hn)
  have hyl : (l0.take (q : Int).toNat).length = q := by rw [List.length_take]; omega
  have hyb := hb.take (q : Int).toNat
  rw [hx]
  generalize l0.take (q : Int).toNat = y at hyl hyb
  generalize l.take p = x at hxl h64'
  refine Ev.bind wakes_ev (Ev.pos rfl (Ev.pos (by omega) (Ev.pos (by omega) (Ev.som (Ev.pos (by omega) (Ev.pos (by omega) (Ev.som (Ev.eq (own_at (by omega)) ?_))))))))
  exact puts_l0 hyb (by omega) (by omega) h64' x.length 0 rfl
end Go.Proofs.Ytlohjfagiigchaa.Pure
