/- What the printed functions that seal and open answer: the bytes with their sum behind them; the bytes ahead of the sum, where it fits. -/
import Derived.Test.YtglkfbegkfgaoaaPxf16
import Derived.Test.YtglkfbegkfgaoaaPxf20
import Derived.Test.YtglkfbegkfgaoaaHWakes
import Derived.Test.YtglkfbegkfgaoaaHOpen
import Derived.Test.YtglkfbegkfgaoaaHLeaf
import Derived.Test.YtglkfbegkfgaoaaHSums
namespace Go.Proofs.Ytglkfbegkfgaoaa.P
open Go.RowKit Go.Proofs.YtglkfbegkfgaoaaW.PrintWords Go.Proofs.YtglkfbegkfgaoaaW.PrintLast Go.Proofs.YtglkfbegkfgaoaaW.PrintMore Go.Proofs.Ytglkfbegkfgaoaa.Crc
set_option linter.unusedVariables false
set_option linter.unusedSimpArgs false

def ofN (l : List Nat) : List Int := l.map fun (c : Nat) => (c : Int)
theorem toN_ofN (l : List Nat) : toN (ofN l) = l := by simp [toN, ofN, Function.comp_def]
theorem toN_append (a b : List Int) : toN (a ++ b) = toN a ++ toN b := by simp [toN]
theorem bytes_ofN {l : List Nat} (h : ∀ c ∈ l, c < 256) : Bytes (ofN l) := by
  intro x hx
  obtain ⟨c, hc, rfl⟩ := List.mem_map.1 hx
  have := h c hc
  omega
theorem bytes_append {a b : List Int} (ha : Bytes a) (hb : Bytes b) : Bytes (a ++ b) := fun x hx => (List.mem_append.1 hx).elim (ha x) (hb x)
theorem bytes_take {a : List Int} (ha : Bytes a) (n : Nat) : Bytes (a.take n) := fun x hx => ha x (List.mem_of_mem_take hx)
theorem bytes_drop {a : List Int} (ha : Bytes a) (n : Nat) : Bytes (a.drop n) := fun x hx => ha x (List.mem_of_mem_drop hx)

/-- Bytes, sealed: n bytes of the sum by p. -/
def sealed (n p : Nat) (l : List Int) : List Int := l ++ ofN (le n (Crc.sum (8 * n) p (toN l)))
theorem sealed_length (n p : Nat) (l : List Int) : (sealed n p l).length = l.length + n := by simp [sealed, ofN, le_length]
theorem sealed_bytes (n p : Nat) {l : List Int} (h : Bytes l) : Bytes (sealed n p l) := bytes_append h (bytes_ofN (le_lt _ _))
theorem toN_sealed (n p : Nat) (l : List Int) : toN (sealed n p l) = Crc.sealed n p (toN l) := by simp [sealed, Crc.sealed, toN_append, toN_ofN]

theorem shr32 (x i : Nat) (hi : i < 4) : shr .u32 (x : Int) (wrap64 (8 * (i : Int))) = ((x / 2 ^ (8 * i) : Nat) : Int) := by
  have hw : wrap64 (8 * (i : Int)) = ((8 * i : Nat) : Int) := by unfold wrap64; omega
  rw [hw]
  unfold shr
  rw [Int.toNat_natCast, show min (8 * i) IntKind.u32.bits = 8 * i from Nat.min_eq_left (by show 8 * i ≤ 32; omega)]
  simp
theorem le_succ (n x : Nat) : le (n + 1) x = x % 256 :: le n (x / 256) := rfl
theorem seal_l0 (x m : Nat) (hm : m ≤ 4) : ∀ (n i : Nat) (b : List Int), n + i = m → b.length + n < 140737488355328 → Ev (fun k => sum_seal.l0 k (x : Int) b (m : Int) (i : Int)) (b ++ ofN (le n (x / 2 ^ (8 * i))))
  | 0, i, b, h, _ => by
    refine ⟨1, fun k hk => ?_⟩
    obtain ⟨k, rfl⟩ : ∃ m, k = m + 1 := ⟨k - 1, by omega⟩
    simp only [sum_seal.l0]
    rw [if_neg (by omega)]
    simp [le, ofN]
  | n + 1, i, b, h, hb => by
    refine Ev.step (f := fun k => sum_seal.l0 k (x : Int) (b ++ [((x / 2 ^ (8 * i) % 256 : Nat) : Int)]) (m : Int) ((i + 1 : Nat) : Int)) (fun k => ?_) ?_
    · simp only [sum_seal.l0]
      have hw : wrap64 (8 * (i : Int)) = ((8 * i : Nat) : Int) := by unfold wrap64; omega
      rw [if_pos (by omega), if_pos (by rw [hw]; omega), if_pos (by omega), shr32 x i (by omega), w64_succ (by omega)]
      rfl
    · have := seal_l0 x m hm n (i + 1) (b ++ [((x / 2 ^ (8 * i) % 256 : Nat) : Int)]) (by omega) (by simp; omega)
      rw [List.append_assoc, List.singleton_append] at this
      rw [le_succ, show x / 2 ^ (8 * i) / 256 = x / 2 ^ (8 * (i + 1)) by
        rw [Nat.div_div_eq_div_mul, show 8 * (i + 1) = 8 * i + 8 by omega, Nat.pow_add]]
      exact this
theorem seal_ev {l : List Int} {x m : Nat} (hm : m ≤ 4) (hl : l.length + m < 140737488355328) : Ev (fun k => sum_seal.f k l (x : Int) (m : Int)) (l ++ ofN (le m x)) := by
  unfold sum_seal.f
  refine Ev.bind (a := l) ⟨0, fun k _ => ?_⟩ ?_
  · unfold slices_Clone_byte_byte.f
    rw [if_pos (by omega)]
  · have := seal_l0 x m hm m 0 l (by omega) hl
    rw [Nat.mul_zero, Nat.pow_zero, Nat.div_one] at this
    exact this
theorem seal16_ev {l : List Int} (hb : Bytes l) (hl : l.length + 2 < 140737488355328) : Ev (fun k => sum_Seal16.f k l) (sealed 2 P16 l) := by
  unfold sum_Seal16.f
  have hs := sum_lt good16 (by decide) (toN l) (toN_lt hb)
  refine Ev.bind (sum16_ev hb (by omega)) (Ev.bind (f := fun _ t => some t) ?_ (Ev.now _))
  rw [show ((Crc.sum 16 P16 (toN l) : Nat) : Int) % 4294967296 = ((Crc.sum 16 P16 (toN l) : Nat) : Int) by omega]
  exact seal_ev (m := 2) (by decide) hl
theorem seal32_ev {l : List Int} (hb : Bytes l) (hl : l.length + 4 < 140737488355328) : Ev (fun k => sum_Seal32.f k l) (sealed 4 P32 l) := by
  unfold sum_Seal32.f
  exact Ev.bind (sum32_ev hb (by omega)) (Ev.bind (f := fun _ t => some t) (seal_ev (m := 4) (by decide) hl) (Ev.now _))

theorem refseal_l0 (m : Nat) (hm : m ≤ 4) : ∀ (n i x : Nat) (b : List Int), n + i = m → x < 2 ^ 63 → b.length + n < 140737488355328 → Ev (fun k => heliographref03_Seal.l0 k ((8 * m : Nat) : Int) (x : Int) b ((8 * i : Nat) : Int)) (b ++ ofN (le n x))
  | 0, i, x, b, h, _, _ => by
    refine ⟨1, fun k hk => ?_⟩
    obtain ⟨k, rfl⟩ : ∃ m, k = m + 1 := ⟨k - 1, by omega⟩
    simp only [heliographref03_Seal.l0]
    rw [if_neg (by omega)]
    simp [le, ofN]
  | n + 1, i, x, b, h, hx, hb => by
    refine Ev.step (f := fun k => heliographref03_Seal.l0 k ((8 * m : Nat) : Int) ((x / 256 : Nat) : Int) (b ++ [((x % 256 : Nat) : Int)]) ((8 * (i + 1) : Nat) : Int)) (fun k => ?_) ?_
    · simp only [heliographref03_Seal.l0]
      rw [if_pos (by omega), if_pos (by omega), show Int.tdiv (x : Int) 256 = ((x / 256 : Nat) : Int) from rfl, wrap_u64 _ (by omega) (by omega), show Int.tmod (x : Int) 256 = ((x % 256 : Nat) : Int) from Int.ofNat_tmod x 256, show (((x % 256 : Nat) : Int) % 256) = ((x % 256 : Nat) : Int) by omega, show wrap64 (((8 * i : Nat) : Int) + 8) = ((8 * (i + 1) : Nat) : Int) by unfold wrap64; omega]
    · have := refseal_l0 m hm n (i + 1) (x / 256) (b ++ [((x % 256 : Nat) : Int)]) (by omega) (by omega) (by simp; omega)
      rw [List.append_assoc, List.singleton_append] at this
      exact this
theorem refseal16_ev {l : List Int} (hb : Bytes l) (hl : l.length + 2 < 140737488355328) : Ev (fun k => heliographref03_Seal.f k l 16) (sealed 2 P16 l) := by
  unfold heliographref03_Seal.f
  have hs := sum_lt good16 (by decide) (toN l) (toN_lt hb)
  have h0 := both_ev (l := l) (m := []) (by simp; omega)
  rw [List.append_nil] at h0
  exact Ev.bind (refsum16_ev hb (by omega)) (Ev.bind h0 (refseal_l0 2 (by omega) 2 0 _ l (by omega) (by omega) (by omega)))
theorem refseal32_ev {l : List Int} (hb : Bytes l) (hl : l.length + 4 < 140737488355328) : Ev (fun k => heliographref03_Seal.f k l 32) (sealed 4 P32 l) := by
  unfold heliographref03_Seal.f
  have hs := sum_lt good32 (by decide) (toN l) (toN_lt hb)
  have h0 := both_ev (l := l) (m := []) (by simp; omega)
  rw [List.append_nil] at h0
  exact Ev.bind (refsum32_ev hb (by omega)) (Ev.bind h0 (refseal_l0 4 (by omega) 4 0 _ l (by omega) (by omega) (by omega)))

/-- What opening bytes by n bytes of a sum answers. -/
def opens (n p : Nat) (l : List Int) : List Int × Int :=
  if l.length < n then ([], 7) else if sealed n p (l.take (l.length - n)) = l then (l.take (l.length - n), 0) else ([], 130)
theorem open_ev {s : Nat → List Int → Option (List Int)} {n p : Nat} {l : List Int} (hn : n ≤ 4) (hl : l.length + 4 < 140737488355328) (hs : Ev (fun k => s k (l.take (l.length - n))) (sealed n p (l.take (l.length - n)))) :
    Ev (fun k => sum_open.f k s l n) (opens n p l) := by
  unfold sum_open.f opens
  by_cases c : l.length < n
  · refine ⟨0, fun k _ => ?_⟩
    dsimp only
    rw [if_pos c, if_pos c]
  · simp only [if_neg c]
    have hlen : (sealed n p (l.take (l.length - n))).length < 140737488355328 := by rw [sealed_length, List.length_take]; omega
    refine Ev.bind hs (Ev.bind (equal_ev hlen) ?_)
    by_cases e : sealed n p (l.take (l.length - n)) = l
    · refine ⟨0, fun k _ => ?_⟩
      rw [if_pos e, if_pos (by simpa using e)]
      unfold slices_Clone_byte_byte.f
      rw [if_pos (by rw [List.length_take]; omega)]
      rfl
    · refine ⟨0, fun k _ => ?_⟩
      rw [if_neg e, if_neg (by simpa using e)]
theorem open16_ev {l : List Int} (hb : Bytes l) (hl : l.length + 4 < 140737488355328) : Ev (fun k => sum_Open16.f k l) (opens 2 P16 l) :=
  open_ev (by omega) hl (seal16_ev (bytes_take hb _) (by rw [List.length_take]; omega))
theorem open32_ev {l : List Int} (hb : Bytes l) (hl : l.length + 4 < 140737488355328) : Ev (fun k => sum_Open32.f k l) (opens 4 P32 l) :=
  open_ev (by omega) hl (seal32_ev (bytes_take hb _) (by rw [List.length_take]; omega))

theorem refopens_ev {l : List Int} {n p : Nat} {a : Int} (ha : a = ((8 * n : Nat) : Int)) (hn : n ≤ 4) (hl : l.length + 4 < 140737488355328)
    (hs : Ev (fun k => heliographref03_Seal.f k (l.take (l.length - n)) a) (sealed n p (l.take (l.length - n)))) :
    Ev (fun k => heliographref03_Opens.f k l a) (decide (n ≤ l.length ∧ sealed n p (l.take (l.length - n)) = l)) := by
  subst ha
  unfold heliographref03_Opens.f
  have h8 : wrap64 (Int.tdiv ((8 * n : Nat) : Int) 8) = (n : Int) := by
    rw [show Int.tdiv ((8 * n : Nat) : Int) 8 = ((8 * n / 8 : Nat) : Int) from rfl]
    unfold wrap64
    omega
  rw [h8]
  have hw : wrap64 ((l.length : Int) - (n : Int)) = (l.length : Int) - (n : Int) := by unfold wrap64; omega
  rw [hw]
  by_cases c : n ≤ l.length
  · have ht : ((l.length : Int) - (n : Int)).toNat = l.length - n := by omega
    have hlen : (sealed n p (l.take (l.length - n))).length < 140737488355328 := by rw [sealed_length, List.length_take]; omega
    rw [ht]
    simp only [if_pos (show (l.length : Int) - (n : Int) ≥ 0 by omega), if_pos (show 0 ≤ (l.length : Int) - (n : Int) by omega), if_pos (show (l.length : Int) - (n : Int) ≤ (l.length : Int) by omega)]
    rw [show decide (n ≤ l.length ∧ sealed n p (l.take (l.length - n)) = l) = decide (sealed n p (l.take (l.length - n)) = l) by rw [decide_eq_decide]; exact and_iff_right c]
    exact Ev.bind hs (Ev.bind (f := fun _ t => some t) (same_ev hlen) (Ev.now _))
  · refine ⟨0, fun k _ => ?_⟩
    dsimp only
    rw [if_neg (by omega)]
    simp [c]
theorem wakes_ev : Ev (fun k => heliographlaw03_wakes.f k) true := by
  unfold heliographlaw03_wakes.f
  have hb : Bytes nine := by
    intro x hx
    simp only [nine, List.mem_cons, List.not_mem_nil, or_false] at hx
    omega
  refine Ev.bind (sum16_ev hb (by decide)) ?_
  rw [show Crc.sum 16 P16 (toN nine) = 36974 by decide +kernel]
  refine Ev.bind (f := fun _ t => some (t == 3808858755)) (sum32_ev hb (by decide)) ?_
  rw [show Crc.sum 32 P32 (toN nine) = 3808858755 by decide +kernel]
  exact Ev.now _
end Go.Proofs.Ytglkfbegkfgaoaa.P
