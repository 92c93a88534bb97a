/- What the data of a parameter's type says, read as a kind: whole numbers, bools, strings, slices of such, structs, each in the others. -/
import Derived.Test.YtlohjfagiigchaaPx0
import Derived.WalkKit
import Derived.ProofKit
import Derived.OpenShut
import Derived.SizedLaws
namespace Go.Proofs.Ytlohjfagiigchaa.P
open Go.RowKit Go.Proofs.YtlohjfagiigchaaW.PrintWords Go.Proofs.YtlohjfagiigchaaW.PrintLast Go.Proofs.YtlohjfagiigchaaW.PrintMore
set_option linter.unusedVariables false
/-- Data of the type t are of the kind kd, with values that are G. -/
def Opens {α : Type} (P : Program) (kd : Kd α) (t : TypeId) (G : α → Prop) : Prop :=
  kd.sz = P.cellsOf t ∧ ∀ {H : Type} {enc : TypeId × Value → H} {W : World} {base : Nat} {spare : Nat → Bool} {held : Bool} {fuel : Nat} {cs : List Value} {x : DataW H × List MemPlace},
    DataW.trod enc P W base spare held fuel t cs = some x → (∀ n ∈ x.1.weights P t, n ≤ 140737488351232) → ∃ v, kd.K W v cs ∧ G v
theorem Opens.imp {α : Type} {P : Program} {kd : Kd α} {t : TypeId} {G G' : α → Prop} (h : Opens P kd t G) (g : ∀ x, G x → G' x) : Opens P kd t G' :=
  ⟨h.1, fun ht hw => by obtain ⟨v, hk, hg⟩ := h.2 ht hw; exact ⟨v, hk, g v hg⟩⟩
theorem Opens.int {P : Program} {t : TypeId} {k : IntKind} (ht : P.underlying t = some (.int k)) (hc : P.cellsOf t = 1) : Opens P (Kd.int k) t (fun n => (Lit.int k n).wf = true) :=
  ⟨hc.symm, fun h _ => by
    obtain ⟨n, rfl, _, hw⟩ := DataW.trod_int ht h
    exact ⟨n, rfl, hw⟩⟩
theorem Opens.bool {P : Program} {t : TypeId} (ht : P.underlying t = some .bool) (hc : P.cellsOf t = 1) : Opens P Kd.bool t (fun _ => True) :=
  ⟨hc.symm, fun h _ => by
    obtain ⟨b, rfl, _⟩ := DataW.trod_bool ht h
    exact ⟨b, rfl, trivial⟩⟩
theorem Opens.string {P : Program} {t : TypeId} (ht : P.underlying t = some .string) (hc : P.cellsOf t = 1) : Opens P Kd.string t (fun s => s.size ≤ 140737488351232) :=
  ⟨hc.symm, fun h hw => by
    obtain ⟨s, rfl, rfl, hs⟩ := DataW.trod_string ht h
    refine ⟨s, rfl, ?_⟩
    have := hw s.data.toList.length (by simp [DataW.weights])
    show s.data.size ≤ _
    rw [← Array.length_toList]
    exact this⟩
theorem rowOf {α : Type} {Q : Nat → α → Prop} : ∀ (n : Nat), (∀ i, i < n → ∃ v, Q i v) → ∃ l : List α, l.length = n ∧ ∀ i v, l[i]? = some v → Q i v
  | 0, _ => ⟨[], rfl, by simp⟩
  | n + 1, h => by
    obtain ⟨l, hl, hq⟩ := rowOf n fun i hi => h i (by omega)
    obtain ⟨v, hv⟩ := h n (by omega)
    refine ⟨l ++ [v], by simp [hl], fun i u hu => ?_⟩
    by_cases hi : i < l.length
    · rw [List.getElem?_append_left hi] at hu
      exact hq i u hu
    · have hlt := (List.getElem?_eq_some_iff.1 hu).1
      simp at hlt
      obtain rfl : i = n := by omega
      rw [List.getElem?_append_right (by omega)] at hu
      simp [hl] at hu
      subst hu
      exact hv
theorem weightsAll_mem {H : Type} {P : Program} {e : TypeId} : ∀ {ds : List (DataW H)} {d : DataW H}, d ∈ ds → ∀ n ∈ d.weights P e, n ∈ DataW.weightsAll P e ds
  | d0 :: ds, d, h, n, hn => by
    simp only [DataW.weightsAll, List.mem_append]
    rcases List.mem_cons.1 h with h | h
    · subst h
      exact .inl hn
    · exact .inr (weightsAll_mem h n hn)
theorem Opens.slice {α : Type} {P : Program} {kd : Kd α} {t e : TypeId} {G : α → Prop} (ht : P.underlying t = some (.slice e)) (hc : P.cellsOf t = 1) {B : Nat} (hB : P.bytesOf e = B) (h : Opens P kd e G) :
    Opens P (Kd.slice e kd) t (fun xs => xs.length ≤ maxLen ∧ xs.length * B ≤ 140737488351232 ∧ ∀ x ∈ xs, G x) := by
  refine ⟨hc.symm, fun {H enc W base spare held fuel cs x} hx hw => ?_⟩
  rcases DataW.trod_slice ht hx with ⟨rfl, rfl⟩ | ⟨a, len, cap, elems, rest, n, _, rfl, rfl, hb, hl, hm, hlen, hel, hsp, hns⟩
  · exact ⟨[], ⟨none, 0, rfl, Nat.le_refl _, rfl, by simp, fun hn => absurd hn (by simp)⟩, by simp, by simp, by simp⟩
  · simp only [DataW.weights, ht, List.mem_cons, List.mem_append] at hw
    have hsz := hw _ (.inl rfl)
    rw [hB, List.length_map, hlen] at hsz
    have hsz2 : len * B ≤ 140737488351232 := Nat.le_trans (Nat.mul_le_mul_right B (Nat.le_add_right _ _)) hsz
    have each : ∀ i, i < len → ∃ v, (∃ c, c.length = kd.sz ∧ kd.K W v c ∧ ∀ j u, c[j]? = some u → W.cell? (a.add (i * kd.sz + j)) = some u) ∧ G v := by
      intro i hi
      have hE := hel i hi
      have hei : elems[i]? = some elems[i] := List.getElem?_eq_getElem (by omega)
      rw [hei, Option.bind_eq_some_iff] at hE
      obtain ⟨c, hcs, hy⟩ := hE
      obtain ⟨_, hcl, hcell⟩ := World.cells?_some hcs
      obtain ⟨v, hk, hg⟩ := h.2 hy fun n hn => hw n (.inr (.inl (weightsAll_mem (List.mem_map_of_mem (List.getElem_mem (show i < elems.length by omega))) n hn)))
      refine ⟨v, ⟨c, by rw [hcl, h.1], hk, fun j u hu => ?_⟩, hg⟩
      have hj : j < P.cellsOf e := by
        have := (List.getElem?_eq_some_iff.1 hu).1
        omega
      have h1 := hcell j hj
      rw [hu] at h1
      have ha : (a.add (i * P.cellsOf e)).add j = a.add (i * kd.sz + j) := by
        rw [h.1, Addr.add_add]
      rw [ha] at h1
      exact h1
    obtain ⟨l, hll, hq⟩ := rowOf (α := α) len each
    refine ⟨l, ⟨some a, cap, by rw [hll], by omega, rfl, by rw [hll]; exact Nat.le_trans hl hm, fun hn => ⟨a, rfl, fun j p hp => (hq j p hp).1⟩⟩, by rw [hll]; exact Nat.le_trans hl hm, by rw [hll]; exact hsz2, fun x hx => ?_⟩
    obtain ⟨i, hi⟩ := List.getElem?_of_mem hx
    exact (hq i x hi).2
theorem Opens.iso {α β : Type} {P : Program} {kd : Kd α} {t : TypeId} {G : α → Prop} (h : Opens P kd t G) (f : β → α) (g : α → β) (hfg : ∀ x, f (g x) = x) : Opens P (Kd.iso kd f) t (fun y => G (f y)) :=
  ⟨h.1, fun ht hw => by
    obtain ⟨v, hk, hg⟩ := h.2 ht hw
    exact ⟨g v, by show kd.K _ (f (g v)) _; rw [hfg]; exact hk, by show G (f (g v)); rw [hfg]; exact hg⟩⟩
/-- Fields in line, from a place on. -/
def OpensF {α : Type} (P : Program) (kd : Kd α) (fs : List Field) (o : Nat) (G : α → Prop) : Prop :=
  ∀ {H : Type} {enc : TypeId × Value → H} {W : World} {base : Nat} {spare : Nat → Bool} {held : Bool} {fuel : Nat} {cs : List Value} {xs : List (DataW H × List MemPlace)},
    o + kd.sz ≤ cs.length → (∀ (i : Nat) (f : Field), fs[i]? = some f → ∃ x, xs[i]? = some x ∧ DataW.trod enc P W base spare held fuel f.type ((cs.drop f.offset).take (P.cellsOf f.type)) = some x ∧ ∀ n ∈ x.1.weights P f.type, n ≤ 140737488351232) → ∃ v, kd.K W v ((cs.drop o).take kd.sz) ∧ G v
theorem OpensF.one {α : Type} {P : Program} {kd : Kd α} {f : Field} {o : Nat} {G : α → Prop} (ho : f.offset = o) (h : Opens P kd f.type G) : OpensF P kd [f] o G := by
  intro H enc W base spare held fuel cs xs hl hx
  obtain ⟨x, _, ht, hw⟩ := hx 0 f rfl
  obtain ⟨v, hk, hg⟩ := h.2 ht hw
  rw [← h.1, ho] at hk
  exact ⟨v, hk, hg⟩
theorem OpensF.cons {α β : Type} {P : Program} {a : Kd α} {b : Kd β} {f : Field} {fs : List Field} {o : Nat} {G : α → Prop} {G' : β → Prop} (ho : f.offset = o) (h : Opens P a f.type G) (h' : OpensF P b fs (o + a.sz) G') : OpensF P (Kd.pair a b) (f :: fs) o (fun x => G x.1 ∧ G' x.2) := by
  intro H enc W base spare held fuel cs xs hl hx
  have hsz : (Kd.pair a b).sz = a.sz + b.sz := rfl
  rw [hsz] at hl ⊢
  obtain ⟨x, _, ht, hw⟩ := hx 0 f rfl
  obtain ⟨v, hk, hg⟩ := h.2 ht hw
  rw [← h.1, ho] at hk
  obtain ⟨v', hk', hg'⟩ := h' (cs := cs) (xs := xs.tail) (by omega) fun i g hgi => by
    obtain ⟨x, hx1, hx2⟩ := hx (i + 1) g hgi
    exact ⟨x, by rw [List.getElem?_tail]; exact hx1, hx2⟩
  refine ⟨(v, v'), ⟨_, _, ?_, hk, hk'⟩, hg, hg'⟩
  rw [List.take_add, List.drop_drop]
theorem weightsEach_mem {H : Type} {P : Program} {ts : List TypeId} {ds : List (DataW H)} {j : Nat} {t : TypeId} {d : DataW H} (h1 : ts[j]? = some t) (h2 : ds[j]? = some d) : ∀ n ∈ d.weights P t, n ∈ DataW.weightsEach P ts ds := DataW.weights_mem_each h1 h2
theorem Opens.struct {α : Type} {P : Program} {kd : Kd α} {t : TypeId} {fs : Array Field} {G : α → Prop} (ht : P.underlying t = some (.struct fs)) (hc : kd.sz = P.cellsOf t) (h : OpensF P kd fs.toList 0 G) : Opens P kd t G := by
  refine ⟨hc, fun {H enc W base spare held fuel cs x} hx hw => ?_⟩
  obtain ⟨xs, n, _, rfl, hl, hxl, hf⟩ := DataW.trod_struct ht hx
  simp only [DataW.weights, ht] at hw
  obtain ⟨v, hk, hg⟩ := h (cs := cs) (xs := xs) (enc := enc) (W := W) (base := base) (spare := spare) (held := held) (fuel := n) (by omega) fun i f hfi => by
    rw [Array.getElem?_toList] at hfi
    have h1 := hf i f hfi
    have hi : i < xs.length := by
      have := (Array.getElem?_eq_some_iff.1 hfi).1
      omega
    refine ⟨xs[i], List.getElem?_eq_getElem hi, by rw [h1, List.getElem?_eq_getElem hi], fun m hm => hw m (weightsEach_mem (j := i) (t := f.type) (d := xs[i].1) ?_ ?_ m hm)⟩
    · rw [List.getElem?_map, Array.getElem?_toList, hfi]; rfl
    · rw [List.getElem?_map, List.getElem?_eq_getElem hi]; rfl
  rw [List.drop_zero, hc, ← hl, List.take_length] at hk
  exact ⟨v, hk, hg⟩
/-- A parameter. -/
theorem Opens.arg {α : Type} {P : Program} {kd : Kd α} {t : TypeId} {G : α → Prop} (h : Opens P kd t G) {H : Type} {enc : TypeId × Value → H} {W : World} {base : Nat} {spare : Nat → Bool} {held : Bool} {v : Value} {d : DataW H} {p : List MemPlace} {ts : List TypeId} {ds : List (DataW H)} {j : Nat}
    (hsz : (DataW.weightsEach P ts ds).all (· ≤ reachBytes) = true) (ht : ts[j]? = some t) (hd : ds[j]? = some d) (hv : DataW.Trod enc P W base spare held t v d p) : ∃ x, kd.K W x v.cells.toList ∧ G x := by
  obtain ⟨fuel, hf⟩ := hv
  refine h.2 hf fun n hn => ?_
  have := List.all_eq_true.1 hsz n (DataW.weights_mem_each ht hd n hn)
  exact of_decide_eq_true this
end Go.Proofs.Ytlohjfagiigchaa.P
