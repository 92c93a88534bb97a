/- Arrays as parameters: told as structs of their elements. -/
import Derived.Test.YtiompmmbjpjjeaaDoorHVi23
import Derived.OpenShut
namespace Go.Proofs.YtiompmmbjpjjeaaDoorV
open Go Go.WideShapes Go.RowKit
set_option linter.unusedVariables false
theorem weightsAll_at {H : Type} {P : Program} {e : TypeId} {ds : List (DataW H)} {i : Nat} {d : DataW H} (h : ds[i]? = some d) : ∀ n ∈ d.weights P e, n ∈ DataW.weightsAll P e ds :=
  weightsAll_mem (List.mem_of_getElem? h)
theorem OpensV.array {α : Type} {P : Program} {enc : α → List V} {t e : TypeId} {n : Nat} {fs : List Field} {sz : Nat} {G : α → Prop} (ht : P.underlying t = some (.array n e)) (hc : sz = P.cellsOf t)
    (hfs : ∀ (i : Nat) (f : Field), fs[i]? = some f → i < n ∧ f.type = e ∧ f.offset = i * P.cellsOf e) (h : OpensVF P enc sz fs 0 G) : OpensV P enc t G := by
  refine ⟨fun x => (h.1 x).trans hc, fun {H en W base spare held fuel cs x} hx hw => ?_⟩
  obtain ⟨xs, m, _, rfl, hl, hxl, hf⟩ := DataW.trod_array ht hx
  simp only [DataW.weights, ht] at hw
  obtain ⟨v, hk, hg⟩ := h.2 (cs := cs) (xs := xs) (en := en) (W := W) (base := base) (spare := spare) (held := held) (fuel := m) (by omega) fun i f hfi => by
    obtain ⟨hi, he, ho⟩ := hfs i f hfi
    have hi' : i < xs.length := by omega
    have h1 := hf i hi
    refine ⟨xs[i], List.getElem?_eq_getElem hi', by rw [he, ho, h1, List.getElem?_eq_getElem hi'], fun q hq => hw q (weightsAll_at (i := i) (d := xs[i].1) ?_ q ?_)⟩
    · rw [List.getElem?_map, List.getElem?_eq_getElem hi']; rfl
    · rw [he] at hq; exact hq
  rw [List.drop_zero, hc, ← hl, List.take_length] at hk
  exact ⟨v, hk, hg⟩
theorem okWide_arr {P : Program} {w : World} {r : Reach} {base : Nat} {t e : TypeId} {n : Nat} {v : Value} (ht : P.underlying t = some (.array n e)) (h : Value.okWide P w r base t v) : ∃ cs, v = .agg cs ∧ cs.size = P.cellsOf t := by
  simp only [Value.okWide, ht] at h
  obtain ⟨cs, h1, h2, _⟩ := h
  exact ⟨cs, h1, h2⟩
end Go.Proofs.YtiompmmbjpjjeaaDoorV
