/- What stands where pieces were put; where nothing is missing. -/
import Derived.Test.YticggdfaehneeaaVPGat
namespace Go.Proofs.YticggdfaehneeaaV
open Go
set_option linter.unusedVariables false
set_option linter.unusedSimpArgs false
theorem putB_get {h : List Bool} {o n : Nat} (hh : o + n ≤ h.length) (p : Nat) : (putB h o n)[p]? = if o ≤ p ∧ p < o + n then some true else h[p]? := by
 unfold putB
 by_cases h1 : p < o
 ·rw [List.getElem?_append_left (by rw [List.length_take]; omega),List.getElem?_take,if_pos h1,if_neg (by omega)]
 ·rw [List.getElem?_append_right (by rw [List.length_take]; omega),List.length_take,Nat.min_eq_left (by omega)]
  by_cases h2 : p < o + n
  ·rw [List.getElem?_append_left (by rw [List.length_replicate]; omega),List.getElem?_replicate,if_pos (by omega),if_pos (by omega)]
  ·rw [List.getElem?_append_right (by rw [List.length_replicate]; omega),List.length_replicate,List.getElem?_drop,if_neg (by omega)]
   exact congrArg (fun z => h[z]?) (by omega)
theorem putI_get {v : List Int} {o : Nat} {q : List Int} (hh : o + q.length ≤ v.length) (p : Nat) : (putI v o q)[p]? = if o ≤ p ∧ p < o + q.length then q[p - o]? else v[p]? := by
 unfold putI
 by_cases h1 : p < o
 ·rw [List.getElem?_append_left (by rw [List.length_take]; omega),List.getElem?_take,if_pos h1,if_neg (by omega)]
 ·rw [List.getElem?_append_right (by rw [List.length_take]; omega),List.length_take,Nat.min_eq_left (by omega)]
  by_cases h2 : p < o + q.length
  ·rw [List.getElem?_append_left (by omega),if_pos (by omega)]
  ·rw [List.getElem?_append_right (by omega),List.getElem?_drop,if_neg (by omega)]
   exact congrArg (fun z => v[z]?) (by omega)
theorem gapsS_true : ∀ (h : List Bool) (i : Nat),(∀ x ∈ h,x = true) → gapsS h i none = []
 | [],i,_ => rfl
 | true :: r,i,h => by rw [gapsS,gapsS_true r (i + 1) fun x hx => h x (by simp [hx])]
 | false :: r,i,h => by have := h false (by simp); cases this
theorem gapsS_some : ∀ (h : List Bool) (i s : Nat),gapsS h i (some s) ≠ []
 | [],i,s => by simp [gapsS]
 | true :: r,i,s => by simp [gapsS]
 | false :: r,i,s => by rw [gapsS]; exact gapsS_some r (i + 1) s
theorem gapsS_false : ∀ (h : List Bool) (i : Nat),false ∈ h → gapsS h i none ≠ []
 | [],i,h => by cases h
 | true :: r,i,h => by rw [gapsS]; exact gapsS_false r (i + 1) (by simpa using h)
 | false :: r,i,h => by rw [gapsS]; exact gapsS_some r (i + 1) i
theorem hasL_len : ∀ (l : List Bun) (h : List Bool),(∀ b ∈ l,okP b ∧ b.Total = (h.length : Int)) → (hasL l h).length = h.length
 | [],h,_ => rfl
 | b :: l,h,hb => by
  have ob := (hb b (by simp)).1.b
  have tb := (hb b (by simp)).2
  have hl : (putB h b.Offset.toNat b.Payload.length).length = h.length := putB_len (by omega)
  have := hasL_len l (putB h b.Offset.toNat b.Payload.length) (fun c hc => by rw [hl]; exact hb c (by simp [hc]))
  rw [hl] at this
  exact this
theorem hasF_len {L : List Bun} (hc : chkL L = true) : (hasF L).length ≤ 400 := by
 unfold chkL at hc
 rw [Bool.and_eq_true,decide_eq_true_iff] at hc
 cases L with
 | nil => simp at hc
 | cons c r =>
  have hT := chkG_total hc.1
  have oc := (hT c (by simp)).1.b
  have := hasL_len (c :: r) (List.replicate c.Total.toNat false) (fun b hb => ⟨(hT b hb).1,by rw [(hT b hb).2,List.length_replicate]; omega⟩)
  rw [List.length_replicate] at this
  unfold hasF
  simp only []
  omega
theorem miss_at (k : Nat) (hk : 4002 ≤ k) (L : List Bun) (hL : L.length ≤ 1000) (fL : ∀ b ∈ L,Fit b) : f35_r k L = some (cond (chkL L) (.o0 0 (gapsF (hasF L))) (.o0 280 [])) := by
 obtain ⟨k,rfl⟩ : ∃ m,k = m + 1 := ⟨k - 1,by omega⟩
 simp only [f35_r,f35_r_e,gath_at k (by omega) L hL fL,Option.bind_some]
 cases hc : chkL L with
 | false =>
  have q := gaps_at k [] (by simp) (by simp; omega)
  simp only [cond_false,q,Option.bind_some,gapsF,gapsS]
 | true =>
  have hl := hasF_len hc
  simp only [cond_true,gaps_at k (hasF L) (by omega) (by omega),Option.bind_some]
end Go.Proofs.YticggdfaehneeaaV