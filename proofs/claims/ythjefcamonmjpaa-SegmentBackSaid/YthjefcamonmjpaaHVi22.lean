/- The value interpreter: calls. What it says of a function is what the program's function does. -/
import Derived.Test.YthjefcamonmjpaaHVi21
namespace Go.Proofs.YthjefcamonmjpaaV
open Go
set_option linter.unusedVariables false
set_option linter.unusedSimpArgs false
section
variable {P : Program} {w0 : World} {fp : Nat → Prop} {S0 : Base} {σ σ' : St} {a : Act} {w : World} {β : Nat → Value} {S : Nat → Prop} {o : Oper} {call : CallF} {h : Hints} {ops : Array Oper}
theorem resV_run (I : Inv w0 fp S0 σ a w β S) : ∀ (rs : List ResultVar) (l : List V), resV P σ rs = some l → ∃ vs : List Value, vs.length = l.length ∧ (∀ (i : Nat) x v, l[i]? = some x → vs[i]? = some v → Rep w β S x v) ∧ (∀ id ∈ V.idsL l, (getM σ.M id).isSome = true) ∧
    (rs.mapM (fun r => (match r with
      | .tmp t => pure (a.tmps.getD t undef)
      | .cell b t => do loadVar t (← asAddr (a.tmps.getD b undef)) : Sem Value))).run P w = .ok vs w
  | [], l, hr => by
    simp only [resV] at hr
    cases hr
    exact ⟨[], rfl, by simp, by simp [V.idsL], by simp⟩
  | .tmp t :: r, l, hr => by
    simp only [resV, Option.map_eq_some_iff] at hr
    obtain ⟨l', h1, rfl⟩ := hr
    obtain ⟨vs, h2, h3, h4, h5⟩ := resV_run I r l' h1
    refine ⟨a.tmps.getD t undef :: vs, by simp [h2], fun i x v hx hv => ?_, fun id hid => ?_, ?_⟩
    · cases i with
      | zero => simp at hx hv; subst hx hv; simpa using I.slots t
      | succ i => exact h3 i x v (by simpa using hx) (by simpa using hv)
    · rw [V.idsL] at hid
      rcases List.mem_append.1 hid with h | h
      · exact I.closedF t id h
      · exact h4 id h
    · simp only [List.mapM_cons, Sem.run_bind, Sem.run_pure, Result.andThen_ok] at h5 ⊢
      rw [h5]
      rfl
  | .cell b t :: r, l, hr => by
    simp only [resV] at hr
    split at hr <;> simp at hr
    rename_i v0 l' h0 h1
    subst hr
    obtain ⟨vs, h2, h3, h4, h5⟩ := resV_run I r l' h1
    obtain ⟨bb, off, v', e1, e2, e3⟩ := load_run (P := P) I h0 (I.slots b)
    refine ⟨v' :: vs, by simp [h2], fun i x v hx hv => ?_, fun id hid => ?_, ?_⟩
    · cases i with
      | zero => simp at hx hv; subst hx hv; exact e3
      | succ i => exact h3 i x v (by simpa using hx) (by simpa using hv)
    · rw [V.idsL] at hid
      rcases List.mem_append.1 hid with h | h
      · exact loadV_closed I h0 (I.slots b) id h
      · exact h4 id h
    · simp only [List.mapM_cons, Sem.run_bind, Sem.run_pure, Result.andThen_ok] at h5 ⊢
      rw [e1]
      rw [show asAddr (.pointer (some ⟨bb, off, none⟩)) = (pure ⟨bb, off, none⟩ : Sem Addr) from rfl]
      simp only [Sem.run_pure, Result.andThen_ok, e2]
      rw [h5]
      rfl
theorem results_run (I : Inv w0 fp S0 σ a w β S) {fn : Func} {l : List V} (hr : resV P σ fn.results.toList = some l) : ∃ v, (results fn a.tmps).run P w = .ok v w ∧ Rep w β S (oneOf l) v ∧ ∀ id ∈ (oneOf l).ids, (getM σ.M id).isSome = true := by
  obtain ⟨vs, h2, h3, h4, h5⟩ := resV_run I _ l hr
  have hm : (fn.results.mapM (fun r => (match r with
      | .tmp t => pure (a.tmps.getD t undef)
      | .cell b t => do loadVar t (← asAddr (a.tmps.getD b undef)) : Sem Value))).run P w = .ok vs.toArray w := by
    rw [← Array.toArray_toList (xs := fn.results), List.mapM_toArray]
    simp only [Sem.run_map, h5, Result.andThen_ok]
  have hrun : (results fn a.tmps).run P w = .ok (if h : vs.toArray.size = 1 then vs.toArray[0] else .tuple vs.toArray) w := by
    unfold results
    simp only [Sem.run_bind]
    have : ∀ (r : ResultVar), (match r with
      | .tmp t => pure (a.tmps.getD t undef)
      | .cell b t => do loadVar t (← asAddr (a.tmps.getD b undef)) : Sem Value) = (match r with
      | .tmp t => pure (a.tmps.getD t undef)
      | .cell b t => do loadVar t (← asAddr (a.tmps.getD b undef)) : Sem Value) := fun r => rfl
    erw [hm]
    rfl
  cases l with
  | nil =>
    have : vs = [] := List.eq_nil_of_length_eq_zero (by simpa using h2)
    subst this
    exact ⟨_, hrun, .tup [] #[] rfl (by simp), by simp [oneOf, V.ids, V.idsL]⟩
  | cons x r =>
    cases r with
    | nil =>
      cases vs with
      | nil => simp at h2
      | cons v r2 =>
        have : r2 = [] := List.eq_nil_of_length_eq_zero (by simpa using h2)
        subst this
        refine ⟨v, by simpa using hrun, h3 0 x v (by simp) (by simp), fun id hid => h4 id ?_⟩
        rw [V.idsL]
        exact List.mem_append_left _ hid
    | cons y r =>
      refine ⟨.tuple vs.toArray, ?_, .tup _ _ (by simpa using h2) fun i x v hx hv => h3 i x v hx (by simpa using hv), fun id hid => h4 id (by simpa [oneOf, V.ids] using hid)⟩
      rw [hrun]
      have : ¬ (vs.toArray.size = 1) := by simp [h2]
      rw [dif_neg this]
theorem finish_ok {fn : Func} {k : Nat} (hk : S0.k = k) (hlt : k < 1000000) (I : Inv w0 fp S0 σ a w β S) {r : V} {exts news : List O} (hf : finish P fn k σ = some (r, exts, news)) : ∃ v, (results fn a.tmps).run P w = .ok v w ∧ Post w0 fp S0 r exts news (.returned v) w := by
  unfold finish at hf
  split at hf <;> try (cases hf; done)
  rename_i l ex hr hex
  dsimp only at hf
  split at hf <;> try (cases hf; done)
  rename_i ids0 hids0
  split at hf <;> try (cases hf; done)
  rename_i nw hnw
  split at hf <;> simp at hf
  rename_i hc
  obtain ⟨hnd, hal, hcl⟩ := hc
  obtain ⟨rfl, rfl, rfl⟩ := hf
  obtain ⟨v, hrun, hrep, hrc⟩ := results_run (P := P) I hr
  refine ⟨v, hrun, ?_⟩
  generalize hidq : ids0.filter (fun x => decide (x < ExtB)) = ids at *
  have hidlt : ∀ id ∈ ids, id < ExtB := fun id h => by
    rw [← hidq] at h
    simpa using (List.mem_filter.1 h).2
  obtain ⟨elen, eget⟩ := objsOf_get _ _ hex
  obtain ⟨nlen, nget⟩ := objsOf_get _ _ hnw
  have elen : ex.length = k := by simpa using elen
  have eget : ∀ i, i < k → ∃ o, ex[i]? = some o ∧ getM σ.M (ExtB + i) = some o := fun i hi => eget i (ExtB + i) (by simp [hi])
  let f := toIdx RetB ids
  let β' : Nat → Value := fun i => if RetB ≤ i then β (ids.getD (i - RetB) 0) else β i
  have inIds : ∀ id, ids.contains id = true → ∃ j, f id = RetB + j ∧ ids[j]? = some id := fun id h => toIdx_mem h
  have notIn : ∀ i, i < k → f (ExtB + i) = ExtB + i := fun i hi => by
    have : idxOf ids (ExtB + i) = none := by
      cases hq : idxOf ids (ExtB + i) with
      | none => rfl
      | some q =>
        exfalso
        have : ∀ (l : List Nat) q, idxOf l (ExtB + i) = some q → (ExtB + i) ∈ l := by
          intro l
          induction l with
          | nil => intro q h; simp [idxOf] at h
          | cons x r ih =>
            intro q h
            simp only [idxOf] at h
            split at h
            · rename_i e; simp [e]
            · rw [Option.map_eq_some_iff] at h
              obtain ⟨q', h1, _⟩ := h
              exact List.mem_cons_of_mem _ (ih q' h1)
        have := hidlt _ (this ids q hq)
        omega
    show toIdx RetB ids (ExtB + i) = ExtB + i
    simp [toIdx, this]
  have hβ : ∀ id, (ids.contains id = true ∨ ∃ i, i < k ∧ id = ExtB + i) → β' (f id) = β id := fun id h => by
    rcases h with h | ⟨i, hi, rfl⟩
    · obtain ⟨j, h1, h2⟩ := inIds id h
      show (if RetB ≤ f id then β (ids.getD (f id - RetB) 0) else β (f id)) = β id
      rw [h1, if_pos (by omega), Nat.add_sub_cancel_left, List.getD_eq_getElem?_getD, h2]
      rfl
    · rw [notIn i hi]
      show (if RetB ≤ ExtB + i then β (ids.getD (ExtB + i - RetB) 0) else β (ExtB + i)) = β (ExtB + i)
      rw [if_neg (by simp only [ExtB, RetB]; omega)]
  have known : ∀ id, id ∈ (oneOf l).ids ++ ex.flatMap O.ids ++ nw.flatMap O.ids → ids.contains id = true ∨ ∃ i, i < k ∧ id = ExtB + i := fun id hid => by
    have := (List.all_eq_true.1 hcl) id hid
    simp only [Bool.or_eq_true, Bool.and_eq_true, decide_eq_true_eq] at this
    rcases this with h | ⟨h1, h2⟩
    · exact .inl h
    · exact .inr ⟨id - ExtB, by omega, by omega⟩
  have outGet : ∀ c o, getM (outSt ((oneOf l).ren f) (ex.map (O.ren f)) (nw.map (O.ren f))).M c = some o → ∃ id o0, getM σ.M id = some o0 ∧ o = o0.ren f ∧ f id = c ∧ (o0 ∈ ex ∨ o0 ∈ nw) ∧ β' c = β id ∧ ((∃ i, i < k ∧ id = ExtB + i) ∨ ∃ j, c = RetB + j ∧ ids[j]? = some id) := by
    intro c o h
    simp only [outSt, getM_append, getM_idxs] at h
    by_cases hc : ExtB ≤ c
    · rw [if_pos hc] at h
      cases he : (ex.map (O.ren f))[c - ExtB]? with
      | some o' =>
        simp only [he] at h; cases h
        rw [List.getElem?_map, Option.map_eq_some_iff] at he
        obtain ⟨o0, h1, rfl⟩ := he
        have hi : c - ExtB < k := by rw [← elen]; exact (List.getElem?_eq_some_iff.1 h1).1
        obtain ⟨o1, h2, h3⟩ := eget _ hi
        rw [h1] at h2; cases h2
        have hfc := notIn _ hi
        have hcc : ExtB + (c - ExtB) = c := by omega
        refine ⟨ExtB + (c - ExtB), o0, h3, rfl, by rw [hfc, hcc], .inl (List.mem_of_getElem? h1), ?_, .inl ⟨_, hi, rfl⟩⟩
        have := hβ (ExtB + (c - ExtB)) (.inr ⟨_, hi, rfl⟩)
        rw [hfc] at this
        rw [← this, hcc]
      | none =>
        simp only [he] at h
        split at h <;> try (cases h; done)
        rename_i hcr
        rw [List.getElem?_map, Option.map_eq_some_iff] at h
        obtain ⟨o0, h1, rfl⟩ := h
        have hj : c - RetB < ids.length := by rw [← nlen]; exact (List.getElem?_eq_some_iff.1 h1).1
        obtain ⟨o1, h2, h3⟩ := nget (c - RetB) ids[c - RetB] (List.getElem?_eq_getElem hj)
        rw [h1] at h2; cases h2
        obtain ⟨q, e1, e2⟩ := inIds ids[c - RetB] (by simp)
        have hq := nodup_get ids hnd q (c - RetB) _ e2 (List.getElem?_eq_getElem hj)
        have hfc : f ids[c - RetB] = c := by rw [e1, hq]; omega
        refine ⟨ids[c - RetB], o0, h3, rfl, hfc, .inr (List.mem_of_getElem? h1), ?_, .inr ⟨c - RetB, by omega, List.getElem?_eq_getElem hj⟩⟩
        have := hβ ids[c - RetB] (.inl (by simp))
        rwa [hfc] at this
    · rw [if_neg hc] at h
      simp only at h
      split at h <;> try (cases h; done)
      rename_i h2
      simp only [ExtB, RetB] at hc h2
      omega
  have outSome : ∀ id, (ids.contains id = true ∨ ∃ i, i < k ∧ id = ExtB + i) → (getM (outSt ((oneOf l).ren f) (ex.map (O.ren f)) (nw.map (O.ren f))).M (f id)).isSome = true := fun id hid => by
    simp only [outSt, getM_append, getM_idxs]
    rcases hid with hid | ⟨i, hi, rfl⟩
    · obtain ⟨j, h1, h2⟩ := inIds id hid
      obtain ⟨o1, h3, _⟩ := nget j id h2
      rw [h1, if_pos (by simp only [ExtB, RetB]; omega)]
      have : (ex.map (O.ren f))[RetB + j - ExtB]? = none := List.getElem?_eq_none (by rw [List.length_map, elen]; simp only [ExtB, RetB]; omega)
      rw [this]
      simp only
      rw [if_pos (by omega), Nat.add_sub_cancel_left, List.getElem?_map, h3]
      rfl
    · obtain ⟨o1, h3, _⟩ := eget i hi
      rw [notIn i hi, if_pos (by omega), Nat.add_sub_cancel_left, List.getElem?_map, h3]
      rfl
  refine ⟨v, β', S, rfl, by rw [List.length_map, elen, hk], by rw [List.length_map, elen]; exact hlt, ?_⟩
  refine { defers := rfl, size := rfl, slots := fun t => ?_, objs := fun c o h => ?_, own := fun c o g h hown hg => ?_, fro := fun c m e rows g h hg => ?_, inj := fun i j o o' g h1 h2 h3 h4 h5 h6 => ?_, closedF := fun t id hid => ?_, closedM := fun i o h id hid => ?_, Slt := I.Slt, S0S := I.S0S, SIn := I.SIn, ext := fun i hi => ?_, os := I.os, tape := I.tape, output := I.output, grow := I.grow, kept := I.kept }
  · simp only [outSt, getF]
    split
    · rename_i e
      subst e
      simpa using hrep.ren (β' := β') f fun id hid => hβ id (known id (by simp [hid]))
    · exact .bad _
  · obtain ⟨id, o0, h1, rfl, rfl, h2, h3, _⟩ := outGet c o h
    refine (I.objs id o0 h1).ren f h3 fun i hi => hβ i (known i ?_)
    rcases h2 with h2 | h2
    · exact List.mem_append_left _ (List.mem_append_right _ (List.mem_flatMap.2 ⟨o0, h2, hi⟩))
    · exact List.mem_append_right _ (List.mem_flatMap.2 ⟨o0, h2, hi⟩)
  · obtain ⟨id, o0, h1, rfl, rfl, h2, h3, _⟩ := outGet c o h
    rw [isOwn_ren] at hown
    rw [h3] at hg
    exact I.own id o0 g h1 hown hg
  · obtain ⟨id, o0, h1, h4, rfl, h2, h3, _⟩ := outGet c _ h
    rw [h3] at hg
    cases o0 with
    | box => cases h4
    | row ow m' e' rows' =>
      simp only [O.ren] at h4
      cases h4
      exact I.fro id m e rows g h1 hg
    | dead => cases h4
  · obtain ⟨id1, p1, a1, rfl, rfl, a2, a3, _⟩ := outGet i o h1
    obtain ⟨id2, p2, b1, rfl, rfl, b2, b3, _⟩ := outGet j o' h2
    rw [isOwn_ren] at h3 h4
    rw [a3] at h5
    rw [b3] at h6
    rw [I.inj id1 id2 p1 p2 g a1 b1 h3 h4 h5 h6]
  · simp only [outSt, getF] at hid
    split at hid
    · rw [ids_ren] at hid
      obtain ⟨id0, h1, rfl⟩ := List.mem_map.1 hid
      exact outSome id0 (known id0 (by simp [h1]))
    · simp [V.ids] at hid
  · obtain ⟨id1, o0, h1, rfl, rfl, h2, h3, _⟩ := outGet i o h
    rw [oids_ren] at hid
    obtain ⟨id0, h4, rfl⟩ := List.mem_map.1 hid
    refine outSome id0 (known id0 ?_)
    rcases h2 with h2 | h2
    · exact List.mem_append_left _ (List.mem_append_right _ (List.mem_flatMap.2 ⟨o0, h2, h4⟩))
    · exact List.mem_append_right _ (List.mem_flatMap.2 ⟨o0, h2, h4⟩)
  · rw [hk] at hi
    have h1 := outSome (ExtB + i) (.inr ⟨i, hi, rfl⟩)
    have h2 := hβ (ExtB + i) (.inr ⟨i, hi, rfl⟩)
    rw [notIn i hi] at h1 h2
    exact ⟨h1, h2.trans (I.ext i (by rw [hk]; exact hi)).2⟩
/-- The contracts that are given hold. -/
def CtxOk (P : Program) (ctx : FuncId → Option (List V → List O → Option (V × List O × List O))) : Prop :=
  ∀ f g, ctx f = some g → ∀ args exts r exts' news, g args exts = some (r, exts', news) →
    FnOk P f ∧ ∀ (w : World) (fp S : Nat → Prop) (β : Nat → Value) (vals : Array Value), vals.size = args.length → exts.length < 1000000 →
      Inv w fp (baseOf S β exts.length) (inSt args exts vals.size) ⟨vals, []⟩ w β S → Calls P f vals w (Post w fp (baseOf S β exts.length) r exts' news)
theorem callV_ok (hm : P.follows .mixedOrders = true) {ctx : FuncId → Option (List V → List O → Option (V × List O × List O))} (hctx : CtxOk P ctx) : ∀ k, CallOk P (callV P ctx h k)
  | 0 => fun f args exts r exts' news hc => by simp only [callV] at hc; cases hc
  | k + 1 => fun f args exts r exts' news hc => by
    simp only [callV] at hc
    split at hc
    · rename_i g hg
      exact hctx f g hg args exts r exts' news hc
    · split at hc <;> try (cases hc; done)
      rename_i fn hfn
      split at hc <;> try (cases hc; done)
      rename_i c hb
      split at hc <;> try (cases hc; done)
      rename_i hname
      refine ⟨⟨fn, hfn, fun e => hname (.inl e), by rw [hb]; rfl⟩, fun w fp S β vals hv hlt I => ?_⟩
      have hn : vals.size ≤ fn.ntmps := by
        have : ¬ fn.ntmps < args.length := fun e => hname (.inr e)
        omega
      have I0 : Inv w fp (baseOf S β exts.length) { n := fn.ntmps, F := params 0 args, M := idxs ExtB exts } { tmps := vals ++ Array.replicate (fn.ntmps - vals.size) undef, defers := [] } w β S := by
        refine { defers := rfl, size := by simp; omega, slots := fun t => ?_, objs := I.objs, own := I.own, fro := I.fro, inj := I.inj, closedF := I.closedF, closedM := I.closedM, Slt := I.Slt, S0S := I.S0S, SIn := I.SIn, ext := I.ext, os := I.os, tape := I.tape, output := I.output, grow := I.grow, kept := I.kept }
        have hs := I.slots t
        simp only [inSt] at hs
        by_cases ht : t < vals.size
        · have : (vals ++ Array.replicate (fn.ntmps - vals.size) undef).getD t undef = vals.getD t undef := by
            rw [Array.getD_eq_getD_getElem?, Array.getD_eq_getD_getElem?, Array.getElem?_append_left ht]
          rw [this]
          exact hs
        · have : getF (params 0 args) t = .bad := by
            rw [getF_params, if_pos (Nat.zero_le _), List.getElem?_eq_none (by omega)]
            rfl
          simp only [this]
          exact .bad _
      refine calls_of_wp hfn hb ?_
      have hrec := callV_ok hm hctx k
      split at hc
      · rename_i σ1 h1
        refine wp_mono ((exec_ok hrec hm c).1 _ _ _ h1 _ w β S I0) fun e a1 w1 hx => ?_
        cases e with
        | normal =>
          obtain ⟨_, β1, S1, I1⟩ := hx
          obtain ⟨v, h2, h3⟩ := finish_ok rfl hlt I1 hc
          exact ⟨I1.defers, v, h2, h3⟩
        | ret => obtain ⟨hq, _⟩ := hx; cases hq
        | exit _ => obtain ⟨hq, _⟩ := hx; cases hq
        | goto _ => obtain ⟨hq, _⟩ := hx; cases hq
        | panic _ => exact hx.elim
        | outgrown => exact hx.elim
      · rename_i σ1 h1
        refine wp_mono ((exec_ok hrec hm c).1 _ _ _ h1 _ w β S I0) fun e a1 w1 hx => ?_
        cases e with
        | ret =>
          obtain ⟨_, β1, S1, I1⟩ := hx
          obtain ⟨v, h2, h3⟩ := finish_ok rfl hlt I1 hc
          exact ⟨I1.defers, v, h2, h3⟩
        | normal => obtain ⟨hq, _⟩ := hx; cases hq
        | exit _ => obtain ⟨hq, _⟩ := hx; cases hq
        | goto _ => obtain ⟨hq, _⟩ := hx; cases hq
        | panic _ => exact hx.elim
        | outgrown => exact hx.elim
      · cases hc
#print axioms callV_ok
end
end Go.Proofs.YthjefcamonmjpaaV
