/- make([]T, n, m) answers a row of the call's own that holds n zero values, where n is from 0 to m and m elements are no more than 2^48 bytes. -/
import Derived.Test.YtlohjfagiigchaaWMore
import Derived.Test.YtlohjfagiigchaaWLast
import Derived.Lib.SliceRun
import Derived.Laws.CopyOwn
import Derived.ScopeJumps
import Derived.WalkMore
namespace Go.Proofs.YtlohjfagiigchaaW.PrintWords
open Go.RowKit
set_option linter.unusedVariables false
set_option linter.unusedSimpArgs false
namespace Kd
section
variable {P : Program} {ops : Array Oper} {rest : List Oper} {o : Oper} {a : Act} {Q : Exit → Act → World → Prop} {α : Type}
theorem R_make2 (d : Kd α) {w0 W : World} (base e : Nat) (hgd : o.guard = none) {N : Tmp} (hd : o.dst = some N) (t : TypeId) (x y : Operand) (ho : o.op = .makeSlice t x y) (n m : Int) (hx : a.eval x = .int .i64 n) (hy : a.eval y = .int .i64 m)
    (ht : P.underlying t = some (.slice e)) (z : Value) (bytes : Nat) (hinfo : (P.info? e).map (fun i => (i.zero, i.size, i.bytes)) = some (some z, d.sz, bytes)) (hz : z.cells.size = d.sz) (hs0 : 0 < d.sz) (hb0 : 0 < bytes)
    (z0 : α) {ok okp : Nat → Prop} (hzero : d.M W base okp z0 z.cells.toList) (hok : ∀ k, okp k → ok k) (hfresh : ok W.heap.size) (h0 : 0 ≤ n) (hnm : n ≤ m) (hl : m.toNat * bytes ≤ 281474976710656) (HB : Below base w0 W) (hbase : base ≤ W.heap.size)
    (h : ∀ v1 w1, d.R e w1 base ok v1 (List.replicate n.toNat z0) → Below base w0 w1 → W.grownBy w1 none → (∃ b, v1.ownBlock = some b ∧ W.heap.size ≤ b) → wpList P ops Q rest (a.put o.dst v1) w1) : wpList P ops Q (o :: rest) a W := by
  obtain ⟨m, rfl⟩ := Int.eq_ofNat_of_zero_le (Int.le_trans h0 hnm)
  obtain ⟨n, rfl⟩ := Int.eq_ofNat_of_zero_le h0
  simp only [Int.toNat_natCast] at hl h
  have hnm' : n ≤ m := by omega
  obtain ⟨i0, hi, hzz⟩ := Option.map_eq_some_iff.1 hinfo
  simp only [Prod.mk.injEq] at hzz
  obtain ⟨hz0, hz1, hz2⟩ := hzz
  have hm : m ≤ 281474976710656 := Nat.le_trans (Nat.le_mul_of_pos_right _ hb0) hl
  have hr := run_make (P := P) W t e i0 z ht hi hz0 .i64 .i64 (n : Int) (m : Int) (by omega) (by omega)
    (by
      have h3 : ((i0.bytes * m : Nat) : Int) ≤ 281474976710656 := by rw [hz2, Nat.mul_comm]; omega
      rwa [Int.natCast_mul] at h3) (by omega)
  simp only [Int.toNat_natCast] at hr
  rw [hz1] at hr
  have hcut : (madeCells z.cells (m * d.sz)).toList.take (n * d.sz) = (madeCells z.cells (n * d.sz)).toList := by
    have hle : n * d.sz ≤ m * d.sz := Nat.mul_le_mul_right _ hnm'
    simp only [madeCells, Array.toList_map, Array.toList_range, ← List.map_take, List.take_range, Nat.min_eq_left hle]
  refine event_run hgd (v := .slice (some ⟨W.heap.size, 0, none⟩) n m) (w1 := W.alloc (.cells (madeCells z.cells (m * d.sz)) e)) (by simp [execOp, ho, hx, hy, hr]) (h _ _ ⟨fun k hk => ?_, (madeCells z.cells (n * d.sz)).toList, ?_, ?_⟩ (HB.alloc hbase _) (World.grownBy_alloc W _ none) ⟨W.heap.size, by simp [Value.ownBlock], Nat.le_refl _⟩)
  · have : W.heap.size = k := by simpa [Value.ownBlock] using hk
    subst this
    exact hfresh
  · refine ⟨by simp [size_madeCells], .inr ⟨W.heap.size, m, madeCells z.cells (m * d.sz), by simp, hbase, heap_alloc_new W _, by simpa using hnm', by simp only [maxLen]; omega, size_madeCells _ _, by simpa using hcut⟩⟩
  · refine (reps_made hz hs0 hzero n).imp_ (fun p c hp => d.M_mono (fun k hk => ⟨hok k hk.1, fun he => ?_⟩) (M_below (d.M_bound hp) (below_alloc (Below.refl _ _) _)))
    have h3 : k = W.heap.size := by simpa [Value.ownBlock] using he
    have := hk.2.2.1
    omega
/-- copy into (a cut of) a row of the call's own, elements of one cell. -/
theorem R_copy_at {enc : α → Value} {h1 : ∀ x, (enc x).oneCell' = true} (dflt : α) {w0 W : World} (base : Nat) (hgd : o.guard = none) (d s : Operand) (t e : TypeId) (ho : o.op = .call { callee := .builtin .copy, args := #[d, s], argTypes := #[t, t] })
    (ht : P.underlying t = some (.slice e)) (hsz : (P.info? e).map (·.size) = some 1) {g cap N : Nat} (xs ys : List α) (A dp : Option Addr) (m c dLen dCap off : Nat) (ok : Nat → Prop)
    (hd : a.eval d = .slice dp dLen dCap) (hs : a.eval s = .slice A m c) (hdp : 0 < dLen → dp = some ⟨g, off, none⟩) (hfit : off + dLen ≤ xs.length)
    (HO : (scalar enc h1).R e W base ok (.slice (some ⟨g, 0, none⟩) N cap) xs) (HR : (scalar enc h1).C W A m ys) (HB : Below base w0 W)
    (h : ∀ w1, (scalar enc h1).R e w1 base ok (.slice (some ⟨g, 0, none⟩) N cap) (splice xs off (ys.take dLen)) → Below base w0 w1 → W.grownBy w1 (some g) → wpList P ops Q rest (a.put o.dst (goInt (ys.take dLen).length)) w1) : wpList P ops Q (o :: rest) a W := by
  have hok := HO.1
  have hN := (R_reads' HO).1
  have hown := own_of_R HO
  obtain ⟨hl, hcase⟩ := hown
  rcases hcase with ⟨hv, _⟩ | ⟨g', cap', cur, hv, hbg, hh, hnc, hcm, hcs, hcut⟩
  · cases hv
  · injection hv with hv1 hv2 hv3
    injection hv1 with hv1
    injection hv1 with hv1
    subst hv1 hv3
    have hread := reads_of_C (d := dflt) HR
    have hm : ys.length = m := hread.1
    have hlen : (encs enc (ys.take dLen)).length = Nat.min m dLen := by rw [encs_length, List.length_take, hm]; exact Nat.min_comm _ _
    have hn : (encs enc (ys.take dLen)).length = (ys.take dLen).length := encs_length _
    have hle : (ys.take dLen).length ≤ dLen := List.length_take_le _ _
    rw [Nat.mul_one] at hl hcs hcut
    have hcl : cur.toList.length = cap := by simpa using hcs
    have hx : xs.length ≤ cap := hnc
    have hone : ∀ v ∈ encs enc (ys.take dLen), v.oneCell' = true := by
      intro u hu
      obtain ⟨x, _, rfl⟩ := List.mem_map.1 hu
      exact h1 x
    have hsl : (splice xs off (ys.take dLen)).length = xs.length := length_splice _ _ _ (by omega)
    by_cases h0 : (ys.take dLen).length = 0
    · have he : ys.take dLen = [] := List.eq_nil_of_length_eq_zero h0
      have hz : Nat.min m dLen = 0 := by rw [← hlen, hn]; exact h0
      refine wpList_copy_nothing hgd d s t t ho e ht hsz dp A dLen dCap m c hd hs hz ?_
      have := h W (by rw [he]; simpa [splice] using HO) HB (World.grownBy.refl W _)
      rwa [he] at this
    · obtain ⟨ad, hA, hc⟩ := hread.2.2 (by have h7 : (ys.take dLen).length ≠ 0 := h0; rw [List.length_take] at h7; omega)
      rw [hdp (by omega)] at hd
      rw [hA] at hs
      have := wpList_copy_own (w := W) (rest := rest) (a := a) (Q := Q) (ops := ops) hgd d s t t ho e ht hsz g off dLen dCap ad m c hd hs cur e hh (encs enc (ys.take dLen)) hlen ?_ (by rw [hcs]; omega) hone
      · refine this ?_
        rw [hn]
        refine h _ (R_of_own ?_ hok) (below_setRow HB hbg _) ⟨rfl, rfl, rfl, by simp [World.setRow], fun k hk hne => setRow_other W g k _ (fun e => hne (by rw [e]))⟩
        rw [hsl]
        refine ⟨by rw [encs_length, hsl, Nat.mul_one], .inr ⟨g, cap, _, by rw [hN], hbg, setRow_heap W g _ _ e _ hh, hnc, hcm, ?_, ?_⟩⟩
        · simp [encs_length]
          omega
        · rw [Nat.mul_one]
          have hxs : encs enc xs = cur.toList.take xs.length := hcut.symm
          have hcn : (encs enc (ys.take dLen)).length ≤ dLen := by omega
          have h5 : (cur.toList.take off).length = off := by rw [List.length_take]; omega
          rw [List.toList_toArray, ← hn]
          rw [List.take_append, h5, List.take_of_length_le (by omega : (cur.toList.take off).length ≤ xs.length), List.take_append, List.take_of_length_le (by omega : (encs enc (ys.take dLen)).length ≤ xs.length - off)]
          have h6 : encs enc (splice xs off (ys.take dLen)) = (encs enc xs).take off ++ (encs enc (ys.take dLen) ++ (encs enc xs).drop (off + (ys.take dLen).length)) := by simp [splice, encs]
          rw [h6, hxs, List.take_take, Nat.min_eq_left (by omega), List.drop_take, hn]
          congr 3
          all_goals omega
      · intro j u hj
        have hj2 : j < (ys.take dLen).length := by rw [← hn]; exact (List.getElem?_eq_some_iff.1 hj).1
        have hj3 : j < m := by rw [List.length_take] at hj2; omega
        rw [hc j hj3]
        rw [encs_get (d := dflt) _ j hj2] at hj
        rw [← hj]
        have hjd : j < dLen := by omega
        rw [List.getD_eq_getElem?_getD, List.getD_eq_getElem?_getD, List.getElem?_take_of_lt hjd]
/-- A row that has a block is written out. -/
theorem R_formB {d : Kd α} {e : Nat} {w : World} {base : Nat} {ok : Nat → Prop} {v : Value} {xs : List α} (h : d.R e w base ok v xs) (hb : ∃ b, v.ownBlock = some b) : ∃ g cap, v = .slice (some ⟨g, 0, none⟩) xs.length cap := by
  obtain ⟨_, inner, ho, _⟩ := h
  obtain ⟨b, hb⟩ := hb
  rcases ho.2 with ⟨rfl, _⟩ | ⟨g, cap, cur, rfl, _⟩
  · simp [Value.ownBlock] at hb
  · exact ⟨g, cap, rfl⟩
end
end Kd
end Go.Proofs.YtlohjfagiigchaaW.PrintWords
namespace Go.Proofs.YtlohjfagiigchaaW.PrintLast
open Go.RowKit
set_option linter.unusedVariables false
set_option linter.unusedSimpArgs false
section
variable {P : Program} {ops : Array Oper} {Q : Exit → Act → World → Prop}
/-- A call of a function value (what it captured comes behind the arguments), by its contract. -/
theorem goesV_ {rest : List Oper} {oi : Oper} {a : Act} {w : World} (N : Option Tmp) (hd : oi.dst = N) (hg : oi.guard = none) {f : FuncId} {fn : Func} {x : Operand} {as : Array Operand} {ts : Array TypeId} {lb : Array Value} (hf : P.funcs[f]? = some fn) (hname : (fn.name == "runtime.NumGoroutine") = false) (hb : fn.body.isSome = true) (args : Array Value)
    (hop : oi.op = .call { callee := .value x, args := as, argTypes := ts }) (hx : a.eval x = .func (.func f) #[] lb) (hargs : as.map a.eval ++ lb = args)
    (h : Calls P f args w fun e w' => ∃ v, e = .returned v ∧ wpList P ops Q rest (a.put N v) w') : wpList P ops Q (oi :: rest) a w := by
  refine wpList_plain hg fun K hK => ?_
  have he := enters_ hf hname hb args w
  have hrun : (execOp a.eval oi).run P w = .ok (.enter f args) w := by
    unfold execOp
    simp [hop, resolve, Deferred.ofValue, invoke, hx, hargs, he]
  unfold Oper.wp
  rw [hrun, Oper.upon_enter]
  refine h.mono fun e w'' hh => ?_
  obtain ⟨v, rfl, hk⟩ := hh
  subst hd
  exact hK _ _ hk
end
end Go.Proofs.YtlohjfagiigchaaW.PrintLast
namespace Go.Proofs.YtlohjfagiigchaaW.PrintLast
open Go.RowKit
section
variable {P : Program} {a : Act} {w : World} {Q : Exit → Act → World → Prop}
/-- A scope with one label: what is behind the label is walked once. -/
theorem wp_scope_once {c B : Code} (l : Nat) (J : Act → World → Prop) (μ : Act → World → Nat) (hf : findLabel c l = some (.seq .skip B))
    (pass : ∀ a w, J a w → B.wp P (Exit.jump l (fun a' w' => J a' w' ∧ μ a' w' < μ a w) Q) a w)
    (first : (∀ a w, J a w → B.wp P (Exit.jump l J Q) a w) → c.wp P (Exit.jump l J Q) a w) : (Code.scope c).wp P Q a w := by
  refine wp_scope_jumps l J μ hf (first fun a w h => wp_mono (pass a w h) fun e a w hq => ?_) (fun a w h => wp_seq (wp_skip (pass a w h)))
  cases e with
  | goto l' => exact ⟨hq.1, hq.2.1⟩
  | normal => exact hq
  | exit id => exact hq
  | ret => exact hq
  | panic ch => exact hq
  | outgrown => exact hq
end
end Go.Proofs.YtlohjfagiigchaaW.PrintLast
