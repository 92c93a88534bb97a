/- The value interpreter: words of the plain functions printed out of it, and of their proofs. -/
import Derived.Test.YthjefcamonmjpaaHVi25
import Derived.Lib.BitFns
namespace Go.Proofs.YthjefcamonmjpaaV
open Go
set_option linter.unusedVariables false
set_option linter.unusedSimpArgs false
set_option linter.unnecessarySimpa false
def seqL : Code → Code | .seq a _ => a | c => c
def seqR : Code → Code | .seq _ b => b | c => c
def condL : Code → Code | .cond _ a _ => a | c => c
def condR : Code → Code | .cond _ _ b => b | c => c
def blockC : Code → Code | .block _ a => a | c => c
def loopC : Code → Code | .loop a => a | c => c
def scopeC : Code → Code | .scope a => a | c => c
theorem mk_get {α : Type} {l : List α} {i : Nat} : (Array.mk l)[i]? = l[i]? := by simp
def rowsOf {α : Type} (enc : α → List V) (l : List α) : List (List V) := l.map enc
theorem rowsOf_nil {α : Type} {enc : α → List V} : rowsOf enc [] = [] := rfl
theorem rowsOf_append {α : Type} {enc : α → List V} {l l' : List α} : rowsOf enc l ++ rowsOf enc l' = rowsOf enc (l ++ l') := List.map_append.symm
theorem rowsOf_take {α : Type} {enc : α → List V} {l : List α} {n : Nat} : List.take n (rowsOf enc l) = rowsOf enc (List.take n l) := List.map_take.symm
theorem rowsOf_drop {α : Type} {enc : α → List V} {l : List α} {n : Nat} : List.drop n (rowsOf enc l) = rowsOf enc (List.drop n l) := List.map_drop.symm
theorem rowsOf_length {α : Type} {enc : α → List V} {l : List α} : (rowsOf enc l).length = l.length := List.length_map _
theorem rowsOf_get {α : Type} {enc : α → List V} {l : List α} {i : Nat} : (rowsOf enc l)[i]? = l[i]?.map enc := List.getElem?_map
theorem rowsOf_set {α : Type} {enc : α → List V} {l : List α} {i : Nat} {x : α} : rowsOf enc (List.set l i x) = List.set (rowsOf enc l) i (enc x) := List.map_set
theorem rowsOf_replicate {α : Type} {enc : α → List V} {n : Nat} {x : α} : rowsOf enc (List.replicate n x) = List.replicate n (enc x) := List.map_replicate
def encI (k : IntKind) (n : Int) : List V := [V.p (Value.int k n)]
theorem encI_eq {k : IntKind} {n : Int} : encI k n = [V.p (Value.int k n)] := rfl
def encB (b : Bool) : List V := [V.p (Value.bool b)]
theorem encB_eq {b : Bool} : encB b = [V.p (Value.bool b)] := rfl
def encS (b : ByteArray) : List V := [V.p (Value.string b)]
theorem encS_eq {b : ByteArray} : encS b = [V.p (Value.string b)] := rfl
def encL {α : Type} (m : Nat) (enc : α → List V) (l : List α) : List V := [V.sl m (rowsOf enc l)]
theorem encL_eq {α : Type} {m : Nat} {enc : α → List V} {l : List α} : encL m enc l = [V.sl m (rowsOf enc l)] := rfl
/-- What holds, or nothing. -/
def ifE {α : Type} (p : Prop) [Decidable p] (o : Option α) : Option α := if p then o else none
theorem ifE_some {α : Type} {p : Prop} [Decidable p] {o : Option α} {r : α} : ifE p o = some r ↔ p ∧ o = some r := by
  unfold ifE
  split <;> simp_all
theorem cond_some {α : Type} {b : Bool} {x y : Option α} {r : α} (h : cond b x y = some r) : (b = true ∧ x = some r) ∨ (b = false ∧ y = some r) := by
  cases b
  · exact .inr ⟨rfl, h⟩
  · exact .inl ⟨rfl, h⟩
def strOf (l : List Int) : ByteArray := ⟨(l.map fun n => UInt8.ofNat n.toNat).toArray⟩
theorem strOf_fold {l : List Int} : (⟨(l.map fun n => UInt8.ofNat n.toNat).toArray⟩ : ByteArray) = strOf l := rfl
theorem strRows_map (l : List Int) : strRows (rowsOf (encI .u8) l) = some (l.map fun n => UInt8.ofNat n.toNat) := by
  induction l with
  | nil => rfl
  | cons x l ih => rw [show rowsOf (encI .u8) (x :: l) = encI .u8 x :: rowsOf (encI .u8) l from rfl]; simp only [List.map_cons, strRows, ih]; rfl
section
variable {P : Program} {call call' : CallF} {h : Hints} {fn fuel : Nat} {σ : St}
def Leq (c c' : CallF) : Prop := ∀ f a e r, c f a e = some r → c' f a e = some r
theorem callStep_mono (hc : Leq call call') {d : Nat} {f : FuncId} {args : List V} {r : V × List (Nat × O)} (hs : callStep call h σ d f args = some r) : callStep call' h σ d f args = some r := by
  unfold callStep at hs ⊢
  split at hs <;> try (cases hs; done)
  rename_i args1 fz e1
  split at hs <;> try (cases hs; done)
  rename_i ids e2
  split at hs <;> try (cases hs; done)
  rename_i objs e3
  split at hs <;> try (cases hs; done)
  rename_i e4
  rw [if_pos e4]
  split at hs <;> try (cases hs; done)
  rename_i q1 q2 q3 e5
  rw [hc _ _ _ _ e5]
  exact hs
theorem step_mono (hc : Leq call call') {o : Oper} {r : V × List (Nat × O)} (hs : step P call h σ o = some r) : step P call' h σ o = some r := by
  unfold step at hs ⊢
  split at hs
  all_goals first
    | exact hs
    | (rename_i c hop
       split at hs
       · split at hs
         · exact callStep_mono hc hs
         · exact callStep_mono hc hs
         · cases hs
       all_goals exact hs)
theorem execOps_mono (hc : Leq call call') {ops : Array Oper} : ∀ (l : List Oper) (σ : St) (r : St × List (Option Eff)), execOps P call h ops l σ = some r → execOps P call' h ops l σ = some r
  | [], σ, r, hs => hs
  | o :: l, σ, r, hs => by
    unfold execOps at hs ⊢
    split at hs <;> try (cases hs; done)
    rename_i v u e1
    have e1' : stepG P call' h ops σ o = some (v, u) := by
      unfold stepG at e1 ⊢
      split at e1
      · exact step_mono hc e1
      · exact e1
      · cases e1
    rw [e1']
    simp only at hs ⊢
    split at hs <;> try (cases hs; done)
    rename_i hd
    rw [if_pos hd]
    split at hs <;> try (cases hs; done)
    rename_i σ' es e2
    rw [execOps_mono hc l _ _ e2]
    exact hs
theorem iter_mono {f f' : St → Option (Out × St)} (hf : ∀ σ r, f σ = some r → f' σ = some r) : ∀ (n m : Nat), n ≤ m → ∀ σ r, iter f n σ = some r → iter f' m σ = some r
  | 0, m, _, σ, r, hs => by cases hs
  | n + 1, m, hm, σ, r, hs => by
    obtain ⟨m, rfl⟩ : ∃ k, m = k + 1 := ⟨m - 1, by omega⟩
    unfold iter at hs ⊢
    cases e : f σ with
    | none => rw [e] at hs; cases hs
    | some q =>
      rw [e] at hs
      rw [hf _ _ e]
      obtain ⟨o, σ'⟩ := q
      cases o with
      | norm => exact iter_mono hf n m (by omega) σ' r hs
      | exit i => exact hs
      | goto i => exact hs
      | ret => exact hs
theorem jumps_mono {f f' : Nat → St → Option (Out × St)} (hf : ∀ l σ r, f l σ = some r → f' l σ = some r) : ∀ (n m : Nat), n ≤ m → ∀ q r, jumps f n q = some r → ∀ q', (∀ r, q = some r → q' = some r) → jumps f' m q' = some r := by
  intro n
  induction n with
  | zero =>
    intro m hm q r hs q' hq
    cases q with
    | none => simp [jumps] at hs
    | some x =>
      obtain ⟨o, σ⟩ := x
      rw [hq _ rfl]
      cases o with
      | goto l => simp [jumps] at hs
      | norm => cases m <;> (simp [jumps] at hs ⊢; exact hs)
      | exit i => cases m <;> (simp [jumps] at hs ⊢; exact hs)
      | ret => cases m <;> (simp [jumps] at hs ⊢; exact hs)
  | succ n ih =>
    intro m hm q r hs q' hq
    obtain ⟨m, rfl⟩ : ∃ k, m = k + 1 := ⟨m - 1, by omega⟩
    cases q with
    | none => simp [jumps] at hs
    | some x =>
      obtain ⟨o, σ⟩ := x
      rw [hq _ rfl]
      cases o with
      | goto l =>
        simp only [jumps] at hs ⊢
        exact ih m (by omega) _ r hs _ fun r hr => hf _ _ _ hr
      | norm => (simp [jumps] at hs ⊢; exact hs)
      | exit i => (simp [jumps] at hs ⊢; exact hs)
      | ret => (simp [jumps] at hs ⊢; exact hs)
theorem exec_mono (hc : Leq call call') {fuel' : Nat} (hfu : fuel ≤ fuel') : ∀ (c : Code) (l : Option Nat) (σ : St) (r : Out × St), exec P call h fn fuel l c σ = some r → exec P call' h fn fuel' l c σ = some r := by
  intro c
  induction c with
  | skip => intro l σ r hs; cases l <;> simpa [exec] using hs
  | region id ops draw =>
    intro l σ r hs
    cases l with
    | some l => simp [exec] at hs
    | none =>
      unfold exec at hs ⊢
      split at hs <;> try (cases hs; done)
      rename_i σ' es e
      rw [execOps_mono hc _ _ _ e]
      exact hs
  | seq a b iha ihb =>
    intro l σ r hs
    cases l with
    | none =>
      rw [ev_seq] at hs ⊢
      cases e : exec P call h fn fuel none a σ with
      | none => rw [e] at hs; cases hs
      | some q =>
        rw [e] at hs
        rw [iha _ _ _ e]
        obtain ⟨o, σ'⟩ := q
        cases o with
        | norm => exact ihb _ _ _ hs
        | exit i => exact hs
        | goto i => exact hs
        | ret => exact hs
    | some l =>
      unfold exec at hs ⊢
      split at hs
      · rename_i hl
        rw [if_pos hl]
        split at hs
        · rename_i σ' e
          rw [iha _ _ _ e]
          exact ihb _ _ _ hs
        · rename_i hne
          rw [iha _ _ _ hs]
          obtain ⟨o, σ'⟩ := r
          cases o with
          | norm => exact absurd hs (hne σ')
          | exit i => rfl
          | goto i => rfl
          | ret => rfl
      · rename_i hl
        rw [if_neg hl]
        exact ihb _ _ _ hs
  | cond c a b iha ihb =>
    intro l σ r hs
    cases l with
    | some l => simp [exec] at hs
    | none =>
      rw [ev_cond] at hs ⊢
      unfold condK at hs ⊢
      split at hs
      · exact iha _ _ _ hs
      · exact ihb _ _ _ hs
      · cases hs
  | block id a iha =>
    intro l σ r hs
    cases l with
    | some l => simp [exec] at hs
    | none =>
      rw [ev_block] at hs ⊢
      cases e : exec P call h fn fuel none a σ with
      | none => rw [e] at hs; cases hs
      | some q => rw [e] at hs; rw [iha _ _ _ e]; exact hs
  | loop a iha =>
    intro l σ r hs
    cases l with
    | some l => simp [exec] at hs
    | none =>
      unfold exec at hs ⊢
      refine iter_mono (fun σ r hr => ?_) _ _ hfu _ _ hs
      split at hr <;> try (cases hr; done)
      exact iha _ _ _ hr
  | exit id => intro l σ r hs; cases l <;> simpa [exec] using hs
  | goto id => intro l σ r hs; cases l <;> simpa [exec] using hs
  | label id => intro l σ r hs; cases l <;> simpa [exec] using hs
  | ret => intro l σ r hs; cases l <;> simpa [exec] using hs
  | scope a iha =>
    intro l σ r hs
    cases l with
    | some l => simp [exec] at hs
    | none =>
      unfold exec at hs ⊢
      exact jumps_mono (fun l σ r hr => iha _ _ _ hr) _ _ hfu _ _ hs _ fun r hr => iha _ _ _ hr
  | _ => intro l σ r hs; cases l <;> simp [exec] at hs
theorem callV_mono {ctx : FuncId → Option (List V → List O → Option (V × List O × List O))} : ∀ (j : Nat), Leq (callV P ctx h j) (callV P ctx h (j + 1))
  | 0 => fun f a e r hs => by cases hs
  | j + 1 => fun f a e r hs => by
    unfold callV at hs ⊢
    split at hs
    · exact hs
    · split at hs <;> try (cases hs; done)
      rename_i fn hfn
      split at hs <;> try (cases hs; done)
      rename_i c hb
      split at hs <;> try (cases hs; done)
      rename_i hn
      try rw [if_neg hn]
      have M := fun r => exec_mono (P := P) (h := h) (fn := f) (callV_mono (ctx := ctx) j) (Nat.le_succ j) c none { n := fn.ntmps, F := params 0 a, M := idxs ExtB e } r
      split at hs <;> try (cases hs; done)
      · rename_i σ e; rw [M _ e]; exact hs
      · rename_i σ e; rw [M _ e]; exact hs
theorem range1 : List.range 1 = [0] := rfl
theorem range2 : List.range 2 = [0, 1] := rfl
theorem range3 : List.range 3 = [0, 1, 2] := rfl
theorem range4 : List.range 4 = [0, 1, 2, 3] := rfl
theorem range5 : List.range 5 = [0, 1, 2, 3, 4] := rfl
theorem range6 : List.range 6 = [0, 1, 2, 3, 4, 5] := rfl
theorem range7 : List.range 7 = [0, 1, 2, 3, 4, 5, 6] := rfl
theorem range8 : List.range 8 = [0, 1, 2, 3, 4, 5, 6, 7] := rfl
theorem ev_ctx {ctx : FuncId → Option (List V → List O → Option (V × List O × List O))} {k : Nat} {f : FuncId} {g : List V → List O → Option (V × List O × List O)} {args : List V} {exts : List O} (hx : ctx f = some g) : callV P ctx h (k + 1) f args exts = g args exts := by
  rw [callV]
  simp only [hx]
/-- A place in the code: the way to it, its last step first. -/
def child : Code → Nat → Code
  | .seq a _, 1 => a
  | .seq _ b, 2 => b
  | .cond _ a _, 2 => a
  | .cond _ _ b, 3 => b
  | .block _ a, 2 => a
  | .loop a, 1 => a
  | .scope a, 1 => a
  | c, _ => c
def nav (c : Code) : List Nat → Code
  | [] => c
  | i :: p => child (nav c p) i
inductive Knd where
  | sq
  | cd (t : Nat)
  | bk (i : Nat)
  | lp
  | ex (i : Nat)
  | gt (i : Nat)
  | rt
  | sk
  | lb (i : Nat)
  | sc
  | ct
  | cf
  | re
def kindOf : Code → Knd
  | .seq _ _ => .sq
  | .cond (.tmp t) _ _ => .cd t
  | .cond (.const (.bool true)) _ _ => .ct
  | .cond (.const (.bool false)) _ _ => .cf
  | .block i _ => .bk i
  | .loop _ => .lp
  | .exit i => .ex i
  | .goto i => .gt i
  | .ret => .rt
  | .skip => .sk
  | .label i => .lb i
  | .scope _ => .sc
  | _ => .re
def xr (P : Program) (call : CallF) (h : Hints) (fn fuel : Nat) (c : Code) (p : List Nat) (σ : St) : Knd → Option (Out × St)
  | .sq => seqK P call h fn fuel (nav c (2 :: p)) (exec P call h fn fuel none (nav c (1 :: p)) σ)
  | .cd t => condK P call h fn fuel (nav c (2 :: p)) (nav c (3 :: p)) σ (getF σ.F t)
  | .ct => exec P call h fn fuel none (nav c (2 :: p)) σ
  | .cf => exec P call h fn fuel none (nav c (3 :: p)) σ
  | .bk i => blockK i (exec P call h fn fuel none (nav c (2 :: p)) σ)
  | .lp => loopK P call h fn fuel (nav c (1 :: p)) fuel σ
  | .ex i => some (.exit i, σ)
  | .gt i => some (.goto i, σ)
  | .rt => some (.ret, σ)
  | .sk => some (.norm, σ)
  | .lb _ => some (.norm, σ)
  | _ => exec P call h fn fuel none (nav c p) σ
theorem xk (c : Code) (p : List Nat) (kd : Knd) (hk : kindOf (nav c p) = kd) : exec P call h fn fuel none (nav c p) σ = xr P call h fn fuel c p σ kd := by
  cases hc : nav c p with
  | seq a b => rw [hc] at hk; subst hk; simp only [kindOf, xr, nav, child, hc, ev_seq]
  | cond x a b =>
    rw [hc] at hk; subst hk
    cases x with
    | const v =>
      cases v with
      | bool b => cases b <;> simp only [kindOf, xr, nav, child, hc, ev_cond, evalV, ofVal, ofVal1, ofCell, condK]
      | _ => simp only [kindOf, xr, hc]
    | _ => simp only [kindOf, xr, nav, child, hc, ev_cond, evalV_tmp]
  | block i a => rw [hc] at hk; subst hk; simp only [kindOf, xr, nav, child, hc, ev_block]
  | loop a => rw [hc] at hk; subst hk; simp only [kindOf, xr, nav, child, hc, ev_loop]
  | exit i => rw [hc] at hk; subst hk; simp only [kindOf, xr, ev_exit]
  | goto i => rw [hc] at hk; subst hk; simp only [kindOf, xr, ev_goto]
  | label i => rw [hc] at hk; subst hk; simp only [kindOf, xr, ev_label]
  | ret => rw [hc] at hk; subst hk; simp only [kindOf, xr, ev_ret]
  | skip => rw [hc] at hk; subst hk; simp only [kindOf, xr, ev_skip]
  | _ => rw [hc] at hk; subst hk; simp only [kindOf, xr, hc]
theorem xr_sq {c : Code} {p : List Nat} : xr P call h fn fuel c p σ .sq = seqK P call h fn fuel (nav c (2 :: p)) (exec P call h fn fuel none (nav c (1 :: p)) σ) := rfl
theorem xr_cd {c : Code} {p : List Nat} {t : Nat} : xr P call h fn fuel c p σ (.cd t) = condK P call h fn fuel (nav c (2 :: p)) (nav c (3 :: p)) σ (getF σ.F t) := rfl
theorem xr_ct {c : Code} {p : List Nat} : xr P call h fn fuel c p σ .ct = exec P call h fn fuel none (nav c (2 :: p)) σ := rfl
theorem xr_cf {c : Code} {p : List Nat} : xr P call h fn fuel c p σ .cf = exec P call h fn fuel none (nav c (3 :: p)) σ := rfl
theorem xr_bk {c : Code} {p : List Nat} {i : Nat} : xr P call h fn fuel c p σ (.bk i) = blockK i (exec P call h fn fuel none (nav c (2 :: p)) σ) := rfl
theorem xr_lp {c : Code} {p : List Nat} : xr P call h fn fuel c p σ .lp = loopK P call h fn fuel (nav c (1 :: p)) fuel σ := rfl
theorem xr_ex {c : Code} {p : List Nat} {i : Nat} : xr P call h fn fuel c p σ (.ex i) = some (.exit i, σ) := rfl
theorem xr_gt {c : Code} {p : List Nat} {i : Nat} : xr P call h fn fuel c p σ (.gt i) = some (.goto i, σ) := rfl
theorem xr_rt {c : Code} {p : List Nat} : xr P call h fn fuel c p σ .rt = some (.ret, σ) := rfl
theorem xr_sk {c : Code} {p : List Nat} : xr P call h fn fuel c p σ .sk = some (.norm, σ) := rfl
theorem xr_lb {c : Code} {p : List Nat} {i : Nat} : xr P call h fn fuel c p σ (.lb i) = some (.norm, σ) := rfl
theorem D {k t : Nat} (h : k ≠ t) : ND k t := h
theorem K {b : Bool} (h : b = true) : KR b := h
theorem tell_cons {m : Nat} {ms : List Nat} {v : V} {r : List V} : tell (m :: ms) (v :: r) = tell1 m v :: tell ms r := rfl
theorem tell_nil {r : List V} : tell [] r = r := by simp only [tell]
theorem tell_nil2 {ms : List Nat} : tell ms [] = [] := by cases ms <;> simp only [tell]
theorem tell1_p {m : Nat} {v : Value} : tell1 m (.p v) = .p v := rfl
theorem tell1_sl {m n : Nat} {rows : List (List V)} : tell1 m (.sl n rows) = .sl n rows := rfl
theorem tell1_nil {m : Nat} : tell1 m .nil = if m = 0 then .nil else .sl m [] := rfl
/-- An array's cells. -/
def cI (k : IntKind) (n : Int) : V := V.p (Value.int k n)
def cB (b : Bool) : V := V.p (Value.bool b)
def arrC {α : Type} (c : α → V) (l : List α) : List V := l.map c
theorem arr_len {α : Type} {c : α → V} {l : List α} : (arrC c l).length = l.length := List.length_map _
theorem arr_take {α : Type} {c : α → V} {l : List α} {n : Nat} : List.take n (arrC c l) = arrC c (List.take n l) := List.map_take.symm
theorem arr_drop {α : Type} {c : α → V} {l : List α} {n : Nat} : List.drop n (arrC c l) = arrC c (List.drop n l) := List.map_drop.symm
theorem arr_head {α : Type} {c : α → V} {l : List α} : (arrC c l).head? = l.head?.map c := List.head?_map
theorem arr_get {α : Type} {c : α → V} {l : List α} {i : Nat} : (arrC c l)[i]? = l[i]?.map c := List.getElem?_map
theorem arr_append {α : Type} {c : α → V} {l l' : List α} : arrC c l ++ arrC c l' = arrC c (l ++ l') := List.map_append.symm
theorem arrI_cons {k : IntKind} {n : Int} {l : List Int} : V.p (Value.int k n) :: arrC (cI k) l = arrC (cI k) (n :: l) := rfl
theorem arrB_cons {b : Bool} {l : List Bool} : V.p (Value.bool b) :: arrC cB l = arrC cB (b :: l) := rfl
theorem arr_ids {c : Int → V} {k : IntKind} {l : List Int} : V.idsL (arrC (cI k) l) = [] := by
  induction l with
  | nil => rfl
  | cons x l ih => rw [← arrI_cons, V.idsL, ih]; rfl
theorem arrI_ids {k : IntKind} {l : List Int} : V.idsL (arrC (cI k) l) = [] := arr_ids (c := cI k)
theorem arrB_ids {l : List Bool} : V.idsL (arrC cB l) = [] := by
  induction l with
  | nil => rfl
  | cons x l ih => rw [← arrB_cons, V.idsL, ih]; rfl
theorem arrI_ren {f : Nat → Nat} {k : IntKind} {l : List Int} : V.renL f (arrC (cI k) l) = arrC (cI k) l := by
  induction l with
  | nil => rfl
  | cons x l ih => rw [← arrI_cons, V.renL, ih]; rfl
theorem arrB_ren {f : Nat → Nat} {l : List Bool} : V.renL f (arrC cB l) = arrC cB l := by
  induction l with
  | nil => rfl
  | cons x l ih => rw [← arrB_cons, V.renL, ih]; rfl
theorem cI_eq {k : IntKind} {n : Int} : cI k n = V.p (Value.int k n) := rfl
theorem cB_eq {b : Bool} : cB b = V.p (Value.bool b) := rfl
theorem build_evalA {t e : TypeId} {i ie : TypeInfo} {z : List V} {n : Nat} {ps : List (Nat × Operand)} (h1 : P.info? t = some i) (h2 : zeroRow i = some z) (h3 : P.underlying t = some (.array n e)) (h4 : P.info? e = some ie) : buildV P σ t ps = (fillV (fun k => some (k * ie.size, ie.size)) z (evL σ ps)).map .agg := by
  simp only [buildV, h1, h2, h3, h4, evL_eq]
def fillA (cells : List V) (rest : List (Nat × V)) : Option (List V) := fillV (fun k => some (k, 1)) cells rest
def fillB (cells : List V) (i : Nat) (rest : List (Nat × V)) : Option (List V) → Option (List V)
  | some cs => if cs.length = 1 ∧ i + cs.length ≤ cells.length then fillA (overlay cells i cs) rest else none
  | none => none
theorem fillA_nil {cells : List V} : fillA cells [] = some cells := rfl
theorem fillA_cons {cells : List V} {i : Nat} {v : V} {rest : List (Nat × V)} : fillA cells ((i, v) :: rest) = fillB cells i rest (cellsOf v) := by
  rw [fillA, fillV]
  cases cellsOf v <;> rfl
theorem fillB_some {cells cs : List V} {i : Nat} {rest : List (Nat × V)} : fillB cells i rest (some cs) = if cs.length = 1 ∧ i + cs.length ≤ cells.length then fillA (overlay cells i cs) rest else none := rfl
/-- Jumps to labels, told by the code. -/
def jumpsK (P : Program) (call : CallF) (h : Hints) (fn fuel : Nat) (a : Code) (n : Nat) (r : Option (Out × St)) : Option (Out × St) := jumps (fun l σ => exec P call h fn fuel (some l) a σ) n r
theorem ev_scope {a : Code} : exec P call h fn fuel none (.scope a) σ = jumpsK P call h fn fuel a fuel (exec P call h fn fuel none a σ) := by simp only [exec]; rfl
theorem jumpsK_norm {a : Code} {n : Nat} : jumpsK P call h fn fuel a n (some (.norm, σ)) = some (.norm, σ) := by cases n <;> rfl
theorem jumpsK_ret {a : Code} {n : Nat} : jumpsK P call h fn fuel a n (some (.ret, σ)) = some (.ret, σ) := by cases n <;> rfl
theorem jumpsK_exit {a : Code} {n i : Nat} : jumpsK P call h fn fuel a n (some (.exit i, σ)) = some (.exit i, σ) := by cases n <;> rfl
theorem jumpsK_goto {a : Code} {n l : Nat} : jumpsK P call h fn fuel a (n + 1) (some (.goto l, σ)) = jumpsK P call h fn fuel a n (exec P call h fn fuel (some l) a σ) := rfl
theorem ev_lab {l : Nat} : exec P call h fn fuel (some l) (.label l) σ = some (.norm, σ) := by simp [exec]
theorem ev_lab_left {l : Nat} {a b : Code} (hl : (findLabel a l).isSome = true) : exec P call h fn fuel (some l) (.seq a b) σ = seqK P call h fn fuel b (exec P call h fn fuel (some l) a σ) := by
  rw [exec, if_pos hl]
  rfl
theorem ev_lab_right {l : Nat} {a b : Code} (hl : (findLabel a l).isSome = false) : exec P call h fn fuel (some l) (.seq a b) σ = exec P call h fn fuel (some l) b σ := by
  rw [exec, if_neg (by rw [hl]; decide)]
/-- A string's byte, by its place. -/
def idxK (P : Program) (t : TypeId) (s : ByteArray) (v : V) : Option V :=
  match toVal v with
  | some w => match pureRun P (Instr.index t (.string s) w) with
    | some r => some (ofVal r)
    | none => none
  | none => none
theorem pureRun_bind {α β : Type} {x : Sem α} {f : α → Sem β} : pureRun P (x >>= f) = (pureRun P x).bind fun a => pureRun P (f a) := by
  show pureRun P (Sem.bind x f) = _
  induction x with
  | pure a => rfl
  | program k ih => simp only [Sem.bind, pureRun]; exact ih P
  | _ => rfl
theorem pureRun_map {α β : Type} {x : Sem α} {f : α → β} : pureRun P (f <$> x) = (pureRun P x).map f := by
  show pureRun P (Sem.bind x fun a => .pure (f a)) = _
  have := pureRun_bind (P := P) (x := x) (f := fun a => Sem.pure (f a))
  refine Eq.trans this ?_
  cases pureRun P x <;> rfl
theorem arrIdx_const {d : Option Nat} {t rt : TypeId} {s : ByteArray} {j : Nat} {pos : String} {af : Array Edge} {g : Option (Nat × Bool)} : arrIdxV P σ ⟨d, .index t (.const (.string s)) (.tmp j), rt, pos, af, g⟩ t (.const (.string s)) (.tmp j) = idxK P t s (getF σ.F j) := by
  have e : arrIdxV P σ ⟨d, .index t (.const (.string s)) (.tmp j), rt, pos, af, g⟩ t (.const (.string s)) (.tmp j) = plainOp P σ ⟨d, .index t (.const (.string s)) (.tmp j), rt, pos, af, g⟩ := by
    unfold arrIdxV
    split <;> simp_all [evalV, ofVal, ofVal1, ofCell]
  rw [e]
  have e1 : toVal (evalV σ (.const (.string s))) = some (.string s) := rfl
  have e2 : evalV σ (.tmp j) = getF σ.F j := rfl
  have e3 : ∀ ρ, execOp ρ ⟨d, .index t (.const (.string s)) (.tmp j), rt, pos, af, g⟩ = Next.value <$> Instr.index t (ρ (.const (.string s))) (ρ (.tmp j)) := fun ρ => rfl
  unfold plainOp idxK
  rw [e3]
  simp only [isSelect, Op.operands, e1, e2]
  cases hx : toVal (getF σ.F j) with
  | none => simp [e1, e2, hx]
  | some w =>
    simp only [Option.getD_some, pureRun_map]
    rw [if_pos (by simp [e1, e2, hx])]
    cases pureRun P (Instr.index t (.string s) w) <;> rfl
theorem idx_len8 {t : TypeId} {k : IntKind} {i : Int} (ht : P.underlying t = some .string) (h0 : 0 ≤ i) (h1 : i ≤ 255) : idxK P t Lib.len8tab (.p (.int k i)) = some (.p (.int .u8 (Lib.len8 i))) := by
  have h2 : i.toNat < Lib.len8tab.size := by rw [Lib.len8tab_size]; omega
  have h3 : Lib.len8tab[i.toNat]? = some Lib.len8tab[i.toNat] := ByteArray.getElem?_lt' _ _ h2
  have e : pureRun P (Instr.index t (.string Lib.len8tab) (.int k i)) = some (.int .u8 (Lib.len8 i)) := by
    unfold Instr.index
    simp only [asIntOf]
    rw [pureRun_bind]
    simp only [pureRun, Pure.pure, Option.bind_some]
    rw [pureRun_bind]
    have : pureRun P (underlying t) = some .string := by
      show pureRun P (Sem.program _) = _
      simp only [pureRun, Sem.bind, ht]
      rfl
    rw [this]
    simp only [Option.bind_some, if_pos h0, h3]
    simp [pureRun, Lib.len8, h3]
  unfold idxK
  simp only [toVal, toCell, e]
  rfl
theorem callV_le {ctx : FuncId → Option (List V → List O → Option (V × List O × List O))} {f : FuncId} {args : List V} {exts : List O} {r : V × List O × List O} {j k : Nat} (hk : j ≤ k) (hc : callV P ctx h j f args exts = some r) : callV P ctx h k f args exts = some r := by
  induction hk with
  | refl => exact hc
  | step _ ih => exact callV_mono _ _ _ _ _ ih
theorem flatEq_nil {xs ys : List V} : flatEq P xs ys [] = some true := rfl
def flatN : Option Bool → Option Bool → Option Bool
  | some b, some c => some (b && c)
  | _, _ => none
def flatM (d : Option TypeDesc) (r : Option Bool) : Option V → Option V → Option Bool
  | some x, some y => flatN (cellEq d x y) r
  | _, _ => none
theorem flatN_some {b c : Bool} : flatN (some b) (some c) = some (b && c) := rfl
theorem flatM_some {d : Option TypeDesc} {r : Option Bool} {x y : V} : flatM d r (some x) (some y) = flatN (cellEq d x y) r := rfl
theorem flatEq_cons {xs ys : List V} {f : Field} {fs : List Field} (hn : KR (f.name != "_")) : flatEq P xs ys (f :: fs) = flatM (P.underlying f.type) (flatEq P xs ys fs) xs[f.offset]? ys[f.offset]? := by
  have : f.name ≠ "_" := by unfold KR at hn; simpa using hn
  rw [flatEq, if_pos this]
  cases xs[f.offset]? with
  | none => rfl
  | some x => cases ys[f.offset]? with
    | none => rfl
    | some y =>
      simp only [flatM]
      cases cellEq (P.underlying f.type) x y <;> cases flatEq P xs ys fs <;> rfl
def notK (P : Program) (σ : St) (o : Oper) : V → Option V
  | .p (.bool b) => some (.p (.bool !b))
  | _ => plainOp P σ o
theorem notK_bool {o : Oper} {b : Bool} : notK P σ o (.p (.bool b)) = some (.p (.bool !b)) := rfl
theorem un_not {d : Option Nat} {t rt : TypeId} {x : Operand} {pos : String} {af : Array Edge} {g : Option (Nat × Bool)} : plainOp P σ ⟨d, .unOp .not t x, rt, pos, af, g⟩ = notK P σ ⟨d, .unOp .not t x, rt, pos, af, g⟩ (evalV σ x) := by
  cases hx : evalV σ x with
  | p v =>
    cases v with
    | bool b => simp [notK, plainOp, isSelect, Op.operands, hx, toVal, toCell, execOp, Op.unary, ofVal, ofVal1, ofCell]; rfl
    | _ => rfl
  | _ => rfl
def flipI (k : IntKind) (n : Int) : Int := k.wrap ((BitVec.ofInt k.bits (if k.signed then -1 else k.max) ^^^ BitVec.ofInt k.bits n).toNat : Nat)
def flipK (P : Program) (σ : St) (o : Oper) : V → Option V
  | .p (.int k n) => some (.p (.int k (flipI k n)))
  | _ => plainOp P σ o
theorem flipK_int {o : Oper} {k : IntKind} {n : Int} : flipK P σ o (.p (.int k n)) = some (.p (.int k (flipI k n))) := rfl
theorem un_xor {d : Option Nat} {t rt : TypeId} {x : Operand} {pos : String} {af : Array Edge} {g : Option (Nat × Bool)} : plainOp P σ ⟨d, .unOp .xor t x, rt, pos, af, g⟩ = flipK P σ ⟨d, .unOp .xor t x, rt, pos, af, g⟩ (evalV σ x) := by
  cases hx : evalV σ x with
  | p v =>
    cases v with
    | int k n => simp [flipK, plainOp, isSelect, Op.operands, hx, toVal, toCell, execOp, Op.unary, Op.intBits, ofVal, ofVal1, ofCell, flipI]; rfl
    | _ => rfl
  | _ => rfl
def negK (P : Program) (σ : St) (o : Oper) : V → Option V
  | .p (.int k n) => some (.p (.int k (k.wrap (0 - n))))
  | _ => plainOp P σ o
theorem negK_int {o : Oper} {k : IntKind} {n : Int} : negK P σ o (.p (.int k n)) = some (.p (.int k (k.wrap (0 - n)))) := rfl
theorem un_neg {d : Option Nat} {t rt : TypeId} {x : Operand} {pos : String} {af : Array Edge} {g : Option (Nat × Bool)} : plainOp P σ ⟨d, .unOp .neg t x, rt, pos, af, g⟩ = negK P σ ⟨d, .unOp .neg t x, rt, pos, af, g⟩ (evalV σ x) := by
  cases hx : evalV σ x with
  | p v =>
    cases v with
    | int k n => simp [negK, plainOp, isSelect, Op.operands, hx, toVal, toCell, execOp, Op.unary, Op.intArith, ofVal, ofVal1, ofCell]; rfl
    | _ => rfl
  | _ => rfl
/-- Laws that hold with no condition, together. -/
theorem EA : (type_of% @arr_len) ∧ (type_of% @arr_take) ∧ (type_of% @arr_drop) ∧ (type_of% @arr_head) ∧ (type_of% @arr_get) ∧ (type_of% @arr_append) ∧ (type_of% @arrI_cons) ∧ (type_of% @arrB_cons) ∧ (type_of% @arrI_ids) ∧ (type_of% @arrB_ids) ∧ (type_of% @arrI_ren) ∧ (type_of% @arrB_ren) ∧ (type_of% @cI_eq) ∧ (type_of% @cB_eq) ∧ (type_of% @fillA_nil) ∧ (type_of% @fillA_cons) ∧ (type_of% @fillB_some) ∧ (type_of% @tell_cons) ∧ (type_of% @tell_nil) ∧ (type_of% @tell_nil2) ∧ (type_of% @tell1_p) ∧ (type_of% @tell1_sl) ∧ (type_of% @tell1_nil) ∧ (type_of% @getF_nil) ∧ (type_of% @getF_hit) ∧ (type_of% @getM_nil) ∧ (type_of% @getM_hit) ∧ (type_of% @xr_ct) ∧ (type_of% @xr_cf) ∧ (type_of% @xr_sq) ∧ (type_of% @xr_cd) ∧ (type_of% @xr_bk) ∧ (type_of% @xr_lp) ∧ (type_of% @xr_ex) ∧ (type_of% @xr_gt) ∧ (type_of% @xr_rt) ∧ (type_of% @xr_sk) ∧ (type_of% @xr_lb) ∧ (type_of% @range1) ∧ (type_of% @range2) ∧ (type_of% @range3) ∧ (type_of% @range4) ∧ (type_of% @range5) ∧ (type_of% @range6) ∧ (type_of% @range7) ∧ (type_of% @range8) ∧ (type_of% @flatEq_nil) ∧ (type_of% @flatM_some) ∧ (type_of% @flatN_some) ∧ (type_of% @un_not) ∧ (type_of% @notK_bool) ∧ (type_of% @un_xor) ∧ (type_of% @flipK_int) ∧ (type_of% @un_neg) ∧ (type_of% @negK_int) ∧ (type_of% @strOf_fold) ∧ (type_of% @blockK_norm) ∧ (type_of% @blockK_ret) ∧ (type_of% @blockK_goto) ∧ (type_of% @blockK_exit) ∧ (type_of% @mk_get) ∧ (type_of% @rowsOf_nil) ∧ (type_of% @rowsOf_append) ∧ (type_of% @rowsOf_take) ∧ (type_of% @rowsOf_drop) ∧ (type_of% @rowsOf_length) ∧ (type_of% @rowsOf_get) ∧ (type_of% @seqK_norm) ∧ (type_of% @seqK_exit) ∧ (type_of% @seqK_goto) ∧ (type_of% @seqK_ret) ∧ (type_of% @condK_true) ∧ (type_of% @condK_false) ∧ (type_of% @headK_some) ∧ (type_of% @againK_norm) ∧ (type_of% @againK_exit) ∧ (type_of% @againK_goto) ∧ (type_of% @againK_ret) ∧ (type_of% @ev_region) ∧ (type_of% @run_nil) ∧ (type_of% @run_cons) ∧ (type_of% @opK_some) ∧ (type_of% @okK_true) ∧ (type_of% @runE_nil) ∧ (type_of% @runE_cons) ∧ (type_of% @opEK_some) ∧ (type_of% @okEK_true) ∧ (type_of% @endK_some) ∧ (type_of% @evalV_tmp) ∧ (type_of% @evalV_const) ∧ (type_of% @evalV_func) ∧ (type_of% @oids_box) ∧ (type_of% @oids_row) ∧ (type_of% @oids_dead) ∧ (type_of% @oren_box) ∧ (type_of% @oren_row) ∧ (type_of% @oren_dead) ∧ (type_of% @odead_box) ∧ (type_of% @odead_row) ∧ (type_of% @odead_dead) ∧ (type_of% @one_int) ∧ (type_of% @one_bool) ∧ (type_of% @one_str) ∧ (type_of% @evL_nil) ∧ (type_of% @evL_cons) ∧ (type_of% @fillL_nil) ∧ (type_of% @fillL_cons) ∧ (type_of% @fillK_some) :=
  ⟨@arr_len, @arr_take, @arr_drop, @arr_head, @arr_get, @arr_append, @arrI_cons, @arrB_cons, @arrI_ids, @arrB_ids, @arrI_ren, @arrB_ren, @cI_eq, @cB_eq, @fillA_nil, @fillA_cons, @fillB_some, @tell_cons, @tell_nil, @tell_nil2, @tell1_p, @tell1_sl, @tell1_nil, @getF_nil, @getF_hit, @getM_nil, @getM_hit, @xr_ct, @xr_cf, @xr_sq, @xr_cd, @xr_bk, @xr_lp, @xr_ex, @xr_gt, @xr_rt, @xr_sk, @xr_lb, @range1, @range2, @range3, @range4, @range5, @range6, @range7, @range8, @flatEq_nil, @flatM_some, @flatN_some, @un_not, @notK_bool, @un_xor, @flipK_int, @un_neg, @negK_int, @strOf_fold, @blockK_norm, @blockK_ret, @blockK_goto, @blockK_exit, @mk_get, @rowsOf_nil, @rowsOf_append, @rowsOf_take, @rowsOf_drop, @rowsOf_length, @rowsOf_get, @seqK_norm, @seqK_exit, @seqK_goto, @seqK_ret, @condK_true, @condK_false, @headK_some, @againK_norm, @againK_exit, @againK_goto, @againK_ret, @ev_region, @run_nil, @run_cons, @opK_some, @okK_true, @runE_nil, @runE_cons, @opEK_some, @okEK_true, @endK_some, @evalV_tmp, @evalV_const, @evalV_func, @oids_box, @oids_row, @oids_dead, @oren_box, @oren_row, @oren_dead, @odead_box, @odead_row, @odead_dead, @one_int, @one_bool, @one_str, @evL_nil, @evL_cons, @fillL_nil, @fillL_cons, @fillK_some⟩
/-- General laws, together. -/
theorem EG : (type_of% @List.getElem?_cons_zero.{0}) ∧ (type_of% @List.getElem?_cons_succ.{0}) ∧ (type_of% @List.map_cons.{0, 0}) ∧ (type_of% @List.map_nil.{0, 0}) ∧ (type_of% @List.length_cons.{0}) ∧ (type_of% @List.length_nil.{0}) ∧ (type_of% @List.length_map.{0, 0}) ∧ (type_of% @List.nil_append.{0}) ∧ (type_of% @List.cons_append.{0}) ∧ (type_of% @List.append_nil.{0}) ∧ (type_of% @Bool.and_true) ∧ (type_of% @Bool.true_and) ∧ (type_of% @Bool.false_and) ∧ (type_of% @Bool.and_false) ∧ (type_of% @Bool.not_true) ∧ (type_of% @Bool.not_false) ∧ (type_of% @Bool.or_true) ∧ (type_of% @Bool.or_false) ∧ (type_of% @Bool.true_or) ∧ (type_of% @Bool.false_or) ∧ (type_of% @List.contains_cons.{0}) ∧ (type_of% @List.contains_nil.{0}) ∧ (type_of% @List.all_cons.{0}) ∧ (type_of% @List.all_nil.{0}) ∧ (type_of% @List.any_cons.{0}) ∧ (type_of% @List.any_nil.{0}) ∧ (type_of% @List.flatMap_cons.{0, 0}) ∧ (type_of% @List.flatMap_nil.{0, 0}) ∧ (type_of% @List.zip_cons_cons.{0, 0}) ∧ (type_of% @List.zip_nil_left.{0, 0}) ∧ (type_of% @List.take_zero.{0}) ∧ (type_of% @List.take_succ_cons.{0}) ∧ (type_of% @List.drop_zero.{0}) ∧ (type_of% @List.drop_succ_cons.{0}) ∧ (type_of% @List.take_nil.{0}) ∧ (type_of% @List.drop_nil.{0}) ∧ (type_of% @List.head?_cons.{0}) ∧ (type_of% @List.replicate_zero.{0}) ∧ (type_of% @List.replicate_succ.{0}) ∧ (type_of% @List.set_cons_zero.{0}) ∧ (type_of% @List.set_cons_succ.{0}) ∧ (type_of% @List.isEmpty_nil.{0}) ∧ (type_of% @List.isEmpty_cons.{0}) ∧ (type_of% @List.getElem?_map.{0, 0}) ∧ (type_of% @List.range_zero) ∧ (type_of% @List.reverse_cons.{0}) ∧ (type_of% @List.reverse_nil.{0}) ∧ (type_of% @Bool.false_eq_true) ∧ (type_of% @List.any_append.{0}) ∧ (type_of% @Int.cast_ofNat_Int) ∧ (type_of% @eq_self.{1}) ∧ (type_of% @Option.map_some.{0, 0}) ∧ (type_of% @Option.map_none.{0, 0}) ∧ (type_of% @Option.bind_some.{0, 0}) ∧ (type_of% @and_true) ∧ (type_of% @true_and) ∧ (type_of% @and_false) ∧ (type_of% @false_and) ∧ (type_of% @and_self) ∧ (type_of% @if_true.{1}) ∧ (type_of% @if_false.{1}) ∧ (type_of% @decide_true) ∧ (type_of% @decide_false) ∧ (type_of% @beq_self_eq_true.{0}) ∧ (type_of% @bne_self_eq_false.{0}) ∧ (type_of% @not_true_eq_false) ∧ (type_of% @not_false_eq_true) ∧ (type_of% @ne_eq.{1}) ∧ (type_of% @Option.isSome_some.{0}) ∧ (type_of% @Option.isSome_none.{0}) ∧ (type_of% @Option.isNone_none.{0}) ∧ (type_of% @Option.isNone_some.{0}) ∧ (type_of% @Nat.zero_add) ∧ (type_of% @Nat.add_zero) ∧ (type_of% @Nat.sub_zero) ∧ (type_of% @Nat.zero_le) ∧ (type_of% @or_true) ∧ (type_of% @true_or) ∧ (type_of% @or_false) ∧ (type_of% @false_or) ∧ (type_of% @forall_const.{1}) ∧ (type_of% @forall_const.{0}) ∧ (type_of% @Nat.mul_one) ∧ (type_of% @Option.isSome_map.{0, 0}) ∧ (type_of% @List.filter_cons.{0}) ∧ (type_of% @List.filter_nil.{0}) ∧ (type_of% @List.getElem?_toArray.{0}) ∧ (type_of% @List.toList_toArray.{0}) ∧ (type_of% @Array.getElem?_toList.{0}) ∧ (type_of% @List.size_toArray.{0}) ∧ (type_of% @Option.map_eq_map.{0}) ∧ (type_of% @List.mem_cons.{0}) ∧ (type_of% @List.not_mem_nil.{0}) ∧ (type_of% @List.getElem?_nil.{0}) ∧ (type_of% @Option.getD_some.{0}) ∧ (type_of% @Option.getD_none.{0}) ∧ (type_of% @Nat.le_refl) ∧ (type_of% @implies_true.{1}) ∧ (type_of% @implies_true.{0}) ∧ (type_of% @false_implies) ∧ (type_of% @Nat.one_mul) ∧ (type_of% @Bool.false_beq) ∧ (type_of% @Bool.true_beq) ∧ (type_of% @Array.toList_append.{0}) ∧ (type_of% @List.append_eq.{0}) ∧ (type_of% @List.getD_cons_succ.{0}) ∧ (type_of% @List.getD_cons_zero.{0}) :=
  ⟨@List.getElem?_cons_zero.{0}, @List.getElem?_cons_succ.{0}, @List.map_cons.{0, 0}, @List.map_nil.{0, 0}, @List.length_cons.{0}, @List.length_nil.{0}, @List.length_map.{0, 0}, @List.nil_append.{0}, @List.cons_append.{0}, @List.append_nil.{0}, @Bool.and_true, @Bool.true_and, @Bool.false_and, @Bool.and_false, @Bool.not_true, @Bool.not_false, @Bool.or_true, @Bool.or_false, @Bool.true_or, @Bool.false_or, @List.contains_cons.{0}, @List.contains_nil.{0}, @List.all_cons.{0}, @List.all_nil.{0}, @List.any_cons.{0}, @List.any_nil.{0}, @List.flatMap_cons.{0, 0}, @List.flatMap_nil.{0, 0}, @List.zip_cons_cons.{0, 0}, @List.zip_nil_left.{0, 0}, @List.take_zero.{0}, @List.take_succ_cons.{0}, @List.drop_zero.{0}, @List.drop_succ_cons.{0}, @List.take_nil.{0}, @List.drop_nil.{0}, @List.head?_cons.{0}, @List.replicate_zero.{0}, @List.replicate_succ.{0}, @List.set_cons_zero.{0}, @List.set_cons_succ.{0}, @List.isEmpty_nil.{0}, @List.isEmpty_cons.{0}, @List.getElem?_map.{0, 0}, @List.range_zero, @List.reverse_cons.{0}, @List.reverse_nil.{0}, @Bool.false_eq_true, @List.any_append.{0}, @Int.cast_ofNat_Int, @eq_self.{1}, @Option.map_some.{0, 0}, @Option.map_none.{0, 0}, @Option.bind_some.{0, 0}, @and_true, @true_and, @and_false, @false_and, @and_self, @if_true.{1}, @if_false.{1}, @decide_true, @decide_false, @beq_self_eq_true.{0}, @bne_self_eq_false.{0}, @not_true_eq_false, @not_false_eq_true, @ne_eq.{1}, @Option.isSome_some.{0}, @Option.isSome_none.{0}, @Option.isNone_none.{0}, @Option.isNone_some.{0}, @Nat.zero_add, @Nat.add_zero, @Nat.sub_zero, @Nat.zero_le, @or_true, @true_or, @or_false, @false_or, @forall_const.{1}, @forall_const.{0}, @Nat.mul_one, @Option.isSome_map.{0, 0}, @List.filter_cons.{0}, @List.filter_nil.{0}, @List.getElem?_toArray.{0}, @List.toList_toArray.{0}, @Array.getElem?_toList.{0}, @List.size_toArray.{0}, @Option.map_eq_map.{0}, @List.mem_cons.{0}, @List.not_mem_nil.{0}, @List.getElem?_nil.{0}, @Option.getD_some.{0}, @Option.getD_none.{0}, @Nat.le_refl, @implies_true.{1}, @implies_true.{0}, @false_implies, @Nat.one_mul, @Bool.false_beq, @Bool.true_beq, @Array.toList_append.{0}, @List.append_eq.{0}, @List.getD_cons_succ.{0}, @List.getD_cons_zero.{0}⟩
/-- The definitions' equations, together. -/
theorem EF : (type_of% @stepG.eq_1) ∧ (type_of% @guardOn.eq_1) ∧ (type_of% @step.eq_1) ∧ (type_of% @St.put.eq_1) ∧ (type_of% @St.put.eq_2) ∧ (type_of% @dstOk.eq_1) ∧ (type_of% @dstOk.eq_2) ∧ (type_of% @endR.eq_1) ∧ (type_of% @frzAll.eq_1) ∧ (type_of% @frzAll.eq_2) ∧ (type_of% @normR.eq_1) ∧ (type_of% @normR.eq_2) ∧ (type_of% @params.eq_1) ∧ (type_of% @params.eq_2) ∧ (type_of% @idxs.eq_1) ∧ (type_of% @idxs.eq_2) ∧ (type_of% @binV.eq_1) ∧ (type_of% @keepTo.eq_1) ∧ (type_of% @reach.eq_1) ∧ (type_of% @reach.eq_2) ∧ (type_of% @reach.eq_3) ∧ (type_of% @V.idsL.eq_1) ∧ (type_of% @V.idsL.eq_2) ∧ (type_of% @ExtB.eq_1) ∧ (type_of% @RetB.eq_1) ∧ (type_of% @HeadB.eq_1) ∧ (type_of% @newId.eq_1) ∧ (type_of% @newObjs.eq_1) ∧ (type_of% @newObjs.eq_2) ∧ (type_of% @toHead.eq_1) ∧ (type_of% @idxOf.eq_1) ∧ (type_of% @idxOf.eq_2) ∧ (type_of% @fromCall.eq_1) ∧ (type_of% @lendL.eq_1) ∧ (type_of% @lendL.eq_2) ∧ (type_of% @frzL.eq_1) ∧ (type_of% @frzL.eq_2) ∧ (type_of% @V.renL.eq_1) ∧ (type_of% @V.renL.eq_2) ∧ (type_of% @V.ren.eq_1) ∧ (type_of% @V.ren.eq_2) ∧ (type_of% @V.ren.eq_3) ∧ (type_of% @V.ren.eq_4) ∧ (type_of% @V.ren.eq_5) ∧ (type_of% @V.ren.eq_6) ∧ (type_of% @V.ren.eq_7) ∧ (type_of% @V.ren.eq_8) ∧ (type_of% @V.ren.eq_9) ∧ (type_of% @V.ren.eq_10) ∧ (type_of% @V.ren.eq_11) ∧ (type_of% @V.ren.eq_12) ∧ (type_of% @boxV.eq_1) ∧ (type_of% @allocV.eq_1) ∧ (type_of% @overlay.eq_1) ∧ (type_of% @storeV.eq_1) ∧ (type_of% @elemI.eq_1) ∧ (type_of% @extKeys.eq_1) ∧ (type_of% @objsOf.eq_1) ∧ (type_of% @objsOf.eq_2) ∧ (type_of% @headR.eq_1) ∧ (type_of% @canonAll.eq_1) ∧ (type_of% @canonAll.eq_2) ∧ (type_of% @canonOne.eq_1) ∧ (type_of% @canonOne.eq_2) ∧ (type_of% @keepCanon.eq_1) ∧ (type_of% @finish.eq_1) ∧ (type_of% @resV.eq_1) ∧ (type_of% @resV.eq_2) ∧ (type_of% @resV.eq_3) ∧ (type_of% @nodupB.eq_1) ∧ (type_of% @nodupB.eq_2) ∧ (type_of% @toIdx.eq_1) ∧ (type_of% @loadV.eq_1) ∧ (type_of% @effOf.eq_1) ∧ (type_of% @slotsOfOp.eq_1) ∧ (type_of% @Go.Op.operands.eq_1) ∧ (type_of% @Go.Op.operands.eq_2) ∧ (type_of% @Go.Op.operands.eq_3) ∧ (type_of% @Go.Op.operands.eq_4) ∧ (type_of% @Go.Op.operands.eq_5) ∧ (type_of% @Go.Op.operands.eq_6) ∧ (type_of% @Go.Op.operands.eq_7) ∧ (type_of% @Go.Op.operands.eq_8) ∧ (type_of% @Go.Op.operands.eq_9) ∧ (type_of% @Go.Op.operands.eq_10) ∧ (type_of% @Go.Op.operands.eq_11) ∧ (type_of% @Go.Op.operands.eq_12) ∧ (type_of% @Go.Op.operands.eq_13) ∧ (type_of% @Go.Op.operands.eq_14) ∧ (type_of% @Go.Op.operands.eq_15) ∧ (type_of% @Go.Op.operands.eq_16) ∧ (type_of% @Go.Op.operands.eq_17) ∧ (type_of% @Go.Op.operands.eq_18) ∧ (type_of% @Go.Op.operands.eq_19) ∧ (type_of% @Go.Op.operands.eq_20) ∧ (type_of% @Go.Op.operands.eq_21) ∧ (type_of% @Go.Op.operands.eq_22) ∧ (type_of% @Go.Op.operands.eq_23) ∧ (type_of% @Go.Op.operands.eq_24) ∧ (type_of% @Go.Op.operands.eq_25) ∧ (type_of% @Go.Op.operands.eq_26) ∧ (type_of% @Go.Op.operands.eq_27) ∧ (type_of% @Go.Op.operands.eq_28) ∧ (type_of% @Go.Op.operands.eq_29) ∧ (type_of% @Go.Op.operands.eq_30) ∧ (type_of% @Go.Op.operands.eq_31) ∧ (type_of% @Go.Op.operands.eq_32) ∧ (type_of% @Go.Op.operands.eq_33) ∧ (type_of% @Go.Op.operands.eq_34) ∧ (type_of% @Go.Op.operands.eq_35) ∧ (type_of% @Go.Op.operands.eq_36) ∧ (type_of% @Go.Op.operands.eq_37) ∧ (type_of% @Go.Op.operands.eq_38) ∧ (type_of% @Go.Op.operands.eq_39) ∧ (type_of% @Go.Op.operands.eq_40) ∧ (type_of% @Go.Op.operands.eq_41) ∧ (type_of% @Go.Op.operands.eq_42) ∧ (type_of% @Go.Op.operands.eq_43) ∧ (type_of% @Go.Call.operands.eq_1) ∧ (type_of% @frzOne.eq_1) ∧ (type_of% @softAll.eq_1) ∧ (type_of% @softAll.eq_2) ∧ (type_of% @softOne.eq_1) ∧ (type_of% @softOne.eq_2) ∧ (type_of% @softNew.eq_1) ∧ (type_of% @softNew.eq_2) ∧ (type_of% @softM.eq_1) ∧ (type_of% @softM.eq_2) ∧ (type_of% @softOk.eq_1) ∧ (type_of% @softOk.eq_2) :=
  ⟨@stepG.eq_1, @guardOn.eq_1, @step.eq_1, @St.put.eq_1, @St.put.eq_2, @dstOk.eq_1, @dstOk.eq_2, @endR.eq_1, @frzAll.eq_1, @frzAll.eq_2, @normR.eq_1, @normR.eq_2, @params.eq_1, @params.eq_2, @idxs.eq_1, @idxs.eq_2, @binV.eq_1, @keepTo.eq_1, @reach.eq_1, @reach.eq_2, @reach.eq_3, @V.idsL.eq_1, @V.idsL.eq_2, @ExtB.eq_1, @RetB.eq_1, @HeadB.eq_1, @newId.eq_1, @newObjs.eq_1, @newObjs.eq_2, @toHead.eq_1, @idxOf.eq_1, @idxOf.eq_2, @fromCall.eq_1, @lendL.eq_1, @lendL.eq_2, @frzL.eq_1, @frzL.eq_2, @V.renL.eq_1, @V.renL.eq_2, @V.ren.eq_1, @V.ren.eq_2, @V.ren.eq_3, @V.ren.eq_4, @V.ren.eq_5, @V.ren.eq_6, @V.ren.eq_7, @V.ren.eq_8, @V.ren.eq_9, @V.ren.eq_10, @V.ren.eq_11, @V.ren.eq_12, @boxV.eq_1, @allocV.eq_1, @overlay.eq_1, @storeV.eq_1, @elemI.eq_1, @extKeys.eq_1, @objsOf.eq_1, @objsOf.eq_2, @headR.eq_1, @canonAll.eq_1, @canonAll.eq_2, @canonOne.eq_1, @canonOne.eq_2, @keepCanon.eq_1, @finish.eq_1, @resV.eq_1, @resV.eq_2, @resV.eq_3, @nodupB.eq_1, @nodupB.eq_2, @toIdx.eq_1, @loadV.eq_1, @effOf.eq_1, @slotsOfOp.eq_1, @Go.Op.operands.eq_1, @Go.Op.operands.eq_2, @Go.Op.operands.eq_3, @Go.Op.operands.eq_4, @Go.Op.operands.eq_5, @Go.Op.operands.eq_6, @Go.Op.operands.eq_7, @Go.Op.operands.eq_8, @Go.Op.operands.eq_9, @Go.Op.operands.eq_10, @Go.Op.operands.eq_11, @Go.Op.operands.eq_12, @Go.Op.operands.eq_13, @Go.Op.operands.eq_14, @Go.Op.operands.eq_15, @Go.Op.operands.eq_16, @Go.Op.operands.eq_17, @Go.Op.operands.eq_18, @Go.Op.operands.eq_19, @Go.Op.operands.eq_20, @Go.Op.operands.eq_21, @Go.Op.operands.eq_22, @Go.Op.operands.eq_23, @Go.Op.operands.eq_24, @Go.Op.operands.eq_25, @Go.Op.operands.eq_26, @Go.Op.operands.eq_27, @Go.Op.operands.eq_28, @Go.Op.operands.eq_29, @Go.Op.operands.eq_30, @Go.Op.operands.eq_31, @Go.Op.operands.eq_32, @Go.Op.operands.eq_33, @Go.Op.operands.eq_34, @Go.Op.operands.eq_35, @Go.Op.operands.eq_36, @Go.Op.operands.eq_37, @Go.Op.operands.eq_38, @Go.Op.operands.eq_39, @Go.Op.operands.eq_40, @Go.Op.operands.eq_41, @Go.Op.operands.eq_42, @Go.Op.operands.eq_43, @Go.Call.operands.eq_1, @frzOne.eq_1, @softAll.eq_1, @softAll.eq_2, @softOne.eq_1, @softOne.eq_2, @softNew.eq_1, @softNew.eq_2, @softM.eq_1, @softM.eq_2, @softOk.eq_1, @softOk.eq_2⟩
theorem NM : (type_of% @rowsOf_nil) ∧ (type_of% @List.nil_append.{0}) ∧ (type_of% @rowsOf_append) ∧ (type_of% @rowsOf_take) ∧ (type_of% @rowsOf_drop) ∧ (type_of% @rowsOf_length) := ⟨@rowsOf_nil, @List.nil_append.{0}, @rowsOf_append, @rowsOf_take, @rowsOf_drop, @rowsOf_length⟩
theorem ED : (type_of% @getF_miss) ∧ (type_of% @getM_miss) ∧ (type_of% @flatEq_cons) ∧ (type_of% @drawK_some) ∧ (type_of% @ev_draws) := ⟨@getF_miss, @getM_miss, @flatEq_cons, @drawK_some, @ev_draws⟩
end
end Go.Proofs.YthjefcamonmjpaaV
