/- The value interpreter: code. -/
import Derived.Test.YthjefcamonmjpaaHVi20
namespace Go.Proofs.YthjefcamonmjpaaV
open Go
set_option linter.unusedVariables false
set_option linter.unusedSimpArgs false
section
variable {P : Program} {w0 : World} {fp : Nat → Prop} {S0 : Base} {σ σ' : St} {a : Act} {w : World} {β : Nat → Value} {S : Nat → Prop} {o : Oper} {call : CallF} {h : Hints} {ops : Array Oper}
/-- How code ends, as the interpreter says. -/
def XPost (w0 : World) (fp : Nat → Prop) (S0 : Base) (out : Out) (σ' : St) : Exit → Act → World → Prop
  | .normal, a, w => out = .norm ∧ ∃ β S, Inv w0 fp S0 σ' a w β S
  | .exit i, a, w => out = .exit i ∧ ∃ β S, Inv w0 fp S0 σ' a w β S
  | .goto l, a, w => out = .goto l ∧ ∃ β S, Inv w0 fp S0 σ' a w β S
  | .ret, a, w => out = .ret ∧ ∃ β S, Inv w0 fp S0 σ' a w β S
  | _, _, _ => False
theorem region_ok (hcall : CallOk P call) (hm : P.follows .mixedOrders = true) {fn fuel id : Nat} {draw : Bool} {out : Out} (he : exec P call h fn fuel none (.region id ops draw) σ = some (out, σ')) (I : Inv w0 fp S0 σ a w β S) : (Code.region id ops draw).wp P (XPost w0 fp S0 out σ') a w := by
  simp only [exec] at he
  split at he <;> try (cases he; done)
  rename_i σ1 es h1
  split at he <;> try (cases he; done)
  rename_i hd
  rw [Option.map_eq_some_iff] at he
  obtain ⟨σ2, h2, h3⟩ := he
  cases h3
  have hQ : ∀ a' w' β' S', Inv w0 fp S0 σ1 a' w' β' S' → XPost w0 fp S0 .norm σ' .normal a' w' := fun a' w' β' S' I' => by
    obtain ⟨β2, S2, I2⟩ := endR_ok I' h2
    exact ⟨rfl, β2, S2, I2⟩
  rcases hd with hd | ⟨hs, hf⟩
  · subst hd
    exact wp_region_list (seq_ok hcall _ _ _ _ _ _ _ h1 I hQ)
  · cases draw with
    | true => exact draw_ok hcall hm h1 hs hf I hQ
    | false => exact wp_region_list (seq_ok hcall _ _ _ _ _ _ _ h1 I hQ)
theorem exec_label {fn fuel : Nat} {l : Nat} : ∀ (c : Code) (σ : St) (r : Out × St), exec P call h fn fuel (some l) c σ = some r → ∃ rest, findLabel c l = some rest
  | .seq x y, σ, r, he => by
    simp only [exec] at he
    simp only [findLabel]
    split at he
    · rename_i hs
      obtain ⟨q, hq⟩ := Option.isSome_iff_exists.1 hs
      rw [hq]
      exact ⟨_, rfl⟩
    · rename_i hs
      have hn : findLabel x l = none := by
        cases hq : findLabel x l with
        | none => rfl
        | some q => rw [hq] at hs; exact absurd rfl hs
      rw [hn]
      exact exec_label y σ r he
  | .label l', σ, r, he => by
    simp only [exec] at he
    split at he <;> try (cases he; done)
    rename_i e
    exact ⟨.skip, by simp [findLabel, e]⟩
  | .skip, σ, r, he => by simp only [exec] at he; cases he
  | .region .., σ, r, he => by simp only [exec] at he; cases he
  | .cond .., σ, r, he => by simp only [exec] at he; cases he
  | .block .., σ, r, he => by simp only [exec] at he; cases he
  | .loop .., σ, r, he => by simp only [exec] at he; cases he
  | .rangeFunc .., σ, r, he => by simp only [exec] at he; cases he
  | .exit .., σ, r, he => by simp only [exec] at he; cases he
  | .scope .., σ, r, he => by simp only [exec] at he; cases he
  | .goto .., σ, r, he => by simp only [exec] at he; cases he
  | .ret, σ, r, he => by simp only [exec] at he; cases he
  | .refuse .., σ, r, he => by simp only [exec] at he; cases he
theorem exec_ok (hcall : CallOk P call) (hm : P.follows .mixedOrders = true) {fn fuel : Nat} : ∀ (c : Code),
    (∀ (σ : St) (out : Out) (σ' : St), exec P call h fn fuel none c σ = some (out, σ') → ∀ (a : Act) (w : World) (β : Nat → Value) (S : Nat → Prop), Inv w0 fp S0 σ a w β S → c.wp P (XPost w0 fp S0 out σ') a w) ∧
    ∀ (l : Nat) (σ : St) (out : Out) (σ' : St), exec P call h fn fuel (some l) c σ = some (out, σ') → ∀ rest, findLabel c l = some rest → ∀ (a : Act) (w : World) (β : Nat → Value) (S : Nat → Prop), Inv w0 fp S0 σ a w β S → rest.wp P (XPost w0 fp S0 out σ') a w := by
  intro c
  induction c with
  | skip =>
    refine ⟨fun σ out σ' he a w β S I => ?_, fun l σ out σ' he => by simp only [exec] at he; cases he⟩
    simp only [exec] at he
    cases he
    exact wp_skip ⟨rfl, β, S, I⟩
  | region id ops draw =>
    exact ⟨fun σ out σ' he a w β S I => region_ok hcall hm he I, fun l σ out σ' he => by simp only [exec] at he; cases he⟩
  | seq x y ihx ihy =>
    have rule : ∀ (x' : Code) (r : Option (Out × St)) (out : Out) (σ' : St), (match r with | some (.norm, σ1) => exec P call h fn fuel none y σ1 | r => r) = some (out, σ') → ∀ (a : Act) (w : World), (∀ out1 σ1, r = some (out1, σ1) → x'.wp P (XPost w0 fp S0 out1 σ1) a w) → (Code.seq x' y).wp P (XPost w0 fp S0 out σ') a w := by
      intro x' r out σ' hr a w hx
      cases r with
      | none => cases hr
      | some q =>
        obtain ⟨out1, σ1⟩ := q
        refine wp_seq (wp_mono (hx out1 σ1 rfl) fun e a1 w1 he => ?_)
        cases e with
        | normal =>
          obtain ⟨rfl, β1, S1, I1⟩ := he
          exact ihy.1 σ1 out σ' hr a1 w1 β1 S1 I1
        | exit i => obtain ⟨rfl, hI⟩ := he; cases hr; exact ⟨rfl, hI⟩
        | goto i => obtain ⟨rfl, hI⟩ := he; cases hr; exact ⟨rfl, hI⟩
        | ret => obtain ⟨rfl, hI⟩ := he; cases hr; exact ⟨rfl, hI⟩
        | panic c => exact he.elim
        | outgrown => exact he.elim
    refine ⟨fun σ out σ' he a w β S I => ?_, fun l σ out σ' he rest hrest a w β S I => ?_⟩
    · simp only [exec] at he
      exact rule x _ out σ' he a w fun out1 σ1 h1 => ihx.1 σ out1 σ1 h1 a w β S I
    · simp only [exec] at he
      simp only [findLabel] at hrest
      split at he
      · rename_i hs
        obtain ⟨q, hq⟩ := Option.isSome_iff_exists.1 hs
        rw [hq] at hrest
        cases hrest
        exact rule q _ out σ' he a w fun out1 σ1 h1 => ihx.2 l σ out1 σ1 h1 q hq a w β S I
      · rename_i hs
        have hn : findLabel x l = none := by
          cases hq : findLabel x l with
          | none => rfl
          | some q => rw [hq] at hs; exact absurd rfl hs
        rw [hn] at hrest
        exact ihy.2 l σ out σ' he rest hrest a w β S I
  | cond c x y ihx ihy =>
    refine ⟨fun σ out σ' he a w β S I => ?_, fun l σ out σ' he => by simp only [exec] at he; cases he⟩
    simp only [exec] at he
    split at he <;> try (cases he; done)
    · rename_i hc
      exact wp_cond_true (rep_p (hc ▸ evalV_rep I c)) (ihx.1 σ out σ' he a w β S I)
    · rename_i hc
      exact wp_cond_false (rep_p (hc ▸ evalV_rep I c)) (ihy.1 σ out σ' he a w β S I)
  | block id x ih =>
    refine ⟨fun σ out σ' he a w β S I => ?_, fun l σ out σ' he => by simp only [exec] at he; cases he⟩
    simp only [exec] at he
    split at he
    · rename_i i σ1 h1
      refine wp_block (wp_mono (ih.1 σ _ σ1 h1 a w β S I) fun e a1 w1 hx => ?_)
      cases e with
      | exit j =>
        obtain ⟨hj, hI⟩ := hx
        cases hj
        simp only [Exit.inBlock]
        split at he
        · rename_i e; cases he; rw [if_pos e]; exact ⟨rfl, hI⟩
        · rename_i e; cases he; rw [if_neg e]; exact ⟨rfl, hI⟩
      | normal => obtain ⟨hj, _⟩ := hx; cases hj
      | goto _ => obtain ⟨hj, _⟩ := hx; cases hj
      | ret => obtain ⟨hj, _⟩ := hx; cases hj
      | panic c => exact hx.elim
      | outgrown => exact hx.elim
    · rename_i hne
      refine wp_block (wp_mono (ih.1 σ out σ' he a w β S I) fun e a1 w1 hx => ?_)
      cases e with
      | exit j =>
        obtain ⟨rfl, hI⟩ := hx
        exact absurd he (hne j σ')
      | normal => exact hx
      | goto _ => exact hx
      | ret => exact hx
      | panic c => exact hx.elim
      | outgrown => exact hx.elim
  | loop x ih =>
    refine ⟨fun σ out σ' he a w β S I => ?_, fun l σ out σ' he => by simp only [exec] at he; cases he⟩
    simp only [exec] at he
    refine wp_loop_rounds fuel ?_
    have key : ∀ (n : Nat) (σ : St) (a : Act) (w : World) (β : Nat → Value) (S : Nat → Prop), iter (fun σ => match headR (h.head fn (firstReg x)) (h.canon fn (firstReg x)) σ with
        | some σ' => exec P call h fn fuel none x σ'
        | none => none) n σ = some (out, σ') → Inv w0 fp S0 σ a w β S → Code.rounds P x (XPost w0 fp S0 out σ') n a w := by
      intro n
      induction n with
      | zero => intro σ a w β S hi; cases hi
      | succ n ihn =>
        intro σ a w β S hi I
        rw [rounds_succ]
        simp only [iter] at hi
        split at hi
        · rename_i σ2 hr
          split at hr <;> try (cases hr; done)
          rename_i σ1 h1
          obtain ⟨β1, I1⟩ := headR_ok I h1
          refine wp_mono (ih.1 σ1 _ _ hr a w β1 S I1) fun e a2 w2 hx => ?_
          cases e with
          | normal =>
            obtain ⟨_, β2, S2, I2⟩ := hx
            exact ihn _ a2 w2 β2 S2 hi I2
          | exit j => obtain ⟨hj, _⟩ := hx; cases hj
          | goto j => obtain ⟨hj, _⟩ := hx; cases hj
          | ret => obtain ⟨hj, _⟩ := hx; cases hj
          | panic c => exact hx.elim
          | outgrown => exact hx.elim
        · rename_i hne
          split at hi <;> try (cases hi; done)
          rename_i σ1 h1
          obtain ⟨β1, I1⟩ := headR_ok I h1
          refine wp_mono (ih.1 σ1 _ _ hi a w β1 S I1) fun e a2 w2 hx => ?_
          cases e with
          | normal =>
            obtain ⟨rfl, _⟩ := hx
            exact absurd (by simp only [h1]; exact hi) (hne σ')
          | exit j => exact hx
          | goto j => exact hx
          | ret => exact hx
          | panic c => exact hx.elim
          | outgrown => exact hx.elim
    exact key fuel σ a w β S he I
  | rangeFunc f ps x y _ _ =>
    exact ⟨fun σ out σ' he => by (simp only [exec] at he; cases he), fun l σ out σ' he => by (simp only [exec] at he; cases he)⟩
  | exit id =>
    refine ⟨fun σ out σ' he a w β S I => ?_, fun l σ out σ' he => by simp only [exec] at he; cases he⟩
    simp only [exec] at he
    cases he
    exact wp_exit ⟨rfl, β, S, I⟩
  | scope x ih =>
    refine ⟨fun σ out σ' he a w β S I => ?_, fun l σ out σ' he => by simp only [exec] at he; cases he⟩
    simp only [exec] at he
    intro b k cs
    have key : ∀ (n : Nat) (out1 : Out) (σ1 : St), jumps (fun l σ => exec P call h fn fuel (some l) x σ) n (some (out1, σ1)) = some (out, σ') → ∀ (m : Machine) (e : Exit) (a1 : Act) (w1 : World), XPost w0 fp S0 out1 σ1 e a1 w1 → Arrives P m b (.inScope x :: k) cs e a1 w1 →
        ∃ e2 a2 w2, XPost w0 fp S0 out σ' e2 a2 w2 ∧ Arrives P m b k cs e2 a2 w2 := by
      intro n
      induction n with
      | zero =>
        intro out1 σ1 hj m e a1 w1 hx harr
        cases e with
        | normal => obtain ⟨rfl, hI⟩ := hx; simp only [jumps] at hj; cases hj; exact ⟨.normal, a1, w1, ⟨rfl, hI⟩, Steps.trans harr (.one step_inScope)⟩
        | exit i => obtain ⟨rfl, hI⟩ := hx; simp only [jumps] at hj; cases hj; exact ⟨.exit i, a1, w1, ⟨rfl, hI⟩, fun k' hk => harr k' (by simp [exitTo, hk])⟩
        | goto l => obtain ⟨rfl, hI⟩ := hx; simp only [jumps] at hj; cases hj
        | ret => obtain ⟨rfl, hI⟩ := hx; simp only [jumps] at hj; cases hj; exact ⟨.ret, a1, w1, ⟨rfl, hI⟩, harr⟩
        | panic c => exact hx.elim
        | outgrown => exact hx.elim
      | succ n ihn =>
        intro out1 σ1 hj m e a1 w1 hx harr
        cases e with
        | normal => obtain ⟨rfl, hI⟩ := hx; simp only [jumps] at hj; cases hj; exact ⟨.normal, a1, w1, ⟨rfl, hI⟩, Steps.trans harr (.one step_inScope)⟩
        | exit i => obtain ⟨rfl, hI⟩ := hx; simp only [jumps] at hj; cases hj; exact ⟨.exit i, a1, w1, ⟨rfl, hI⟩, fun k' hk => harr k' (by simp [exitTo, hk])⟩
        | goto l =>
          obtain ⟨rfl, β1, S1, I1⟩ := hx
          simp only [jumps] at hj
          cases hr : exec P call h fn fuel (some l) x σ1 with
          | none => rw [hr] at hj; cases n <;> simp [jumps] at hj
          | some q =>
            obtain ⟨out2, σ2⟩ := q
            rw [hr] at hj
            obtain ⟨rest, hrest⟩ := exec_label x σ1 _ hr
            have hg : gotoIn l (.inScope x :: k) = some (.code rest :: .inScope x :: k) := by simp [gotoIn, hrest]
            obtain ⟨e2, a2, w2, hq2, harr2⟩ := ih.2 l σ1 out2 σ2 hr rest hrest a1 w1 β1 S1 I1 b (.inScope x :: k) cs
            exact ihn out2 σ2 hj m e2 a2 w2 hq2 (.of_steps (harr _ hg) harr2)
        | ret => obtain ⟨rfl, hI⟩ := hx; simp only [jumps] at hj; cases hj; exact ⟨.ret, a1, w1, ⟨rfl, hI⟩, harr⟩
        | panic c => exact hx.elim
        | outgrown => exact hx.elim
    cases hr : exec P call h fn fuel none x σ with
    | none => rw [hr] at he; cases fuel <;> simp [jumps] at he
    | some q =>
      obtain ⟨out1, σ1⟩ := q
      rw [hr] at he
      obtain ⟨e1, a1, w1, hq1, harr1⟩ := ih.1 σ out1 σ1 hr a w β S I b (.inScope x :: k) cs
      exact key fuel out1 σ1 he _ e1 a1 w1 hq1 (.of_steps (.one step_scope) harr1)
  | label l =>
    refine ⟨fun σ out σ' he a w β S I => ?_, fun l' σ out σ' he rest hrest a w β S I => ?_⟩
    · simp only [exec] at he
      cases he
      exact wp_label ⟨rfl, β, S, I⟩
    · simp only [exec] at he
      split at he <;> try (cases he; done)
      rename_i e
      cases he
      simp [findLabel, e] at hrest
      subst hrest
      exact wp_skip ⟨rfl, β, S, I⟩
  | goto l =>
    refine ⟨fun σ out σ' he a w β S I => ?_, fun l σ out σ' he => by simp only [exec] at he; cases he⟩
    simp only [exec] at he
    cases he
    exact wp_goto ⟨rfl, β, S, I⟩
  | ret =>
    refine ⟨fun σ out σ' he a w β S I => ?_, fun l σ out σ' he => by simp only [exec] at he; cases he⟩
    simp only [exec] at he
    cases he
    exact wp_ret ⟨rfl, β, S, I⟩
  | refuse why =>
    exact ⟨fun σ out σ' he => by (simp only [exec] at he; cases he), fun l σ out σ' he => by (simp only [exec] at he; cases he)⟩
end
end Go.Proofs.YthjefcamonmjpaaV
