/- sum.open, at whatever function seals: too short, not sealed, or the bytes ahead of the sum; so for Open16 and Open32. -/
import Derived.Test.YtglkfbegkfgaoaaPxf28
import Derived.Test.YtglkfbegkfgaoaaPxf15
import Derived.Test.YtglkfbegkfgaoaaPxf17
import Derived.Test.YtglkfbegkfgaoaaHClone
import Derived.Test.YtglkfbegkfgaoaaHOwn
namespace Go.Proofs.Ytglkfbegkfgaoaa.P
open Go.RowKit Go.Proofs.YtglkfbegkfgaoaaW.PrintWords Go.Proofs.YtglkfbegkfgaoaaW.PrintLast Go.Proofs.YtglkfbegkfgaoaaW.PrintMore
set_option linter.unusedVariables false
set_option linter.unusedSimpArgs false

def sum_open.f (k : Nat) (s : Nat → List Int → Option (List Int)) (l0 : List Int) (n : Nat) : Option (List Int × Int) :=
  if l0.length < n then some ([], 7) else (s k (l0.take (l0.length - n))).bind fun t => (slices_Equal_byte_byte.f k t l0).bind fun b => if b = true then (slices_Clone_byte_byte.f (l0.take (l0.length - n))).bind fun c => some (c, 0) else some ([], 130)
def sum_Open16.f (k : Nat) (l0 : List Int) : Option (List Int × Int) := sum_open.f k sum_Seal16.f l0 2
def sum_Open32.f (k : Nat) (l0 : List Int) : Option (List Int × Int) := sum_open.f k sum_Seal32.f l0 4
theorem sum_open.mono {s : Nat → List Int → Option (List Int)} (hs : ∀ l k, LeO (s k l) (s (k + 1) l)) (l0 : List Int) (n k : Nat) : LeO (sum_open.f k s l0 n) (sum_open.f (k + 1) s l0 n) := by
  unfold sum_open.f
  refine LeO.ite (LeO.refl _) (LeO.bind (hs _ _) fun _ => LeO.bind (slices_Equal_byte_byte.mono _ _ _) fun _ => LeO.refl _)
theorem sum_Open16.mono : ∀ a0 k, LeO (sum_Open16.f k a0) (sum_Open16.f (k + 1) a0) := fun a0 k => sum_open.mono sum_Seal16.mono a0 2 k
theorem sum_Open32.mono : ∀ a0 k, LeO (sum_Open32.f k a0) (sum_Open32.f (k + 1) a0) := fun a0 k => sum_open.mono sum_Seal32.mono a0 4 k

def SealsBy (g : Nat) (s : List Int → Option (List Int)) : Prop := ∀ (A0 : Option Addr) (c0 : Nat) (l0 : List Int) (r : List Int) (w : World), Kd.C (Kd.int .u8) w A0 l0.length l0 → l0.length ≤ c0 → s l0 = some r →
    Calls Try.prog g #[.slice A0 l0.length c0] w fun e w' => ∃ v0_ : Value, e = .returned (v0_) ∧ Kd.R (Kd.int .u8) 5 w' w.heap.size (fun _ => True) v0_ r ∧ Below w.heap.size w w'

set_option maxHeartbeats 8000000 in
set_option maxRecDepth 100000 in
theorem sum_open.calls (g : Nat) (gn : Func) (hgf : Try.prog.funcs[g]? = some gn) (hgn : (gn.name == "runtime.NumGoroutine") = false) (hgb : gn.body.isSome = true) (k : Nat) (s : Nat → List Int → Option (List Int)) (hg : SealsBy g (s k)) (A0 : Option Addr) (c0 : Nat) (l0 : List Int) (n : Nat) (hn : 0 < n) (hn2 : n < 8) (r1 : List Int) (r2 : Int) (w : World) (hr0 : Kd.C (Kd.int .u8) w A0 l0.length l0) (hc0 : l0.length ≤ c0) (h : sum_open.f k s l0 n = some (r1, r2)) :
    Calls Try.prog 26 #[.slice A0 l0.length c0, .int .i64 (n : Int), .func (.func g) #[] #[]] w fun e w' => ∃ v0_ : Value, e = .returned (.tuple #[v0_, .int .i64 r2]) ∧ Kd.R (Kd.int .u8) 5 w' w.heap.size (fun _ => True) v0_ r1 ∧ Below w.heap.size w w' := by
  unfold sum_open.f at h
  have hm := hr0.2.1
  by_cases c1 : l0.length < n
  · rw [if_pos c1] at h
    obtain ⟨rfl, rfl⟩ := Prod.mk.inj (Option.some.inj h)
    have c1b : decide (l0.length < n) = true := decide_eq_true c1
    clear h c1 hgf hgn hgb hg
    have HR0 := Aside0.mk hr0
    clear hr0
    go_enter Try.func26, Try.ntmps26
    go_wp2
    go_ret2
    exact ⟨_, rfl, Kd.R_nil _ _ _ _ _, Below.refl _ _⟩
  · rw [if_neg c1] at h
    obtain ⟨t, h1, h⟩ := Option.bind_eq_some_iff.mp h
    obtain ⟨b, h2, h⟩ := Option.bind_eq_some_iff.mp h
    obtain ⟨ad, rfl, hcells⟩ := hr0.2.2 (by omega)
    have c1b : decide (l0.length < n) = false := decide_eq_false c1
    have hsb : (l0.length : Int) - (n : Int) = ((l0.length - n : Nat) : Int) := by omega
    have hle : l0.length - n ≤ l0.length := by omega
    obtain ⟨m, hm0⟩ : ∃ m : Nat, l0.length - n = m := ⟨_, rfl⟩
    rw [hm0] at h1 h hsb hle
    have HT := Aside0.mk (show (l0.take m).length = m by rw [List.length_take]; omega)
    have HRT := Aside0.mk (Kd.C_take hr0 hle)
    rw [HT.out] at HRT
    have hwr : Go.RowKit.wrap64 (m : Int) = (m : Int) := by
      unfold Go.RowKit.wrap64
      omega
    have hle2 : m ≤ c0 := by omega
    have hge : (n : Int) ≤ (l0.length : Int) := by omega
    clear c1 hcells hm0
    have HR0 := Aside0.mk hr0
    have HC0 := Aside0.mk hc0
    have HLE := Aside0.mk hle
    have H1 := Aside0.mk h1
    have H2 := Aside0.mk h2
    have HG := Aside0.mk hg
    have HF := Aside0.mk hgf
    have HN := Aside0.mk hgn
    have HGB := Aside0.mk hgb
    have HB := Aside0.mk (Below.refl w.heap.size w)
    have HSB := Aside0.mk hsb
    clear h1 h2 hr0 hm hg hgf hgn hgb hle
    cases b with
    | true =>
      rw [if_pos rfl] at h
      obtain ⟨c, h3, h⟩ := Option.bind_eq_some_iff.mp h
      obtain ⟨rfl, rfl⟩ := Prod.mk.inj (Option.some.inj h)
      have H3 := Aside0.mk h3
      clear h3 h
      go_enter Try.func26, Try.ntmps26
      go_wp2_with (first
        | ((with_reducible refine gate_dst (N := 22) rfl ?_); refine goesV_ (f := g) (fn := gn) (lb := #[]) (some 22) rfl rfl HF.out HN.out HGB.out #[.slice (some ad) m m] rfl rfl (by simp [Act.eval]) ?_; have hcall := HG.out (some ad) m (l0.take m) t w (by rw [HT.out]; exact HRT.out) (by rw [HT.out]; exact Nat.le_refl _) H1.out; rw [HT.out] at hcall; refine hcall.mono ?_; clear hcall; rintro e w1 ⟨v1, rfl, ho1, hb1⟩; refine ⟨_, rfl, ?_⟩; obtain ⟨A1, c1, rfl, hc1, hr1⟩ := Kd.R_reads ho1; have HR1 := Aside0.mk hr1; have HC1 := Aside0.mk hc1; clear HB; have HB := Aside0.mk hb1; clear ho1 hr1 hc1 hb1)
        | (go_at_call 28; refine (slices_Equal_byte_byte.calls k A1 c1 t (some ad) c0 l0 _ w1 HR1.out HC1.out (Kd.C_below HR0.out HB.out) HC0.out H2.out).mono ?_; rintro e w' ⟨rfl, ⟨nd, rfl⟩⟩)
        | (go_at_call 29; have hcall := slices_Clone_byte_byte.calls (some ad) c0 (l0.take m) c (w1.drewN nd) (by rw [HT.out]; exact Kd.C_drewN (Kd.C_below HRT.out HB.out) _) (by rw [HT.out]; exact hle2) H3.out; rw [HT.out] at hcall; refine hcall.mono ?_; clear hcall; rintro e w3 ⟨v3, rfl, ho3, hb3⟩; have HB3 := Aside0.mk (below_step (pw_below_drewN HB.out nd) hb3); have HO3 := Aside0.mk (Kd.R_lower ho3 (below_size (pw_below_drewN HB.out nd))); clear ho3 hb3))
      go_ret2
      exact ⟨_, rfl, HO3.out, HB3.out⟩
    | false =>
      rw [if_neg (by simp)] at h
      obtain ⟨rfl, rfl⟩ := Prod.mk.inj (Option.some.inj h)
      clear h
      go_enter Try.func26, Try.ntmps26
      go_wp2_with (first
        | ((with_reducible refine gate_dst (N := 22) rfl ?_); refine goesV_ (f := g) (fn := gn) (lb := #[]) (some 22) rfl rfl HF.out HN.out HGB.out #[.slice (some ad) m m] rfl rfl (by simp [Act.eval]) ?_; have hcall := HG.out (some ad) m (l0.take m) t w (by rw [HT.out]; exact HRT.out) (by rw [HT.out]; exact Nat.le_refl _) H1.out; rw [HT.out] at hcall; refine hcall.mono ?_; clear hcall; rintro e w1 ⟨v1, rfl, ho1, hb1⟩; refine ⟨_, rfl, ?_⟩; obtain ⟨A1, c1, rfl, hc1, hr1⟩ := Kd.R_reads ho1; have HR1 := Aside0.mk hr1; have HC1 := Aside0.mk hc1; clear HB; have HB := Aside0.mk hb1; clear ho1 hr1 hc1 hb1)
        | (go_at_call 28; refine (slices_Equal_byte_byte.calls k A1 c1 t (some ad) c0 l0 _ w1 HR1.out HC1.out (Kd.C_below HR0.out HB.out) HC0.out H2.out).mono ?_; rintro e w' ⟨rfl, ⟨nd, rfl⟩⟩)
        | fail)
      go_ret2
      exact ⟨_, rfl, Kd.R_nil _ _ _ _ _, pw_below_drewN HB.out nd⟩
set_option maxHeartbeats 8000000 in
set_option maxRecDepth 100000 in
theorem sum_Open16.calls (k : Nat) (A0 : Option Addr) (c0 : Nat) (l0 : List Int) (r1 : List Int) (r2 : Int) (w : World) (hr0 : Kd.C (Kd.int .u8) w A0 l0.length l0) (hc0 : l0.length ≤ c0) (h : sum_Open16.f k l0 = some (r1, r2)) :
    Calls Try.prog 18 #[.slice A0 l0.length c0] w fun e w' => ∃ v0_ : Value, e = .returned (.tuple #[v0_, .int .i64 r2]) ∧ Kd.R (Kd.int .u8) 5 w' w.heap.size (fun _ => True) v0_ r1 ∧ Below w.heap.size w w' := by
  have HO := Aside0.mk (sum_open.calls 15 _ Try.func15 rfl rfl k sum_Seal16.f (fun A c l r w a b d => sum_Seal16.calls k A c l r w a b d) A0 c0 l0 2 (by omega) (by omega) r1 r2 w hr0 hc0 h)
  clear h hr0 hc0
  go_enter Try.func18, Try.ntmps18
  go_wp2_with (go_at_call 26; refine HO.out.mono ?_; rintro e w' ⟨v0, rfl, ho, hb⟩; have HO1 := Aside0.mk ho; have HB1 := Aside0.mk hb; clear ho hb)
  go_ret2
  exact ⟨_, rfl, HO1.out, HB1.out⟩
set_option maxHeartbeats 8000000 in
set_option maxRecDepth 100000 in
theorem sum_Open32.calls (k : Nat) (A0 : Option Addr) (c0 : Nat) (l0 : List Int) (r1 : List Int) (r2 : Int) (w : World) (hr0 : Kd.C (Kd.int .u8) w A0 l0.length l0) (hc0 : l0.length ≤ c0) (h : sum_Open32.f k l0 = some (r1, r2)) :
    Calls Try.prog 19 #[.slice A0 l0.length c0] w fun e w' => ∃ v0_ : Value, e = .returned (.tuple #[v0_, .int .i64 r2]) ∧ Kd.R (Kd.int .u8) 5 w' w.heap.size (fun _ => True) v0_ r1 ∧ Below w.heap.size w w' := by
  have HO := Aside0.mk (sum_open.calls 17 _ Try.func17 rfl rfl k sum_Seal32.f (fun A c l r w a b d => sum_Seal32.calls k A c l r w a b d) A0 c0 l0 4 (by omega) (by omega) r1 r2 w hr0 hc0 h)
  clear h hr0 hc0
  go_enter Try.func19, Try.ntmps19
  go_wp2_with (go_at_call 26; refine HO.out.mono ?_; rintro e w' ⟨v0, rfl, ho, hb⟩; have HO1 := Aside0.mk ho; have HB1 := Aside0.mk hb; clear ho hb)
  go_ret2
  exact ⟨_, rfl, HO1.out, HB1.out⟩
end Go.Proofs.Ytglkfbegkfgaoaa.P
