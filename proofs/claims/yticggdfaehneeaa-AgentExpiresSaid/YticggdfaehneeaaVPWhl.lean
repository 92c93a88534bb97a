/- The document's whole of pieces: they go together just where the program's do,and as much of it is there. -/
import Derived.Test.YticggdfaehneeaaVPCut
import Derived.Test.YticggdfaehneeaaVPSeen
namespace Go.Proofs.YticggdfaehneeaaV
open Go
set_option linter.unusedVariables false
set_option linter.unusedSimpArgs false
def smB (a b : Bun) : Bool := (a.Source == b.Source) && ((a.Dest == b.Dest) && ((a.Seq == b.Seq) && ((a.Created == b.Created) && ((a.Lifetime == b.Lifetime) && ((a.HopLimit == b.HopLimit) && ((a.Priority == b.Priority) && (a.Total == b.Total)))))))
theorem smB_iff (a b : Bun) : smB a b = true ↔ a.Source = b.Source ∧ a.Dest = b.Dest ∧ a.Seq = b.Seq ∧ a.Created = b.Created ∧ a.Lifetime = b.Lifetime ∧ a.HopLimit = b.HopLimit ∧ a.Priority = b.Priority ∧ a.Total = b.Total := by
 simp only [smB,Bool.and_eq_true,beq_iff_eq]
theorem rsm_at (k : Nat) (hk : 1 ≤ k) (a b : Bun) : f50_ai10rzai10rz k a.Source a.Dest a.Seq a.Created a.Lifetime a.HopLimit a.Hops a.Priority a.Offset a.Total a.Payload b.Source b.Dest b.Seq b.Created b.Lifetime b.HopLimit b.Hops b.Priority b.Offset b.Total b.Payload = some (.o0 (smB a b)) := by
 obtain ⟨k,rfl⟩ : ∃ m,k = m + 1 := ⟨k - 1,by omega⟩
 simp only [f50_ai10rzai10rz,f50_ai10rzai10rz_e,smB]
 cases (a.Source == b.Source)
 ·rfl
 cases (a.Dest == b.Dest)
 ·rfl
 cases (a.Seq == b.Seq)
 ·rfl
 cases (a.Created == b.Created)
 ·rfl
 cases (a.Lifetime == b.Lifetime)
 ·rfl
 cases (a.HopLimit == b.HopLimit)
 ·rfl
 cases (a.Priority == b.Priority)
 ·rfl
 rfl
def freeF (h : List Bool) (v : List Int) : Nat → List Int → Bool
 | _,[] => true
 | o,x :: r => (!(h[o]? == some true) || (v[o]? == some x)) && freeF h v (o + 1) r
theorem freeF_iff (h : List Bool) (v : List Int) : ∀ (r : List Int) (o : Nat),freeF h v o r = true ↔ ∀ (j : Nat) (x : Int),r[j]? = some x → h[o + j]? = some true → v[o + j]? = some x
 | [],o => by simp [freeF]
 | y :: r,o => by
  rw [freeF,Bool.and_eq_true,freeF_iff h v r (o + 1)]
  constructor
  ·rintro ⟨h1,h2⟩ j x hj hh
   cases j with
   | zero =>
    simp only [List.getElem?_cons_zero,Option.some.injEq] at hj
    subst hj
    rw [Nat.add_zero] at hh ⊢
    simpa [hh] using h1
   | succ j =>
    have := h2 j x (by simpa using hj) (by rw [show o + 1 + j = o + (j + 1) by omega]; exact hh)
    rwa [show o + 1 + j = o + (j + 1) by omega] at this
  ·intro H
   refine ⟨?_,fun j x hj hh => ?_⟩
   ·have h0 := H 0 y rfl
    rw [Nat.add_zero] at h0
    by_cases hh : h[o]? = some true
    ·simp [hh,h0 hh]
    ·simp [hh]
   ·have := H (j + 1) x (by simpa using hj) (by rw [show o + (j + 1) = o + 1 + j by omega]; exact hh)
    rwa [show o + (j + 1) = o + 1 + j by omega] at this
theorem cT_set : ∀ (h : List Bool) (p : Nat) (x : Bool),h[p]? = some x → (h.set p true).count true = h.count true + cond x 0 1
 | [],p,x,e => by simp at e
 | y :: h,0,x,e => by
  simp only [List.getElem?_cons_zero,Option.some.injEq] at e
  subst e
  cases y <;> simp [List.count_cons]
 | y :: h,p + 1,x,e => by
  have := cT_set h p x (by simpa using e)
  simp only [List.set_cons_succ,List.count_cons,this]
  omega
theorem whl_b (k : Nat) (L : List Bun) (i : Nat) (b : Bun) (hi : L[i]? = some b) (hb : okP b) (h : List Bool) (v : List Int) (hh : (h.length : Int) = b.Total) (hv : v.length = h.length) : ∀ (d j n : Nat),j + d = b.Payload.length → d < n →
  f28_r_l1_l3 k n L (((putB h b.Offset.toNat j).count true : Nat) : Int) i j (putI v b.Offset.toNat (b.Payload.take j)) (putB h b.Offset.toNat j) = some (cond (freeF h v (b.Offset.toNat + j) (b.Payload.drop j)) (.o2 L (((putB h b.Offset.toNat b.Payload.length).count true : Nat) : Int) i b.Payload.length false (putI v b.Offset.toNat b.Payload) (putB h b.Offset.toNat b.Payload.length)) (.o0 [] 0 false)) := by
 have bb := hb.b
 intro d
 induction d with
 | zero =>
  intro j n hj hq
  obtain ⟨n,rfl⟩ : ∃ m,n = m + 1 := ⟨n - 1,by omega⟩
  have e3 : j = b.Payload.length := by omega
  subst e3
  rw [List.take_length,List.drop_length]
  simp only [f28_r_l1_l3,f28_r_l1_l3_b,ifE_pos (show (0 : Int) ≤ i by omega),Int.toNat_natCast,hi,Option.bind_some,decide_eq_false (Int.lt_irrefl _),cond_false,freeF,cond_true]
 | succ d ih =>
  intro j n hj hq
  obtain ⟨n,rfl⟩ : ∃ m,n = m + 1 := ⟨n - 1,by omega⟩
  have h1 : j < b.Payload.length := by omega
  have g0 : b.Payload[j]? = some b.Payload[j] := List.getElem?_eq_getElem h1
  have hlt : ((j : Int) < (b.Payload.length : Int)) := by omega
  have hw := nextN h1 (by omega)
  have hp : b.Offset.toNat + j < h.length := by omega
  have lH : (putB h b.Offset.toNat j).length = h.length := putB_len (by omega)
  have lV : (putI v b.Offset.toNat (b.Payload.take j)).length = v.length := putI_len (by rw [List.length_take]; omega)
  have hpos : IntKind.i64.wrap (b.Offset + (j : Int)) = ((b.Offset.toNat + j : Nat) : Int) := by rw [wrap_i64 (by omega) (by omega)]; omega
  have gH : (putB h b.Offset.toNat j)[b.Offset.toNat + j]? = some h[b.Offset.toNat + j] := by rw [putB_get (by omega),if_neg (by omega)]; exact List.getElem?_eq_getElem hp
  have gV : (putI v b.Offset.toNat (b.Payload.take j))[b.Offset.toNat + j]? = some (v[b.Offset.toNat + j]'(by omega)) := by rw [putI_get (by rw [List.length_take]; omega),if_neg (by rw [List.length_take]; omega)]; exact List.getElem?_eq_getElem (by omega)
  have sH := putB_succ (h := h) (o := b.Offset.toNat) (n := j) hp
  have sV := putI_succ (v := v) (o := b.Offset.toNat) (p := b.Payload) (j := j) h1 (by omega)
  have cS := cT_set _ _ _ gH
  rw [sH] at cS
  have ih' := ih (j + 1) n (by omega) (by omega)
  have hltH : ((b.Offset.toNat + j : Nat) : Int) < ((putB h b.Offset.toNat j).length : Int) := by rw [lH]; omega
  have hltV : ((b.Offset.toNat + j : Nat) : Int) < ((putI v b.Offset.toNat (b.Payload.take j)).length : Int) := by rw [lV,hv]; omega
  have hf : freeF h v (b.Offset.toNat + j) (b.Payload.drop j) = ((!(h[b.Offset.toNat + j]? == some true) || (v[b.Offset.toNat + j]? == some b.Payload[j])) && freeF h v (b.Offset.toNat + (j + 1)) (b.Payload.drop (j + 1))) := by
   rw [List.drop_eq_getElem_cons h1,freeF]; rfl
  rw [hf,List.getElem?_eq_getElem hp,List.getElem?_eq_getElem (show b.Offset.toNat + j < v.length by omega)]
  generalize hx : h[b.Offset.toNat + j] = x at gH cS
  generalize hy : v[b.Offset.toNat + j]'(show b.Offset.toNat + j < v.length by omega) = y at gV
  simp only [f28_r_l1_l3,f28_r_l1_l3_b,f28_r_l1_l3_j1,f28_r_l1_l3_j2,f28_r_l1_l3_j3,f28_r_l1_l3_j4,f28_r_l1_l3_j5,ifE_pos (show (0 : Int) ≤ i by omega),ifE_pos (show (0 : Int) ≤ j by omega),ifE_pos (show (0 : Int) ≤ ((b.Offset.toNat + j : Nat) : Int) by omega),Int.toNat_natCast,hi,g0,hpos,ifE_pos hltH,ifE_pos hltV,gH,gV,Option.bind_some,decide_eq_true hlt,cond_true,sH,sV,hw]
  cases x
  ·simp only [cond_false,Bool.not_false,cond_true,Option.bind_some] at cS ⊢
   have hc : IntKind.i64.wrap ((((putB h b.Offset.toNat j).count true : Nat) : Int) + 1) = (((putB h b.Offset.toNat (j + 1)).count true : Nat) : Int) := by
    have := List.count_le_length (a := true) (l := putB h b.Offset.toNat j)
    rw [wrap_i64 (by omega) (by omega),cS]; rfl
   rw [hc,ih']
   simp
  ·simp only [cond_true,Bool.not_true,cond_false,Nat.add_zero] at cS ⊢
   rw [← cS]
   by_cases hyx : y = b.Payload[j]
   ·have hne : (y != b.Payload[j]) = false := by simp [hyx]
    simp only [hne,cond_false,Option.bind_some]
    rw [ih']
    simp [hyx]
   ·have hne : (y != b.Payload[j]) = true := by simpa using hyx
    have he : (y == b.Payload[j]) = false := by simpa using hyx
    simp only [hne,cond_true,Option.bind_some]
    simp [he]
def wholeF (c : Bun) : List Bun → List Int → List Bool → Bool
 | [],_,_ => true
 | b :: r,v,h => decide (okP b) && (smB c b && (freeF h v b.Offset.toNat b.Payload && wholeF c r (putI v b.Offset.toNat b.Payload) (putB h b.Offset.toNat b.Payload.length)))
theorem whl_l (k : Nat) (hk : 1000 ≤ k) (L : List Bun) (c : Bun) (hc : L[0]? = some c) (hL : L.length ≤ 1000) (sq : ∀ b ∈ L,0 ≤ b.Seq) : ∀ (d i n : Nat) (v : List Int) (h : List Bool),i + d = L.length → d < n → (h.length : Int) = c.Total → v.length = h.length →
  f28_r_l1 k n L ((h.count true : Nat) : Int) i v h = some (cond (wholeF c (L.drop i) v h) (.o2 L (((hasL (L.drop i) h).count true : Nat) : Int) L.length false (allL (L.drop i) v) (hasL (L.drop i) h)) (.o0 [] 0 false)) := by
 intro d
 induction d with
 | zero =>
  intro i n v h hi hq hh hv
  obtain ⟨n,rfl⟩ : ∃ m,n = m + 1 := ⟨n - 1,by omega⟩
  have e3 : i = L.length := by omega
  subst e3
  rw [List.drop_length]
  simp only [f28_r_l1,f28_r_l1_b,decide_eq_false (Int.lt_irrefl _),cond_false,Option.bind_some,wholeF,cond_true,hasL,allL,List.foldl_nil]
 | succ d ih =>
  intro i n v h hi hq hh hv
  obtain ⟨n,rfl⟩ : ∃ m,n = m + 1 := ⟨n - 1,by omega⟩
  have h1 : i < L.length := by omega
  have g1 : L[i]? = some L[i] := List.getElem?_eq_getElem h1
  have hlt : ((i : Int) < (L.length : Int)) := by omega
  have hw := nextN h1 (by omega)
  have hr := right_at k (by omega) L[i] (sq _ (List.getElem_mem h1))
  have hs := rsm_at k (by omega) c L[i]
  rw [List.drop_eq_getElem_cons h1,wholeF]
  generalize L[i] = b at g1 hr hs
  simp only [f28_r_l1,f28_r_l1_b,f28_r_l1_j1,decide_eq_true hlt,cond_true,ifE_pos (show (0 : Int) ≤ i by omega),Int.toNat_natCast,g1,Option.bind_some,hr]
  by_cases hok : okP b
  case neg => simp only [decide_eq_false hok,Bool.not_false,cond_true,Option.bind_some,Bool.false_and,cond_false]
  simp only [decide_eq_true hok,Bool.not_true,cond_false,hc,Option.bind_some,hs,Bool.true_and]
  cases hsm : smB c b
  ·simp only [Bool.not_false,cond_true,Option.bind_some,Bool.false_and,cond_false]
  have htot : c.Total = b.Total := ((smB_iff c b).1 hsm).2.2.2.2.2.2.2
  have bb := hok.b
  have hb := whl_b k L i b g1 hok h v (by omega) hv b.Payload.length 0 k (by omega) (by omega)
  rw [putB_zero,List.take_zero,putI_zero,List.drop_zero,Nat.add_zero,Int.natCast_zero] at hb
  simp only [Bool.not_true,cond_false,f28_r_l1_j2,hb,Option.bind_some,Bool.true_and]
  cases hf : freeF h v b.Offset.toNat b.Payload
  ·simp only [cond_false,Option.bind_some,Bool.false_and]
  have lH : (putB h b.Offset.toNat b.Payload.length).length = h.length := putB_len (by omega)
  have lV : (putI v b.Offset.toNat b.Payload).length = v.length := putI_len (by omega)
  have ih' := ih (i + 1) n (putI v b.Offset.toNat b.Payload) (putB h b.Offset.toNat b.Payload.length) (by omega) (by omega) (by rw [lH]; exact hh) (by rw [lH,lV]; exact hv)
  simp only [cond_true,f28_r_l1_j4,Option.bind_some,hw,ih',Bool.true_and]
  rfl
theorem rwhole_at (k : Nat) (hk : 1002 ≤ k) (c : Bun) (r : List Bun) (hL : (c :: r).length ≤ 1000) (sq : ∀ b ∈ c :: r,0 ≤ b.Seq) (hc : okP c) :
  f28_r k (c :: r) = some (cond (wholeF c (c :: r) (List.replicate c.Total.toNat 0) (List.replicate c.Total.toNat false)) (.o1 (((hasF (c :: r)).count true : Nat) : Int) true (allF (c :: r))) (.o0 [] 0 false)) := by
 obtain ⟨k,rfl⟩ : ∃ m,k = m + 1 := ⟨k - 1,by omega⟩
 have cb := hc.b
 have h := whl_l k (by omega) (c :: r) c rfl hL sq (c :: r).length 0 k (List.replicate c.Total.toNat 0) (List.replicate c.Total.toNat false) (by omega) (by omega) (by simp; omega) (by simp)
 rw [List.drop_zero,Int.natCast_zero,show (List.replicate c.Total.toNat false).count true = 0 by simp [List.count_replicate],Int.natCast_zero] at h
 have hr : c.Total * 1 ≤ (roomy : Int) := by unfold roomy; omega
 simp only [f28_r,f28_r_e,List.getElem?_cons_zero,Option.bind_some,ifE_pos (show (0 : Int) ≤ c.Total by omega),ifE_pos (Int.le_refl c.Total),ifE_pos hr,h]
 cases wholeF c (c :: r) (List.replicate c.Total.toNat 0) (List.replicate c.Total.toNat false)
 ·simp only [cond_false,Option.bind_some]
 ·simp only [cond_true,Option.bind_some,f28_r_j2]
  rfl
def InvW (T : Int) (pre : List Bun) (v : List Int) (h : List Bool) : Prop :=
 (h.length : Int) = T ∧ v.length = h.length ∧ (∀ x : Nat,h[x]? = some true → ∃ q ∈ pre,∃ (j : Nat) (y : Int),q.Payload[j]? = some y ∧ q.Offset.toNat + j = x) ∧ (∀ q ∈ pre,∀ (j : Nat) (y : Int),q.Payload[j]? = some y → h[q.Offset.toNat + j]? = some true ∧ v[q.Offset.toNat + j]? = some y)
theorem InvW.step {T : Int} {pre : List Bun} {v : List Int} {h : List Bool} (H : InvW T pre v h) {b : Bun} (hb : okP b) (ht : b.Total = T) (hf : freeF h v b.Offset.toNat b.Payload = true) : InvW T (pre ++ [b]) (putI v b.Offset.toNat b.Payload) (putB h b.Offset.toNat b.Payload.length) := by
 obtain ⟨h1,h2,h3,h4⟩ := H
 have bb := hb.b
 have lh : b.Offset.toNat + b.Payload.length ≤ h.length := by omega
 have lv : b.Offset.toNat + b.Payload.length ≤ v.length := by omega
 refine ⟨by rw [putB_len lh]; exact h1,by rw [putB_len lh,putI_len lv]; exact h2,fun x hx => ?_,fun q hq j y hy => ?_⟩
 ·rw [putB_get lh] at hx
  by_cases hin : b.Offset.toNat ≤ x ∧ x < b.Offset.toNat + b.Payload.length
  ·exact ⟨b,by simp,x - b.Offset.toNat,b.Payload[x - b.Offset.toNat]'(by omega),List.getElem?_eq_getElem _,by omega⟩
  ·rw [if_neg hin] at hx
   obtain ⟨q,hq,r⟩ := h3 x hx
   exact ⟨q,by simp [hq],r⟩
 ·rw [putB_get lh,putI_get lv]
  by_cases hin : b.Offset.toNat ≤ q.Offset.toNat + j ∧ q.Offset.toNat + j < b.Offset.toNat + b.Payload.length
  ·rw [if_pos hin,if_pos hin]
   refine ⟨rfl,?_⟩
   rcases List.mem_append.1 hq with hq | hq
   ·obtain ⟨g1,g2⟩ := h4 q hq j y hy
    have e : b.Offset.toNat + (q.Offset.toNat + j - b.Offset.toNat) = q.Offset.toNat + j := by omega
    have g3 : b.Payload[q.Offset.toNat + j - b.Offset.toNat]? = some (b.Payload[q.Offset.toNat + j - b.Offset.toNat]'(by omega)) := List.getElem?_eq_getElem _
    have := (freeF_iff h v b.Payload b.Offset.toNat).1 hf _ _ g3 (by rw [e]; exact g1)
    rw [e,g2] at this
    rw [g3]
    exact this.symm
   ·have : q = b := by simpa using hq
    subst this
    rw [show q.Offset.toNat + j - q.Offset.toNat = j by omega]
    exact hy
  ·rw [if_neg hin,if_neg hin]
   rcases List.mem_append.1 hq with hq | hq
   ·exact h4 q hq j y hy
   ·have : q = b := by simpa using hq
    subst this
    have := (List.getElem?_eq_some_iff.1 hy).1
    omega
theorem freeF_agree {T : Int} {pre : List Bun} {v : List Int} {h : List Bool} (H : InvW T pre v h) (ho : ∀ q ∈ pre,okP q) {b : Bun} (hb : okP b) : freeF h v b.Offset.toNat b.Payload = true ↔ ∀ q ∈ pre,agree b q := by
 obtain ⟨h1,h2,h3,h4⟩ := H
 have bb := hb.b
 rw [freeF_iff]
 constructor
 ·intro F q hq i j x y hx hy e
  have qb := (ho q hq).b
  obtain ⟨g1,g2⟩ := h4 q hq j y hy
  have e' : b.Offset.toNat + i = q.Offset.toNat + j := by omega
  have := F i x hx (by rw [e']; exact g1)
  rw [e',g2] at this
  simpa using this.symm
 ·intro A j x hx hh
  obtain ⟨q,hq,i,y,hy,e⟩ := h3 _ hh
  have qb := (ho q hq).b
  obtain ⟨g1,g2⟩ := h4 q hq i y hy
  have := A q hq j i x y hx hy (by omega)
  rw [← e,g2,this]
theorem whole_chkG (c : Bun) : ∀ (r pre : List Bun) (v : List Int) (h : List Bool),InvW c.Total pre v h → (∀ q ∈ pre,okP q ∧ smB c q = true) → (pre = [] → ∀ a r',r = a :: r' → a = c) → wholeF c r v h = chkG pre r
 | [],pre,v,h,_,_,_ => by rw [wholeF,chkG]
 | a :: r,pre,v,h,H,hp,h0 => by
  have key : (pre ++ [a]).all (togB a) = (decide (okP a) && (smB c a && freeF h v a.Offset.toNat a.Payload)) := by
   rw [Bool.eq_iff_iff,List.all_eq_true]
   simp only [Bool.and_eq_true,decide_eq_true_iff,togB_iff]
   constructor
   ·intro A
    have ha : okP a := (A a (by simp)).1
    have hsm : smB c a = true := by
     cases pre with
     | nil => rw [h0 rfl a r rfl]; rw [smB_iff]; exact ⟨rfl,rfl,rfl,rfl,rfl,rfl,rfl,rfl⟩
     | cons q pre =>
      have g := (like_iff _ _).1 (A q (by simp)).2.2.1
      have g' := (smB_iff _ _).1 (hp q (by simp)).2
      rw [smB_iff]
      exact ⟨g'.1.trans g.1.symm,g'.2.1.trans g.2.1.symm,g'.2.2.1.trans g.2.2.1.symm,g'.2.2.2.1.trans g.2.2.2.1.symm,g'.2.2.2.2.1.trans g.2.2.2.2.1.symm,g'.2.2.2.2.2.1.trans g.2.2.2.2.2.1.symm,g'.2.2.2.2.2.2.1.trans g.2.2.2.2.2.2.1.symm,g'.2.2.2.2.2.2.2.trans g.2.2.2.2.2.2.2.symm⟩
    exact ⟨ha,hsm,(freeF_agree H (fun q hq => (hp q hq).1) ha).2 fun q hq => (A q (by simp [hq])).2.2.2⟩
   ·rintro ⟨ha,hsm,hf⟩ q hq
    have g' := (smB_iff _ _).1 hsm
    rcases List.mem_append.1 hq with hq | hq
    ·have g := (smB_iff _ _).1 (hp q hq).2
     refine ⟨ha,(hp q hq).1,(like_iff _ _).2 ⟨g'.1.symm.trans g.1,g'.2.1.symm.trans g.2.1,g'.2.2.1.symm.trans g.2.2.1,g'.2.2.2.1.symm.trans g.2.2.2.1,g'.2.2.2.2.1.symm.trans g.2.2.2.2.1,g'.2.2.2.2.2.1.symm.trans g.2.2.2.2.2.1,g'.2.2.2.2.2.2.1.symm.trans g.2.2.2.2.2.2.1,g'.2.2.2.2.2.2.2.symm.trans g.2.2.2.2.2.2.2⟩,(freeF_agree H (fun q hq => (hp q hq).1) ha).1 hf q hq⟩
    ·have : q = a := by simpa using hq
     subst this
     refine ⟨ha,ha,(like_iff _ _).2 ⟨rfl,rfl,rfl,rfl,rfl,rfl,rfl,rfl⟩,fun i j x y hx hy e => ?_⟩
     have : i = j := by omega
     subst this
     rw [hx] at hy
     simpa using hy
  rw [wholeF,chkG,key]
  by_cases ha : okP a
  case neg => simp [ha]
  cases hsm : smB c a
  ·simp
  cases hf : freeF h v a.Offset.toNat a.Payload
  ·simp
  rw [decide_eq_true ha,Bool.true_and,Bool.true_and,Bool.true_and,Bool.true_and,Bool.true_and,Bool.true_and]
  have ht : a.Total = c.Total := ((smB_iff c a).1 hsm).2.2.2.2.2.2.2.symm
  exact whole_chkG c r (pre ++ [a]) _ _ (H.step ha ht hf) (fun q hq => by
   rcases List.mem_append.1 hq with hq | hq
   ·exact hp q hq
   ·have : q = a := by simpa using hq
    subst this
    exact ⟨ha,hsm⟩) (fun e => by simp at e)
theorem whole_chkL {c : Bun} {r : List Bun} (hc : okP c) : wholeF c (c :: r) (List.replicate c.Total.toNat 0) (List.replicate c.Total.toNat false) = chkL (c :: r) := by
 have cb := hc.b
 rw [whole_chkG c (c :: r) [] _ _ ⟨by simp; omega,by simp,fun x hx => by rw [List.getElem?_replicate] at hx; split at hx <;> simp at hx,fun q hq => by cases hq⟩ (fun q hq => by cases hq) (fun _ a r' e => by simpa using (List.cons.inj e).1.symm)]
 simp [chkL]
theorem gaps_count {L : List Bun} (hc : chkL L = true) {b : Bun} (hb : b ∈ L) : (((hasF L).count true : Nat) : Int) = b.Total ↔ gapsF (hasF L) = [] := by
 cases L with
 | nil => cases hb
 | cons c r =>
  have hg : chkG [] (c :: r) = true := by unfold chkL at hc; rw [Bool.and_eq_true] at hc; exact hc.1
  have ht := chkG_total hg
  have oc := (ht c (by simp)).1
  have cb := oc.b
  have hl : (hasF (c :: r)).length = c.Total.toNat := by
   show (hasL (c :: r) (List.replicate c.Total.toNat false)).length = _
   rw [hasL_len (c :: r) _ (fun x hx => ⟨(ht x hx).1,by rw [(ht x hx).2,List.length_replicate]; omega⟩),List.length_replicate]
  have e : b.Total = ((hasF (c :: r)).length : Int) := by rw [(ht b hb).2,hl]; omega
  rw [e]
  constructor
  ·intro q
   have q' := List.count_eq_length.1 (Int.ofNat.inj q)
   exact gapsS_true _ _ fun x hx => (q' x hx).symm
  ·intro q
   have : ∀ x ∈ hasF (c :: r),true = x := fun x hx => by
    cases x
    ·exact absurd q (gapsS_false _ _ hx)
    ·rfl
   rw [List.count_eq_length.2 this]
end Go.Proofs.YticggdfaehneeaaV