/- Ways through a plan,with no program in sight: what can be reached,how the nearest is sought,and by rounds;both tell the earliest arrival. -/
import Derived.Test.YtiompmmbjpjjeaaDoorVP18
import Derived.Test.YtiompmmbjpjjeaaDoorVPWords
namespace Go.Proofs.YtiompmmbjpjjeaaDoorV
open Go
set_option linter.unusedVariables false
abbrev Ct:=T54
def never:Int:=1099511627776
def arrT (c:Ct) (t:Int):Int:=(if c.Start>t then c.Start else t)+c.Delay+1
def fupd {α:Type} (f:Int→α) (n:Int) (x:α):Int→α:=fun m=>if m=n then x else f m
theorem fupd_same {α:Type} (f:Int→α) (n:Int) (x:α):fupd f n x n=x:=by simp [fupd]
theorem fupd_ne {α:Type} (f:Int→α) {n m:Int} (x:α) (h:m≠n):fupd f n x m=f m:=by simp [fupd,h]
structure CtOk (N:Int) (c:Ct):Prop where
 f1:1≤c.From
 f2:c.From≤N
 t1:1≤c.To
 t2:c.To≤N
 s1:0≤c.Start
 s2:c.Start<c.End
 e2:c.End≤1048576
 d1:0≤c.Delay
 d2:c.Delay≤4096
theorem arrT_gt {N:Int} {c:Ct} (h:CtOk N c) (t:Int):t<arrT c t:=by
 have:=h.d1
 unfold arrT;split<;>omega
theorem arrT_mono {c:Ct} {t u:Int} (h:t≤u):arrT c t≤arrT c u:=by unfold arrT;split<;>split<;>omega
inductive Rch (L:List Ct) (left:List Int) (need s now:Int):Nat→Int→Int→Prop
 | base:Rch L left need s now 0 s now
 | step {k:Nat} {n t:Int} {i:Nat} {c:Ct} {l:Int} (h:Rch L left need s now k n t) (hc:L[i]?=some c) (hl:left[i]?=some l) (hn:need≤l) (hf:c.From=n) (ht:t<c.End):Rch L left need s now (k+1) c.To (arrT c t)
section
variable {L:List Ct} {left:List Int} {need s now N:Int}
theorem Rch.node (hL:∀ c∈L,CtOk N c) (h1:1≤s) (h2:s≤N) {k:Nat} {n t:Int} (h:Rch L left need s now k n t):1≤n∧n≤N:=by
 cases h with
 | base=>exact ⟨h1,h2⟩
 | step h hc hl hn hf ht=>have:=hL _ (List.mem_of_getElem? hc);exact ⟨this.t1,this.t2⟩
theorem Rch.le (hL:∀ c∈L,CtOk N c) {k:Nat} {n t:Int} (h:Rch L left need s now k n t):now≤t:=by
 induction h with
 | base=>exact Int.le_refl _
 | step h hc hl hn hf ht ih=>have:=arrT_gt (hL _ (List.mem_of_getElem? hc)) ‹Int›;rename_i t _ _ _ ;have:=arrT_gt (hL _ (List.mem_of_getElem? hc)) t;omega
theorem Rch.bound (hL:∀ c∈L,CtOk N c) (hn:now≤1052674) {k:Nat} {n t:Int} (h:Rch L left need s now k n t):t≤1052674:=by
 cases h with
 | base=>exact hn
 | step h hc hl hn hf ht =>
  have:=hL _ (List.mem_of_getElem? hc)
  have h1:=this.s2
  have h2:=this.e2
  have h3:=this.d2
  unfold arrT;split<;>omega
end
abbrev Two:=(Int→Int)×(Int→Bool)
def rlx1 (n t:Int) (q:Two):Two:=if q.2 n=false∨t<q.1 n then (fupd q.1 n t,fupd q.2 n true) else q
def relaxL (need node now:Int):List Ct→List Int→Two→Two
 | c::L,l::left,q=>relaxL need node now L left (if c.From=node∧need≤l∧now<c.End then rlx1 c.To (arrT c now) q else q)
 | _,_,q=>q
theorem relaxL_spec (need node now:Int):∀ (L:List Ct) (left:List Int) (q:Two),
 (∀ n,q.2 n=true→(relaxL need node now L left q).2 n=true∧(relaxL need node now L left q).1 n≤q.1 n) ∧
 (∀ (i:Nat) c l,L[i]?=some c→left[i]?=some l→c.From=node→need≤l→now<c.End→(relaxL need node now L left q).2 c.To=true∧(relaxL need node now L left q).1 c.To≤arrT c now) ∧
 (∀ n,((relaxL need node now L left q).1 n=q.1 n∧(relaxL need node now L left q).2 n=q.2 n)∨∃ (i:Nat) (c:Ct) (l:Int),L[i]?=some c∧left[i]?=some l∧c.From=node∧need≤l∧now<c.End∧c.To=n ∧
  (relaxL need node now L left q).1 n=arrT c now∧(relaxL need node now L left q).2 n=true∧(q.2 n=false∨arrT c now<q.1 n))
 | [],left,q=>⟨fun n h=>⟨by simpa [relaxL] using h,by simp [relaxL]⟩,fun i c l h=>by simp at h,fun n=>.inl (by simp [relaxL])⟩
 | c::L,[],q=>⟨fun n h=>⟨by simpa [relaxL] using h,by simp [relaxL]⟩,fun i c l _ h=>by simp at h,fun n=>.inl (by simp [relaxL])⟩
 | c::L,l::left,q=>by
  simp only [relaxL]
  by_cases hc:c.From=node∧need≤l∧now<c.End
  ·rw [if_pos hc]
   obtain ⟨A,B,C⟩:=relaxL_spec need node now L left (rlx1 c.To (arrT c now) q)
   have r1:∀ n,q.2 n=true→(rlx1 c.To (arrT c now) q).2 n=true∧(rlx1 c.To (arrT c now) q).1 n≤q.1 n:=fun n h=>by
    unfold rlx1
    split
    ·rename_i hh
     by_cases e:n=c.To
     ·subst e
      rcases hh with hh | hh
      ·rw [h] at hh;cases hh
      ·simp only [fupd_same];exact ⟨trivial,by omega⟩
     ·simp only [fupd_ne _ _ e];exact ⟨h,Int.le_refl _⟩
    ·exact ⟨h,Int.le_refl _⟩
   have r2:(rlx1 c.To (arrT c now) q).2 c.To=true∧(rlx1 c.To (arrT c now) q).1 c.To≤arrT c now:=by
    unfold rlx1
    split
    ·simp only [fupd_same];exact ⟨trivial,Int.le_refl _⟩
    ·rename_i hh
     simp only [not_or,Bool.not_eq_false,Int.not_lt] at hh
     exact ⟨hh.1,hh.2⟩
   refine ⟨fun n h => ?_,fun i c' l' h1 h2 h3 h4 h5 => ?_,fun n => ?_⟩
   ·obtain ⟨h1,h2⟩:=r1 n h
    obtain ⟨h3,h4⟩:=A n h1
    exact ⟨h3,by omega⟩
   ·cases i with
    | zero =>
     simp at h1 h2;subst h1 h2
     obtain ⟨h6,h7⟩:=A _ r2.1
     exact ⟨h6,by omega⟩
    | succ i=>exact B i c' l' (by simpa using h1) (by simpa using h2) h3 h4 h5
   ·rcases C n with ⟨h1,h2⟩ | ⟨i,c',l',h1,h2,h3,h4,h5,h6,h7,h8,h9⟩
    ·rw [h1,h2]
     unfold rlx1
     split
     ·rename_i hh
      by_cases e:n=c.To
      ·subst e
       refine .inr ⟨0,c,l,by simp,by simp,hc.1,hc.2.1,hc.2.2,rfl,?_,?_,?_⟩
       ·simp only [fupd_same]
       ·simp only [fupd_same]
       ·exact hh
      ·exact .inl ⟨fupd_ne _ _ e,fupd_ne _ _ e⟩
     ·exact .inl ⟨rfl,rfl⟩
    ·refine .inr ⟨i+1,c',l',by simpa using h1,by simpa using h2,h3,h4,h5,h6,h7,h8,?_⟩
     rcases h9 with h9 | h9
     ·cases hq:q.2 n with
      | false=>exact .inl rfl
      | true=>have:=(r1 n hq).1;rw [h9] at this;cases this
     ·cases hq:q.2 n with
      | false=>exact .inl rfl
      | true=>have:=(r1 n hq).2;exact .inr (by omega)
  ·rw [if_neg hc]
   obtain ⟨A,B,C⟩:=relaxL_spec need node now L left q
   refine ⟨A,fun i c' l' h1 h2 h3 h4 h5 => ?_,fun n => ?_⟩
   ·cases i with
    | zero=>simp at h1 h2;subst h1 h2;exact absurd ⟨h3,h4,h5⟩ hc
    | succ i=>exact B i c' l' (by simpa using h1) (by simpa using h2) h3 h4 h5
   ·rcases C n with h | ⟨i,c',l',h1,h2,h⟩
    ·exact .inl h
    ·exact .inr ⟨i+1,c',l',by simpa using h1,by simpa using h2,h⟩
def selS (N:Int) (at':Int→Int) (kn dn:Int→Bool):Nat→Int→Int→Int
 | 0,_,nx=>nx
 | f+1,n,nx=>if n≤N then selS N at' kn dn f (n+1) (if kn n=true∧dn n=false∧(nx=0∨at' n<at' nx) then n else nx) else nx
theorem selS_spec (N:Int) (at':Int→Int) (kn dn:Int→Bool):∀ (f:Nat) (n nx:Int),N+1 - n≤f→1≤n →
 ((nx=0∧∀ m,1≤m→m<n→¬(kn m=true∧dn m=false))∨(1≤nx∧nx≤N∧kn nx=true∧dn nx=false∧∀ m,1≤m→m<n→kn m=true→dn m=false→at' nx≤at' m)) →
 ((selS N at' kn dn f n nx=0∧∀ m,1≤m→m≤N→¬(kn m=true∧dn m=false))∨(1≤selS N at' kn dn f n nx∧selS N at' kn dn f n nx≤N∧kn (selS N at' kn dn f n nx)=true∧dn (selS N at' kn dn f n nx)=false ∧
  ∀ m,1≤m→m≤N→kn m=true→dn m=false→at' (selS N at' kn dn f n nx)≤at' m))
 | 0,n,nx,hf,hn,h=>by
  simp only [selS]
  rcases h with ⟨h1,h2⟩ | ⟨h1,h2,h3,h4,h5⟩
  ·exact .inl ⟨h1,fun m a b=>h2 m a (by omega)⟩
  ·exact .inr ⟨h1,h2,h3,h4,fun m a b=>h5 m a (by omega)⟩
 | f+1,n,nx,hf,hn,h=>by
  simp only [selS]
  split
  ·rename_i hN
   refine selS_spec N at' kn dn f (n+1) _ (by omega) (by omega) ?_
   split
   ·rename_i hc
    refine .inr ⟨hn,hN,hc.1,hc.2.1,fun m a b k d => ?_⟩
    by_cases e:m=n
    ·subst e;exact Int.le_refl _
    ·rcases h with ⟨h1,h2⟩ | ⟨h1,h2,h3,h4,h5⟩
     ·exact absurd ⟨k,d⟩ (h2 m a (by omega))
     ·have:=h5 m a (by omega) k d
      rcases hc.2.2 with q | q
      ·omega
      ·omega
   ·rename_i hc
    rcases h with ⟨h1,h2⟩ | ⟨h1,h2,h3,h4,h5⟩
    ·refine .inl ⟨h1,fun m a b => ?_⟩
     by_cases e:m=n
     ·subst e;intro hh;exact hc ⟨hh.1,hh.2,.inl h1⟩
     ·exact h2 m a (by omega)
    ·refine .inr ⟨h1,h2,h3,h4,fun m a b k d => ?_⟩
     by_cases e:m=n
     ·subst e
      have:¬(at' m<at' nx):=fun q=>hc ⟨k,d,.inr q⟩
      omega
     ·exact h5 m a (by omega) k d
  ·rcases h with ⟨h1,h2⟩ | ⟨h1,h2,h3,h4,h5⟩
   ·exact .inl ⟨h1,fun m a b=>h2 m a (by omega)⟩
   ·exact .inr ⟨h1,h2,h3,h4,fun m a b=>h5 m a (by omega)⟩
def selN (N:Int) (at':Int→Int) (kn dn:Int→Bool):Int:=selS N at' kn dn N.toNat 1 0
theorem selN_spec (N:Int) (hN:0≤N) (at':Int→Int) (kn dn:Int→Bool) :
 ((selN N at' kn dn=0∧∀ m,1≤m→m≤N→¬(kn m=true∧dn m=false))∨(1≤selN N at' kn dn∧selN N at' kn dn≤N∧kn (selN N at' kn dn)=true∧dn (selN N at' kn dn)=false ∧
  ∀ m,1≤m→m≤N→kn m=true→dn m=false→at' (selN N at' kn dn)≤at' m)) :=
 selS_spec N at' kn dn N.toNat 1 0 (by omega) (by omega) (.inl ⟨rfl,fun m a b=>by omega⟩)
def dijS (N to need:Int) (L:List Ct) (left:List Int):Nat→(Int→Int)→(Int→Bool)→(Int→Bool)→Two
 | 0,a,kn,_=>(a,kn)
 | f+1,a,kn,dn=>if selN N a kn dn=0∨selN N a kn dn=to then (a,kn) else
   dijS N to need L left f (relaxL need (selN N a kn dn) (a (selN N a kn dn)) L left (a,kn)).1 (relaxL need (selN N a kn dn) (a (selN N a kn dn)) L left (a,kn)).2 (fupd dn (selN N a kn dn) true)
def b2n (b:Bool):Nat:=if b then 0 else 1
def mu (dn:Int→Bool):Nat:=b2n (dn 1)+b2n (dn 2)+b2n (dn 3)+b2n (dn 4)+b2n (dn 5)+b2n (dn 6)
theorem mu_upd {dn:Int→Bool} {n:Int} (h1:1≤n) (h2:n≤6) (h:dn n=false):mu (fupd dn n true)+1=mu dn:=by
 have:n=1∨n=2∨n=3∨n=4∨n=5∨n=6:=by omega
 rcases this with rfl | rfl | rfl | rfl | rfl | rfl<;>simp [mu,fupd,h,b2n]<;>omega
structure DInv (L:List Ct) (left:List Int) (need s now N:Int) (K:Nat) (a:Int→Int) (kn dn:Int→Bool):Prop where
 start:kn s=true∧a s≤now
 snd:∀ n,kn n=true→∃ k,k≤K∧Rch L left need s now k n (a n)
 known:∀ n,dn n=true→kn n=true
 rel:∀ n,dn n=true→∀ (i:Nat) c l,L[i]?=some c→left[i]?=some l→c.From=n→need≤l→a n<c.End→kn c.To=true∧a c.To≤arrT c (a n)
 mono:∀ d u,dn d=true→kn u=true→dn u=false→a d≤a u
 cnt:K+mu dn≤6
def Earliest (L:List Ct) (left:List Int) (need s now to:Int) (q:Two):Prop :=
 (q.2 to=true→∃ k,k≤6∧Rch L left need s now k to (q.1 to))∧∀ k t,Rch L left need s now k to t→q.2 to=true∧q.1 to≤t
theorem dijS_spec {L:List Ct} {left:List Int} {need s now N to:Int} (hL:∀ c∈L,CtOk N c) (hN:0≤N) (hN6:N≤6) (hs1:1≤s) (hs2:s≤N) (ht1:1≤to) (ht2:to≤N):∀ (f:Nat) (K:Nat) (a:Int→Int) (kn dn:Int→Bool),mu dn<f→DInv L left need s now N K a kn dn →
 Earliest L left need s now to (dijS N to need L left f a kn dn)
 | 0,K,a,kn,dn,hf,I=>by omega
 | f+1,K,a,kn,dn,hf,I=>by
  simp only [dijS]
  have hsel:=selN_spec N hN a kn dn
  generalize hnx:selN N a kn dn=nx at *
  have hK:=I.cnt
  split
  ·rename_i hex
   refine ⟨fun h => ?_,fun k t h => ?_⟩
   ·obtain ⟨k,h1,h2⟩:=I.snd to h
    exact ⟨k,by omega,h2⟩
   ·rcases hsel with ⟨h0,hall⟩ | ⟨h1,h2,h3,h4,h5⟩
    ·-- all that is known is done
     have main:∀ k n t,Rch L left need s now k n t→kn n=true∧a n≤t:=by
      intro k n t h
      induction h with
      | base=>exact I.start
      | step h hc hl hn hf ht ih =>
       rename_i k n t i c l
       have hnode:=h.node hL hs1 hs2
       have hd:dn n=true:=by
        cases hq:dn n with
        | true=>rfl
        | false=>exact absurd ⟨ih.1,hq⟩ (hall n hnode.1 hnode.2)
       obtain ⟨r1,r2⟩:=I.rel n hd i c l hc hl hf hn (by omega)
       have:=arrT_mono (c:=c) ih.2
       exact ⟨r1,by omega⟩
     exact main k to t h
    ·have hto:nx=to:=by rcases hex with e | e<;>omega
     have main:∀ k n t,Rch L left need s now k n t→(dn n=true∧a n≤t)∨a nx≤t:=by
      intro k n t h
      have side:∀ m t,1≤m→m≤N→kn m=true→a m≤t→(dn m=true∧a m≤t)∨a nx≤t:=fun m t q1 q2 q3 q4=>by
       cases hq:dn m with
       | true=>exact .inl ⟨rfl,q4⟩
       | false=>have:=h5 m q1 q2 q3 hq;exact .inr (by omega)
      induction h with
      | base=>exact side s now hs1 hs2 I.start.1 I.start.2
      | step h hc hl hn hf ht ih =>
       rename_i k n t i c l
       have hok:=hL _ (List.mem_of_getElem? hc)
       have hgt:=arrT_gt hok t
       rcases ih with ⟨hd,hle⟩ | hle
       ·obtain ⟨r1,r2⟩:=I.rel n hd i c l hc hl hf hn (by omega)
        have:=arrT_mono (c:=c) hle
        exact side c.To _ hok.t1 hok.t2 r1 (by omega)
       ·exact .inr (by omega)
     subst hto
     rcases main k nx t h with ⟨hd,_⟩ | h6
     ·rw [h4] at hd;cases hd
     ·exact ⟨h3,h6⟩
  ·rename_i hex
   simp only [not_or] at hex
   rcases hsel with ⟨h0,_⟩ | ⟨h1,h2,h3,h4,h5⟩
   ·exact absurd h0 hex.1
   ·obtain ⟨A,B,C⟩:=relaxL_spec need nx (a nx) L left (a,kn)
    generalize relaxL need nx (a nx) L left (a,kn)=q at *
    simp only at A B C
    have old:∀ n,kn n=true→a n≤a nx→q.1 n=a n∧q.2 n=true:=fun n hk hle=>by
     rcases C n with ⟨e1,e2⟩ | ⟨i,c,l,c1,c2,c3,c4,c5,c6,c7,c8,c9⟩
     ·exact ⟨e1,by rw [e2];exact hk⟩
     ·have:=arrT_gt (hL _ (List.mem_of_getElem? c1)) (a nx)
      rcases c9 with c9 | c9
      ·rw [hk] at c9;cases c9
      ·omega
    have hmu:=mu_upd h1 (by omega) h4
    refine dijS_spec hL hN hN6 hs1 hs2 ht1 ht2 f (K+1) q.1 q.2 (fupd dn nx true) (by omega) ?_
    refine { start:=?_,snd:=fun n hn => ?_,known:=fun n hn => ?_,rel:=fun n hn i c l c1 c2 c3 c4 c5 => ?_,mono:=fun d u hd hu hdu => ?_,cnt:=by omega }
    ·obtain ⟨g1,g2⟩:=A s I.start.1
     exact ⟨g1,by have:=I.start.2;omega⟩
    ·rcases C n with ⟨e1,e2⟩ | ⟨i,c,l,c1,c2,c3,c4,c5,c6,c7,c8,c9⟩
     ·rw [e2] at hn
      obtain ⟨k,g1,g2⟩:=I.snd n hn
      exact ⟨k,by omega,by rw [e1];exact g2⟩
     ·obtain ⟨k,g1,g2⟩:=I.snd nx h3
      refine ⟨k+1,by omega,?_⟩
      rw [c7,←c6]
      exact .step g2 c1 c2 c4 c3 c5
    ·by_cases e:n=nx
     ·subst e;exact (old n h3 (Int.le_refl _)).2
     ·rw [fupd_ne _ _ e] at hn
      have hk:=I.known n hn
      exact (A n hk).1
    ·by_cases e:n=nx
     ·subst e
      have:=(old n h3 (Int.le_refl _)).1
      rw [this] at c5 ⊢
      exact B i c l c1 c2 c3 c4 c5
     ·rw [fupd_ne _ _ e] at hn
      have hk:=I.known n hn
      have ho:=(old n hk (I.mono n nx hn h3 h4)).1
      rw [ho] at c5 ⊢
      obtain ⟨r1,r2⟩:=I.rel n hn i c l c1 c2 c3 c4 c5
      obtain ⟨g1,g2⟩:=A c.To r1
      exact ⟨g1,by omega⟩
    ·have hun:u≠nx:=fun e=>by rw [e,fupd_same] at hdu;cases hdu
     rw [fupd_ne _ _ hun] at hdu
     have hdv:a d≤a nx∧kn d=true:=by
      by_cases e:d=nx
      ·subst e;exact ⟨Int.le_refl _,h3⟩
      ·rw [fupd_ne _ _ e] at hd
       exact ⟨I.mono d nx hd h3 h4,I.known d hd⟩
     have ho:=(old d hdv.2 hdv.1).1
     rw [ho]
     rcases C u with ⟨e1,e2⟩ | ⟨i,c,l,c1,c2,c3,c4,c5,c6,c7,c8,c9⟩
     ·rw [e2] at hu
      rw [e1]
      by_cases hin:1≤u∧u≤N
      ·have:=h5 u hin.1 hin.2 hu hdu;omega
      ·obtain ⟨k,g1,g2⟩:=I.snd u hu
       exact absurd (g2.node hL hs1 hs2) hin
     ·have:=arrT_gt (hL _ (List.mem_of_getElem? c1)) (a nx)
      rw [c7];omega
def bfL (need:Int):List Ct→List Int→(Int→Int)→(Int→Int)
 | c::L,l::left,a=>bfL need L left (if a c.From<c.End∧need≤l∧arrT c (a c.From)<a c.To then fupd a c.To (arrT c (a c.From)) else a)
 | _,_,a=>a
def bfN (need:Int) (L:List Ct) (left:List Int):Nat→(Int→Int)→(Int→Int)
 | 0,a=>a
 | f+1,a=>bfN need L left f (bfL need L left a)
theorem bfL_le (need:Int):∀ (L:List Ct) (left:List Int) (a:Int→Int) (n:Int),bfL need L left a n≤a n
 | [],left,a,n=>by simp [bfL]
 | c::L,[],a,n=>by simp [bfL]
 | c::L,l::left,a,n=>by
  simp only [bfL]
  refine Int.le_trans (bfL_le need L left _ n) ?_
  split
  ·rename_i h
   by_cases e:n=c.To
   ·subst e;rw [fupd_same];omega
   ·rw [fupd_ne _ _ e];exact Int.le_refl _
  ·exact Int.le_refl _
theorem bfL_edge (need:Int):∀ (L:List Ct) (left:List Int) (a:Int→Int) (i:Nat) (c:Ct) (l:Int),L[i]?=some c→left[i]?=some l→need≤l→a c.From<c.End→bfL need L left a c.To≤arrT c (a c.From)
 | [],left,a,i,c,l,h,_,_,_=>by simp at h
 | c0::L,[],a,i,c,l,_,h,_,_=>by simp at h
 | c0::L,l0::left,a,i,c,l,h1,h2,h3,h4=>by
  simp only [bfL]
  cases i with
  | zero =>
   simp at h1 h2;subst h1 h2
   refine Int.le_trans (bfL_le need L left _ _) ?_
   split
   ·rw [fupd_same];exact Int.le_refl _
   ·rename_i h
    have:¬(arrT c0 (a c0.From)<a c0.To):=fun q=>h ⟨h4,h3,q⟩
    omega
  | succ i =>
   have hle:∀ n,(if a c0.From<c0.End∧need≤l0∧arrT c0 (a c0.From)<a c0.To then fupd a c0.To (arrT c0 (a c0.From)) else a) n≤a n:=fun n=>by
    split
    ·by_cases e:n=c0.To
     ·subst e;rw [fupd_same];omega
     ·rw [fupd_ne _ _ e];exact Int.le_refl _
    ·exact Int.le_refl _
   have:=bfL_edge need L left _ i c l (by simpa using h1) (by simpa using h2) h3 (Int.lt_of_le_of_lt (hle c.From) h4)
   exact Int.le_trans this (arrT_mono (hle c.From))
theorem bfL_snd {need s now:Int} {L0:List Ct} {left0:List Int} (hnv:∀ c∈L0,c.End≤never):∀ (L:List Ct) (left:List Int) (a:Int→Int),(∀ (i:Nat) (c:Ct) (l:Int),L[i]?=some c→left[i]?=some l→∃ j:Nat,L0[j]?=some c∧left0[j]?=some l)→(∀ n,a n=never∨∃ k,Rch L0 left0 need s now k n (a n)) →
 ∀ n,bfL need L left a n=never∨∃ k,Rch L0 left0 need s now k n (bfL need L left a n)
 | [],left,a,_,h=>by simpa [bfL] using h
 | c::L,[],a,_,h=>by simpa [bfL] using h
 | c::L,l::left,a,hsub,h=>by
  simp only [bfL]
  refine bfL_snd hnv L left _ (fun i c' l' h1 h2=>hsub (i+1) c' l' (by simpa using h1) (by simpa using h2)) fun n => ?_
  split
  ·rename_i hc
   by_cases e:n=c.To
   ·subst e
    rw [fupd_same]
    obtain ⟨j,j1,j2⟩:=hsub 0 c l (by simp) (by simp)
    rcases h c.From with h0 | ⟨k,hk⟩
    ·have:=hnv c (List.mem_of_getElem? j1)
     rw [h0] at hc;omega
    ·exact .inr ⟨k+1,.step hk j1 j2 hc.2.1 rfl hc.1⟩
   ·rw [fupd_ne _ _ e];exact h n
  ·exact h n
theorem bfN_snd {need s now:Int} {L:List Ct} {left:List Int} (hnv:∀ c∈L,c.End≤never):∀ (f:Nat) (a:Int→Int),(∀ n,a n=never∨∃ k,Rch L left need s now k n (a n))→∀ n,bfN need L left f a n=never∨∃ k,Rch L left need s now k n (bfN need L left f a n)
 | 0,a,h=>h
 | f+1,a,h=>bfN_snd hnv f _ (bfL_snd hnv L left a (fun i c l h1 h2=>⟨i,h1,h2⟩) h)
theorem bfN_le (need:Int) (L:List Ct) (left:List Int):∀ (f:Nat) (a:Int→Int) (n:Int),bfN need L left f a n≤a n
 | 0,a,n=>Int.le_refl _
 | f+1,a,n=>Int.le_trans (bfN_le need L left f _ n) (bfL_le need L left a n)
theorem bfN_cmp {need s now:Int} {L:List Ct} {left:List Int}:∀ (f j:Nat) (a:Int→Int),(∀ k n t,k≤j→Rch L left need s now k n t→a n≤t)→∀ k n t,k≤j+f→Rch L left need s now k n t→bfN need L left f a n≤t
 | 0,j,a,h,k,n,t,hk,hr=>h k n t (by omega) hr
 | f+1,j,a,h,k,n,t,hk,hr=>by
  refine bfN_cmp f (j+1) (bfL need L left a) (fun k n t hk hr => ?_) k n t (by omega) hr
  by_cases e:k≤j
  ·exact Int.le_trans (bfL_le need L left a n) (h k n t e hr)
  ·cases hr with
   | base=>omega
   | step hr hc hl hn hf ht =>
    rename_i k n t i c l
    have h1:=h k n t (by omega) hr
    subst hf
    exact Int.le_trans (bfL_edge need L left a i c l hc hl hn (by omega)) (arrT_mono h1)
def bf0 (s now:Int):Int→Int:=fupd (fun _=>never) s now
theorem both {L:List Ct} {left:List Int} {need s now N to:Int} (hL:∀ c∈L,CtOk N c) (hnow:now≤1052674) (hN6:N≤6) (q:Two) (h:Earliest L left need s now to q) :
 (q.2 to=true→bfN need L left 8 (bf0 s now) to=q.1 to)∧(q.2 to=false→bfN need L left 8 (bf0 s now) to=never):=by
 have snd:=bfN_snd (need:=need) (s:=s) (now:=now) (left:=left) (fun c hc=>by have:=(hL c hc).e2;unfold never;omega) 8 (bf0 s now) (fun n=>by
  unfold bf0
  by_cases e:n=s
  ·subst e;rw [fupd_same];exact .inr ⟨0,.base⟩
  ·rw [fupd_ne _ _ e];exact .inl rfl) to
 have cmp:=bfN_cmp (need:=need) (s:=s) (now:=now) (L:=L) (left:=left) 8 0 (bf0 s now) (fun k n t hk hr=>by
  cases hr with
  | base=>unfold bf0;rw [fupd_same];exact Int.le_refl _
  | step=>omega)
 obtain ⟨h1,h2⟩:=h
 refine ⟨fun hq => ?_,fun hq => ?_⟩
 ·obtain ⟨k,hk,hr⟩:=h1 hq
  have le:=cmp k to _ (by omega) hr
  rcases snd with e | ⟨k',hr'⟩
  ·have:=hr.bound hL hnow
   rw [e] at le
   unfold never at le
   omega
  ·have:=(h2 k' _ hr').2
   omega
 ·rcases snd with e | ⟨k',hr'⟩
  ·exact e
  ·have:=(h2 k' _ hr').1
   rw [hq] at this;cases this
def okC (N:Int) (c:Ct):Bool:=decide (1≤c.From)&&(decide (c.From≤N)&&(decide (1≤c.To)&&(decide (c.To≤N)&&(!(c.From==c.To)&&(decide (0≤c.Start)&&(decide (c.Start<c.End)&&(decide (c.End≤1048576)&&(decide (1≤c.Rate)&&(decide (c.Rate≤4096)&&(decide (0≤c.Delay)&&decide (c.Delay≤4096)))))))))))
def ovl (d c:Ct):Bool:=d.From==c.From&&(d.To==c.To&&(decide (d.Start<c.End)&&decide (c.Start<d.End)))
def chkL (N:Int):List Ct→List Ct→Bool
 | _,[]=>true
 | pre,c::r=>okC N c&&(!(pre.any fun d=>ovl d c)&&chkL N (pre++[c]) r)
def chkB (N:Int) (L:List Ct):Bool:=decide (2≤N)&&(decide (N≤6)&&(decide (L.length≤24)&&chkL N [] L))
theorem chkL_ok {N:Int}:∀ (r pre:List Ct),chkL N pre r=true→∀ c∈r,okC N c=true
 | [],pre,h,c,hc=>by cases hc
 | d::r,pre,h,c,hc=>by
  simp only [chkL,Bool.and_eq_true] at h
  rcases List.mem_cons.1 hc with rfl | hc
  ·exact h.1
  ·exact chkL_ok r _ h.2.2 c hc
theorem okC_ct {N:Int} {c:Ct} (h:okC N c=true):CtOk N c∧1≤c.Rate∧c.Rate≤4096:=by
 simp only [okC,Bool.and_eq_true,decide_eq_true_eq] at h
 obtain ⟨h1,h2,h3,h4,h5,h6,h7,h8,h9,h10,h11,h12⟩:=h
 exact ⟨⟨h1,h2,h3,h4,h6,h7,h8,h11,h12⟩,h9,h10⟩
theorem chkB_ok {N:Int} {L:List Ct} (h:chkB N L=true):2≤N∧N≤6∧L.length≤24∧∀ c∈L,CtOk N c∧1≤c.Rate∧c.Rate≤4096:=by
 simp only [chkB,Bool.and_eq_true,decide_eq_true_eq] at h
 exact ⟨h.1,h.2.1,h.2.2.1,fun c hc=>okC_ct (chkL_ok _ _ h.2.2.2 c hc)⟩
theorem within_at (k:Nat) (hk:1≤k) (x a b:Int):f36 k x a b=some (.o0 (decide (a≤x)&&decide (x≤b))):=by
 obtain ⟨k,rfl⟩:∃ m,k=m+1:=⟨k - 1,by omega⟩
 by_cases h:a≤x
 ·simp only [f36,f36_e,decide_eq_true (show x≥a from h),decide_eq_true h,cond_true,Bool.true_and]
 ·simp only [f36,f36_e,decide_eq_false (show ¬x≥a from h),decide_eq_false h,cond_false,Bool.false_and]
theorem nat_next {i n:Nat} (h:i<n) (hn:n<4611686018427387904):IntKind.i64.wrap ((i:Int)+1)=((i+1:Nat):Int):=by rw [wrap_i64 (by omega) (by omega)];rfl
section
variable (k:Nat) (N:Int) (L:List Ct)
theorem chk_l3 (x18:List Ct) (x19 x20:Int) (pre:List Ct) (hp:pre.length≤24) (c:Ct):∀ (d j n:Nat),j+d=pre.length→d<n →
 f33_l2_l3 k n x18 x19 x20 pre pre.length j N L c.From c.To c.Start c.End c.Rate c.Delay=cond ((pre.drop j).any fun d=>ovl d c) (some (.o0 230)) (some (.o2 x18 x19 x20 pre pre.length pre.length false N L c.From c.To c.Start c.End c.Rate c.Delay)):=by
 intro d
 induction d with
 | zero =>
  intro j n hj hn
  obtain ⟨n,rfl⟩:∃ m,n=m+1:=⟨n - 1,by omega⟩
  have e3:j=pre.length:=by omega
  subst e3
  simp [f33_l2_l3,f33_l2_l3_b]
 | succ d ih =>
  intro j n hj hn
  obtain ⟨n,rfl⟩:∃ m,n=m+1:=⟨n - 1,by omega⟩
  have h1:j<pre.length:=by omega
  have g1:pre[j]?=some pre[j]:=List.getElem?_eq_getElem h1
  have hlt:((j:Int)<(pre.length:Int)):=by omega
  have hw:=nat_next h1 (by omega)
  have ih':=ih (j+1) n (by omega) (by omega)
  rw [List.drop_eq_getElem_cons h1,List.any_cons]
  simp only [f33_l2_l3,f33_l2_l3_b,f33_l2_l3_j1,f33_l2_l3_j2,decide_eq_true hlt,cond_true,ifE_pos (show (0:Int)≤j by omega),Int.toNat_natCast,g1,Option.bind_some,hw,ovl]
  cases (pre[j].From==c.From)<;>cases (pre[j].To==c.To)<;>cases (decide (pre[j].Start<c.End))<;>cases (decide (c.Start<pre[j].End))<;>simp only [cond_true,cond_false,Option.bind_some,Bool.and_true,Bool.and_false,Bool.true_and,Bool.false_and,Bool.true_or,Bool.false_or,ih',ovl]
theorem chk_l2 (hk:26≤k) (hL:L.length≤24):∀ (d i n:Nat),i+d=L.length→d<n →
 f33_l2 k n L L.length i N L=cond (chkL N (L.take i) (L.drop i)) (some (.o2 L L.length L.length false N L)) (some (.o0 230)):=by
 intro d
 induction d with
 | zero =>
  intro i n hi hn
  obtain ⟨n,rfl⟩:∃ m,n=m+1:=⟨n - 1,by omega⟩
  have e3:i=L.length:=by omega
  subst e3
  simp [f33_l2,f33_l2_b,chkL]
 | succ d ih =>
  intro i n hi hn
  obtain ⟨n,rfl⟩:∃ m,n=m+1:=⟨n - 1,by omega⟩
  have h1:i<L.length:=by omega
  have g1:L[i]?=some L[i]:=List.getElem?_eq_getElem h1
  have hlt:((i:Int)<(L.length:Int)):=by omega
  have hw:=nat_next h1 (by omega)
  have ih':=ih (i+1) n (by omega) (by omega)
  have ht:(L.take i).length=i:=by rw [List.length_take];omega
  have hl3:=chk_l3 k N L L L.length i (L.take i) (by omega) L[i] (L.take i).length 0 k (by omega) (by omega)
  have e0:((0:Nat):Int)=0:=rfl
  rw [e0,List.drop_zero] at hl3
  rw [List.drop_eq_getElem_cons h1,chkL]
  have happ:L.take i++[L[i]]=L.take (i+1):=by rw [List.take_append_getElem]
  rw [happ]
  generalize hc:L[i]=c at *
  simp only [f33_l2,f33_l2_b,f33_l2_j1,decide_eq_true hlt,cond_true,ifE_pos (show (0:Int)≤i by omega),Int.toNat_natCast,g1,Option.bind_some,within_at k (by omega),okC]
  have split:∀ (b:Bool) (X Y Z:Option (R33_l2)),(b=true→X=Z)→(b=false→Y=Z)→cond b X Y=Z:=fun b X Y Z h1 h2=>by cases b;exact h2 rfl;exact h1 rfl
  by_cases a1:1≤c.From
  case neg=>simp [a1]
  by_cases a2:c.From≤N
  case neg=>simp [a1,a2]
  by_cases a3:1≤c.To
  case neg=>simp [a1,a2,a3]
  by_cases a4:c.To≤N
  case neg=>simp [a1,a2,a3,a4]
  by_cases a5:c.From=c.To
  case pos=>simp [a1,a2,a3,a4,a5]
  by_cases a6:0≤c.Start
  case neg=>simp [a1,a2,a3,a4,a5,a6,show c.Start<0 by omega]
  by_cases a7:c.Start<c.End
  case neg=>simp [a1,a2,a3,a4,a5,a6,a7,show c.Start≥c.End by omega]
  by_cases a8:c.End≤1048576
  case neg=>simp [a1,a2,a3,a4,a5,a6,a7,a8,show c.End>1048576 by omega]
  by_cases a9:1≤c.Rate
  case neg=>simp [a1,a2,a3,a4,a5,a6,a7,a8,a9]
  by_cases a10:c.Rate≤4096
  case neg=>simp [a1,a2,a3,a4,a5,a6,a7,a8,a9,a10]
  by_cases a11:0≤c.Delay
  case neg=>simp [a1,a2,a3,a4,a5,a6,a7,a8,a9,a10,a11]
  by_cases a12:c.Delay≤4096
  case neg=>simp [a1,a2,a3,a4,a5,a6,a7,a8,a9,a10,a11,a12]
  have b5:(c.From==c.To)=false:=by simpa using a5
  simp only [decide_eq_true a1,decide_eq_true a2,decide_eq_true a3,decide_eq_true a4,b5,decide_eq_true a6,decide_eq_true a7,decide_eq_true a8,decide_eq_true a9,decide_eq_true a10,decide_eq_true a11,decide_eq_true a12,Bool.and_true,Bool.true_and,Bool.not_true,Bool.not_false,cond_false,decide_eq_false (show ¬c.Start<0 by omega),decide_eq_false (show ¬c.Start≥c.End by omega),decide_eq_false (show ¬c.End>1048576 by omega),f33_l2_j2,ifE_pos (show (0:Int)≤(i:Int) by omega),Int.toNat_natCast,ifE_pos (show i≤L.length by omega),hl3]
  cases ((L.take i).any fun d=>ovl d c)
  ·simp only [cond_false,Option.bind_some,f33_l2_j4,hw,Bool.not_false,Bool.true_and,ih']
  ·simp only [cond_true,Option.bind_some,Bool.not_true,Bool.false_and,cond_false]
theorem check_at (hk:27≤k):f33 k N L=some (.o0 (cond (chkB N L) 0 230)):=by
 obtain ⟨k,rfl⟩:∃ m,k=m+1:=⟨k - 1,by omega⟩
 simp only [f33,f33_e,within_at k (by omega),Option.bind_some,chkB]
 by_cases a1:2≤N
 case neg=>simp [a1]
 by_cases a2:N≤6
 case neg=>simp [a1,a2]
 by_cases a3:L.length≤24
 case neg=>simp [a1,a2,a3,show ((L.length:Int)>24) by omega]
 have hl:=chk_l2 k N L (by omega) a3 L.length 0 k (by omega) (by omega)
 have e0:((0:Nat):Int)=0:=rfl
 rw [e0,List.take_zero,List.drop_zero] at hl
 simp only [decide_eq_true a1,decide_eq_true a2,decide_eq_true a3,Bool.and_true,Bool.true_and,Bool.not_true,cond_false,decide_eq_false (show ¬((L.length:Int)>24) by omega),f33_j1,hl]
 cases chkL N [] L<;>simp only [cond_true,cond_false,Option.bind_some,f33_j3]
end
def LF {α:Type} (l:List α) (f:Int→α):Prop:=l.length=7∧∀ n:Int,0≤n→n<7→l[n.toNat]?=some (f n)
theorem LF.head {α:Type} {l:List α} {f:Int→α} (h:LF l f) {n:Int} (h0:0≤n) (h1:n<7):List.head? (List.drop n.toNat l)=some (f n):=by
 rw [List.head?_drop];exact h.2 n h0 h1
theorem LF.set {α:Type} {l:List α} {f:Int→α} (h:LF l f) {n:Int} (h0:0≤n) (h1:n<7) (x:α):LF (List.take n.toNat l++(x::List.drop (n.toNat+1) l)) (fupd f n x):=by
 have hl:=h.1
 have e:List.take n.toNat l++(x::List.drop (n.toNat+1) l)=l.set n.toNat x:=by
  rw [List.set_eq_take_append_cons_drop,if_pos (by omega)]
 rw [e]
 refine ⟨by simpa using hl,fun m m0 m1 => ?_⟩
 rw [List.getElem?_set]
 by_cases hm:n.toNat=m.toNat
 ·have:n=m:=by omega
  subst this
  rw [if_pos rfl,if_pos (by omega),fupd_same]
 ·rw [if_neg hm,fupd_ne _ _ (by intro q;exact hm (by rw [q]))]
  exact h.2 m m0 m1
theorem LF.rep {α:Type} (x:α):LF (List.replicate 7 x) (fun _=>x):=⟨by simp,fun n h0 h1=>by rw [List.getElem?_replicate,if_pos (by omega)]⟩
theorem arrT_le {N:Int} {c:Ct} (h:CtOk N c) {t:Int} (ht:t<c.End):arrT c t≤1052674:=by
 have:=h.s2;have:=h.e2;have:=h.d2
 unfold arrT;split<;>omega
theorem arr_wrap {N:Int} {c:Ct} (h:CtOk N c) {t:Int} (h0:0≤t) (h1:t≤1099511627776):IntKind.i64.wrap ((IntKind.i64.wrap ((if c.Start>t then c.Start else t)+c.Delay))+(1:Int))=arrT c t:=by
 have:=h.s1;have:=h.s2;have:=h.e2;have:=h.d1;have:=h.d2
 unfold arrT
 have e : -9223372036854775808≤(if c.Start>t then c.Start else t)+c.Delay∧(if c.Start>t then c.Start else t)+c.Delay<9223372036854775807:=by split<;>omega
 rw [wrap_i64 e.1 (by omega),wrap_i64 (by omega) (by omega)]
section
variable {k:Nat} {N need:Int} {L:List Ct} {left:List Int}
theorem rnda_at (hk:1≤k) {i:Nat} {c:Ct} (hc:L[i]?=some c) (h0:0≤c.To) (h1:c.To<7) (t:Int) {e2:List Int} {e3:List Bool} {q:Two} (h2:LF e2 q.1) (h3:LF e3 q.2) :
 ∃ e2' e3',f999999999a k i t N L left need e2 e3=some (.o0 N L left need e2' e3')∧LF e2' (rlx1 c.To t q).1∧LF e3' (rlx1 c.To t q).2:=by
 obtain ⟨k,rfl⟩:∃ m,k=m+1:=⟨k - 1,by omega⟩
 have l2:=h2.1
 have l3:=h3.1
 simp only [f999999999a,f999999999a_e,ifE_pos (show (0:Int)≤(i:Int) by omega),Int.toNat_natCast,hc,Option.bind_some,ifE_pos h0,ifE_pos h1,h3.head h0 h1,h2.head h0 h1]
 unfold rlx1
 cases hk:q.2 c.To with
 | false =>
  simp only [Bool.not_false,cond_true,ifE_pos (show c.To.toNat+1≤e2.length by omega),ifE_pos (show c.To.toNat+1≤e3.length by omega),true_or,if_true]
  exact ⟨_,_,rfl,h2.set h0 h1 t,h3.set h0 h1 true⟩
 | true =>
  simp only [Bool.not_true,cond_false,Bool.true_eq_false,false_or]
  by_cases hlt:t<q.1 c.To
  ·simp only [decide_eq_true hlt,cond_true,ifE_pos (show c.To.toNat+1≤e2.length by omega),ifE_pos (show c.To.toNat+1≤e3.length by omega),if_pos hlt]
   exact ⟨_,_,rfl,h2.set h0 h1 t,h3.set h0 h1 true⟩
  ·simp only [decide_eq_false hlt,cond_false,if_neg hlt]
   exact ⟨_,_,rfl,h2,h3⟩
theorem froma_l1 (hk:1≤k) (hL:∀ c∈L,CtOk N c) (hN:N≤6) (hlen:left.length=L.length) (hl:L.length≤24) {node now:Int} (n0:0≤now) (n1:now≤1099511627776):∀ (d i n:Nat) (e2:List Int) (e3:List Bool) (q:Two),i+d=L.length→d<n→LF e2 q.1→LF e3 q.2 →
 ∃ e2' e3',f55a_l1 k n L L.length i N L left need e2 e3 N L left need node now=some (.o1 L L.length L.length false N L left need e2' e3' N L left need node now)∧LF e2' (relaxL need node now (L.drop i) (left.drop i) q).1∧LF e3' (relaxL need node now (L.drop i) (left.drop i) q).2:=by
 intro d
 induction d with
 | zero =>
  intro i n e2 e3 q hi hn h2 h3
  obtain ⟨n,rfl⟩:∃ m,n=m+1:=⟨n - 1,by omega⟩
  have e3:i=L.length:=by omega
  subst e3
  simp only [f55a_l1,f55a_l1_b,decide_eq_false (show ¬((L.length:Int)<(L.length:Int)) by omega),cond_false,Option.bind_some,List.drop_length,relaxL]
  exact ⟨_,_,rfl,h2,h3⟩
 | succ d ih =>
  intro i n e2 e3 q hi hn h2 h3
  obtain ⟨n,rfl⟩:∃ m,n=m+1:=⟨n - 1,by omega⟩
  have h1:i<L.length:=by omega
  have h1':i<left.length:=by omega
  have g1:L[i]?=some L[i]:=List.getElem?_eq_getElem h1
  have g2:left[i]?=some left[i]:=List.getElem?_eq_getElem h1'
  have hlt:((i:Int)<(L.length:Int)):=by omega
  have hw:=nat_next h1 (by omega)
  have hok:=hL _ (List.getElem_mem h1)
  rw [List.drop_eq_getElem_cons h1,List.drop_eq_getElem_cons h1',relaxL]
  generalize L[i]=c at *
  generalize left[i]=l at *
  have t1:=hok.t1
  have t2:=hok.t2
  obtain ⟨e2',e3',r1,r2,r3⟩:=rnda_at (N:=N) (need:=need) (left:=left) hk g1 (by omega) (by omega) (arrT c now) h2 h3
  have ihA:=ih (i+1) n e2' e3' _ (by omega) (by omega) r2 r3
  have ihB:=ih (i+1) n e2 e3 q (by omega) (by omega) h2 h3
  simp only [f55a_l1,f55a_l1_b,f55a_l1_j1,f55a_l1_j2,decide_eq_true hlt,cond_true,ifE_pos (show (0:Int)≤(i:Int) by omega),Int.toNat_natCast,g1,g2,Option.bind_some,arr_wrap hok n0 n1,hw]
  by_cases c1:c.From=node
  ·simp only [show (c.From==node)=true by simpa using c1,cond_true]
   by_cases c2:need≤l
   ·simp only [decide_eq_true c2,cond_true]
    by_cases c3:now<c.End
    ·simp only [decide_eq_true c3,cond_true,r1,Option.bind_some,if_pos (show c.From=node∧need≤l∧now<c.End from ⟨c1,c2,c3⟩)]
     exact ihA
    ·simp only [decide_eq_false c3,cond_false,Option.bind_some,if_neg (show ¬(c.From=node∧need≤l∧now<c.End) from fun h=>c3 h.2.2)]
     exact ihB
   ·simp only [decide_eq_false c2,cond_false,Option.bind_some,if_neg (show ¬(c.From=node∧need≤l∧now<c.End) from fun h=>c2 h.2.1)]
    exact ihB
  ·simp only [show (c.From==node)=false by simpa using c1,cond_false,Option.bind_some,if_neg (show ¬(c.From=node∧need≤l∧now<c.End) from fun h=>c1 h.1)]
   exact ihB
theorem froma_at (hk:26≤k) (hL:∀ c∈L,CtOk N c) (hN:N≤6) (hlen:left.length=L.length) (hl:L.length≤24) {node now:Int} (n0:0≤now) (n1:now≤1099511627776) {e2:List Int} {e3:List Bool} {q:Two} (h2:LF e2 q.1) (h3:LF e3 q.2) :
 ∃ e2' e3',f55a k N L left need e2 e3 N L left need node now=some (.o0 N L left need e2' e3' N L left need node now)∧LF e2' (relaxL need node now L left q).1∧LF e3' (relaxL need node now L left q).2:=by
 obtain ⟨k,rfl⟩:∃ m,k=m+1:=⟨k - 1,by omega⟩
 obtain ⟨e2',e3',r1,r2,r3⟩:=froma_l1 (k:=k) (need:=need) (by omega) hL hN hlen hl (node:=node) n0 n1 L.length 0 k e2 e3 q (by omega) (by omega) h2 h3
 rw [List.drop_zero,List.drop_zero] at r2 r3
 have e0:((0:Nat):Int)=0:=rfl
 rw [e0] at r1
 simp only [f55a,f55a_e,r1,Option.bind_some]
 exact ⟨_,_,rfl,r2,r3⟩
theorem sel_l (hN:N≤6) (to:Int) {a:List Int} {kn dn:List Bool} {at':Int→Int} {kn' dn':Int→Bool} (ha:LF a at') (hk:LF kn kn') (hd:LF dn dn'):∀ (f n:Nat) (nx:Int) (m:Nat),N+1 - n=f→1≤n→0≤nx→nx≤6→f<m →
 f38_s1_l1_l1 k m to nx n N L left need a kn dn=some (.o1 to (selS N at' kn' dn' f n nx) (N+1) false N L left need a kn dn):=by
 intro f
 induction f with
 | zero =>
  intro n nx m hn h1 x0 x6 hm
  obtain ⟨m,rfl⟩:∃ j,m=j+1:=⟨m - 1,by omega⟩
  have e:(n:Int)=N+1:=by omega
  simp only [f38_s1_l1_l1,f38_s1_l1_l1_b,decide_eq_false (show ¬((n:Int)≤N) by omega),cond_false,Option.bind_some,selS]
  rw [e]
 | succ f ih =>
  intro n nx m hn h1 x0 x6 hm
  obtain ⟨m,rfl⟩:∃ j,m=j+1:=⟨m - 1,by omega⟩
  have hle:(n:Int)≤N:=by omega
  have hw:IntKind.i64.wrap ((n:Int)+1)=((n+1:Nat):Int):=by rw [wrap_i64 (by omega) (by omega)];rfl
  have n0:(0:Int)≤(n:Int):=by omega
  have n7:(n:Int)<7:=by omega
  have ihA:=ih (n+1) n m (by omega) (by omega) (by omega) (by omega) (by omega)
  have ihB:=ih (n+1) nx m (by omega) (by omega) (by omega) (by omega) (by omega)
  have hcast:((n+1:Nat):Int)=(n:Int)+1:=rfl
  rw [hcast] at ihA ihB
  rw [selS,if_pos hle]
  simp only [f38_s1_l1_l1,f38_s1_l1_l1_b,f38_s1_l1_l1_j1,f38_s1_l1_l1_j2,f38_s1_l1_l1_j3,decide_eq_true hle,cond_true,ifE_pos n0,ifE_pos n7,hk.head n0 n7,hd.head n0 n7,ha.head n0 n7,ifE_pos x0,ifE_pos (show nx<7 by omega),ha.head x0 (show nx<7 by omega),Option.bind_some,hw,hcast]
  cases h2:kn' n with
  | false =>
   simp only [cond_false,Option.bind_some,ihB,Bool.false_eq_true,false_and,if_false]
  | true =>
   simp only [cond_true,true_and]
   cases h3:dn' n with
   | true=>simp only [Bool.not_true,cond_false,Option.bind_some,ihB,Bool.true_eq_false,false_and,if_false]
   | false =>
    simp only [Bool.not_false,cond_true,true_and]
    by_cases h4:nx=0
    ·simp only [show (nx==0)=true by simpa using h4,cond_true,Option.bind_some,ihA,if_pos (show nx=0∨at' n<at' nx from .inl h4)]
    ·simp only [show (nx==0)=false by simpa using h4,cond_false,h4,false_or]
     by_cases h5:at' n<at' nx
     ·simp only [decide_eq_true h5,cond_true,Option.bind_some,ihA,if_pos h5]
     ·simp only [decide_eq_false h5,cond_false,Option.bind_some,ihB,if_neg h5]
theorem dij_l (hk:30≤k) (hL:∀ c∈L,CtOk N c) (hN1:1≤N) (hN:N≤6) (hlen:left.length=L.length) (hl:L.length≤24) (to:Int):∀ (f m:Nat) (a:List Int) (kn dn:List Bool) (at':Int→Int) (kn' dn':Int→Bool),mu dn'<f→f≤m→LF a at'→LF kn kn'→LF dn dn'→(∀ n,kn' n=true→0≤at' n∧at' n≤1099511627776) →
 ∃ nx a2 kn2 dn2,f38_s1_l1 k m to N L left need a kn dn=some (.o0 to nx true N L left need a2 kn2 dn2)∧LF a2 (dijS N to need L left f at' kn' dn').1∧LF kn2 (dijS N to need L left f at' kn' dn').2:=by
 intro f
 induction f with
 | zero=>intro m a kn dn at' kn' dn' h;omega
 | succ f ih =>
  intro m a kn dn at' kn' dn' hmu hm ha hkn hdn hb
  obtain ⟨m,rfl⟩:∃ j,m=j+1:=⟨m - 1,by omega⟩
  have hsel:=sel_l (k:=k) (need:=need) (L:=L) (left:=left) hN to ha hkn hdn N.toNat 1 0 k (by omega) (by omega) (by omega) (by omega) (by omega)
  have e1:((1:Nat):Int)=1:=rfl
  rw [e1,show selS N at' kn' dn' N.toNat 1 0=selN N at' kn' dn' from rfl] at hsel
  have hspec:=selN_spec N (by omega) at' kn' dn'
  simp only [f38_s1_l1,f38_s1_l1_b,hsel,Option.bind_some,f38_s1_l1_j2,dijS]
  generalize selN N at' kn' dn'=nx at *
  by_cases h0:nx=0
  ·simp only [show (nx==0)=true by simpa using h0,cond_true,Option.bind_some,if_pos (show nx=0∨nx=to from .inl h0)]
   exact ⟨_,_,_,_,rfl,ha,hkn⟩
  ·simp only [show (nx==0)=false by simpa using h0,cond_false]
   by_cases h1:nx=to
   ·simp only [show (nx==to)=true by simpa using h1,cond_true,Option.bind_some,if_pos (show nx=0∨nx=to from .inr h1)]
    exact ⟨_,_,_,_,rfl,ha,hkn⟩
   ·simp only [show (nx==to)=false by simpa using h1,cond_false,if_neg (show ¬(nx=0∨nx=to) by omega)]
    rcases hspec with ⟨q,_⟩ | ⟨q1,q2,q3,q4,_⟩
    ·exact absurd q h0
    ·have ld:=hdn.1
     obtain ⟨b0,b1⟩:=hb nx q3
     obtain ⟨a2,kn2,r1,r2,r3⟩:=froma_at (k:=k) (need:=need) (node:=nx) (by omega) hL hN hlen hl b0 b1 (q:=(at',kn')) ha hkn
     have hfrom:f37 k N L left need nx (at' nx)=some (.o0 N L left need nx (at' nx)):=by
      obtain ⟨k,rfl⟩:∃ m,k=m+1:=⟨k - 1,by omega⟩
      rfl
     simp only [f38_s1_l1_j3,ifE_pos (show (0:Int)≤nx by omega),ifE_pos (show nx<7 by omega),ifE_pos (show nx.toNat+1≤dn.length by omega),ha.head (show (0:Int)≤nx by omega) (show nx<7 by omega),Option.bind_some,hfrom,r1]
     refine ih m a2 kn2 _ _ _ (fupd dn' nx true) (by have:=mu_upd q1 (by omega) q4;omega) (by omega) r2 r3 (hdn.set (by omega) (by omega) true) fun n hn => ?_
     rcases (relaxL_spec need nx (at' nx) L left (at',kn')).2.2 n with ⟨g1,g2⟩ | ⟨i,c,l,c1,_,_,_,c5,_,c7,_⟩
     ·rw [g2] at hn;rw [g1];exact hb n hn
     ·have hok:=hL _ (List.mem_of_getElem? c1)
      have g1:=arrT_gt hok (at' nx)
      have g2:=arrT_le hok c5
      rw [c7]
      omega
theorem arr_at (hk:40≤k) (hL:∀ c∈L,CtOk N c) (hN1:1≤N) (hN:N≤6) (hlen:left.length=L.length) (hl:L.length≤24) {s to now:Int} (hs1:1≤s) (hs2:s≤N) (ht1:1≤to) (ht2:to≤N) (n0:0≤now) (n1:now≤1052674) :
 ∃ a b,f38 k N L left need s to now=some (.o0 a b)∧(b=true→a=bfN need L left 8 (bf0 s now) to∧a<never)∧(b=false→bfN need L left 8 (bf0 s now) to=never):=by
 obtain ⟨k,rfl⟩:∃ m,k=m+1:=⟨k - 1,by omega⟩
 have d1:=(LF.rep (0:Int)).set (n:=s) (by omega) (by omega) now
 have d2:=(LF.rep false).set (n:=s) (by omega) (by omega) true
 have hm:mu (fun _=>false)<7:=by decide
 obtain ⟨nx,a2,kn2,dn2,r1,r2,r3⟩:=dij_l (k:=k) (need:=need) (by omega) hL hN1 hN hlen hl to 7 k _ _ _ _ _ _ hm (by omega) d1 d2 (LF.rep false) (fun n hn=>by
  by_cases e:n=s
  ·subst e;rw [fupd_same];omega
  ·rw [fupd_ne _ _ e] at hn;cases hn)
 have I:DInv L left need s now N 0 (fupd (fun _=>(0:Int)) s now) (fupd (fun _=>false) s true) (fun _=>false):=by
  refine { start:=⟨fupd_same _ _ _,by rw [fupd_same];exact Int.le_refl _⟩,snd:=fun n hn => ?_,known:=fun n hn=>(by cases hn),rel:=fun n hn=>(by cases hn),mono:=fun d u hd=>(by cases hd),cnt:=by decide }
  by_cases e:n=s
  ·subst e;rw [fupd_same];exact ⟨0,Nat.le_refl _,.base⟩
  ·rw [fupd_ne _ _ e] at hn;cases hn
 have hE:=dijS_spec hL (by omega) hN hs1 hs2 ht1 ht2 7 0 _ _ _ hm I
 have hB:=both hL (by omega) hN _ hE
 generalize dijS N to need L left 7 (fupd (fun _=>(0:Int)) s now) (fupd (fun _=>false) s true) (fun _=>false)=q at *
 simp only [f38,f38_e,f38_s1,f38_s1_b,ifE_pos (show (0:Int)≤s by omega),ifE_pos (show s<7 by omega),ifE_pos (show s.toNat+1≤7 by omega),r1,Option.bind_some,f38_s1_j2,ifE_pos (show (0:Int)≤to by omega),ifE_pos (show to<7 by omega),r2.head (show (0:Int)≤to by omega) (show to<7 by omega),r3.head (show (0:Int)≤to by omega) (show to<7 by omega)]
 refine ⟨_,_,rfl,fun hb=>⟨(hB.1 hb).symm,?_⟩,hB.2⟩
 obtain ⟨j,_,hj⟩:=hE.1 hb
 have:=hj.bound hL (by omega)
 unfold never;omega
def ear (need:Int) (L:List Ct) (left:List Int) (to:Int) (s now:Int):Int:=bfN need L left 8 (bf0 s now) to
def rteL (need node now:Int) (E:Int→Int→Int):List Ct→List Int→Int→Int×Int→Int×Int
 | c::L,l::left,i,q=>rteL need node now E L left (i+1) (if c.From=node∧now<c.End∧need≤l∧E c.To (arrT c now)<q.2 then (i,E c.To (arrT c now)) else q)
 | _,_,_,q=>q
def Rel (first best:Int) (q:Int×Int):Prop:=first=q.1∧(q.1<0→q.2=never)∧(0≤q.1→best=q.2)∧q.2≤never
theorem rndr_at (hk:41≤k) (hL:∀ c∈L,CtOk N c) (hN1:1≤N) (hN:N≤6) (hlen:left.length=L.length) (hl:L.length≤24) {i:Nat} {c:Ct} (hc:L[i]?=some c) {to now first best:Int} {q:Int×Int} (ht1:1≤to) (ht2:to≤N) (n0:0≤now) (n1:now<c.End) (hq:Rel first best q) :
 ∃ f2 b2,f999999999b k i (arrT c now) N L to N L left need first best=some (.o0 N L to N L left need f2 b2)∧Rel f2 b2 (if ear need L left to c.To (arrT c now)<q.2 then ((i:Int),ear need L left to c.To (arrT c now)) else q):=by
 obtain ⟨k,rfl⟩:∃ m,k=m+1:=⟨k - 1,by omega⟩
 have hok:=hL _ (List.mem_of_getElem? hc)
 have gt:=arrT_gt hok now
 have:=hok.s2;have:=hok.e2;have:=hok.d2
 have hb:arrT c now≤1052674:=by unfold arrT;split<;>omega
 obtain ⟨a,b,r1,r2,r3⟩:=arr_at (k:=k) (need:=need) (by omega) hL hN1 hN hlen hl hok.t1 hok.t2 ht1 ht2 (now:=arrT c now) (by omega) hb
 obtain ⟨q1,q2,q3,q4⟩:=hq
 simp only [f999999999b,f999999999b_e,ifE_pos (show (0:Int)≤(i:Int) by omega),Int.toNat_natCast,hc,Option.bind_some,r1]
 cases b with
 | false =>
  have e3:ear need L left to c.To (arrT c now)=never:=r3 rfl
  simp only [cond_false,e3,if_neg (show ¬never<q.2 by omega)]
  exact ⟨_,_,rfl,q1,q2,q3,q4⟩
 | true =>
  obtain ⟨e1,e2⟩:=r2 rfl
  have e3:ear need L left to c.To (arrT c now)=a:=e1.symm
  simp only [cond_true,e3]
  by_cases h:first<0
  ·have:=q2 (by omega)
   simp only [decide_eq_true h,cond_true,if_pos (show a<q.2 by omega)]
   exact ⟨_,_,rfl,rfl,fun h=>by simp at h;omega,fun _=>rfl,by simp only;omega⟩
  ·have:=q3 (by omega)
   simp only [decide_eq_false h,cond_false]
   by_cases h2:a<best
   ·simp only [decide_eq_true h2,cond_true,if_pos (show a<q.2 by omega)]
    exact ⟨_,_,rfl,rfl,fun h=>by simp at h;omega,fun _=>rfl,by simp only;omega⟩
   ·simp only [decide_eq_false h2,cond_false,if_neg (show ¬a<q.2 by omega)]
    exact ⟨_,_,rfl,q1,q2,q3,q4⟩
theorem fromr_l1 (hk:41≤k) (hL:∀ c∈L,CtOk N c) (hN1:1≤N) (hN:N≤6) (hlen:left.length=L.length) (hl:L.length≤24) {node to now:Int} (ht1:1≤to) (ht2:to≤N) (n0:0≤now) (n1:now≤1099511627776):∀ (d i n:Nat) (first best:Int) (q:Int×Int),i+d=L.length→d<n→Rel first best q →
 ∃ f2 b2,f55b_l1 k n L L.length i N L to N L left need first best N L left need node now=some (.o1 L L.length L.length false N L to N L left need f2 b2 N L left need node now)∧Rel f2 b2 (rteL need node now (ear need L left to) (L.drop i) (left.drop i) i q):=by
 intro d
 induction d with
 | zero =>
  intro i n first best q hi hn hq
  obtain ⟨n,rfl⟩:∃ m,n=m+1:=⟨n - 1,by omega⟩
  have e3:i=L.length:=by omega
  subst e3
  simp only [f55b_l1,f55b_l1_b,decide_eq_false (show ¬((L.length:Int)<(L.length:Int)) by omega),cond_false,Option.bind_some,List.drop_length,rteL]
  exact ⟨_,_,rfl,hq⟩
 | succ d ih =>
  intro i n first best q hi hn hq
  obtain ⟨n,rfl⟩:∃ m,n=m+1:=⟨n - 1,by omega⟩
  have h1:i<L.length:=by omega
  have h1':i<left.length:=by omega
  have g1:L[i]?=some L[i]:=List.getElem?_eq_getElem h1
  have g2:left[i]?=some left[i]:=List.getElem?_eq_getElem h1'
  have hlt:((i:Int)<(L.length:Int)):=by omega
  have hw:=nat_next h1 (by omega)
  have hok:=hL _ (List.getElem_mem h1)
  have hcast:((i+1:Nat):Int)=(i:Int)+1:=rfl
  rw [List.drop_eq_getElem_cons h1,List.drop_eq_getElem_cons h1',rteL]
  generalize L[i]=c at *
  generalize left[i]=l at *
  have ihB:=ih (i+1) n first best q (by omega) (by omega) hq
  rw [hcast] at ihB hw
  simp only [f55b_l1,f55b_l1_b,f55b_l1_j1,f55b_l1_j2,decide_eq_true hlt,cond_true,ifE_pos (show (0:Int)≤(i:Int) by omega),Int.toNat_natCast,g1,g2,Option.bind_some,arr_wrap hok n0 n1,hw]
  by_cases c1:c.From=node
  ·simp only [show (c.From==node)=true by simpa using c1,cond_true]
   by_cases c2:need≤l
   ·simp only [decide_eq_true c2,cond_true]
    by_cases c3:now<c.End
    ·obtain ⟨f2,b2,r1,r2⟩:=rndr_at (need:=need) (left:=left) hk hL hN1 hN hlen hl g1 ht1 ht2 n0 c3 hq
     simp only [decide_eq_true c3,cond_true,r1,Option.bind_some]
     have ihA:=ih (i+1) n f2 b2 _ (by omega) (by omega) r2
     rw [hcast] at ihA
     by_cases c4:ear need L left to c.To (arrT c now)<q.2
     ·rw [if_pos c4] at ihA
      rw [if_pos (show c.From=node∧now<c.End∧need≤l∧ear need L left to c.To (arrT c now)<q.2 from ⟨c1,c3,c2,c4⟩)]
      exact ihA
     ·rw [if_neg c4] at ihA
      rw [if_neg (show ¬(c.From=node∧now<c.End∧need≤l∧ear need L left to c.To (arrT c now)<q.2) from fun h=>c4 h.2.2.2)]
      exact ihA
    ·simp only [decide_eq_false c3,cond_false,Option.bind_some,if_neg (show ¬(c.From=node∧now<c.End∧need≤l∧ear need L left to c.To (arrT c now)<q.2) from fun h=>c3 h.2.1)]
     exact ihB
   ·simp only [decide_eq_false c2,cond_false,Option.bind_some,if_neg (show ¬(c.From=node∧now<c.End∧need≤l∧ear need L left to c.To (arrT c now)<q.2) from fun h=>c2 h.2.2.1)]
    exact ihB
  ·simp only [show (c.From==node)=false by simpa using c1,cond_false,Option.bind_some,if_neg (show ¬(c.From=node∧now<c.End∧need≤l∧ear need L left to c.To (arrT c now)<q.2) from fun h=>c1 h.1)]
   exact ihB
theorem rteL_rel {need node now:Int} {E:Int→Int→Int}:∀ (L:List Ct) (left:List Int) (i:Int) (q:Int×Int),0≤i→(q.1<0∨q.1<i) → -1≤q.1→(-1≤(rteL need node now E L left i q).1∧(rteL need node now E L left i q).1<max 0 (i+L.length))
 | [],left,i,q,h0,h1,h2=>by simp only [rteL,List.length_nil];omega
 | c::L,[],i,q,h0,h1,h2=>by simp only [rteL,List.length_cons];omega
 | c::L,l::left,i,q,h0,h1,h2=>by
  simp only [rteL,List.length_cons]
  have:=rteL_rel (need:=need) (node:=node) (now:=now) (E:=E) L left (i+1) (if c.From=node∧now<c.End∧need≤l∧E c.To (arrT c now)<q.2 then (i,E c.To (arrT c now)) else q) (by omega) (by split<;>(try simp only)<;>omega) (by split<;>(try simp only)<;>omega)
  omega
theorem neg_at (k:Nat) (hk:1≤k) (n:Int):f35 k n=some (.o0 (decide (n<0))):=by
 obtain ⟨k,rfl⟩:∃ m,k=m+1:=⟨k - 1,by omega⟩
 rfl
theorem idx_l (k:Nat) (hk:1≤k) (l:List Int) (hl:l.length<4611686018427387904):∀ (d i n:Nat),i+d=l.length→d<n →
 (((l.drop i).any fun x=>decide (x<0))=true→∃ j:Nat,f54a_l1 k n l l.length i=some (.o0 j))∧(((l.drop i).any fun x=>decide (x<0))=false→f54a_l1 k n l l.length i=some (.o2 l l.length l.length false)):=by
 intro d
 induction d with
 | zero =>
  intro i n hi hn
  obtain ⟨n,rfl⟩:∃ m,n=m+1:=⟨n - 1,by omega⟩
  have e3:i=l.length:=by omega
  subst e3
  simp only [f54a_l1,f54a_l1_b,decide_eq_false (show ¬((l.length:Int)<(l.length:Int)) by omega),cond_false,Option.bind_some,List.drop_length,List.any_nil]
  exact ⟨fun h=>(by cases h),fun _=>trivial⟩
 | succ d ih =>
  intro i n hi hn
  obtain ⟨n,rfl⟩:∃ m,n=m+1:=⟨n - 1,by omega⟩
  have h1:i<l.length:=by omega
  have g1:l[i]?=some l[i]:=List.getElem?_eq_getElem h1
  have hlt:((i:Int)<(l.length:Int)):=by omega
  have hw:=nat_next h1 (by omega)
  have ih':=ih (i+1) n (by omega) (by omega)
  rw [List.drop_eq_getElem_cons h1,List.any_cons]
  simp only [f54a_l1,f54a_l1_b,f54a_l1_j1,f54a_l1_j2,decide_eq_true hlt,cond_true,ifE_pos (show (0:Int)≤(i:Int) by omega),Int.toNat_natCast,g1,Option.bind_some,neg_at k hk,hw]
  cases decide (l[i]<0)
  ·simp only [cond_false,Bool.false_or,Option.bind_some];exact ih'
  ·simp only [cond_true,Bool.true_or,Option.bind_some]
   exact ⟨fun _=>⟨i,rfl⟩,fun h=>(by cases h)⟩
theorem cont_at (k:Nat) (l:List Int) (hk:l.length+3≤k) (hl:l.length<4611686018427387904):f34a k l=some (.o0 (l.any fun x=>decide (x<0))):=by
 obtain ⟨k,rfl⟩:∃ m,k=m+1:=⟨k - 1,by omega⟩
 obtain ⟨k,rfl⟩:∃ m,k=m+1:=⟨k - 1,by omega⟩
 have h:=idx_l k (by omega) l hl l.length 0 k (by omega) (by omega)
 rw [List.drop_zero] at h
 have e0:((0:Nat):Int)=0:=rfl
 rw [e0] at h
 simp only [f34a,f34a_e,f54a,f54a_e]
 cases hb:l.any fun x=>decide (x<0) with
 | true =>
  obtain ⟨j,hj⟩:=h.1 hb
  simp only [hj,Option.bind_some,decide_eq_true (show (j:Int)≥0 by omega)]
 | false =>
  simp only [h.2 hb,Option.bind_some,f54a_j2]
  rfl
def askB (N:Int) (L:List Ct) (left:List Int) (s to now need:Int):Bool:=decide (left.length=L.length)&&(!(left.any fun x=>decide (x<0))&&(!(decide (need<0))&&(!(s==to)&&(decide (1≤s)&&(decide (s≤N)&&(decide (1≤to)&&(decide (to≤N)&&(decide (0≤now)&&decide (now≤1048576)))))))))
def rte (L:List Ct) (left:List Int) (s to now need:Int):Int×Int:=rteL need s now (ear need L left to) L left 0 (-1,never)
theorem route_at (k:Nat) (N:Int) (L:List Ct) (left:List Int) (s to now need:Int) (hk:100≤k) (hk2:left.length+6≤k) (hl:left.length<4611686018427387904):f14 k N L left s to now need =
 some (cond (chkB N L) (cond (askB N L left s to now need) (if (rte L left s to now need).1<0 then .o0 0 0 4 else .o0 (rte L left s to now need).1 (rte L left s to now need).2 0) (.o0 0 0 2)) (.o0 0 0 230)):=by
 obtain ⟨k,rfl⟩:∃ m,k=m+1:=⟨k - 1,by omega⟩
 simp only [f14,f14_e,check_at k N L (by omega),Option.bind_some]
 cases hc:chkB N L with
 | false=>rfl
 | true =>
  obtain ⟨b1,b2,b3,b4⟩:=chkB_ok hc
  have hL:∀ c∈L,CtOk N c:=fun c h=>(b4 c h).1
  simp only [cond_true,show ((0:Int) != 0)=false from rfl,cond_false,f14_j1,askB]
  by_cases a1:left.length=L.length
  case neg=>simp [a1,show ((left.length:Int) != (L.length:Int))=true by simp;omega]
  simp only [show ((left.length:Int) != (L.length:Int))=false by simp;omega,cond_false,cont_at k left (by omega) hl,Option.bind_some,decide_eq_true a1,Bool.true_and]
  cases a2:left.any fun x=>decide (x<0) with
  | true=>rfl
  | false =>
  simp only [cond_false,Bool.not_false,Bool.true_and]
  by_cases a3:need<0
  case pos=>simp [a3]
  simp only [decide_eq_false a3,cond_false,Bool.not_false,Bool.true_and]
  by_cases a4:s=to
  case pos=>simp [a4]
  simp only [show (s==to)=false by simpa using a4,cond_false,Bool.not_false,Bool.true_and,within_at k (by omega),Option.bind_some]
  by_cases a5:1≤s
  case neg=>simp [a5]
  by_cases a6:s≤N
  case neg=>simp [a5,a6]
  by_cases a7:1≤to
  case neg=>simp [a5,a6,a7]
  by_cases a8:to≤N
  case neg=>simp [a5,a6,a7,a8]
  by_cases a9:0≤now
  case neg=>simp [a5,a6,a7,a8,a9]
  by_cases a10:now≤1048576
  case neg=>simp [a5,a6,a7,a8,a9,a10]
  simp only [decide_eq_true a5,decide_eq_true a6,decide_eq_true a7,decide_eq_true a8,decide_eq_true a9,decide_eq_true a10,Bool.and_true,Bool.not_true,cond_false,cond_true,f14_j2]
  have hfrom:f37 k N L left need s now=some (.o0 N L left need s now):=by
   obtain ⟨k,rfl⟩:∃ m,k=m+1:=⟨k - 1,by omega⟩
   rfl
  have hr0:Rel (-1) 0 ((-1:Int),never):=⟨rfl,fun _=>rfl,fun h=>by simp at h,Int.le_refl _⟩
  have hfr:∃ f2 b2,f55b k N L to N L left need (-1) 0 N L left need s now=some (.o0 N L to N L left need f2 b2 N L left need s now)∧Rel f2 b2 (rte L left s to now need):=by
   obtain ⟨k,rfl⟩:∃ m,k=m+1:=⟨k - 1,by omega⟩
   obtain ⟨f2,b2,r1,r2⟩:=fromr_l1 (k:=k) (need:=need) (node:=s) (by omega) hL (by omega) b2 a1 b3 a7 a8 a9 (by omega) L.length 0 k (-1) 0 (-1,never) (by omega) (by omega) hr0
   rw [List.drop_zero,List.drop_zero] at r2
   have e0:((0:Nat):Int)=0:=rfl
   rw [e0] at r1 r2
   simp only [f55b,f55b_e,r1,Option.bind_some]
   exact ⟨_,_,rfl,r2⟩
  obtain ⟨f2,b2',r1,q1,q2,q3,q4⟩:=hfr
  have e0:((0:Nat):Int)=0:=rfl
  simp only [hfrom,r1,Option.bind_some,f14_j3,f14_j4]
  by_cases h:f2<0
  ·simp only [decide_eq_true h,cond_true,if_pos (show (rte L left s to now need).1<0 by omega)]
  ·simp only [decide_eq_false h,cond_false]
   rw [if_neg (show ¬(rte L left s to now need).1<0 by omega),q1,q3 (by omega)]
end
end Go.Proofs.YtiompmmbjpjjeaaDoorV