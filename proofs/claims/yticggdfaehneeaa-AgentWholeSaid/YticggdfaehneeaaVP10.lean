/- What the program's functions answer: plain functions,and that the interpreter answers what they do. Written by a program of this session,out of the translation. -/
import Derived.Test.YticggdfaehneeaaVP9
namespace Go.Proofs.YticggdfaehneeaaV
open Go
set_option linter.unusedVariables false
set_option linter.unusedSimpArgs false
set_option maxRecDepth 8000
set_option maxHeartbeats 4000000
-- f56: f56 heliograph/pieces.Join
inductive R56 where
 | o0 (y c d e f g h i j l:Int) (a:List Int) (b:Int)
 | o1 (y c d e f g h i j l a:Int) (b:List Int)
noncomputable def R56.st:R56→V×List O×List O
 | .o0 y c d e f g h i j l a b=>(V.tup [.agg [jI y,jI c,jU d,jI e,jI f,jI g,jI h,jI i,jI j,jI l,.sl 1 (rowsOf (encI .u8) a)],jI b],[],[])
 | .o1 y c d e f g h i j l a b=>(V.tup [.agg [jI y,jI c,jU d,jI e,jI f,jI g,jI h,jI i,jI j,jI l,.own 2000000],jI a],[],[.row true 1 5 (rowsOf (encI .u8) b)])
inductive R56_l2 where
 | o0 (y:List T39) (s t u v w x z k r a b c:Int) (d:List Int) (e f g h i j l m o p:Int) (q:List Int)
 | o1 (y:List T39) (s t:Int) (u:Bool) (v w x z k r a b c d:Int) (e:List Int) (f g h i j l m o p q:Int) (n:List Int)
noncomputable def R56_l2.st:R56_l2→Out×St
 | .o0 y s t u v w x z k r a b c d e f g h i j l m o p q=>(.norm,(⟨47,[(2,.ptr 30000 0),(7,.ptr 30001 0),(33,.sl 11 (rowsOf encT39 y)),(34,jI s),(35,jI t)],[(30000,.box 39 [jI u,jI v,jU w,jI x,jI z,jI k,jI r,jI a,jI b,jI c,.sl 1 (rowsOf (encI .u8) d)]),(30001,.box 39 [jI e,jI f,jU g,jI h,jI i,jI j,jI l,jI m,jI o,jI p,.sl 1 (rowsOf (encI .u8) q)])]⟩:St))
 | .o1 y s t u v w x z k r a b c d e f g h i j l m o p q n=>(.exit 1,(⟨47,[(2,.ptr 30000 0),(7,.ptr 30001 0),(33,.sl 11 (rowsOf encT39 y)),(34,jI s),(35,jI t),(36,.p (.bool u))],[(30000,.box 39 [jI v,jI w,jU x,jI z,jI k,jI r,jI a,jI b,jI c,jI d,.sl 1 (rowsOf (encI .u8) e)]),(30001,.box 39 [jI f,jI g,jU h,jI i,jI j,jI l,jI m,jI o,jI p,jI q,.sl 1 (rowsOf (encI .u8) n)])]⟩:St))
noncomputable def f56_l2_j2 (k:Nat) (x:List T39) (y z r c d e f g h i j l:Int) (a:List Int) (n m o p q s t u v w:Int) (b:List Int):Option R56_l2 :=
 some (.o0 x y (IntKind.i64.wrap (z+(1:Int))) r c d e f g h i j l a n m o p q s t u v w b)
theorem f56_l2_j2_ok (k x y z n c d e f g h i j l a aa m o p q s t u v w b r) (hF:f56_l2_j2 k x y z n c d e f g h i j l a aa m o p q s t u v w b=some r):EX 56 k (nav B56 [2,2,2,1,2,2,1,2,2,2,2,2]) (⟨47,[(2,.ptr 30000 0),(7,.ptr 30001 0),(33,.sl 11 (rowsOf encT39 x)),(34,jI y),(35,jI z)],[(30000,.box 39 [jI n,jI c,jU d,jI e,jI f,jI g,jI h,jI i,jI j,jI l,.sl 1 (rowsOf (encI .u8) a)]),(30001,.box 39 [jI aa,jI m,jU o,jI p,jI q,jI s,jI t,jI u,jI v,jI w,.sl 1 (rowsOf (encI .u8) b)])]⟩:St)=some r.st:=by
 unfold f56_l2_j2 at hF
 cases hF
 simp (disch:=first|apply D;decide|apply K;kernel_rfl) only [E,EE,↓reduceIte,simprocAttr,rg B56 [2,2,2,1,2,2,1,2,2,2,2,2] 12 false rfl,hr 56 12 rfl,R56_l2.st]
noncomputable def f56_l2_j1 (k:Nat) (y:List T39) (z d:Int) (ab:Bool) (r e f g h i j l m o:Int) (b:List Int) (n p q s t u a v w x:Int) (c:List Int):Option R56_l2 :=
 ifE ((0:Int)≤d) (
  Option.bind (y[(Int.toNat d)]?) fun v2 =>
   f56_l2_j2 k y z d r e f g h i j l m o b n p q s t u (if v2.Hops>a then v2.Hops else a) v w x c)
theorem f56_l2_j1_ok (k x y z ac n d e f g h i j l m a aa o p q s t b u v w c r) (hF:f56_l2_j1 k x y z ac n d e f g h i j l m a aa o p q s t b u v w c=some r):EX 56 k (nav B56 [2,2,1,2,2,1,2,2,2,2,2]) (⟨47,[(2,.ptr 30000 0),(7,.ptr 30001 0),(33,.sl 11 (rowsOf encT39 x)),(34,jI y),(35,jI z),(36,.p (.bool ac))],[(30000,.box 39 [jI n,jI d,jU e,jI f,jI g,jI h,jI i,jI j,jI l,jI m,.sl 1 (rowsOf (encI .u8) a)]),(30001,.box 39 [jI aa,jI o,jU p,jI q,jI s,jI t,jI b,jI u,jI v,jI w,.sl 1 (rowsOf (encI .u8) c)])]⟩:St)=some r.st:=by
 unfold f56_l2_j1 at hF
 obtain ⟨h1,hF⟩:=ifE_some.1 hF
 obtain ⟨v2,h3,hF⟩:=bs hF
 have hJ:=f56_l2_j2_ok k x y z n d e f g h i j l m a aa o p q s t (if v2.Hops>b then v2.Hops else b) u v w c _ hF
 simp (disch:=first|apply D;decide|apply K;kernel_rfl) only [E,EE,↓reduceIte,simprocAttr,xk B56 [2,2,1,2,2,1,2,2,2,2,2] .sq rfl,xk B56 [1,2,2,1,2,2,1,2,2,2,2,2] (.bk 2) rfl,xk B56 [2,1,2,2,1,2,2,1,2,2,2,2,2] .sq rfl,rg B56 [1,2,1,2,2,1,2,2,1,2,2,2,2,2] 10 false rfl,hr 56 10 rfl,indexAddrV,t_24,t_39,encT39_eq,rg B56 [2,2,1,2,2,1,2,2,1,2,2,2,2,2] 11 false rfl,hr 56 11 rfl,fieldAddrV,t_3,minmaxV,minmaxGo,h1,h3]
 try simp only [NM,EE] at hJ
 exact hJ
noncomputable def f56_l2_b (k:Nat) (z:List T39) (x y r c d e f g h i j l:Int) (a:List Int) (n m o p q s t u v w:Int) (b:List Int):Option R56_l2 :=
 cond ((decide (y<x)))
  (f56_l2_j1 k z x y true r c d e f g h i j l a n m o p q s t u v w b)
  (some (.o1 z x y false r c d e f g h i j l a n m o p q s t u v w b))
theorem f56_l2_b_ok (k x y z n c d e f g h i j l a aa m o p q s t u v w b r) (hF:f56_l2_b k x y z n c d e f g h i j l a aa m o p q s t u v w b=some r):EX 56 k (nav B56 [1,2,2,1,2,2,2,2,2]) (⟨47,[(2,.ptr 30000 0),(7,.ptr 30001 0),(33,.sl 11 (rowsOf encT39 x)),(34,jI y),(35,jI z)],[(30000,.box 39 [jI n,jI c,jU d,jI e,jI f,jI g,jI h,jI i,jI j,jI l,.sl 1 (rowsOf (encI .u8) a)]),(30001,.box 39 [jI aa,jI m,jU o,jI p,jI q,jI s,jI t,jI u,jI v,jI w,.sl 1 (rowsOf (encI .u8) b)])]⟩:St)=some r.st:=by
 unfold f56_l2_b at hF
 simp (disch:=first|apply D;decide|apply K;kernel_rfl) only [E,EE,↓reduceIte,simprocAttr,xk B56 [1,2,2,1,2,2,2,2,2] .sq rfl,rg B56 [1,1,2,2,1,2,2,2,2,2] 9 false rfl,hr 56 9 rfl,xk B56 [2,1,2,2,1,2,2,2,2,2] .sq rfl,xk B56 [1,2,1,2,2,1,2,2,2,2,2] (.cd 36) rfl]
 rcases cond_some hF with ⟨h1,hF⟩ | ⟨h1,hF⟩
 ·have hJ:=f56_l2_j1_ok k x y z true n c d e f g h i j l a aa m o p q s t u v w b _ hF
  simp (disch:=first|apply D;decide|apply K;kernel_rfl) only [E,EE,↓reduceIte,simprocAttr,xk B56 [2,1,2,1,2,2,1,2,2,2,2,2] .sk rfl,h1]
  try simp only [NM,EE] at hJ
  exact hJ
 ·cases hF
  simp (disch:=first|apply D;decide|apply K;kernel_rfl) only [E,EE,↓reduceIte,simprocAttr,xk B56 [3,1,2,1,2,2,1,2,2,2,2,2] (.ex 1) rfl,R56_l2.st,h1]
noncomputable def f56_l2 (k:Nat):Nat→(List T39)→Int→Int→Int→Int→Int→Int→Int→Int→Int→Int→Int→Int→(List Int)→Int→Int→Int→Int→Int→Int→Int→Int→Int→Int→(List Int)→Option R56_l2
 | 0,_,_,_,_,_,_,_,_,_,_,_,_,_,_,_,_,_,_,_,_,_,_,_,_,_=>none
 | n+1,az,a0,a1,a2,v,w,x,z,r,aa,ab,ac,ad,t,a3,ae,af,ag,ah,ai,aj,ak,al,am,u=>Option.bind (f56_l2_b k az a0 a1 a2 v w x z r aa ab ac ad t a3 ae af ag ah ai aj ak al am u) fun o =>
  match o with
  | .o0 y an ao ap aq ar au av aw ax a b c d e f g h i j l m p q s=>f56_l2 k n y an ao ap aq ar au av aw ax a b c d e f g h i j l m p q s
  | .o1 y an ao ap aq ar au av aw ax a b c d e f g h i j l m p q s ay=>some (.o1 y an ao ap aq ar au av aw ax a b c d e f g h i j l m p q s ay)
theorem f56_l2_ok (k n:Nat):∀ (aa:List T39) (ab ac ad c d e f g i j l m:Int) (a:List Int) (ae p q s t u v w x z:Int) (b:List Int) (r:R56_l2) (hF:f56_l2 k n aa ab ac ad c d e f g i j l m a ae p q s t u v w x z b=some r) (σ:St) (hσ:headR (hints.head 56 9) (hints.canon 56 9) σ=some (⟨47,[(2,.ptr 30000 0),(7,.ptr 30001 0),(33,.sl 11 (rowsOf encT39 aa)),(34,jI ab),(35,jI ac)],[(30000,.box 39 [jI ad,jI c,jU d,jI e,jI f,jI g,jI i,jI j,jI l,jI m,.sl 1 (rowsOf (encI .u8) a)]),(30001,.box 39 [jI ae,jI p,jU q,jI s,jI t,jI u,jI v,jI w,jI x,jI z,.sl 1 (rowsOf (encI .u8) b)])]⟩:St)),LP 56 k (nav B56 [1,2,2,1,2,2,2,2,2]) n σ=some r.st:=by
 induction n with
 | zero=>intro aa ab ac ad c d e f g i j l m a ae p q s t u v w x z b r hF;cases hF
 | succ n ih =>
  intro aa ab ac ad c d e f g i j l m a ae p q s t u v w x z b r hF σ hσ
  rw [f56_l2] at hF
  obtain ⟨o,h,hF⟩:=Option.bind_eq_some_iff.1 hF
  have hB:=f56_l2_b_ok k aa ab ac ad c d e f g i j l m a ae p q s t u v w x z b o h
  unfold LP at ih ⊢
  unfold EX at hB
  rw [loopK_succ,show firstReg (nav B56 [1,2,2,1,2,2,2,2,2])=9 from rfl,hσ,headK_some,hB]
  cases o with
  | o0 y ax ay az a0 a1 a2 a3 a4 a5 ag ah ai aj ak al am an ao ap aq ar au av aw =>
   refine ih y ax ay az a0 a1 a2 a3 a4 a5 ag ah ai aj ak al am an ao ap aq ar au av aw r hF _ ?_
   simp (disch:=first|apply D;decide|apply K;kernel_rfl) only [E,EE,↓reduceIte,simprocAttr,hh_56_9,hc_56_9]
  | o1 y ax ay az a0 a1 a2 a3 a4 a5 ag ah ai aj ak al am an ao ap aq ar au av aw a7=>cases hF;rfl
noncomputable def f56_j3 (k:Nat) (y:List T39) (z r:Int) (n:Bool) (aa m o p q s t u v w:Int) (l:List Int) (x b c d e f g h i j:Int) (a:List Int):Option R56 :=
 some (.o0 x b c d e f g h i j a 0)
theorem f56_j3_ok (k x y z n aa c d e f g h i j l a ab m o p q s t u v w b r) (hF:f56_j3 k x y z n aa c d e f g h i j l a ab m o p q s t u v w b=some r):finK Try.prog Try.f56 0 (EX 56 k (nav B56 [2,2,2,2,2,2]) (⟨47,[(2,.ptr 30000 0),(7,.ptr 30001 0),(33,.sl 11 (rowsOf encT39 x)),(34,jI y),(35,jI z),(36,.p (.bool n))],[(30000,.box 39 [jI aa,jI c,jU d,jI e,jI f,jI g,jI h,jI i,jI j,jI l,.sl 1 (rowsOf (encI .u8) a)]),(30001,.box 39 [jI ab,jI m,jU o,jI p,jI q,jI s,jI t,jI u,jI v,jI w,.sl 1 (rowsOf (encI .u8) b)])]⟩:St))=some r.st:=by
 unfold f56_j3 at hF
 cases hF
 simp (disch:=first|apply D;decide|apply K;kernel_rfl) only [E,EE,↓reduceIte,simprocAttr,xk B56 [2,2,2,2,2,2] .sq rfl,rg B56 [1,2,2,2,2,2,2] 13 false rfl,hr 56 13 rfl,t_39,xk B56 [2,2,2,2,2,2,2] .rt rfl,fin56,R56.st]
noncomputable def f56_j1 (k:Nat) (m:List T39) (x5:List Int) (ak:Bool) (m2 c d e f g h i j l:Int) (b:List Int):Option R56 :=
 Option.bind (m[0]?) fun a =>
  Option.bind (f56_l2 k k m ((List.length m):Int) 0 m2 c d e f g h i j l b a.Source a.Dest a.Seq a.Created a.Lifetime a.HopLimit a.Hops a.Priority 0 a.Total x5) fun o3 =>
   match o3 with
   | .o0 _ _ _ _ _ _ _ _ _ _ _ _ _ _ _ _ _ _ _ _ _ _ _ _ _ =>
    none
   | .o1 v6 v7 v8 v9 o p q s t u v w x y z r n aa ab ac ad ae af ag ah ai =>
    f56_j3 k v6 v7 v8 v9 o p q s t u v w x y z r n aa ab ac ad ae af ag ah ai
theorem f56_j1_ok (k q s p t b c d e f g h i j a r) (l:f56_j1 k q s p t b c d e f g h i j a=some r):finK Try.prog Try.f56 0 (EX 56 k (nav B56 [2,2,2]) (⟨47,[(0,.sl 11 (rowsOf encT39 q)),(2,.ptr 2 0),(5,.sl 1 (rowsOf (encI .u8) s)),(21,.p (.bool p))],[(2,.box 39 [jI t,jI b,jU c,jI d,jI e,jI f,jI g,jI h,jI i,jI j,.sl 1 (rowsOf (encI .u8) a)])]⟩:St))=some r.st:=by
 unfold f56_j1 at l
 obtain ⟨m,u,l⟩:=bs l
 obtain ⟨o3,h4,l⟩:=bs l
 have o:=f56_l2_ok k k q ((List.length q):Int) 0 t b c d e f g h i j a m.Source m.Dest m.Seq m.Created m.Lifetime m.HopLimit m.Hops m.Priority 0 m.Total s _ h4
 simp (disch:=first|apply D;decide|apply K;kernel_rfl) only [E,EE,↓reduceIte,simprocAttr,xk B56 [2,2,2] .sq rfl,rg B56 [1,2,2,2] 6 false rfl,hr 56 6 rfl,indexAddrV,t_24,t_39,encT39_eq,xk B56 [2,2,2,2] .sq rfl,rg B56 [1,2,2,2,2] 7 false rfl,hr 56 7 rfl,fieldAddrV,t_3,t_29,xk B56 [2,2,2,2,2] .sq rfl,xk B56 [1,2,2,2,2,2] .sq rfl,rg B56 [1,1,2,2,2,2,2] 8 false rfl,hr 56 8 rfl,xk B56 [2,1,2,2,2,2,2] (.bk 1) rfl,xk B56 [2,2,1,2,2,2,2,2] .lp rfl,hh_56_9,hc_56_9,u]
 (try simp only [NM,EE] at o)
 rw [o _ (by simp (disch:=first|apply D;decide|apply K;kernel_rfl) only [E,EE,↓reduceIte,simprocAttr,hh_56_9,hc_56_9,u])]
 clear o
 cases o3 with
 | o0 _ _ _ _ _ _ _ _ _ _ _ _ _ _ _ _ _ _ _ _ _ _ _ _ _ =>
  (try dsimp only at l)
  cases l
 | o1 v6 v7 v8 v9 v w x y z n aa ab ac ad ae af ag ah ai aj ak al am an ao ap =>
  (try dsimp only at l)
  have hJ:=f56_j3_ok k v6 v7 v8 v9 v w x y z n aa ab ac ad ae af ag ah ai aj ak al am an ao ap _ l
  simp (disch:=first|apply D;decide|apply K;kernel_rfl) only [E,EE,↓reduceIte,simprocAttr,R56_l2.st,u]
  try simp only [NM,EE] at hJ
  exact hJ
inductive R56_l5 where
 | o0 (y:List T39) (s t u v w x z k r a b c:Int) (d:List Int) (e f g h i j l m o p:Int) (q:List Int)
 | o1 (y:List T39) (s t:Int) (u:Bool) (v w x z k r a b c d:Int) (e:List Int) (f g h i j l m o p q:Int) (n:List Int)
noncomputable def R56_l5.st:R56_l5→Out×St
 | .o0 y s t u v w x z k r a b c d e f g h i j l m o p q=>(.norm,(⟨47,[(2,.ptr 30000 0),(7,.ptr 30001 0),(33,.sl 11 (rowsOf encT39 y)),(34,jI s),(35,jI t)],[(30000,.box 39 [jI u,jI v,jU w,jI x,jI z,jI k,jI r,jI a,jI b,jI c,.sl 1 (rowsOf (encI .u8) d)]),(30001,.box 39 [jI e,jI f,jU g,jI h,jI i,jI j,jI l,jI m,jI o,jI p,.own 30002]),(30002,.row true 1 5 (rowsOf (encI .u8) q))]⟩:St))
 | .o1 y s t u v w x z k r a b c d e f g h i j l m o p q n=>(.exit 1,(⟨47,[(2,.ptr 30000 0),(7,.ptr 30001 0),(33,.sl 11 (rowsOf encT39 y)),(34,jI s),(35,jI t),(36,.p (.bool u))],[(30000,.box 39 [jI v,jI w,jU x,jI z,jI k,jI r,jI a,jI b,jI c,jI d,.sl 1 (rowsOf (encI .u8) e)]),(30001,.box 39 [jI f,jI g,jU h,jI i,jI j,jI l,jI m,jI o,jI p,jI q,.own 30002]),(30002,.row true 1 5 (rowsOf (encI .u8) n))]⟩:St))
noncomputable def f56_l5_j2 (k:Nat) (w:List T39) (x y z b c d e f g h i j:Int) (a:List Int) (r l m o p q s t u v:Int) (n:List Int):Option R56_l5 :=
 some (.o0 w x (IntKind.i64.wrap (y+(1:Int))) z b c d e f g h i j a r l m o p q s t u v n)
theorem f56_l5_j2_ok (k w x y z b c d e f g h i j a n l m o p q s t u v aa r) (hF:f56_l5_j2 k w x y z b c d e f g h i j a n l m o p q s t u v aa=some r):EX 56 k (nav B56 [2,2,2,1,2,2,1,2,2,2,2,2]) (⟨47,[(2,.ptr 30000 0),(7,.ptr 30001 0),(33,.sl 11 (rowsOf encT39 w)),(34,jI x),(35,jI y)],[(30000,.box 39 [jI z,jI b,jU c,jI d,jI e,jI f,jI g,jI h,jI i,jI j,.sl 1 (rowsOf (encI .u8) a)]),(30001,.box 39 [jI n,jI l,jU m,jI o,jI p,jI q,jI s,jI t,jI u,jI v,.own 30002]),(30002,.row true 1 5 (rowsOf (encI .u8) aa))]⟩:St)=some r.st:=by
 unfold f56_l5_j2 at hF
 cases hF
 simp (disch:=first|apply D;decide|apply K;kernel_rfl) only [E,EE,↓reduceIte,simprocAttr,rg B56 [2,2,2,1,2,2,1,2,2,2,2,2] 12 false rfl,hr 56 12 rfl,R56_l5.st]
noncomputable def f56_l5_j1 (k:Nat) (x:List T39) (y c:Int) (ab:Bool) (z d e f g h i j l m:Int) (b:List Int) (r o p q s t a u v w:Int) (n:List Int):Option R56_l5 :=
 ifE ((0:Int)≤c) (
  Option.bind (x[(Int.toNat c)]?) fun v2 =>
   f56_l5_j2 k x y c z d e f g h i j l m b r o p q s t (if v2.Hops>a then v2.Hops else a) u v w n)
theorem f56_l5_j1_ok (k w x y ac z c d e f g h i j l a n m o p q s b t u v aa r) (hF:f56_l5_j1 k w x y ac z c d e f g h i j l a n m o p q s b t u v aa=some r):EX 56 k (nav B56 [2,2,1,2,2,1,2,2,2,2,2]) (⟨47,[(2,.ptr 30000 0),(7,.ptr 30001 0),(33,.sl 11 (rowsOf encT39 w)),(34,jI x),(35,jI y),(36,.p (.bool ac))],[(30000,.box 39 [jI z,jI c,jU d,jI e,jI f,jI g,jI h,jI i,jI j,jI l,.sl 1 (rowsOf (encI .u8) a)]),(30001,.box 39 [jI n,jI m,jU o,jI p,jI q,jI s,jI b,jI t,jI u,jI v,.own 30002]),(30002,.row true 1 5 (rowsOf (encI .u8) aa))]⟩:St)=some r.st:=by
 unfold f56_l5_j1 at hF
 obtain ⟨h1,hF⟩:=ifE_some.1 hF
 obtain ⟨v2,h3,hF⟩:=bs hF
 have hJ:=f56_l5_j2_ok k w x y z c d e f g h i j l a n m o p q s (if v2.Hops>b then v2.Hops else b) t u v aa _ hF
 simp (disch:=first|apply D;decide|apply K;kernel_rfl) only [E,EE,↓reduceIte,simprocAttr,xk B56 [2,2,1,2,2,1,2,2,2,2,2] .sq rfl,xk B56 [1,2,2,1,2,2,1,2,2,2,2,2] (.bk 2) rfl,xk B56 [2,1,2,2,1,2,2,1,2,2,2,2,2] .sq rfl,rg B56 [1,2,1,2,2,1,2,2,1,2,2,2,2,2] 10 false rfl,hr 56 10 rfl,indexAddrV,t_24,t_39,encT39_eq,rg B56 [2,2,1,2,2,1,2,2,1,2,2,2,2,2] 11 false rfl,hr 56 11 rfl,fieldAddrV,t_3,minmaxV,minmaxGo,h1,h3]
 try simp only [NM,EE] at hJ
 exact hJ
noncomputable def f56_l5_b (k:Nat) (y:List T39) (w x z b c d e f g h i j:Int) (a:List Int) (r l m o p q s t u v:Int) (n:List Int):Option R56_l5 :=
 cond ((decide (x<w)))
  (f56_l5_j1 k y w x true z b c d e f g h i j a r l m o p q s t u v n)
  (some (.o1 y w x false z b c d e f g h i j a r l m o p q s t u v n))
theorem f56_l5_b_ok (k w x y z b c d e f g h i j a n l m o p q s t u v aa r) (hF:f56_l5_b k w x y z b c d e f g h i j a n l m o p q s t u v aa=some r):EX 56 k (nav B56 [1,2,2,1,2,2,2,2,2]) (⟨47,[(2,.ptr 30000 0),(7,.ptr 30001 0),(33,.sl 11 (rowsOf encT39 w)),(34,jI x),(35,jI y)],[(30000,.box 39 [jI z,jI b,jU c,jI d,jI e,jI f,jI g,jI h,jI i,jI j,.sl 1 (rowsOf (encI .u8) a)]),(30001,.box 39 [jI n,jI l,jU m,jI o,jI p,jI q,jI s,jI t,jI u,jI v,.own 30002]),(30002,.row true 1 5 (rowsOf (encI .u8) aa))]⟩:St)=some r.st:=by
 unfold f56_l5_b at hF
 simp (disch:=first|apply D;decide|apply K;kernel_rfl) only [E,EE,↓reduceIte,simprocAttr,xk B56 [1,2,2,1,2,2,2,2,2] .sq rfl,rg B56 [1,1,2,2,1,2,2,2,2,2] 9 false rfl,hr 56 9 rfl,xk B56 [2,1,2,2,1,2,2,2,2,2] .sq rfl,xk B56 [1,2,1,2,2,1,2,2,2,2,2] (.cd 36) rfl]
 rcases cond_some hF with ⟨h1,hF⟩ | ⟨h1,hF⟩
 ·have hJ:=f56_l5_j1_ok k w x y true z b c d e f g h i j a n l m o p q s t u v aa _ hF
  simp (disch:=first|apply D;decide|apply K;kernel_rfl) only [E,EE,↓reduceIte,simprocAttr,xk B56 [2,1,2,1,2,2,1,2,2,2,2,2] .sk rfl,h1]
  try simp only [NM,EE] at hJ
  exact hJ
 ·cases hF
  simp (disch:=first|apply D;decide|apply K;kernel_rfl) only [E,EE,↓reduceIte,simprocAttr,xk B56 [3,1,2,1,2,2,1,2,2,2,2,2] (.ex 1) rfl,R56_l5.st,h1]
noncomputable def f56_l5 (k:Nat):Nat→(List T39)→Int→Int→Int→Int→Int→Int→Int→Int→Int→Int→Int→Int→(List Int)→Int→Int→Int→Int→Int→Int→Int→Int→Int→Int→(List Int)→Option R56_l5
 | 0,_,_,_,_,_,_,_,_,_,_,_,_,_,_,_,_,_,_,_,_,_,_,_,_,_=>none
 | n+1,ay,az,a0,a1,u,v,w,x,z,r,aa,ab,ac,t,a2,ad,ae,af,ag,ah,ai,aj,ak,al,a3=>Option.bind (f56_l5_b k ay az a0 a1 u v w x z r aa ab ac t a2 ad ae af ag ah ai aj ak al a3) fun o =>
  match o with
  | .o0 y am an ao ap aq ar au av aw a b c d e f g h i j l m p q s=>f56_l5 k n y am an ao ap aq ar au av aw a b c d e f g h i j l m p q s
  | .o1 y am an ao ap aq ar au av aw a b c d e f g h i j l m p q s ax=>some (.o1 y am an ao ap aq ar au av aw a b c d e f g h i j l m p q s ax)
theorem f56_l5_ok (k n:Nat):∀ (z:List T39) (aa ab ac b c d e f g i j l:Int) (a:List Int) (ad m p q s t u v w x:Int) (ae:List Int) (r:R56_l5) (hF:f56_l5 k n z aa ab ac b c d e f g i j l a ad m p q s t u v w x ae=some r) (σ:St) (hσ:headR (hints.head 56 9) (hints.canon 56 9) σ=some (⟨47,[(2,.ptr 30000 0),(7,.ptr 30001 0),(33,.sl 11 (rowsOf encT39 z)),(34,jI aa),(35,jI ab)],[(30000,.box 39 [jI ac,jI b,jU c,jI d,jI e,jI f,jI g,jI i,jI j,jI l,.sl 1 (rowsOf (encI .u8) a)]),(30001,.box 39 [jI ad,jI m,jU p,jI q,jI s,jI t,jI u,jI v,jI w,jI x,.own 30002]),(30002,.row true 1 5 (rowsOf (encI .u8) ae))]⟩:St)),LP 56 k (nav B56 [1,2,2,1,2,2,2,2,2]) n σ=some r.st:=by
 induction n with
 | zero=>intro z aa ab ac b c d e f g i j l a ad m p q s t u v w x ae r hF;cases hF
 | succ n ih =>
  intro z aa ab ac b c d e f g i j l a ad m p q s t u v w x ae r hF σ hσ
  rw [f56_l5] at hF
  obtain ⟨o,h,hF⟩:=Option.bind_eq_some_iff.1 hF
  have hB:=f56_l5_b_ok k z aa ab ac b c d e f g i j l a ad m p q s t u v w x ae o h
  unfold LP at ih ⊢
  unfold EX at hB
  rw [loopK_succ,show firstReg (nav B56 [1,2,2,1,2,2,2,2,2])=9 from rfl,hσ,headK_some,hB]
  cases o with
  | o0 y ax ay az a0 a1 a2 a3 a4 a5 ag ah ai aj ak al am an ao ap aq ar au av aw =>
   refine ih y ax ay az a0 a1 a2 a3 a4 a5 ag ah ai aj ak al am an ao ap aq ar au av aw r hF _ ?_
   simp (disch:=first|apply D;decide|apply K;kernel_rfl) only [E,EE,↓reduceIte,simprocAttr,hh_56_9,hc_56_9]
  | o1 y ax ay az a0 a1 a2 a3 a4 a5 ag ah ai aj ak al am an ao ap aq ar au av aw a7=>cases hF;rfl
noncomputable def f56_j6 (k:Nat) (y:List T39) (z r:Int) (n:Bool) (aa l m o p q s t u v:Int) (j:List Int) (w a b c d e f g h i:Int) (x:List Int):Option R56 :=
 some (.o1 w a b c d e f g h i 0 x)
theorem f56_j6_ok (k w x y z n b c d e f g h i j a aa l m o p q s t u v ab r) (hF:f56_j6 k w x y z n b c d e f g h i j a aa l m o p q s t u v ab=some r):finK Try.prog Try.f56 0 (EX 56 k (nav B56 [2,2,2,2,2,2]) (⟨47,[(2,.ptr 30000 0),(7,.ptr 30001 0),(33,.sl 11 (rowsOf encT39 w)),(34,jI x),(35,jI y),(36,.p (.bool z))],[(30000,.box 39 [jI n,jI b,jU c,jI d,jI e,jI f,jI g,jI h,jI i,jI j,.sl 1 (rowsOf (encI .u8) a)]),(30001,.box 39 [jI aa,jI l,jU m,jI o,jI p,jI q,jI s,jI t,jI u,jI v,.own 30002]),(30002,.row true 1 5 (rowsOf (encI .u8) ab))]⟩:St))=some r.st:=by
 unfold f56_j6 at hF
 cases hF
 simp (disch:=first|apply D;decide|apply K;kernel_rfl) only [E,EE,↓reduceIte,simprocAttr,xk B56 [2,2,2,2,2,2] .sq rfl,rg B56 [1,2,2,2,2,2,2] 13 false rfl,hr 56 13 rfl,t_39,xk B56 [2,2,2,2,2,2,2] .rt rfl,fin56,R56.st]
noncomputable def f56_j4 (k:Nat) (o:List T39) (ak:Bool) (m2 d e f g h i j l m:Int) (c a:List Int):Option R56 :=
 Option.bind (o[0]?) fun b =>
  Option.bind (f56_l5 k k o ((List.length o):Int) 0 m2 d e f g h i j l m c b.Source b.Dest b.Seq b.Created b.Lifetime b.HopLimit b.Hops b.Priority 0 b.Total a) fun o3 =>
   match o3 with
   | .o0 _ _ _ _ _ _ _ _ _ _ _ _ _ _ _ _ _ _ _ _ _ _ _ _ _ =>
    none
   | .o1 v6 v7 v8 v9 p q s t u v w x y z r n aa ab ac ad ae af ag ah ai aj =>
    f56_j6 k v6 v7 v8 v9 p q s t u v w x y z r n aa ab ac ad ae af ag ah ai aj
theorem f56_j4_ok (k s q t c d e f g h i j l b a r) (m:f56_j4 k s q t c d e f g h i j l b a=some r):finK Try.prog Try.f56 0 (EX 56 k (nav B56 [2,2,2]) (⟨47,[(0,.sl 11 (rowsOf encT39 s)),(2,.ptr 2 0),(5,.own 10012),(21,.p (.bool q))],[(2,.box 39 [jI t,jI c,jU d,jI e,jI f,jI g,jI h,jI i,jI j,jI l,.sl 1 (rowsOf (encI .u8) b)]),(10012,.row true 1 5 (rowsOf (encI .u8) a))]⟩:St))=some r.st:=by
 unfold f56_j4 at m
 obtain ⟨o,u,m⟩:=bs m
 obtain ⟨o3,h4,m⟩:=bs m
 have p:=f56_l5_ok k k s ((List.length s):Int) 0 t c d e f g h i j l b o.Source o.Dest o.Seq o.Created o.Lifetime o.HopLimit o.Hops o.Priority 0 o.Total a _ h4
 simp (disch:=first|apply D;decide|apply K;kernel_rfl) only [E,EE,↓reduceIte,simprocAttr,xk B56 [2,2,2] .sq rfl,rg B56 [1,2,2,2] 6 false rfl,hr 56 6 rfl,indexAddrV,t_24,t_39,encT39_eq,xk B56 [2,2,2,2] .sq rfl,rg B56 [1,2,2,2,2] 7 false rfl,hr 56 7 rfl,fieldAddrV,t_3,t_29,xk B56 [2,2,2,2,2] .sq rfl,xk B56 [1,2,2,2,2,2] .sq rfl,rg B56 [1,1,2,2,2,2,2] 8 false rfl,hr 56 8 rfl,xk B56 [2,1,2,2,2,2,2] (.bk 1) rfl,xk B56 [2,2,1,2,2,2,2,2] .lp rfl,hh_56_9,hc_56_9,u]
 (try simp only [NM,EE] at p)
 rw [p _ (by simp (disch:=first|apply D;decide|apply K;kernel_rfl) only [E,EE,↓reduceIte,simprocAttr,hh_56_9,hc_56_9,u])]
 clear p
 cases o3 with
 | o0 _ _ _ _ _ _ _ _ _ _ _ _ _ _ _ _ _ _ _ _ _ _ _ _ _ =>
  (try dsimp only at m)
  cases m
 | o1 v6 v7 v8 v9 v w x y z n aa ab ac ad ae af ag ah ai aj ak al am an ao ap =>
  (try dsimp only at m)
  have hJ:=f56_j6_ok k v6 v7 v8 v9 v w x y z n aa ab ac ad ae af ag ah ai aj ak al am an ao ap _ m
  simp (disch:=first|apply D;decide|apply K;kernel_rfl) only [E,EE,↓reduceIte,simprocAttr,R56_l5.st,u]
  try simp only [NM,EE] at hJ
  exact hJ
noncomputable def f56_e (k:Nat) (b:List T39):Option R56 :=
 Option.bind (f58 k b) fun o1 =>
  match o1 with
  | .o0 h i g =>
   cond ((g != 0))
    (some (.o0 0 0 0 0 0 0 0 0 0 0 [] g))
    (
     Option.bind (f59 k h) fun o8 =>
      match o8 with
      | .o0 c =>
       cond ((decide (((List.length c):Int)>0)))
        (some (.o0 0 0 0 0 0 0 0 0 0 0 [] 4))
        (f56_j1 k b i false 0 0 0 0 0 0 0 0 0 0 []))
  | .o1 a d e =>
   cond ((a != 0))
    (some (.o0 0 0 0 0 0 0 0 0 0 0 [] a))
    (
     Option.bind (f59 k d) fun o17 =>
      match o17 with
      | .o0 f =>
       cond ((decide (((List.length f):Int)>0)))
        (some (.o0 0 0 0 0 0 0 0 0 0 0 [] 4))
        (f56_j4 k b false 0 0 0 0 0 0 0 0 0 0 [] e))
theorem f56_e_ok (k h r) (a:f56_e k h=some r):finK Try.prog Try.f56 0 (EX 56 k (nav B56 []) (⟨47,[(0,.sl 11 (rowsOf encT39 h))],[]⟩:St))=some r.st:=by
 unfold f56_e at a
 simp (disch:=first|apply D;decide|apply K;kernel_rfl) only [E,EE,↓reduceIte,simprocAttr,xk B56 [] .sq rfl,rg B56 [1] 0 false rfl,hr_56_0,t_39,xk B56 [2] .sq rfl,rg B56 [1,2] 1 false rfl,hr 56 1 rfl,callStep,CL,gv,List.contains]
 obtain ⟨o1,o,a⟩:=bs a
 have b:=f58_ok k h _ o
 cases o1 with
 | o0 p q w =>
  (try dsimp only at a)
  (try simp only [NM,EE,R58.st] at b)
  simp (disch:=first|apply D;decide|apply K;kernel_rfl) only [E,EE,↓reduceIte,simprocAttr,xk B56 [2,2] .sq rfl,xk B56 [1,2,2] (.bk 0) rfl,xk B56 [2,1,2,2] .sq rfl,rg B56 [1,2,1,2,2] 2 false rfl,hr 56 2 rfl,xk B56 [2,2,1,2,2] (.cd 16) rfl,b]
  rcases cond_some a with ⟨i,a⟩ | ⟨i,a⟩
  ·cases a
   simp (disch:=first|apply D;decide|apply K;kernel_rfl) only [E,EE,↓reduceIte,simprocAttr,xk B56 [2,2,2,1,2,2] .sq rfl,rg B56 [1,2,2,2,1,2,2] 3 false rfl,hr_56_3,bl_39,t_39,xk B56 [2,2,2,2,1,2,2] .rt rfl,fin56,R56.st,b,i]
  ·obtain ⟨o8,s,a⟩:=bs a
   have c:=f59_ok k p _ s
   cases o8 with
   | o0 t =>
    (try dsimp only at a)
    (try simp only [NM,EE,R59.st] at c)
    simp (disch:=first|apply D;decide|apply K;kernel_rfl) only [E,EE,↓reduceIte,simprocAttr,xk B56 [3,2,2,1,2,2] .sq rfl,rg B56 [1,3,2,2,1,2,2] 4 false rfl,hr 56 4 rfl,callStep,CL,gv,List.contains,t_74,xk B56 [2,3,2,2,1,2,2] (.cd 21) rfl,b,i,c]
    rcases cond_some a with ⟨f,a⟩ | ⟨f,a⟩
    ·cases a
     simp (disch:=first|apply D;decide|apply K;kernel_rfl) only [E,EE,↓reduceIte,simprocAttr,xk B56 [2,2,3,2,2,1,2,2] .sq rfl,rg B56 [1,2,2,3,2,2,1,2,2] 5 false rfl,hr_56_5,bl_39,t_39,xk B56 [2,2,2,3,2,2,1,2,2] .rt rfl,fin56,R56.st,b,i,c,f]
    ·have hJ:=f56_j1_ok k h q false 0 0 0 0 0 0 0 0 0 0 [] _ a
     simp (disch:=first|apply D;decide|apply K;kernel_rfl) only [E,EE,↓reduceIte,simprocAttr,xk B56 [3,2,3,2,2,1,2,2] .sk rfl,b,i,c,f]
     try simp only [NM,EE] at hJ
     exact hJ
 | o1 u j l =>
  (try dsimp only at a)
  (try simp only [NM,EE,R58.st] at b)
  simp (disch:=first|apply D;decide|apply K;kernel_rfl) only [E,EE,↓reduceIte,simprocAttr,xk B56 [2,2] .sq rfl,xk B56 [1,2,2] (.bk 0) rfl,xk B56 [2,1,2,2] .sq rfl,rg B56 [1,2,1,2,2] 2 false rfl,hr 56 2 rfl,xk B56 [2,2,1,2,2] (.cd 16) rfl,b]
  rcases cond_some a with ⟨e,a⟩ | ⟨e,a⟩
  ·cases a
   simp (disch:=first|apply D;decide|apply K;kernel_rfl) only [E,EE,↓reduceIte,simprocAttr,xk B56 [2,2,2,1,2,2] .sq rfl,rg B56 [1,2,2,2,1,2,2] 3 false rfl,hr_56_3,bl_39,t_39,xk B56 [2,2,2,2,1,2,2] .rt rfl,fin56,R56.st,b,e]
  ·obtain ⟨o17,m,a⟩:=bs a
   have d:=f59_ok k j _ m
   cases o17 with
   | o0 v =>
    (try dsimp only at a)
    (try simp only [NM,EE,R59.st] at d)
    simp (disch:=first|apply D;decide|apply K;kernel_rfl) only [E,EE,↓reduceIte,simprocAttr,xk B56 [3,2,2,1,2,2] .sq rfl,rg B56 [1,3,2,2,1,2,2] 4 false rfl,hr 56 4 rfl,callStep,CL,gv,List.contains,t_74,xk B56 [2,3,2,2,1,2,2] (.cd 21) rfl,b,e,d]
    rcases cond_some a with ⟨g,a⟩ | ⟨g,a⟩
    ·cases a
     simp (disch:=first|apply D;decide|apply K;kernel_rfl) only [E,EE,↓reduceIte,simprocAttr,xk B56 [2,2,3,2,2,1,2,2] .sq rfl,rg B56 [1,2,2,3,2,2,1,2,2] 5 false rfl,hr_56_5,bl_39,t_39,xk B56 [2,2,2,3,2,2,1,2,2] .rt rfl,fin56,R56.st,b,e,d,g]
    ·have hJ:=f56_j4_ok k h false 0 0 0 0 0 0 0 0 0 0 [] l _ a
     simp (disch:=first|apply D;decide|apply K;kernel_rfl) only [E,EE,↓reduceIte,simprocAttr,xk B56 [3,2,3,2,2,1,2,2] .sk rfl,b,e,d,g]
     try simp only [NM,EE] at hJ
     exact hJ
noncomputable def f56 (k:Nat) (a:List T39):Option R56:=match k with | 0=>none | k+1=>f56_e k a
theorem f56_ok (k a r) (b:f56 k a=some r):CV k 56 [.sl 11 (rowsOf encT39 a)] []=some r.st:=by
 cases k with
 | zero=>cases b
 | succ k =>
  unfold CV
  rw [ev_call (F:=Try.f56) (c:=(nav B56 [])) rfl Try.func56 rfl rfl rfl rfl]
  exact f56_e_ok k a r b
-- f57: f57 heliograph/agent.judge$3
inductive R57 where
 | o0 (y:Bool) (c d e f g h i j l a:Int) (b:List Int)
noncomputable def R57.st:R57→V×List O×List O
 | .o0 y c d e f g h i j l a b=>(.p (.bool y),[.box 39 [jI c,jI d,jU e,jI f,jI g,jI h,jI i,jI j,jI l,jI a,.sl 1 (rowsOf (encI .u8) b)]],[])
noncomputable def f57_e (k:Nat) (z m o p q s t u v w:Int) (l:List Int) (y b c d e f g h i j:Int) (a:List Int):Option R57 :=
 Option.bind (f37 k z m o p q s t u v w l) fun o1 =>
  match o1 with
  | .o0 r n =>
   Option.bind (f37 k y b c d e f g h i j a) fun o6 =>
    match o6 with
    | .o0 v9 x =>
     some (.o0 (((r==v9)&&(n==x))) y b c d e f g h i j a)
theorem f57_e_ok (k n c d e f g h i j l a e0 m o p q s t u v w b r) (x:f57_e k n c d e f g h i j l a e0 m o p q s t u v w b=some r):finK Try.prog Try.f57 1 (EX 57 k (nav B57 []) (⟨9,[(0,.agg [jI n,jI c,jU d,jI e,jI f,jI g,jI h,jI i,jI j,jI l,.sl 1 (rowsOf (encI .u8) a)]),(1,.ptr 1000000 0)],[(1000000,.box 39 [jI e0,jI m,jU o,jI p,jI q,jI s,jI t,jI u,jI v,jI w,.sl 1 (rowsOf (encI .u8) b)])]⟩:St))=some r.st:=by
 unfold f57_e at x
 obtain ⟨o1,h2,x⟩:=bs x
 have y:=f37_ok k n c d e f g h i j l a _ h2
 cases o1 with
 | o0 v4 v5 =>
  (try dsimp only at x)
  (try simp only [NM,EE,R37.st] at y)
  obtain ⟨o6,h7,x⟩:=bs x
  have z:=f37_ok k e0 m o p q s t u v w b _ h7
  cases o6 with
  | o0 v9 ad =>
   (try dsimp only at x)
   (try simp only [NM,EE,R37.st] at z)
   cases x
   simp (disch:=first|apply D;decide|apply K;kernel_rfl) only [E,EE,↓reduceIte,simprocAttr,xk B57 [] .sq rfl,rg B57 [1] 0 false rfl,hr 57 0 rfl,xk B57 [2] .sq rfl,rg B57 [1,2] 1 true rfl,hr 57 1 rfl,t_39,callStep,CL,gv,List.contains,t_79,ag_79,t_3,t_22,xk B57 [2,2] .rt rfl,fin57,R57.st,y,z]
noncomputable def f57 (k:Nat) (x c d e f g h i j l:Int) (a:List Int) (y m o p q s t u v w:Int) (b:List Int):Option R57:=match k with | 0=>none | k+1=>f57_e k x c d e f g h i j l a y m o p q s t u v w b
theorem f57_ok (k y d e f g h i j l m a z o p q s t u v w x b r) (n:f57 k y d e f g h i j l m a z o p q s t u v w x b=some r):CV k 57 [.agg [jI y,jI d,jU e,jI f,jI g,jI h,jI i,jI j,jI l,jI m,.sl 1 (rowsOf (encI .u8) a)],.ptr 1000000 0] [.box 39 [jI z,jI o,jU p,jI q,jI s,jI t,jI u,jI v,jI w,jI x,.sl 1 (rowsOf (encI .u8) b)]]=some r.st:=by
 cases k with
 | zero=>cases n
 | succ k =>
  unfold CV
  rw [ev_call (F:=Try.f57) (c:=(nav B57 [])) rfl Try.func57 rfl rfl rfl rfl]
  exact f57_e_ok k y d e f g h i j l m a z o p q s t u v w x b r n
end Go.Proofs.YticggdfaehneeaaV