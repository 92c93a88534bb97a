/- What the program's functions answer: plain functions,and that the interpreter answers what they do. Written by a program of this session,out of the translation. -/
import Derived.Test.YticggdfaehneeaaVP10
namespace Go.Proofs.YticggdfaehneeaaV
open Go
set_option linter.unusedVariables false
set_option linter.unusedSimpArgs false
set_option maxRecDepth 8000
set_option maxHeartbeats 4000000
-- f61b: f61 slices.IndexFunc[[]heliograph/api.Bundle,heliograph/api.Bundle]
inductive R61b where
 | o0 (y:Int) (d:List T39) (e f g h i j l m a b:Int) (c:List Int)
noncomputable def R61b.st:R61b→V×List O×List O
 | .o0 y d e f g h i j l m a b c=>((jI y),[.row true 11 39 (rowsOf encT39 d),.box 39 [jI e,jI f,jU g,jI h,jI i,jI j,jI l,jI m,jI a,jI b,.sl 1 (rowsOf (encI .u8) c)]],[])
inductive R61b_l1 where
 | o0 (y:Int) (d:List T39) (e f g h i j l m a b:Int) (c:List Int)
 | o1 (y d:Int) (e:List T39) (f g h i j l m a b c:Int) (o:List Int)
 | o2 (y d:Int) (e:Bool) (f:List T39) (g h i j l m a b c o:Int) (p:List Int)
noncomputable def R61b_l1.st:R61b_l1→Out×St
 | .o0 y d e f g h i j l m a b c=>(.ret,(⟨19,[(4,jI y)],[(1000000,.row true 11 39 (rowsOf encT39 d)),(1000001,.box 39 [jI e,jI f,jU g,jI h,jI i,jI j,jI l,jI m,jI a,jI b,.sl 1 (rowsOf (encI .u8) c)])]⟩:St))
 | .o1 y d e f g h i j l m a b c o=>(.norm,(⟨19,[(0,.own 1000000),(1,V.fn 57 [.ptr 1000001 0]),(7,jI y),(8,jI d)],[(1000000,.row true 11 39 (rowsOf encT39 e)),(1000001,.box 39 [jI f,jI g,jU h,jI i,jI j,jI l,jI m,jI a,jI b,jI c,.sl 1 (rowsOf (encI .u8) o)])]⟩:St))
 | .o2 y d e f g h i j l m a b c o p=>(.exit 0,(⟨19,[(0,.own 1000000),(1,V.fn 57 [.ptr 1000001 0]),(7,jI y),(8,jI d),(9,.p (.bool e))],[(1000000,.row true 11 39 (rowsOf encT39 f)),(1000001,.box 39 [jI g,jI h,jU i,jI j,jI l,jI m,jI a,jI b,jI c,jI o,.sl 1 (rowsOf (encI .u8) p)])]⟩:St))
noncomputable def f61b_l1_j2 (k:Nat) (s l m:Int) (o:Bool) (p:List T39) (q b c d e f g h i j:Int) (a:List Int):Option R61b_l1 :=
 some (.o1 l (IntKind.i64.wrap (m+(1:Int))) p q b c d e f g h i j a)
theorem f61b_l1_j2_ok (k m o p l q s b c d e f g h i j a r) (t:f61b_l1_j2 k m o p l q s b c d e f g h i j a=some r):EX 61 k (nav B61 [2,2,2,1,2,2,1,2]) (⟨19,[(0,.own 1000000),(1,V.fn 57 [.ptr 1000001 0]),(5,jI m),(7,jI o),(8,jI p),(16,.p (.bool l))],[(1000000,.row true 11 39 (rowsOf encT39 q)),(1000001,.box 39 [jI s,jI b,jU c,jI d,jI e,jI f,jI g,jI h,jI i,jI j,.sl 1 (rowsOf (encI .u8) a)])]⟩:St)=some r.st:=by
 unfold f61b_l1_j2 at t
 cases t
 simp (disch:=first|apply D;decide|apply K;kernel_rfl) only [E,EE,↓reduceIte,simprocAttr,rg B61 [2,2,2,1,2,2,1,2] 6 false rfl,hr 61 6 rfl,R61b_l1.st]
noncomputable def f61b_l1_j1 (k:Nat) (n c:Int) (x9:Bool) (z:List T39) (e1 d e f g h i j l m:Int) (b:List Int):Option R61b_l1 :=
 ifE ((0:Int)≤c) (
  ifE (c<((List.length z):Int)) (
   Option.bind (z[(Int.toNat c)]?) fun a =>
    Option.bind (f57 k a.Source a.Dest a.Seq a.Created a.Lifetime a.HopLimit a.Hops a.Priority a.Offset a.Total a.Payload e1 d e f g h i j l m b) fun o5 =>
     match o5 with
     | .o0 v8 r o p q s t u v w x y =>
      cond (v8)
       (some (.o0 c z r o p q s t u v w x y))
       (f61b_l1_j2 k c n c false z r o p q s t u v w x y)))
theorem f61b_l1_j1_ok (k s q x9 t u c d e f g h i j l a r) (b:f61b_l1_j1 k s q x9 t u c d e f g h i j l a=some r):EX 61 k (nav B61 [2,2,1,2,2,1,2]) (⟨19,[(0,.own 1000000),(1,V.fn 57 [.ptr 1000001 0]),(7,jI s),(8,jI q),(9,.p (.bool x9))],[(1000000,.row true 11 39 (rowsOf encT39 t)),(1000001,.box 39 [jI u,jI c,jU d,jI e,jI f,jI g,jI h,jI i,jI j,jI l,.sl 1 (rowsOf (encI .u8) a)])]⟩:St)=some r.st:=by
 unfold f61b_l1_j1 at b
 obtain ⟨v,b⟩:=ifE_some.1 b
 obtain ⟨w,b⟩:=ifE_some.1 b
 obtain ⟨m,x,b⟩:=bs b
 obtain ⟨o5,h6,b⟩:=bs b
 have o:=f57_ok k m.Source m.Dest m.Seq m.Created m.Lifetime m.HopLimit m.Hops m.Priority m.Offset m.Total m.Payload u c d e f g h i j l a _ h6
 cases o5 with
 | o0 v8 v9 y z n aa ab ac ad ae af ag =>
  (try dsimp only at b)
  (try simp only [NM,EE,R57.st] at o)
  simp (disch:=first|apply D;decide|apply K;kernel_rfl) only [E,EE,↓reduceIte,simprocAttr,xk B61 [2,2,1,2,2,1,2] .sq rfl,xk B61 [1,2,2,1,2,2,1,2] (.bk 1) rfl,xk B61 [2,1,2,2,1,2,2,1,2] .sq rfl,rg B61 [1,2,1,2,2,1,2,2,1,2] 3 false rfl,hr 61 3 rfl,xk B61 [2,2,1,2,2,1,2,2,1,2] .sq rfl,rg B61 [1,2,2,1,2,2,1,2,2,1,2] 4 false rfl,hr 61 4 rfl,indexAddrV,t_24,t_39,encT39_eq,callStep,CL,gv,List.contains,xk B61 [2,2,2,1,2,2,1,2,2,1,2] (.cd 16) rfl,v,w,x,o]
  rcases cond_some b with ⟨p,b⟩ | ⟨p,b⟩
  ·cases b
   simp (disch:=first|apply D;decide|apply K;kernel_rfl) only [E,EE,↓reduceIte,simprocAttr,xk B61 [2,2,2,2,1,2,2,1,2,2,1,2] .sq rfl,rg B61 [1,2,2,2,2,1,2,2,1,2,2,1,2] 5 false rfl,hr 61 5 rfl,xk B61 [2,2,2,2,2,1,2,2,1,2,2,1,2] .rt rfl,R61b_l1.st,v,w,x,o,p]
  ·have hJ:=f61b_l1_j2_ok k q s q false t v9 y z n aa ab ac ad ae af ag _ b
   simp (disch:=first|apply D;decide|apply K;kernel_rfl) only [E,EE,↓reduceIte,simprocAttr,xk B61 [3,2,2,2,1,2,2,1,2,2,1,2] .sk rfl,v,w,x,o,p]
   try simp only [NM,EE] at hJ
   exact hJ
noncomputable def f61b_l1_b (k:Nat) (l m:Int) (o:List T39) (p b c d e f g h i j:Int) (a:List Int):Option R61b_l1 :=
 cond ((decide (m<l)))
  (f61b_l1_j1 k l m true o p b c d e f g h i j a)
  (some (.o2 l m false o p b c d e f g h i j a))
theorem f61b_l1_b_ok (k m o p q b c d e f g h i j a r) (l:f61b_l1_b k m o p q b c d e f g h i j a=some r):EX 61 k (nav B61 [1,2,2,1,2]) (⟨19,[(0,.own 1000000),(1,V.fn 57 [.ptr 1000001 0]),(7,jI m),(8,jI o)],[(1000000,.row true 11 39 (rowsOf encT39 p)),(1000001,.box 39 [jI q,jI b,jU c,jI d,jI e,jI f,jI g,jI h,jI i,jI j,.sl 1 (rowsOf (encI .u8) a)])]⟩:St)=some r.st:=by
 unfold f61b_l1_b at l
 simp (disch:=first|apply D;decide|apply K;kernel_rfl) only [E,EE,↓reduceIte,simprocAttr,xk B61 [1,2,2,1,2] .sq rfl,rg B61 [1,1,2,2,1,2] 2 false rfl,hr 61 2 rfl,xk B61 [2,1,2,2,1,2] .sq rfl,xk B61 [1,2,1,2,2,1,2] (.cd 9) rfl]
 rcases cond_some l with ⟨s,l⟩ | ⟨s,l⟩
 ·have hJ:=f61b_l1_j1_ok k m o true p q b c d e f g h i j a _ l
  simp (disch:=first|apply D;decide|apply K;kernel_rfl) only [E,EE,↓reduceIte,simprocAttr,xk B61 [2,1,2,1,2,2,1,2] .sk rfl,s]
  try simp only [NM,EE] at hJ
  exact hJ
 ·cases l
  simp (disch:=first|apply D;decide|apply K;kernel_rfl) only [E,EE,↓reduceIte,simprocAttr,xk B61 [3,1,2,1,2,2,1,2] (.ex 0) rfl,R61b_l1.st,s]
noncomputable def f61b_l1 (k:Nat):Nat→Int→Int→(List T39)→Int→Int→Int→Int→Int→Int→Int→Int→Int→Int→(List Int)→Option R61b_l1
 | 0,_,_,_,_,_,_,_,_,_,_,_,_,_,_=>none
 | n+1,x7,x8,e0,e1,s,t,u,v,w,x,z,r,aa,q=>Option.bind (f61b_l1_b k x7 x8 e0 e1 s t u v w x z r aa q) fun o =>
  match o with
  | .o0 y d e f g h i j l m a b c=>some (.o0 y d e f g h i j l m a b c)
  | .o1 y d e f g h i j l m a b c p=>f61b_l1 k n y d e f g h i j l m a b c p
  | .o2 y d e f g h i j l m a b c p ab=>some (.o2 y d e f g h i j l m a b c p ab)
theorem f61b_l1_ok (k n:Nat):∀ (x7 x8:Int) (e0:List T39) (e1 b c d e f g i j l:Int) (a:List Int) (r:R61b_l1) (s:f61b_l1 k n x7 x8 e0 e1 b c d e f g i j l a=some r) (σ:St) (hσ:headR (hints.head 61 2) (hints.canon 61 2) σ=some (⟨19,[(0,.own 1000000),(1,V.fn 57 [.ptr 1000001 0]),(7,jI x7),(8,jI x8)],[(1000000,.row true 11 39 (rowsOf encT39 e0)),(1000001,.box 39 [jI e1,jI b,jU c,jI d,jI e,jI f,jI g,jI i,jI j,jI l,.sl 1 (rowsOf (encI .u8) a)])]⟩:St)),LP 61 k (nav B61 [1,2,2,1,2]) n σ=some r.st:=by
 induction n with
 | zero=>intro x7 x8 e0 e1 b c d e f g i j l a r s;cases s
 | succ n ih =>
  intro x7 x8 e0 e1 b c d e f g i j l a r s σ hσ
  rw [f61b_l1] at s
  obtain ⟨o,h,s⟩:=Option.bind_eq_some_iff.1 s
  have hB:=f61b_l1_b_ok k x7 x8 e0 e1 b c d e f g i j l a o h
  unfold LP at ih ⊢
  unfold EX at hB
  rw [loopK_succ,show firstReg (nav B61 [1,2,2,1,2])=2 from rfl,hσ,headK_some,hB]
  cases o with
  | o0 y u v w x z aa ab ac ad m p q=>cases s;rfl
  | o1 y u v w x z aa ab ac ad m p q t =>
   refine ih y u v w x z aa ab ac ad m p q t r s _ ?_
   simp (disch:=first|apply D;decide|apply K;kernel_rfl) only [E,EE,↓reduceIte,simprocAttr,hh_61_2,hc_61_2]
  | o2 y u v w x z aa ab ac ad m p q t aj=>cases s;rfl
noncomputable def f61b_j2 (k:Nat) (o p:Int) (q:Bool) (l:List T39) (m b c d e f g h i j:Int) (a:List Int):Option R61b :=
 some (.o0 (-1) l m b c d e f g h i j a)
theorem f61b_j2_ok (k l m o p q b c d e f g h i j a r) (s:f61b_j2 k l m o p q b c d e f g h i j a=some r):finK Try.prog Try.f61 2 (EX 61 k (nav B61 [2,2]) (⟨19,[(0,.own 1000000),(1,V.fn 57 [.ptr 1000001 0]),(7,jI l),(8,jI m),(9,.p (.bool o))],[(1000000,.row true 11 39 (rowsOf encT39 p)),(1000001,.box 39 [jI q,jI b,jU c,jI d,jI e,jI f,jI g,jI h,jI i,jI j,.sl 1 (rowsOf (encI .u8) a)])]⟩:St))=some r.st:=by
 unfold f61b_j2 at s
 cases s
 simp (disch:=first|apply D;decide|apply K;kernel_rfl) only [E,EE,↓reduceIte,simprocAttr,xk B61 [2,2] .sq rfl,rg B61 [1,2,2] 7 false rfl,hr 61 7 rfl,xk B61 [2,2,2] .rt rfl,fin61,R61b.st]
noncomputable def f61b_e (k:Nat) (e0:List T39) (e1 b c d e f g h i j:Int) (a:List Int):Option R61b :=
 Option.bind (f61b_l1 k k ((List.length e0):Int) 0 e0 e1 b c d e f g h i j a) fun o1 =>
  match o1 with
  | .o0 v4 v5 v6 v7 v8 v9 l m o p q s t =>
   some (.o0 v4 v5 v6 v7 v8 v9 l m o p q s t)
  | .o1 _ _ _ _ _ _ _ _ _ _ _ _ _ _ =>
   none
  | .o2 u v w x y z r n aa ab ac ad ae af ag =>
   f61b_j2 k u v w x y z r n aa ab ac ad ae af ag
theorem f61b_e_ok (k o p b c d e f g h i j a r) (l:f61b_e k o p b c d e f g h i j a=some r):finK Try.prog Try.f61 2 (EX 61 k (nav B61 []) (⟨19,[(0,.own 1000000),(1,V.fn 57 [.ptr 1000001 0])],[(1000000,.row true 11 39 (rowsOf encT39 o)),(1000001,.box 39 [jI p,jI b,jU c,jI d,jI e,jI f,jI g,jI h,jI i,jI j,.sl 1 (rowsOf (encI .u8) a)])]⟩:St))=some r.st:=by
 unfold f61b_e at l
 obtain ⟨o1,h2,l⟩:=bs l
 have m:=f61b_l1_ok k k ((List.length o):Int) 0 o p b c d e f g h i j a _ h2
 simp (disch:=first|apply D;decide|apply K;kernel_rfl) only [E,EE,↓reduceIte,simprocAttr,xk B61 [] .sq rfl,rg B61 [1] 0 false rfl,hr 61 0 rfl,xk B61 [2] .sq rfl,xk B61 [1,2] .sq rfl,rg B61 [1,1,2] 1 false rfl,hr 61 1 rfl,t_24,xk B61 [2,1,2] (.bk 0) rfl,xk B61 [2,2,1,2] .lp rfl,hh_61_2,hc_61_2]
 (try simp only [NM,EE] at m)
 rw [m _ (by simp (disch:=first|apply D;decide|apply K;kernel_rfl) only [E,EE,↓reduceIte,simprocAttr,hh_61_2,hc_61_2])]
 clear m
 cases o1 with
 | o0 v4 v5 v6 v7 v8 v9 ag ah ai aj ak al am =>
  (try dsimp only at l)
  cases l
  simp (disch:=first|apply D;decide|apply K;kernel_rfl) only [E,EE,↓reduceIte,simprocAttr,R61b_l1.st,fin61,R61b.st]
 | o1 _ _ _ _ _ _ _ _ _ _ _ _ _ _ =>
  (try dsimp only at l)
  cases l
 | o2 q s t u v w x y z n aa ab ac ad ae =>
  (try dsimp only at l)
  have hJ:=f61b_j2_ok k q s t u v w x y z n aa ab ac ad ae _ l
  simp (disch:=first|apply D;decide|apply K;kernel_rfl) only [E,EE,↓reduceIte,simprocAttr,R61b_l1.st]
  try simp only [NM,EE] at hJ
  exact hJ
noncomputable def f61b (k:Nat) (l:List T39) (m b c d e f g h i j:Int) (a:List Int):Option R61b:=match k with | 0=>none | k+1=>f61b_e k l m b c d e f g h i j a
theorem f61b_ok (k m o b d e f g h i j l a r) (p:f61b k m o b d e f g h i j l a=some r):CV k 61 [.own 1000000,V.fn 57 [.ptr 1000001 0]] [.row true 11 39 (rowsOf encT39 m),.box 39 [jI o,jI b,jU d,jI e,jI f,jI g,jI h,jI i,jI j,jI l,.sl 1 (rowsOf (encI .u8) a)]]=some r.st:=by
 cases k with
 | zero=>cases p
 | succ k =>
  unfold CV
  rw [ev_call (F:=Try.f61) (c:=(nav B61 [])) rfl Try.func61 rfl rfl rfl rfl]
  exact f61b_e_ok k m o b d e f g h i j l a r p
-- f42b: f42 slices.DeleteFunc[[]heliograph/api.Bundle,heliograph/api.Bundle]
inductive R42b where
 | o0 (y:List T39) (c d e f g h i j l a:Int) (b:List Int)
 | o1 (y c:Nat) (d:List T39) (e f g h i j l a b m:Int) (o:List Int)
noncomputable def R42b.st:R42b→V×List O×List O
 | .o0 y c d e f g h i j l a b=>(.own 1000000,[.row true 11 39 (rowsOf encT39 y),.box 39 [jI c,jI d,jU e,jI f,jI g,jI h,jI i,jI j,jI l,jI a,.sl 1 (rowsOf (encI .u8) b)]],[])
 | .o1 y c d e f g h i j l a b m o=>(V.cut 1000000 11 y c,[.row true 11 39 (rowsOf encT39 d),.box 39 [jI e,jI f,jU g,jI h,jI i,jI j,jI l,jI a,jI b,jI m,.sl 1 (rowsOf (encI .u8) o)]],[])
inductive R42b_l2 where
 | o0 (y e:Int) (f:List T39) (g h i j l m o a b c:Int) (d:List Int)
 | o1 (y e:Int) (f:Bool) (g:List T39) (h i j l m o a b c d:Int) (p:List Int)
noncomputable def R42b_l2.st:R42b_l2→Out×St
 | .o0 y e f g h i j l m o a b c d=>(.norm,(⟨42,[(0,.own 1000000),(1,V.fn 57 [.ptr 1000001 0]),(5,jI y),(6,jI e)],[(1000000,.row true 11 39 (rowsOf encT39 f)),(1000001,.box 39 [jI g,jI h,jU i,jI j,jI l,jI m,jI o,jI a,jI b,jI c,.sl 1 (rowsOf (encI .u8) d)])]⟩:St))
 | .o1 y e f g h i j l m o a b c d p=>(.exit 0,(⟨42,[(0,.own 1000000),(1,V.fn 57 [.ptr 1000001 0]),(5,jI y),(6,jI e),(19,.p (.bool f))],[(1000000,.row true 11 39 (rowsOf encT39 g)),(1000001,.box 39 [jI h,jI i,jU j,jI l,jI m,jI o,jI a,jI b,jI c,jI d,.sl 1 (rowsOf (encI .u8) p)])]⟩:St))
noncomputable def f42b_l2_j2 (k:Nat) (l m:Int) (o:List T39) (p b c d e f g h i j:Int) (a:List Int):Option R42b_l2 :=
 some (.o0 l (IntKind.i64.wrap (m+(1:Int))) o p b c d e f g h i j a)
theorem f42b_l2_j2_ok (k l m o p b c d e f g h i j a r) (q:f42b_l2_j2 k l m o p b c d e f g h i j a=some r):EX 42 k (nav B42 [2,2,1,2,2,1,2,2,2]) (⟨42,[(0,.own 1000000),(1,V.fn 57 [.ptr 1000001 0]),(5,jI l),(6,jI m)],[(1000000,.row true 11 39 (rowsOf encT39 o)),(1000001,.box 39 [jI p,jI b,jU c,jI d,jI e,jI f,jI g,jI h,jI i,jI j,.sl 1 (rowsOf (encI .u8) a)])]⟩:St)=some r.st:=by
 unfold f42b_l2_j2 at q
 cases q
 simp (disch:=first|apply D;decide|apply K;kernel_rfl) only [E,EE,↓reduceIte,simprocAttr,rg B42 [2,2,1,2,2,1,2,2,2] 6 false rfl,hr 42 6 rfl,R42b_l2.st]
noncomputable def f42b_l2_j3 (k:Nat) (x y:Int) (z:Bool) (r:List T39) (n b c d e f g h i j:Int) (a:List Int) (m7 m o p q s t u v w:Int) (l:List Int):Option R42b_l2 :=
 some (.o0 x (IntKind.i64.wrap (y+(1:Int))) r n b c d e f g h i j a)
theorem f42b_l2_j3_ok (k y z x n e1 c d e f g h i j l a m7 m o p q s t u v w b r) (hF:f42b_l2_j3 k y z x n e1 c d e f g h i j l a m7 m o p q s t u v w b=some r):EX 42 k (nav B42 [2,2,1,2,2,1,2,2,2]) (⟨42,[(0,.own 1000000),(1,V.fn 57 [.ptr 1000001 0]),(5,jI y),(6,jI z),(7,.ptr 7 0),(29,.p (.bool x))],[(1000000,.row true 11 39 (rowsOf encT39 n)),(1000001,.box 39 [jI e1,jI c,jU d,jI e,jI f,jI g,jI h,jI i,jI j,jI l,.sl 1 (rowsOf (encI .u8) a)]),(7,.box 39 [jI m7,jI m,jU o,jI p,jI q,jI s,jI t,jI u,jI v,jI w,.sl 1 (rowsOf (encI .u8) b)])]⟩:St)=some r.st:=by
 unfold f42b_l2_j3 at hF
 cases hF
 simp (disch:=first|apply D;decide|apply K;kernel_rfl) only [E,EE,↓reduceIte,simprocAttr,rg B42 [2,2,1,2,2,1,2,2,2] 6 false rfl,hr 42 6 rfl,R42b_l2.st]
noncomputable def f42b_l2_j1 (k:Nat) (c e:Int) (aa:Bool) (d:List T39) (e1 f g h i j l m o p:Int) (b:List Int):Option R42b_l2 :=
 ifE ((0:Int)≤e) (
  ifE (e<((List.length d):Int)) (
   Option.bind (d[(Int.toNat e)]?) fun a =>
    Option.bind (f57 k a.Source a.Dest a.Seq a.Created a.Lifetime a.HopLimit a.Hops a.Priority a.Offset a.Total a.Payload e1 f g h i j l m o p b) fun o5 =>
     match o5 with
     | .o0 v8 n q s t u v w x y z r =>
      cond ((!v8))
       (
        ifE ((0:Int)≤c) (
         ifE (c<((List.length d):Int)) (
          Option.bind (d[(Int.toNat c)]?) fun ad =>
           f42b_l2_j2 k (IntKind.i64.wrap (c+(1:Int))) e (List.set d (Int.toNat c) a) n q s t u v w x y z r)))
       (f42b_l2_j3 k c e false d n q s t u v w x y z r a.Source a.Dest a.Seq a.Created a.Lifetime a.HopLimit a.Hops a.Priority a.Offset a.Total a.Payload)))
theorem f42b_l2_j1_ok (k s x6 v t e1 d e f g h j m o p c r) (b:f42b_l2_j1 k s x6 v t e1 d e f g h j m o p c=some r):EX 42 k (nav B42 [2,1,2,2,1,2,2,2]) (⟨42,[(0,.own 1000000),(1,V.fn 57 [.ptr 1000001 0]),(5,jI s),(6,jI x6),(19,.p (.bool v))],[(1000000,.row true 11 39 (rowsOf encT39 t)),(1000001,.box 39 [jI e1,jI d,jU e,jI f,jI g,jI h,jI j,jI m,jI o,jI p,.sl 1 (rowsOf (encI .u8) c)])]⟩:St)=some r.st:=by
 unfold f42b_l2_j1 at b
 obtain ⟨h1,b⟩:=ifE_some.1 b
 obtain ⟨h2,b⟩:=ifE_some.1 b
 obtain ⟨a,h4,b⟩:=bs b
 obtain ⟨o5,h6,b⟩:=bs b
 have q:=f57_ok k a.Source a.Dest a.Seq a.Created a.Lifetime a.HopLimit a.Hops a.Priority a.Offset a.Total a.Payload e1 d e f g h j m o p c _ h6
 cases o5 with
 | o0 v8 v9 w y z n aa ab ac ad ae af =>
  (try dsimp only at b)
  (try simp only [NM,EE,R57.st] at q)
  simp (disch:=first|apply D;decide|apply K;kernel_rfl) only [E,EE,↓reduceIte,simprocAttr,xk B42 [2,1,2,2,1,2,2,2] .sq rfl,xk B42 [1,2,1,2,2,1,2,2,2] (.bk 1) rfl,xk B42 [2,1,2,1,2,2,1,2,2,2] .sq rfl,rg B42 [1,2,1,2,1,2,2,1,2,2,2] 7 false rfl,hr 42 7 rfl,indexAddrV,t_24,t_39,encT39_eq,xk B42 [2,2,1,2,1,2,2,1,2,2,2] .sq rfl,rg B42 [1,2,2,1,2,1,2,2,1,2,2,2] 8 false rfl,hr 42 8 rfl,callStep,CL,gv,List.contains,xk B42 [2,2,2,1,2,1,2,2,1,2,2,2] (.cd 29) rfl,h1,h2,h4,q]
  rcases cond_some b with ⟨u,b⟩ | ⟨u,b⟩
  ·obtain ⟨al,b⟩:=ifE_some.1 b
   obtain ⟨am,b⟩:=ifE_some.1 b
   obtain ⟨ar,an,b⟩:=bs b
   have ao:List.set (rowsOf encT39 t) (Int.toNat s) [jI a.Source,jI a.Dest,jU a.Seq,jI a.Created,jI a.Lifetime,jI a.HopLimit,jI a.Hops,jI a.Priority,jI a.Offset,jI a.Total,.sl 1 (rowsOf (encI .u8) a.Payload)]=rowsOf encT39 (List.set t (Int.toNat s) a):=(rowsOf_set (enc:=encT39) (l:=t) (i:=(Int.toNat s)) (x:=a)).symm
   have hJ:=f42b_l2_j2_ok k (IntKind.i64.wrap (s+(1:Int))) x6 (List.set t (Int.toNat s) a) v9 w y z n aa ab ac ad ae af _ b
   simp (disch:=first|apply D;decide|apply K;kernel_rfl) only [E,EE,↓reduceIte,simprocAttr,xk B42 [2,2,2,2,1,2,1,2,2,1,2,2,2] .sq rfl,rg B42 [1,2,2,2,2,1,2,1,2,2,1,2,2,2] 9 false rfl,hr 42 9 rfl,t_39,indexAddrV,t_24,sm_39,encT39_eq,rg B42 [2,2,2,2,2,1,2,1,2,2,1,2,2,2] 10 false rfl,hr 42 10 rfl,h1,h2,h4,q,u,al,am,an,ao]
   try simp only [NM,EE] at hJ
   exact hJ
  ·have hJ:=f42b_l2_j3_ok k s x6 false t v9 w y z n aa ab ac ad ae af a.Source a.Dest a.Seq a.Created a.Lifetime a.HopLimit a.Hops a.Priority a.Offset a.Total a.Payload _ b
   simp (disch:=first|apply D;decide|apply K;kernel_rfl) only [E,EE,↓reduceIte,simprocAttr,xk B42 [3,2,2,2,1,2,1,2,2,1,2,2,2] .sk rfl,h1,h2,h4,q,u]
   try simp only [NM,EE] at hJ
   exact hJ
noncomputable def f42b_l2_b (k:Nat) (o l:Int) (m:List T39) (p b c d e f g h i j:Int) (a:List Int):Option R42b_l2 :=
 cond ((decide (l<((List.length m):Int))))
  (f42b_l2_j1 k o l true m p b c d e f g h i j a)
  (some (.o1 o l false m p b c d e f g h i j a))
theorem f42b_l2_b_ok (k m o p q b c d e f g h i j a r) (l:f42b_l2_b k m o p q b c d e f g h i j a=some r):EX 42 k (nav B42 [1,2,2,1,2,2,2]) (⟨42,[(0,.own 1000000),(1,V.fn 57 [.ptr 1000001 0]),(5,jI m),(6,jI o)],[(1000000,.row true 11 39 (rowsOf encT39 p)),(1000001,.box 39 [jI q,jI b,jU c,jI d,jI e,jI f,jI g,jI h,jI i,jI j,.sl 1 (rowsOf (encI .u8) a)])]⟩:St)=some r.st:=by
 unfold f42b_l2_b at l
 simp (disch:=first|apply D;decide|apply K;kernel_rfl) only [E,EE,↓reduceIte,simprocAttr,xk B42 [1,2,2,1,2,2,2] .sq rfl,xk B42 [1,1,2,2,1,2,2,2] .sq rfl,rg B42 [1,1,1,2,2,1,2,2,2] 5 false rfl,hr 42 5 rfl,t_24,xk B42 [2,1,1,2,2,1,2,2,2] (.cd 19) rfl]
 rcases cond_some l with ⟨s,l⟩ | ⟨s,l⟩
 ·have hJ:=f42b_l2_j1_ok k m o true p q b c d e f g h i j a _ l
  simp (disch:=first|apply D;decide|apply K;kernel_rfl) only [E,EE,↓reduceIte,simprocAttr,xk B42 [2,2,1,1,2,2,1,2,2,2] .sk rfl,s]
  try simp only [NM,EE] at hJ
  exact hJ
 ·cases l
  simp (disch:=first|apply D;decide|apply K;kernel_rfl) only [E,EE,↓reduceIte,simprocAttr,xk B42 [3,2,1,1,2,2,1,2,2,2] (.ex 0) rfl,R42b_l2.st,s]
noncomputable def f42b_l2 (k:Nat):Nat→Int→Int→(List T39)→Int→Int→Int→Int→Int→Int→Int→Int→Int→Int→(List Int)→Option R42b_l2
 | 0,_,_,_,_,_,_,_,_,_,_,_,_,_,_=>none
 | n+1,x5,x6,e0,e1,s,t,u,v,w,x,z,r,aa,e=>Option.bind (f42b_l2_b k x5 x6 e0 e1 s t u v w x z r aa e) fun o =>
  match o with
  | .o0 y f g h i j l m p q a b c d=>f42b_l2 k n y f g h i j l m p q a b c d
  | .o1 y f g h i j l m p q a b c d ab=>some (.o1 y f g h i j l m p q a b c d ab)
theorem f42b_l2_ok (k n:Nat):∀ (u v:Int) (w:List T39) (x b c d e f g i j l:Int) (a:List Int) (r:R42b_l2) (m:f42b_l2 k n u v w x b c d e f g i j l a=some r) (σ:St) (hσ:headR (hints.head 42 5) (hints.canon 42 5) σ=some (⟨42,[(0,.own 1000000),(1,V.fn 57 [.ptr 1000001 0]),(5,jI u),(6,jI v)],[(1000000,.row true 11 39 (rowsOf encT39 w)),(1000001,.box 39 [jI x,jI b,jU c,jI d,jI e,jI f,jI g,jI i,jI j,jI l,.sl 1 (rowsOf (encI .u8) a)])]⟩:St)),LP 42 k (nav B42 [1,2,2,1,2,2,2]) n σ=some r.st:=by
 induction n with
 | zero=>intro u v w x b c d e f g i j l a r m;cases m
 | succ n ih =>
  intro u v w x b c d e f g i j l a r m σ hσ
  rw [f42b_l2] at m
  obtain ⟨o,h,m⟩:=Option.bind_eq_some_iff.1 m
  have hB:=f42b_l2_b_ok k u v w x b c d e f g i j l a o h
  unfold LP at ih ⊢
  unfold EX at hB
  rw [loopK_succ,show firstReg (nav B42 [1,2,2,1,2,2,2])=5 from rfl,hσ,headK_some,hB]
  cases o with
  | o0 y z aa ab ac ad ae af ag ah p q s t =>
   refine ih y z aa ab ac ad ae af ag ah p q s t r m _ ?_
   simp (disch:=first|apply D;decide|apply K;kernel_rfl) only [E,EE,↓reduceIte,simprocAttr,hh_42_5,hc_42_5]
  | o1 y z aa ab ac ad ae af ag ah p q s t aj=>cases m;rfl
noncomputable def f42b_j3 (k:Nat) (a q:Int) (o:Bool) (b:List T39) (p d e f g h i j l m:Int) (c:List Int):Option R42b :=
 ifE ((0:Int)≤a) (
  ifE ((Int.toNat a)≤(List.length b)) (
   ifE (((Int.toNat a)+((List.length b) - (Int.toNat a)))≤(List.length b)) (
    ifE ((Int.toNat a)≤(List.length (((List.take (Int.toNat a) b)++(List.replicate (((List.length b) - (Int.toNat a))) ((T39.mk 0 0 0 0 0 0 0 0 0 0 []):T39)++(List.drop (((Int.toNat a)+((List.length b) - (Int.toNat a)))) b)))))) (
     some (.o1 0 (Int.toNat a) (((List.take (Int.toNat a) b)++(List.replicate (((List.length b) - (Int.toNat a))) ((T39.mk 0 0 0 0 0 0 0 0 0 0 []):T39)++(List.drop (((Int.toNat a)+((List.length b) - (Int.toNat a)))) b)))) p d e f g h i j l m c)))))
theorem f42b_j3_ok (k m q o p s c d e f g h i j l a r) (b:f42b_j3 k m q o p s c d e f g h i j l a=some r):finK Try.prog Try.f42 2 (EX 42 k (nav B42 [2,2,2,2]) (⟨42,[(0,.own 1000000),(1,V.fn 57 [.ptr 1000001 0]),(5,jI m),(6,jI q),(19,.p (.bool o))],[(1000000,.row true 11 39 (rowsOf encT39 p)),(1000001,.box 39 [jI s,jI c,jU d,jI e,jI f,jI g,jI h,jI i,jI j,jI l,.sl 1 (rowsOf (encI .u8) a)])]⟩:St))=some r.st:=by
 unfold f42b_j3 at b
 obtain ⟨t,b⟩:=ifE_some.1 b
 obtain ⟨u,b⟩:=ifE_some.1 b
 obtain ⟨v,b⟩:=ifE_some.1 b
 have w:List.replicate (((List.length p) - (Int.toNat m))) [jI 0,jI 0,jU 0,jI 0,jI 0,jI 0,jI 0,jI 0,jI 0,jI 0,.sl 1 []]=rowsOf encT39 (List.replicate (((List.length p) - (Int.toNat m))) ((T39.mk 0 0 0 0 0 0 0 0 0 0 []):T39)):=(rowsOf_replicate (enc:=encT39) (n:=(((List.length p) - (Int.toNat m)))) (x:=((T39.mk 0 0 0 0 0 0 0 0 0 0 []):T39))).symm
 obtain ⟨y,b⟩:=ifE_some.1 b
 cases b
 simp (disch:=first|apply D;decide|apply K;kernel_rfl) only [E,EE,↓reduceIte,simprocAttr,xk B42 [2,2,2,2] .sq rfl,rg B42 [1,2,2,2,2] 11 false rfl,hr 42 11 rfl,sliceV,bound,t_24,t_39,clearV,sm_39,xk B42 [2,2,2,2,2] .sq rfl,rg B42 [1,2,2,2,2,2] 12 false rfl,hr 42 12 rfl,xk B42 [2,2,2,2,2,2] .rt rfl,fin42,R42b.st,t,u,v,w,y]
noncomputable def f42b_j1 (k:Nat) (w:Int) (x:Bool) (y:List T39) (z b c d e f g h i j:Int) (a:List Int):Option R42b :=
 Option.bind (f42b_l2 k k w (IntKind.i64.wrap (w+(1:Int))) y z b c d e f g h i j a) fun o1 =>
  match o1 with
  | .o0 _ _ _ _ _ _ _ _ _ _ _ _ _ _ =>
   none
  | .o1 r n v6 v7 v8 v9 l m o p q s t u v =>
   f42b_j3 k r n v6 v7 v8 v9 l m o p q s t u v
theorem f42b_j1_ok (k p o q s b c d e f g h i j a r) (l:f42b_j1 k p o q s b c d e f g h i j a=some r):finK Try.prog Try.f42 2 (EX 42 k (nav B42 [2,2,2]) (⟨42,[(0,.own 1000000),(1,V.fn 57 [.ptr 1000001 0]),(5,jI p),(12,.p (.bool o))],[(1000000,.row true 11 39 (rowsOf encT39 q)),(1000001,.box 39 [jI s,jI b,jU c,jI d,jI e,jI f,jI g,jI h,jI i,jI j,.sl 1 (rowsOf (encI .u8) a)])]⟩:St))=some r.st:=by
 unfold f42b_j1 at l
 obtain ⟨o1,h2,l⟩:=bs l
 have m:=f42b_l2_ok k k p (IntKind.i64.wrap (p+(1:Int))) q s b c d e f g h i j a _ h2
 simp (disch:=first|apply D;decide|apply K;kernel_rfl) only [E,EE,↓reduceIte,simprocAttr,xk B42 [2,2,2] .sq rfl,xk B42 [1,2,2,2] .sq rfl,rg B42 [1,1,2,2,2] 4 false rfl,hr 42 4 rfl,xk B42 [2,1,2,2,2] (.bk 0) rfl,xk B42 [2,2,1,2,2,2] .lp rfl,hh_42_5,hc_42_5]
 (try simp only [NM,EE] at m)
 rw [m _ (by simp (disch:=first|apply D;decide|apply K;kernel_rfl) only [E,EE,↓reduceIte,simprocAttr,hh_42_5,hc_42_5])]
 clear m
 cases o1 with
 | o0 _ _ _ _ _ _ _ _ _ _ _ _ _ _ =>
  (try dsimp only at l)
  cases l
 | o1 v4 v5 v6 v7 v8 v9 t u v w x y z n aa =>
  (try dsimp only at l)
  have hJ:=f42b_j3_ok k v4 v5 v6 v7 v8 v9 t u v w x y z n aa _ l
  simp (disch:=first|apply D;decide|apply K;kernel_rfl) only [E,EE,↓reduceIte,simprocAttr,R42b_l2.st]
  try simp only [NM,EE] at hJ
  exact hJ
noncomputable def f42b_e (k:Nat) (r:List T39) (n b c d e f g h i j:Int) (a:List Int):Option R42b :=
 Option.bind (f61b k r n b c d e f g h i j a) fun o1 =>
  match o1 with
  | .o0 u v w x y z l m o p q s t =>
   cond ((u==(-1)))
    (some (.o0 v w x y z l m o p q s t))
    (f42b_j1 k u false v w x y z l m o p q s t)
theorem f42b_e_ok (k p q b c d e f g h i j a r) (l:f42b_e k p q b c d e f g h i j a=some r):finK Try.prog Try.f42 2 (EX 42 k (nav B42 []) (⟨42,[(0,.own 1000000),(1,V.fn 57 [.ptr 1000001 0])],[(1000000,.row true 11 39 (rowsOf encT39 p)),(1000001,.box 39 [jI q,jI b,jU c,jI d,jI e,jI f,jI g,jI h,jI i,jI j,.sl 1 (rowsOf (encI .u8) a)])]⟩:St))=some r.st:=by
 unfold f42b_e at l
 obtain ⟨o1,z,l⟩:=bs l
 have m:=f61b_ok k p q b c d e f g h i j a _ z
 cases o1 with
 | o0 n v5 v6 v7 v8 v9 s t u v w x y =>
  (try dsimp only at l)
  (try simp only [NM,EE,R61b.st] at m)
  simp (disch:=first|apply D;decide|apply K;kernel_rfl) only [E,EE,↓reduceIte,simprocAttr,xk B42 [] .sq rfl,rg B42 [1] 0 false rfl,hr 42 0 rfl,xk B42 [2] .sq rfl,rg B42 [1,2] 1 false rfl,hr 42 1 rfl,callStep,CL,gv,List.contains,xk B42 [2,2] .sq rfl,xk B42 [1,2,2] .sq rfl,rg B42 [1,1,2,2] 2 false rfl,hr 42 2 rfl,xk B42 [2,1,2,2] (.cd 12) rfl,m]
  rcases cond_some l with ⟨o,l⟩ | ⟨o,l⟩
  ·cases l
   simp (disch:=first|apply D;decide|apply K;kernel_rfl) only [E,EE,↓reduceIte,simprocAttr,xk B42 [2,2,1,2,2] .sq rfl,rg B42 [1,2,2,1,2,2] 3 false rfl,hr 42 3 rfl,xk B42 [2,2,2,1,2,2] .rt rfl,fin42,R42b.st,m,o]
  ·have hJ:=f42b_j1_ok k n false v5 v6 v7 v8 v9 s t u v w x y _ l
   simp (disch:=first|apply D;decide|apply K;kernel_rfl) only [E,EE,↓reduceIte,simprocAttr,xk B42 [3,2,1,2,2] .sk rfl,m,o]
   try simp only [NM,EE] at hJ
   exact hJ
noncomputable def f42b (k:Nat) (l:List T39) (m b c d e f g h i j:Int) (a:List Int):Option R42b:=match k with | 0=>none | k+1=>f42b_e k l m b c d e f g h i j a
theorem f42b_ok (k m o b d e f g h i j l a r) (p:f42b k m o b d e f g h i j l a=some r):CV k 42 [.own 1000000,V.fn 57 [.ptr 1000001 0]] [.row true 11 39 (rowsOf encT39 m),.box 39 [jI o,jI b,jU d,jI e,jI f,jI g,jI h,jI i,jI j,jI l,.sl 1 (rowsOf (encI .u8) a)]]=some r.st:=by
 cases k with
 | zero=>cases p
 | succ k =>
  unfold CV
  rw [ev_call (F:=Try.f42) (c:=(nav B42 [])) rfl Try.func42 rfl rfl rfl rfl]
  exact f42b_e_ok k m o b d e f g h i j l a r p
end Go.Proofs.YticggdfaehneeaaV