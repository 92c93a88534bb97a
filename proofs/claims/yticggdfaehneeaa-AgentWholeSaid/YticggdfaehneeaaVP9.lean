/- What the program's functions answer: plain functions,and that the interpreter answers what they do. Written by a program of this session,out of the translation. -/
import Derived.Test.YticggdfaehneeaaVP8
namespace Go.Proofs.YticggdfaehneeaaV
open Go
set_option linter.unusedVariables false
set_option linter.unusedSimpArgs false
set_option maxRecDepth 8000
set_option maxHeartbeats 4000000
-- f42a: f42 slices.DeleteFunc[[]heliograph/api.Bundle,heliograph/api.Bundle]
inductive R42a where
 | o0 (y:List T39) (a b:Int)
 | o1 (y a:Nat) (b:List T39) (c d:Int)
noncomputable def R42a.st:R42a→V×List O×List O
 | .o0 y a b=>(.own 1000000,[.row true 11 39 (rowsOf encT39 y),.box 79 [jI a,jU b]],[])
 | .o1 y a b c d=>(V.cut 1000000 11 y a,[.row true 11 39 (rowsOf encT39 b),.box 79 [jI c,jU d]],[])
inductive R42a_l2 where
 | o0 (y a:Int) (b:List T39) (c d:Int)
 | o1 (y a:Int) (b:Bool) (c:List T39) (d e:Int)
noncomputable def R42a_l2.st:R42a_l2→Out×St
 | .o0 y a b c d=>(.norm,(⟨42,[(0,.own 1000000),(1,V.fn 55 [.ptr 1000001 0]),(5,jI y),(6,jI a)],[(1000000,.row true 11 39 (rowsOf encT39 b)),(1000001,.box 79 [jI c,jU d])]⟩:St))
 | .o1 y a b c d e=>(.exit 0,(⟨42,[(0,.own 1000000),(1,V.fn 55 [.ptr 1000001 0]),(5,jI y),(6,jI a),(19,.p (.bool b))],[(1000000,.row true 11 39 (rowsOf encT39 c)),(1000001,.box 79 [jI d,jU e])]⟩:St))
noncomputable def f42a_l2_j2 (k:Nat) (b c:Int) (d:List T39) (e a:Int):Option R42a_l2 :=
 some (.o0 b (IntKind.i64.wrap (c+(1:Int))) d e a)
theorem f42a_l2_j2_ok (k b c d e a r) (f:f42a_l2_j2 k b c d e a=some r):EX 42 k (nav B42 [2,2,1,2,2,1,2,2,2]) (⟨42,[(0,.own 1000000),(1,V.fn 55 [.ptr 1000001 0]),(5,jI b),(6,jI c)],[(1000000,.row true 11 39 (rowsOf encT39 d)),(1000001,.box 79 [jI e,jU a])]⟩:St)=some r.st:=by
 unfold f42a_l2_j2 at f
 cases f
 simp (disch:=first|apply D;decide|apply K;kernel_rfl) only [E,EE,↓reduceIte,simprocAttr,rg B42 [2,2,1,2,2,1,2,2,2] 6 false rfl,hr 42 6 rfl,R42a_l2.st]
noncomputable def f42a_l2_j3 (k:Nat) (m o:Int) (p:Bool) (q:List T39) (s a t c d e f g h i j l:Int) (b:List Int):Option R42a_l2 :=
 some (.o0 m (IntKind.i64.wrap (o+(1:Int))) q s a)
theorem f42a_l2_j3_ok (k o p m q s b t c d e f g h i j l a r) (u:f42a_l2_j3 k o p m q s b t c d e f g h i j l a=some r):EX 42 k (nav B42 [2,2,1,2,2,1,2,2,2]) (⟨42,[(0,.own 1000000),(1,V.fn 55 [.ptr 1000001 0]),(5,jI o),(6,jI p),(7,.ptr 7 0),(29,.p (.bool m))],[(1000000,.row true 11 39 (rowsOf encT39 q)),(1000001,.box 79 [jI s,jU b]),(7,.box 39 [jI t,jI c,jU d,jI e,jI f,jI g,jI h,jI i,jI j,jI l,.sl 1 (rowsOf (encI .u8) a)])]⟩:St)=some r.st:=by
 unfold f42a_l2_j3 at u
 cases u
 simp (disch:=first|apply D;decide|apply K;kernel_rfl) only [E,EE,↓reduceIte,simprocAttr,rg B42 [2,2,1,2,2,1,2,2,2] 6 false rfl,hr 42 6 rfl,R42a_l2.st]
noncomputable def f42a_l2_j1 (k:Nat) (b d:Int) (h:Bool) (c:List T39) (i e:Int):Option R42a_l2 :=
 ifE ((0:Int)≤d) (
  ifE (d<((List.length c):Int)) (
   Option.bind (c[(Int.toNat d)]?) fun a =>
    Option.bind (f55 k a.Source a.Dest a.Seq a.Created a.Lifetime a.HopLimit a.Hops a.Priority a.Offset a.Total a.Payload i e) fun o5 =>
     match o5 with
     | .o0 j g f =>
      cond ((!j))
       (
        ifE ((0:Int)≤b) (
         ifE (b<((List.length c):Int)) (
          Option.bind (c[(Int.toNat b)]?) fun l =>
           f42a_l2_j2 k (IntKind.i64.wrap (b+(1:Int))) d (List.set c (Int.toNat b) a) g f)))
       (f42a_l2_j3 k b d false c g f a.Source a.Dest a.Seq a.Created a.Lifetime a.HopLimit a.Hops a.Priority a.Offset a.Total a.Payload)))
theorem f42a_l2_j1_ok (k e m h f o c r) (b:f42a_l2_j1 k e m h f o c=some r):EX 42 k (nav B42 [2,1,2,2,1,2,2,2]) (⟨42,[(0,.own 1000000),(1,V.fn 55 [.ptr 1000001 0]),(5,jI e),(6,jI m),(19,.p (.bool h))],[(1000000,.row true 11 39 (rowsOf encT39 f)),(1000001,.box 79 [jI o,jU c])]⟩:St)=some r.st:=by
 unfold f42a_l2_j1 at b
 obtain ⟨p,b⟩:=ifE_some.1 b
 obtain ⟨q,b⟩:=ifE_some.1 b
 obtain ⟨a,s,b⟩:=bs b
 obtain ⟨o5,z,b⟩:=bs b
 have d:=f55_ok k a.Source a.Dest a.Seq a.Created a.Lifetime a.HopLimit a.Hops a.Priority a.Offset a.Total a.Payload o c _ z
 cases o5 with
 | o0 v8 y j =>
  (try dsimp only at b)
  (try simp only [NM,EE,R55.st] at d)
  simp (disch:=first|apply D;decide|apply K;kernel_rfl) only [E,EE,↓reduceIte,simprocAttr,xk B42 [2,1,2,2,1,2,2,2] .sq rfl,xk B42 [1,2,1,2,2,1,2,2,2] (.bk 1) rfl,xk B42 [2,1,2,1,2,2,1,2,2,2] .sq rfl,rg B42 [1,2,1,2,1,2,2,1,2,2,2] 7 false rfl,hr 42 7 rfl,indexAddrV,t_24,t_39,encT39_eq,xk B42 [2,2,1,2,1,2,2,1,2,2,2] .sq rfl,rg B42 [1,2,2,1,2,1,2,2,1,2,2,2] 8 false rfl,hr 42 8 rfl,callStep,CL,gv,List.contains,xk B42 [2,2,2,1,2,1,2,2,1,2,2,2] (.cd 29) rfl,p,q,s,d]
  rcases cond_some b with ⟨g,b⟩ | ⟨g,b⟩
  ·obtain ⟨t,b⟩:=ifE_some.1 b
   obtain ⟨u,b⟩:=ifE_some.1 b
   obtain ⟨n,v,b⟩:=bs b
   have w:List.set (rowsOf encT39 f) (Int.toNat e) [jI a.Source,jI a.Dest,jU a.Seq,jI a.Created,jI a.Lifetime,jI a.HopLimit,jI a.Hops,jI a.Priority,jI a.Offset,jI a.Total,.sl 1 (rowsOf (encI .u8) a.Payload)]=rowsOf encT39 (List.set f (Int.toNat e) a):=(rowsOf_set (enc:=encT39) (l:=f) (i:=(Int.toNat e)) (x:=a)).symm
   have hJ:=f42a_l2_j2_ok k (IntKind.i64.wrap (e+(1:Int))) m (List.set f (Int.toNat e) a) y j _ b
   simp (disch:=first|apply D;decide|apply K;kernel_rfl) only [E,EE,↓reduceIte,simprocAttr,xk B42 [2,2,2,2,1,2,1,2,2,1,2,2,2] .sq rfl,rg B42 [1,2,2,2,2,1,2,1,2,2,1,2,2,2] 9 false rfl,hr 42 9 rfl,t_39,indexAddrV,t_24,sm_39,encT39_eq,rg B42 [2,2,2,2,2,1,2,1,2,2,1,2,2,2] 10 false rfl,hr 42 10 rfl,p,q,s,d,g,t,u,v,w]
   try simp only [NM,EE] at hJ
   exact hJ
  ·have hJ:=f42a_l2_j3_ok k e m false f y j a.Source a.Dest a.Seq a.Created a.Lifetime a.HopLimit a.Hops a.Priority a.Offset a.Total a.Payload _ b
   simp (disch:=first|apply D;decide|apply K;kernel_rfl) only [E,EE,↓reduceIte,simprocAttr,xk B42 [3,2,2,2,1,2,1,2,2,1,2,2,2] .sk rfl,p,q,s,d,g]
   try simp only [NM,EE] at hJ
   exact hJ
noncomputable def f42a_l2_b (k:Nat) (d b:Int) (c:List T39) (e a:Int):Option R42a_l2 :=
 cond ((decide (b<((List.length c):Int))))
  (f42a_l2_j1 k d b true c e a)
  (some (.o1 d b false c e a))
theorem f42a_l2_b_ok (k c d e f a r) (b:f42a_l2_b k c d e f a=some r):EX 42 k (nav B42 [1,2,2,1,2,2,2]) (⟨42,[(0,.own 1000000),(1,V.fn 55 [.ptr 1000001 0]),(5,jI c),(6,jI d)],[(1000000,.row true 11 39 (rowsOf encT39 e)),(1000001,.box 79 [jI f,jU a])]⟩:St)=some r.st:=by
 unfold f42a_l2_b at b
 simp (disch:=first|apply D;decide|apply K;kernel_rfl) only [E,EE,↓reduceIte,simprocAttr,xk B42 [1,2,2,1,2,2,2] .sq rfl,xk B42 [1,1,2,2,1,2,2,2] .sq rfl,rg B42 [1,1,1,2,2,1,2,2,2] 5 false rfl,hr 42 5 rfl,t_24,xk B42 [2,1,1,2,2,1,2,2,2] (.cd 19) rfl]
 rcases cond_some b with ⟨g,b⟩ | ⟨g,b⟩
 ·have hJ:=f42a_l2_j1_ok k c d true e f a _ b
  simp (disch:=first|apply D;decide|apply K;kernel_rfl) only [E,EE,↓reduceIte,simprocAttr,xk B42 [2,2,1,1,2,2,1,2,2,2] .sk rfl,g]
  try simp only [NM,EE] at hJ
  exact hJ
 ·cases b
  simp (disch:=first|apply D;decide|apply K;kernel_rfl) only [E,EE,↓reduceIte,simprocAttr,xk B42 [3,2,1,1,2,2,1,2,2,2] (.ex 0) rfl,R42a_l2.st,g]
noncomputable def f42a_l2 (k:Nat):Nat→Int→Int→(List T39)→Int→Int→Option R42a_l2
 | 0,_,_,_,_,_=>none
 | n+1,g,h,i,j,e=>Option.bind (f42a_l2_b k g h i j e) fun o =>
  match o with
  | .o0 y a b c d=>f42a_l2 k n y a b c d
  | .o1 y a b c d f=>some (.o1 y a b c d f)
theorem f42a_l2_ok (k n:Nat):∀ (c d:Int) (e:List T39) (f a:Int) (r:R42a_l2) (b:f42a_l2 k n c d e f a=some r) (σ:St) (hσ:headR (hints.head 42 5) (hints.canon 42 5) σ=some (⟨42,[(0,.own 1000000),(1,V.fn 55 [.ptr 1000001 0]),(5,jI c),(6,jI d)],[(1000000,.row true 11 39 (rowsOf encT39 e)),(1000001,.box 79 [jI f,jU a])]⟩:St)),LP 42 k (nav B42 [1,2,2,1,2,2,2]) n σ=some r.st:=by
 induction n with
 | zero=>intro c d e f a r b;cases b
 | succ n m =>
  intro c d e f a r b σ hσ
  rw [f42a_l2] at b
  obtain ⟨o,h,b⟩:=Option.bind_eq_some_iff.1 b
  have hB:=f42a_l2_b_ok k c d e f a o h
  unfold LP at m ⊢
  unfold EX at hB
  rw [loopK_succ,show firstReg (nav B42 [1,2,2,1,2,2,2])=5 from rfl,hσ,headK_some,hB]
  cases o with
  | o0 y g i j l =>
   refine m y g i j l r b _ ?_
   simp (disch:=first|apply D;decide|apply K;kernel_rfl) only [E,EE,↓reduceIte,simprocAttr,hh_42_5,hc_42_5]
  | o1 y g i j l p=>cases b;rfl
noncomputable def f42a_j3 (k:Nat) (a f:Int) (d:Bool) (b:List T39) (e c:Int):Option R42a :=
 ifE ((0:Int)≤a) (
  ifE ((Int.toNat a)≤(List.length b)) (
   ifE (((Int.toNat a)+((List.length b) - (Int.toNat a)))≤(List.length b)) (
    ifE ((Int.toNat a)≤(List.length (((List.take (Int.toNat a) b)++(List.replicate (((List.length b) - (Int.toNat a))) ((T39.mk 0 0 0 0 0 0 0 0 0 0 []):T39)++(List.drop (((Int.toNat a)+((List.length b) - (Int.toNat a)))) b)))))) (
     some (.o1 0 (Int.toNat a) (((List.take (Int.toNat a) b)++(List.replicate (((List.length b) - (Int.toNat a))) ((T39.mk 0 0 0 0 0 0 0 0 0 0 []):T39)++(List.drop (((Int.toNat a)+((List.length b) - (Int.toNat a)))) b)))) e c)))))
theorem f42a_j3_ok (k c f d e g b r) (a:f42a_j3 k c f d e g b=some r):finK Try.prog Try.f42 2 (EX 42 k (nav B42 [2,2,2,2]) (⟨42,[(0,.own 1000000),(1,V.fn 55 [.ptr 1000001 0]),(5,jI c),(6,jI f),(19,.p (.bool d))],[(1000000,.row true 11 39 (rowsOf encT39 e)),(1000001,.box 79 [jI g,jU b])]⟩:St))=some r.st:=by
 unfold f42a_j3 at a
 obtain ⟨h,a⟩:=ifE_some.1 a
 obtain ⟨i,a⟩:=ifE_some.1 a
 obtain ⟨j,a⟩:=ifE_some.1 a
 have l:List.replicate (((List.length e) - (Int.toNat c))) [jI 0,jI 0,jU 0,jI 0,jI 0,jI 0,jI 0,jI 0,jI 0,jI 0,.sl 1 []]=rowsOf encT39 (List.replicate (((List.length e) - (Int.toNat c))) ((T39.mk 0 0 0 0 0 0 0 0 0 0 []):T39)):=(rowsOf_replicate (enc:=encT39) (n:=(((List.length e) - (Int.toNat c)))) (x:=((T39.mk 0 0 0 0 0 0 0 0 0 0 []):T39))).symm
 obtain ⟨m,a⟩:=ifE_some.1 a
 cases a
 simp (disch:=first|apply D;decide|apply K;kernel_rfl) only [E,EE,↓reduceIte,simprocAttr,xk B42 [2,2,2,2] .sq rfl,rg B42 [1,2,2,2,2] 11 false rfl,hr 42 11 rfl,sliceV,bound,t_24,t_39,clearV,sm_39,xk B42 [2,2,2,2,2] .sq rfl,rg B42 [1,2,2,2,2,2] 12 false rfl,hr 42 12 rfl,xk B42 [2,2,2,2,2,2] .rt rfl,fin42,R42a.st,h,i,j,l,m]
noncomputable def f42a_j1 (k:Nat) (b:Int) (c:Bool) (d:List T39) (e a:Int):Option R42a :=
 Option.bind (f42a_l2 k k b (IntKind.i64.wrap (b+(1:Int))) d e a) fun o1 =>
  match o1 with
  | .o0 _ _ _ _ _ =>
   none
  | .o1 f g h i j l =>
   f42a_j3 k f g h i j l
theorem f42a_j1_ok (k e d f g a r) (b:f42a_j1 k e d f g a=some r):finK Try.prog Try.f42 2 (EX 42 k (nav B42 [2,2,2]) (⟨42,[(0,.own 1000000),(1,V.fn 55 [.ptr 1000001 0]),(5,jI e),(12,.p (.bool d))],[(1000000,.row true 11 39 (rowsOf encT39 f)),(1000001,.box 79 [jI g,jU a])]⟩:St))=some r.st:=by
 unfold f42a_j1 at b
 obtain ⟨o1,h,b⟩:=bs b
 have c:=f42a_l2_ok k k e (IntKind.i64.wrap (e+(1:Int))) f g a _ h
 simp (disch:=first|apply D;decide|apply K;kernel_rfl) only [E,EE,↓reduceIte,simprocAttr,xk B42 [2,2,2] .sq rfl,xk B42 [1,2,2,2] .sq rfl,rg B42 [1,1,2,2,2] 4 false rfl,hr 42 4 rfl,xk B42 [2,1,2,2,2] (.bk 0) rfl,xk B42 [2,2,1,2,2,2] .lp rfl,hh_42_5,hc_42_5]
 (try simp only [NM,EE] at c)
 rw [c _ (by simp (disch:=first|apply D;decide|apply K;kernel_rfl) only [E,EE,↓reduceIte,simprocAttr,hh_42_5,hc_42_5])]
 clear c
 cases o1 with
 | o0 _ _ _ _ _ =>
  (try dsimp only at b)
  cases b
 | o1 i j l m o p =>
  (try dsimp only at b)
  have hJ:=f42a_j3_ok k i j l m o p _ b
  simp (disch:=first|apply D;decide|apply K;kernel_rfl) only [E,EE,↓reduceIte,simprocAttr,R42a_l2.st]
  try simp only [NM,EE] at hJ
  exact hJ
noncomputable def f42a_e (k:Nat) (f:List T39) (g a:Int):Option R42a :=
 Option.bind (f61a k f g a) fun o1 =>
  match o1 with
  | .o0 b c d e =>
   cond ((b==(-1)))
    (some (.o0 c d e))
    (f42a_j1 k b false c d e)
theorem f42a_e_ok (k d e a r) (b:f42a_e k d e a=some r):finK Try.prog Try.f42 2 (EX 42 k (nav B42 []) (⟨42,[(0,.own 1000000),(1,V.fn 55 [.ptr 1000001 0])],[(1000000,.row true 11 39 (rowsOf encT39 d)),(1000001,.box 79 [jI e,jU a])]⟩:St))=some r.st:=by
 unfold f42a_e at b
 obtain ⟨o1,g,b⟩:=bs b
 have c:=f61a_ok k d e a _ g
 cases o1 with
 | o0 h i j l =>
  (try dsimp only at b)
  (try simp only [NM,EE,R61a.st] at c)
  simp (disch:=first|apply D;decide|apply K;kernel_rfl) only [E,EE,↓reduceIte,simprocAttr,xk B42 [] .sq rfl,rg B42 [1] 0 false rfl,hr 42 0 rfl,xk B42 [2] .sq rfl,rg B42 [1,2] 1 false rfl,hr 42 1 rfl,callStep,CL,gv,List.contains,xk B42 [2,2] .sq rfl,xk B42 [1,2,2] .sq rfl,rg B42 [1,1,2,2] 2 false rfl,hr 42 2 rfl,xk B42 [2,1,2,2] (.cd 12) rfl,c]
  rcases cond_some b with ⟨f,b⟩ | ⟨f,b⟩
  ·cases b
   simp (disch:=first|apply D;decide|apply K;kernel_rfl) only [E,EE,↓reduceIte,simprocAttr,xk B42 [2,2,1,2,2] .sq rfl,rg B42 [1,2,2,1,2,2] 3 false rfl,hr 42 3 rfl,xk B42 [2,2,2,1,2,2] .rt rfl,fin42,R42a.st,c,f]
  ·have hJ:=f42a_j1_ok k h false i j l _ b
   simp (disch:=first|apply D;decide|apply K;kernel_rfl) only [E,EE,↓reduceIte,simprocAttr,xk B42 [3,2,1,2,2] .sk rfl,c,f]
   try simp only [NM,EE] at hJ
   exact hJ
noncomputable def f42a (k:Nat) (b:List T39) (c a:Int):Option R42a:=match k with | 0=>none | k+1=>f42a_e k b c a
theorem f42a_ok (k b d a r) (e:f42a k b d a=some r):CV k 42 [.own 1000000,V.fn 55 [.ptr 1000001 0]] [.row true 11 39 (rowsOf encT39 b),.box 79 [jI d,jU a]]=some r.st:=by
 cases k with
 | zero=>cases e
 | succ k =>
  unfold CV
  rw [ev_call (F:=Try.f42) (c:=(nav B42 [])) rfl Try.func42 rfl rfl rfl rfl]
  exact f42a_e_ok k b d a r e
-- f54a: f54 heliograph/agent.remember
inductive R54a where
 | o0 (y a:Int) (b c:Nat) (d:List T39) (e:List T65)
 | o1 (y a:Int) (b c d e:Nat) (f:List T39) (g:List T65)
noncomputable def R54a.st:R54a→V×List O×List O
 | .o0 y a b c d e=>(V.tup [],[.box 26 [jI y,jU a,.own 2000000,V.cut 1000002 11 b c],.dead,.row true 11 39 (rowsOf encT39 d)],[.row true 4 65 (rowsOf encT65 e)])
 | .o1 y a b c d e f g=>(V.tup [],[.box 26 [jI y,jU a,V.cut 2000000 4 b c,V.cut 1000002 11 d e],.dead,.row true 11 39 (rowsOf encT39 f)],[.row true 4 65 (rowsOf encT65 g)])
noncomputable def f54a_e (k:Nat) (n e f g h i j l m o:Int) (d:List Int) (v a:Int) (b c:Nat) (p:List T65) (w:List T39):Option R54a :=
 Option.bind (f53 k n e f g h i j l m o d) fun o1 =>
  match o1 with
  | .o0 q s t u =>
   ifE (((List.length p)+1) * 32≤roomy) (
    cond ((decide ((IntKind.i64.wrap (((List.length (p++([(T65.mk q s t u)]:List T65))):Int) - (64:Int)))>0)))
     (
      Option.bind (f64 k 0 ((IntKind.i64.wrap (((List.length (p++([(T65.mk q s t u)]:List T65))):Int) - (64:Int)))) (p++([(T65.mk q s t u)]:List T65))) fun o12 =>
       match o12 with
       | .o0 x =>
        some (.o0 v a b c w x)
       | .o1 y z r =>
        some (.o1 v a y z b c w r))
     (some (.o0 v a b c w (p++([(T65.mk q s t u)]:List T65)))))
theorem f54a_e_ok (k a1 e f g h i j l m o b e0 s t u e1 e2 r) (a:f54a_e k a1 e f g h i j l m o b e0 s t u e1 e2=some r):finK Try.prog Try.f54 3 (EX 54 k (nav B54 []) (⟨33,[(0,.ptr 1000000 0),(1,.agg [jI a1,jI e,jU f,jI g,jI h,jI i,jI j,jI l,jI m,jI o,.sl 1 (rowsOf (encI .u8) b)])],[(1000000,.box 26 [jI e0,jU s,.own 1000001,V.cut 1000002 11 t u]),(1000001,.row true 4 65 (rowsOf encT65 e1)),(1000002,.row true 11 39 (rowsOf encT39 e2))]⟩:St))=some r.st:=by
 unfold f54a_e at a
 obtain ⟨o1,h2,a⟩:=bs a
 have d:=f53_ok k a1 e f g h i j l m o b _ h2
 cases o1 with
 | o0 v w x y =>
  (try dsimp only at a)
  (try simp only [NM,EE,R53.st] at d)
  have z:[[jI v,jU w,jI x,jI y]]=rowsOf encT65 ([(T65.mk v w x y)]:List T65):=rfl
  have n:List.map (tell [0,0,0,0]) (rowsOf encT65 ([(T65.mk v w x y)]:List T65))=rowsOf encT65 ([(T65.mk v w x y)]:List T65):=rfl
  obtain ⟨p,a⟩:=ifE_some.1 a
  simp (disch:=first|apply D;decide|apply K;kernel_rfl) only [E,EE,↓reduceIte,simprocAttr,xk B54 [] .sq rfl,rg B54 [1] 0 false rfl,hr 54 0 rfl,xk B54 [2] .sq rfl,rg B54 [1,2] 1 true rfl,hr 54 1 rfl,fieldAddrV,t_26,t_23,t_39,callStep,CL,gv,List.contains,buildSliceV,fillRows,sm_65,t_65,appendV,content,xk B54 [2,2] .sq rfl,rg B54 [1,2,2] 2 false rfl,hr 54 2 rfl,xk B54 [2,2,2] .sq rfl,rg B54 [1,2,2,2] 3 false rfl,hr 54 3 rfl,xk B54 [2,2,2,2] (.cd 23) rfl,d,z,n,p]
  rcases cond_some a with ⟨q,a⟩ | ⟨q,a⟩
  ·simp (disch:=first|apply D;decide|apply K;kernel_rfl) only [E,EE,↓reduceIte,simprocAttr,rg B54 [2,2,2,2,2] 4 false rfl,hr 54 4 rfl,fieldAddrV,t_26,t_23,callStep,CL,gv,List.contains,d,z,n,p,q]
   obtain ⟨o12,ac,a⟩:=bs a
   have c:=f64_ok k 0 ((IntKind.i64.wrap (((List.length (e1++([(T65.mk v w x y)]:List T65))):Int) - (64:Int)))) (e1++([(T65.mk v w x y)]:List T65)) _ ac
   cases o12 with
   | o0 ag =>
    (try dsimp only at a)
    (try simp only [NM,EE,R64.st] at c)
    cases a
    simp (disch:=first|apply D;decide|apply K;kernel_rfl) only [E,EE,↓reduceIte,simprocAttr,fieldAddrV,t_26,t_23,fin54,R54a.st,d,z,n,p,q,c]
   | o1 ah ai aj =>
    (try dsimp only at a)
    (try simp only [NM,EE,R64.st] at c)
    cases a
    simp (disch:=first|apply D;decide|apply K;kernel_rfl) only [E,EE,↓reduceIte,simprocAttr,fieldAddrV,t_26,t_23,fin54,R54a.st,d,z,n,p,q,c]
  ·cases a
   simp (disch:=first|apply D;decide|apply K;kernel_rfl) only [E,EE,↓reduceIte,simprocAttr,xk B54 [3,2,2,2,2] .sk rfl,fin54,R54a.st,d,z,n,p,q]
noncomputable def f54a (k:Nat) (p b c d e f g h i j:Int) (a:List Int) (q l:Int) (m o:Nat) (s:List T65) (t:List T39):Option R54a:=match k with | 0=>none | k+1=>f54a_e k p b c d e f g h i j a q l m o s t
theorem f54a_ok (k q b d e f g h i j l a s m o p t u r) (v:f54a k q b d e f g h i j l a s m o p t u=some r):CV k 54 [.ptr 1000000 0,.agg [jI q,jI b,jU d,jI e,jI f,jI g,jI h,jI i,jI j,jI l,.sl 1 (rowsOf (encI .u8) a)]] [.box 26 [jI s,jU m,.own 1000001,V.cut 1000002 11 o p],.row true 4 65 (rowsOf encT65 t),.row true 11 39 (rowsOf encT39 u)]=some r.st:=by
 cases k with
 | zero=>cases v
 | succ k =>
  unfold CV
  rw [ev_call (F:=Try.f54) (c:=(nav B54 [])) rfl Try.func54 rfl rfl rfl rfl]
  exact f54a_e_ok k q b d e f g h i j l a s m o p t u r v
-- f36a: f36 heliograph/agent.of
inductive R36a where
 | o0 (y:List T65) (a b:List T39)
noncomputable def R36a.st:R36a→V×List O×List O
 | .o0 y a b=>(.own 2000000,[.row true 4 65 (rowsOf encT65 y),.row true 11 39 (rowsOf encT39 a)],[.row true 11 39 (rowsOf encT39 b)])
inductive R36a_l1 where
 | o0 (y a b c:Int) (d e:List T39) (f:List T65)
 | o1 (y a b c:Int) (d e:List T39) (f:List T65)
 | o2 (y a:Int) (b:Bool) (c d:Int) (e f:List T39) (g:List T65)
noncomputable def R36a_l1.st:R36a_l1→Out×St
 | .o0 y a b c d e f=>(.norm,(⟨25,[(3,.ptr 30000 0),(5,.own 22),(9,.own 1000001),(10,jI y),(11,jI a)],[(30000,.box 79 [jI b,jU c]),(22,.row true 11 39 (rowsOf encT39 d)),(1000001,.row true 11 39 (rowsOf encT39 e)),(1000000,.row true 4 65 (rowsOf encT65 f))]⟩:St))
 | .o1 y a b c d e f=>(.norm,(⟨25,[(3,.ptr 30000 0),(5,.own 30001),(9,.own 1000001),(10,jI y),(11,jI a)],[(30000,.box 79 [jI b,jU c]),(30001,.row true 11 39 (rowsOf encT39 d)),(1000001,.row true 11 39 (rowsOf encT39 e)),(1000000,.row true 4 65 (rowsOf encT65 f))]⟩:St))
 | .o2 y a b c d e f g=>(.exit 0,(⟨25,[(3,.ptr 30000 0),(5,.own 30001),(9,.own 1000001),(10,jI y),(11,jI a),(12,.p (.bool b))],[(30000,.box 79 [jI c,jU d]),(30001,.row true 11 39 (rowsOf encT39 e)),(1000001,.row true 11 39 (rowsOf encT39 f)),(1000000,.row true 4 65 (rowsOf encT65 g))]⟩:St))
noncomputable def f36a_l1_j2 (k:Nat) (b c d a:Int) (e f:List T39) (g:List T65):Option R36a_l1 :=
 some (.o0 b (IntKind.i64.wrap (c+(1:Int))) d a e f g)
theorem f36a_l1_j2_ok (k b c d a e f g r) (h:f36a_l1_j2 k b c d a e f g=some r):EX 36 k (nav B36 [2,2,2,1,2,2,1,2,2]) (⟨25,[(3,.ptr 30000 0),(5,.own 22),(9,.own 1000001),(10,jI b),(11,jI c)],[(30000,.box 79 [jI d,jU a]),(22,.row true 11 39 (rowsOf encT39 e)),(1000001,.row true 11 39 (rowsOf encT39 f)),(1000000,.row true 4 65 (rowsOf encT65 g))]⟩:St)=some r.st:=by
 unfold f36a_l1_j2 at h
 cases h
 simp (disch:=first|apply D;decide|apply K;kernel_rfl) only [E,EE,↓reduceIte,simprocAttr,rg B36 [2,2,2,1,2,2,1,2,2] 7 false rfl,hr 36 7 rfl,R36a_l1.st]
noncomputable def f36a_l1_j3 (k:Nat) (b c:Int) (s:Bool) (d a:Int) (e:List T39) (v g h i j l m o p q:Int) (f:List Int) (t:List T39) (u:List T65):Option R36a_l1 :=
 some (.o1 b (IntKind.i64.wrap (c+(1:Int))) d a e t u)
theorem f36a_l1_j3_ok (k m o p q a s t c d e f g h i j l b u v r) (w:f36a_l1_j3 k m o p q a s t c d e f g h i j l b u v=some r):EX 36 k (nav B36 [2,2,2,1,2,2,1,2,2]) (⟨25,[(3,.ptr 30000 0),(5,.own 30001),(7,.ptr 7 0),(9,.own 1000001),(10,jI m),(11,jI o),(18,.p (.bool p))],[(30000,.box 79 [jI q,jU a]),(30001,.row true 11 39 (rowsOf encT39 s)),(7,.box 39 [jI t,jI c,jU d,jI e,jI f,jI g,jI h,jI i,jI j,jI l,.sl 1 (rowsOf (encI .u8) b)]),(1000001,.row true 11 39 (rowsOf encT39 u)),(1000000,.row true 4 65 (rowsOf encT65 v))]⟩:St)=some r.st:=by
 unfold f36a_l1_j3 at w
 cases w
 simp (disch:=first|apply D;decide|apply K;kernel_rfl) only [E,EE,↓reduceIte,simprocAttr,rg B36 [2,2,2,1,2,2,1,2,2] 7 false rfl,hr 36 7 rfl,R36a_l1.st]
noncomputable def f36a_l1_j1 (k:Nat) (f c:Int) (i:Bool) (d b:Int) (e g:List T39) (h:List T65):Option R36a_l1 :=
 ifE ((0:Int)≤c) (
  ifE (c<((List.length g):Int)) (
   Option.bind (g[(Int.toNat c)]?) fun a =>
    Option.bind (f37 k a.Source a.Dest a.Seq a.Created a.Lifetime a.HopLimit a.Hops a.Priority a.Offset a.Total a.Payload) fun o5 =>
     match o5 with
     | .o0 j l =>
      cond (((j==d)&&(l==b)))
       (
        ifE (((List.length e)+1) * 104≤roomy) (
         f36a_l1_j2 k f c d b (e++([a]:List T39)) g h))
       (f36a_l1_j3 k f c false d b e a.Source a.Dest a.Seq a.Created a.Lifetime a.HopLimit a.Hops a.Priority a.Offset a.Total a.Payload g h)))
theorem f36a_l1_j1_ok (k d e j f b g l m r) (c:f36a_l1_j1 k d e j f b g l m=some r):EX 36 k (nav B36 [2,2,1,2,2,1,2,2]) (⟨25,[(3,.ptr 30000 0),(5,.own 30001),(9,.own 1000001),(10,jI d),(11,jI e),(12,.p (.bool j))],[(30000,.box 79 [jI f,jU b]),(30001,.row true 11 39 (rowsOf encT39 g)),(1000001,.row true 11 39 (rowsOf encT39 l)),(1000000,.row true 4 65 (rowsOf encT65 m))]⟩:St)=some r.st:=by
 unfold f36a_l1_j1 at c
 obtain ⟨o,c⟩:=ifE_some.1 c
 obtain ⟨p,c⟩:=ifE_some.1 c
 obtain ⟨a,q,c⟩:=bs c
 obtain ⟨o5,v,c⟩:=bs c
 have h:=f37_ok k a.Source a.Dest a.Seq a.Created a.Lifetime a.HopLimit a.Hops a.Priority a.Offset a.Total a.Payload _ v
 cases o5 with
 | o0 w x =>
  (try dsimp only at c)
  (try simp only [NM,EE,R37.st] at h)
  simp (disch:=first|apply D;decide|apply K;kernel_rfl) only [E,EE,↓reduceIte,simprocAttr,xk B36 [2,2,1,2,2,1,2,2] .sq rfl,xk B36 [1,2,2,1,2,2,1,2,2] (.bk 1) rfl,xk B36 [2,1,2,2,1,2,2,1,2,2] .sq rfl,rg B36 [1,2,1,2,2,1,2,2,1,2,2] 4 false rfl,hr 36 4 rfl,indexAddrV,t_24,t_39,encT39_eq,xk B36 [2,2,1,2,2,1,2,2,1,2,2] .sq rfl,rg B36 [1,2,2,1,2,2,1,2,2,1,2,2] 5 true rfl,hr 36 5 rfl,callStep,CL,gv,List.contains,t_79,ag_79,t_3,t_22,xk B36 [2,2,2,1,2,2,1,2,2,1,2,2] (.cd 18) rfl,o,p,q,h]
  rcases cond_some c with ⟨i,c⟩ | ⟨i,c⟩
  ·have s:[[jI a.Source,jI a.Dest,jU a.Seq,jI a.Created,jI a.Lifetime,jI a.HopLimit,jI a.Hops,jI a.Priority,jI a.Offset,jI a.Total,.sl 1 (rowsOf (encI .u8) a.Payload)]]=rowsOf encT39 ([a]:List T39):=rfl
   have t:List.map (tell [0,0,0,0,0,0,0,0,0,0,1]) (rowsOf encT39 ([a]:List T39))=rowsOf encT39 ([a]:List T39):=rfl
   obtain ⟨u,c⟩:=ifE_some.1 c
   have hJ:=f36a_l1_j2_ok k d e f b (g++([a]:List T39)) l m _ c
   simp (disch:=first|apply D;decide|apply K;kernel_rfl) only [E,EE,↓reduceIte,simprocAttr,rg B36 [2,2,2,2,1,2,2,1,2,2,1,2,2] 6 false rfl,hr 36 6 rfl,t_39,buildSliceV,fillRows,sm_39,t_24,appendV,content,o,p,q,h,i,s,t,u]
   try simp only [NM,EE] at hJ
   exact hJ
  ·have hJ:=f36a_l1_j3_ok k d e false f b g a.Source a.Dest a.Seq a.Created a.Lifetime a.HopLimit a.Hops a.Priority a.Offset a.Total a.Payload l m _ c
   simp (disch:=first|apply D;decide|apply K;kernel_rfl) only [E,EE,↓reduceIte,simprocAttr,xk B36 [3,2,2,2,1,2,2,1,2,2,1,2,2] .sk rfl,o,p,q,h,i]
   try simp only [NM,EE] at hJ
   exact hJ
noncomputable def f36a_l1_b (k:Nat) (b c d a:Int) (e f:List T39) (g:List T65):Option R36a_l1 :=
 cond ((decide (c<b)))
  (f36a_l1_j1 k b c true d a e f g)
  (some (.o2 b c false d a e f g))
theorem f36a_l1_b_ok (k b c d a e g h r) (f:f36a_l1_b k b c d a e g h=some r):EX 36 k (nav B36 [1,2,2,1,2,2]) (⟨25,[(3,.ptr 30000 0),(5,.own 30001),(9,.own 1000001),(10,jI b),(11,jI c)],[(30000,.box 79 [jI d,jU a]),(30001,.row true 11 39 (rowsOf encT39 e)),(1000001,.row true 11 39 (rowsOf encT39 g)),(1000000,.row true 4 65 (rowsOf encT65 h))]⟩:St)=some r.st:=by
 unfold f36a_l1_b at f
 simp (disch:=first|apply D;decide|apply K;kernel_rfl) only [E,EE,↓reduceIte,simprocAttr,xk B36 [1,2,2,1,2,2] .sq rfl,rg B36 [1,1,2,2,1,2,2] 3 false rfl,hr 36 3 rfl,xk B36 [2,1,2,2,1,2,2] .sq rfl,xk B36 [1,2,1,2,2,1,2,2] (.cd 12) rfl]
 rcases cond_some f with ⟨i,f⟩ | ⟨i,f⟩
 ·have hJ:=f36a_l1_j1_ok k b c true d a e g h _ f
  simp (disch:=first|apply D;decide|apply K;kernel_rfl) only [E,EE,↓reduceIte,simprocAttr,xk B36 [2,1,2,1,2,2,1,2,2] .sk rfl,i]
  try simp only [NM,EE] at hJ
  exact hJ
 ·cases f
  simp (disch:=first|apply D;decide|apply K;kernel_rfl) only [E,EE,↓reduceIte,simprocAttr,xk B36 [3,1,2,1,2,2,1,2,2] (.ex 0) rfl,R36a_l1.st,i]
noncomputable def f36a_l1 (k:Nat):Nat→Int→Int→Int→Int→(List T39)→(List T39)→(List T65)→Option R36a_l1
 | 0,_,_,_,_,_,_,_=>none
 | n+1,h,i,j,g,l,p,q=>Option.bind (f36a_l1_b k h i j g l p q) fun o =>
  match o with
  | .o0 y a b c d e f=>f36a_l1 k n y a b c d e f
  | .o1 y a b c d e f=>f36a_l1 k n y a b c d e f
  | .o2 y a b c d e f m=>some (.o2 y a b c d e f m)
theorem f36a_l1_ok (k n:Nat):∀ (b c d a:Int) (e q:List T39) (s:List T65) (r:R36a_l1) (f:f36a_l1 k n b c d a e q s=some r) (σ:St) (hσ:headR (hints.head 36 3) (hints.canon 36 3) σ=some (⟨25,[(3,.ptr 30000 0),(5,.own 30001),(9,.own 1000001),(10,jI b),(11,jI c)],[(30000,.box 79 [jI d,jU a]),(30001,.row true 11 39 (rowsOf encT39 e)),(1000001,.row true 11 39 (rowsOf encT39 q)),(1000000,.row true 4 65 (rowsOf encT65 s))]⟩:St)),LP 36 k (nav B36 [1,2,2,1,2,2]) n σ=some r.st:=by
 induction n with
 | zero=>intro b c d a e q s r f;cases f
 | succ n t =>
  intro b c d a e q s r f σ hσ
  rw [f36a_l1] at f
  obtain ⟨o,h,f⟩:=Option.bind_eq_some_iff.1 f
  have hB:=f36a_l1_b_ok k b c d a e q s o h
  unfold LP at t ⊢
  unfold EX at hB
  rw [loopK_succ,show firstReg (nav B36 [1,2,2,1,2,2])=3 from rfl,hσ,headK_some,hB]
  cases o with
  | o0 y g i j l m p =>
   refine t y g i j l m p r f _ ?_
   simp (disch:=first|apply D;decide|apply K;kernel_rfl) only [E,EE,↓reduceIte,simprocAttr,hh_36_3,hc_36_3]
  | o1 y g i j l m p =>
   refine t y g i j l m p r f _ ?_
   simp (disch:=first|apply D;decide|apply K;kernel_rfl) only [E,EE,↓reduceIte,simprocAttr,hh_36_3,hc_36_3]
  | o2 y g i j l m p u=>cases f;rfl
noncomputable def f36a_j2 (k:Nat) (c d:Int) (e:Bool) (f a:Int) (b g:List T39) (h:List T65):Option R36a :=
 some (.o0 h g b)
theorem f36a_j2_ok (k b c d e a f g h r) (i:f36a_j2 k b c d e a f g h=some r):finK Try.prog Try.f36 2 (EX 36 k (nav B36 [2,2,2]) (⟨25,[(3,.ptr 30000 0),(5,.own 30001),(9,.own 1000001),(10,jI b),(11,jI c),(12,.p (.bool d))],[(30000,.box 79 [jI e,jU a]),(30001,.row true 11 39 (rowsOf encT39 f)),(1000001,.row true 11 39 (rowsOf encT39 g)),(1000000,.row true 4 65 (rowsOf encT65 h))]⟩:St))=some r.st:=by
 unfold f36a_j2 at i
 cases i
 simp (disch:=first|apply D;decide|apply K;kernel_rfl) only [E,EE,↓reduceIte,simprocAttr,xk B36 [2,2,2] .sq rfl,rg B36 [1,2,2,2] 8 false rfl,hr 36 8 rfl,xk B36 [2,2,2,2] .rt rfl,fin36,R36a.st]
noncomputable def f36a_e (k:Nat) (p d f a:Int) (g:List T65) (e:List T39):Option R36a :=
 Option.bind (f36a_l1 k k ((List.length e):Int) 0 f a [] e g) fun o1 =>
  match o1 with
  | .o0 _ _ _ _ _ _ _ =>
   none
  | .o1 _ _ _ _ _ _ _ =>
   none
  | .o2 h i j l m o b c =>
   f36a_j2 k h i j l m o b c
theorem f36a_e_ok (k j c f a g e r) (b:f36a_e k j c f a g e=some r):finK Try.prog Try.f36 2 (EX 36 k (nav B36 []) (⟨25,[(0,.agg [jI j,jU c,.own 1000000,.own 1000001]),(1,.agg [jI f,jU a])],[(1000000,.row true 4 65 (rowsOf encT65 g)),(1000001,.row true 11 39 (rowsOf encT39 e))]⟩:St))=some r.st:=by
 unfold f36a_e at b
 obtain ⟨o1,l,b⟩:=bs b
 have d:=f36a_l1_ok k k ((List.length e):Int) 0 f a [] e g _ l
 simp (disch:=first|apply D;decide|apply K;kernel_rfl) only [E,EE,↓reduceIte,simprocAttr,xk B36 [] .sq rfl,rg B36 [1] 0 false rfl,hr 36 0 rfl,xk B36 [2] .sq rfl,rg B36 [1,2] 1 false rfl,hr_36_1,xk B36 [2,2] .sq rfl,xk B36 [1,2,2] .sq rfl,rg B36 [1,1,2,2] 2 false rfl,hr 36 2 rfl,fieldAddrV,t_26,t_24,xk B36 [2,1,2,2] (.bk 0) rfl,xk B36 [2,2,1,2,2] .lp rfl,hh_36_3,hc_36_3]
 (try simp only [NM,EE] at d)
 rw [d _ (by simp (disch:=first|apply D;decide|apply K;kernel_rfl) only [E,EE,↓reduceIte,simprocAttr,hh_36_3,hc_36_3])]
 clear d
 cases o1 with
 | o0 _ _ _ _ _ _ _ =>
  (try dsimp only at b)
  cases b
 | o1 _ _ _ _ _ _ _ =>
  (try dsimp only at b)
  cases b
 | o2 m o p q s t h i =>
  (try dsimp only at b)
  have hJ:=f36a_j2_ok k m o p q s t h i _ b
  simp (disch:=first|apply D;decide|apply K;kernel_rfl) only [E,EE,↓reduceIte,simprocAttr,R36a_l1.st]
  try simp only [NM,EE] at hJ
  exact hJ
noncomputable def f36a (k:Nat) (c a d b:Int) (e:List T65) (f:List T39):Option R36a:=match k with | 0=>none | k+1=>f36a_e k c a d b e f
theorem f36a_ok (k d a e b f g r) (h:f36a k d a e b f g=some r):CV k 36 [.agg [jI d,jU a,.own 1000000,.own 1000001],.agg [jI e,jU b]] [.row true 4 65 (rowsOf encT65 f),.row true 11 39 (rowsOf encT39 g)]=some r.st:=by
 cases k with
 | zero=>cases h
 | succ k =>
  unfold CV
  rw [ev_call (F:=Try.f36) (c:=(nav B36 [])) rfl Try.func36 rfl rfl rfl rfl]
  exact f36a_e_ok k d a e b f g r h
end Go.Proofs.YticggdfaehneeaaV