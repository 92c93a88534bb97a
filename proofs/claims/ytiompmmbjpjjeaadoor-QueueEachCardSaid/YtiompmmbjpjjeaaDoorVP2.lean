/- What the program's functions answer: plain functions,and that the interpreter answers what they do. Written by a program of this session,out of the translation. -/
import Derived.Test.YtiompmmbjpjjeaaDoorVP1
namespace Go.Proofs.YtiompmmbjpjjeaaDoorV
open Go
set_option linter.unusedVariables false
set_option linter.unusedSimpArgs false
set_option maxRecDepth 8000
set_option maxHeartbeats 4000000
-- f33: f33 heliograph/plan.Check
inductive R33 where
 | o0 (y:Int)
noncomputable def R33.st:R33→V×List O×List O
 | .o0 y=>((jI y),[],[])
inductive R33_l2_l3 where
 | o0 (y:Int)
 | o1 (y:List T54) (e f:Int) (g:List T54) (h i j:Int) (l:List T54) (m o a b c d:Int)
 | o2 (y:List T54) (e f:Int) (g:List T54) (h i:Int) (j:Bool) (l:Int) (m:List T54) (o a b c d p:Int)
noncomputable def R33_l2_l3.st:R33_l2_l3→Out×St
 | .o0 y=>(.ret,(⟨112,[(2,jI y)],[]⟩:St))
 | .o1 y e f g h i j l m o a b c d=>(.norm,(⟨112,[(1,.ptr 30000 0),(4,.ptr 30001 0),(18,.sl 6 (rowsOf encT54 y)),(19,jI e),(20,jI f),(78,.sl 6 (rowsOf encT54 g)),(79,jI h),(80,jI i)],[(30000,.box 24 [jI j,.sl 6 (rowsOf encT54 l)]),(30001,.box 54 [jI m,jI o,jI a,jI b,jI c,jI d])]⟩:St))
 | .o2 y e f g h i j l m o a b c d p=>(.exit 2,(⟨112,[(1,.ptr 30000 0),(4,.ptr 30001 0),(18,.sl 6 (rowsOf encT54 y)),(19,jI e),(20,jI f),(78,.sl 6 (rowsOf encT54 g)),(79,jI h),(80,jI i),(81,jT j)],[(30000,.box 24 [jI l,.sl 6 (rowsOf encT54 m)]),(30001,.box 54 [jI o,jI a,jI b,jI c,jI d,jI p])]⟩:St))
noncomputable def f33_l2_l3_j2 (k:Nat) (g:List T54) (h i:Int) (j:List T54) (l m:Int) (q:Bool) (o:Int) (a:List T54) (p b c d e f:Int):Option R33_l2_l3 :=
 some (R33_l2_l3.o1 g h i j l (IntKind.i64.wrap (m+(1:Int))) o a p b c d e f)
theorem f33_l2_l3_j2_ok (k h i j l m o g p a q b c d e f r) (s:f33_l2_l3_j2 k h i j l m o g p a q b c d e f=some r):EX 33 k (nav B33 [2,2,2,1,2,2,2,2,2,1,2,2,1,2,2,1,2,2]) (⟨112,[(1,.ptr 30000 0),(4,.ptr 30001 0),(18,.sl 6 (rowsOf encT54 h)),(19,jI i),(20,jI j),(78,.sl 6 (rowsOf encT54 l)),(79,jI m),(80,jI o),(109,jT g)],[(30000,.box 24 [jI p,.sl 6 (rowsOf encT54 a)]),(30001,.box 54 [jI q,jI b,jI c,jI d,jI e,jI f])]⟩:St)=some r.st:=by
 unfold f33_l2_l3_j2 at s
 cases s
 simp only [W,simprocAttr,rg B33 [2,2,2,1,2,2,2,2,2,1,2,2,1,2,2,1,2,2] 13 false rfl,hr 33 13 rfl,R33_l2_l3.st]
noncomputable def f33_l2_l3_j1 (k:Nat) (j:List T54) (l m:Int) (h:List T54) (o g:Int) (s:Bool) (p:Int) (d:List T54) (i a b c e f:Int):Option R33_l2_l3 :=
 ifE ((0:Int)≤g) (
  Option.bind (h[(Int.toNat g)]?) fun q =>
   cond ((q.From==i))
    (
     cond ((q.To==a))
      (
       cond ((decide (q.Start<c)))
        (
         cond ((decide (b<q.End)))
          (some (R33_l2_l3.o0 230))
          (f33_l2_l3_j2 k j l m h o g false p d i a b c e f))
        (f33_l2_l3_j2 k j l m h o g false p d i a b c e f))
      (f33_l2_l3_j2 k j l m h o g false p d i a b c e f))
    (f33_l2_l3_j2 k j l m h o g false p d i a b c e f))
theorem f33_l2_l3_j1_ok (k h i j l m o w p a q b c d e f r) (g:f33_l2_l3_j1 k h i j l m o w p a q b c d e f=some r):EX 33 k (nav B33 [2,2,1,2,2,2,2,2,1,2,2,1,2,2,1,2,2]) (⟨112,[(1,.ptr 30000 0),(4,.ptr 30001 0),(18,.sl 6 (rowsOf encT54 h)),(19,jI i),(20,jI j),(78,.sl 6 (rowsOf encT54 l)),(79,jI m),(80,jI o),(81,jT w)],[(30000,.box 24 [jI p,.sl 6 (rowsOf encT54 a)]),(30001,.box 54 [jI q,jI b,jI c,jI d,jI e,jI f])]⟩:St)=some r.st:=by
 unfold f33_l2_l3_j1 at g
 obtain ⟨s,g⟩:=ifE_some.1 g
 obtain ⟨z,t,g⟩:=bs g
 simp only [W,simprocAttr,xk B33 [2,2,1,2,2,2,2,2,1,2,2,1,2,2,1,2,2] .sq rfl,xk B33 [1,2,2,1,2,2,2,2,2,1,2,2,1,2,2,1,2,2] (.bk 3) rfl,sr 33 10 B33 [2,1,2,2,1,2,2,2,2,2,1,2,2,1,2,2,1,2,2] rfl rfl rfl,indexAddrV,t_22,t_54,encT54_eq,sr 33 11 B33 [2,2,1,2,2,1,2,2,2,2,2,1,2,2,1,2,2,1,2,2] rfl rfl rfl,fieldAddrV,t_3,s,t]
 rcases cond_some g with ⟨u,g⟩ | ⟨u,g⟩
 ·simp only [W,simprocAttr,fieldAddrV,t_54,t_3,s,t,u]
  rcases cond_some g with ⟨v,g⟩ | ⟨v,g⟩
  ·simp only [W,simprocAttr,fieldAddrV,t_54,t_3,s,t,u,v]
   rcases cond_some g with ⟨x,g⟩ | ⟨x,g⟩
   ·simp only [W,simprocAttr,fieldAddrV,t_54,t_3,xk B33 [2,2,2,1,2,2,1,2,2,2,2,2,1,2,2,1,2,2,1,2,2] (.cd 109) rfl,s,t,u,v,x]
    rcases cond_some g with ⟨y,g⟩ | ⟨y,g⟩
    ·cases g
     simp only [W,simprocAttr,sr 33 12 B33 [2,2,2,2,1,2,2,1,2,2,2,2,2,1,2,2,1,2,2,1,2,2] rfl rfl rfl,xk B33 [2,2,2,2,2,1,2,2,1,2,2,2,2,2,1,2,2,1,2,2,1,2,2] .rt rfl,R33_l2_l3.st,s,t,u,v,x,y]
    ·have hJ:=f33_l2_l3_j2_ok k h i j l m o false p a q b c d e f _ g
     simp only [W,simprocAttr,xk B33 [3,2,2,2,1,2,2,1,2,2,2,2,2,1,2,2,1,2,2,1,2,2] .sk rfl,s,t,u,v,x,y]
     try simp only [NM,EE] at hJ
     exact hJ
   ·have hJ:=f33_l2_l3_j2_ok k h i j l m o false p a q b c d e f _ g
    simp only [W,simprocAttr,xk B33 [2,2,2,1,2,2,1,2,2,2,2,2,1,2,2,1,2,2,1,2,2] (.cd 109) rfl,xk B33 [3,2,2,2,1,2,2,1,2,2,2,2,2,1,2,2,1,2,2,1,2,2] .sk rfl,s,t,u,v,x]
    try simp only [NM,EE] at hJ
    exact hJ
  ·have hJ:=f33_l2_l3_j2_ok k h i j l m o false p a q b c d e f _ g
   simp only [W,simprocAttr,xk B33 [2,2,2,1,2,2,1,2,2,2,2,2,1,2,2,1,2,2,1,2,2] (.cd 109) rfl,xk B33 [3,2,2,2,1,2,2,1,2,2,2,2,2,1,2,2,1,2,2,1,2,2] .sk rfl,s,t,u,v]
   try simp only [NM,EE] at hJ
   exact hJ
 ·have hJ:=f33_l2_l3_j2_ok k h i j l m o false p a q b c d e f _ g
  simp only [W,simprocAttr,xk B33 [2,2,2,1,2,2,1,2,2,2,2,2,1,2,2,1,2,2,1,2,2] (.cd 109) rfl,xk B33 [3,2,2,2,1,2,2,1,2,2,2,2,2,1,2,2,1,2,2,1,2,2] .sk rfl,s,t,u]
  try simp only [NM,EE] at hJ
  exact hJ
noncomputable def f33_l2_l3_b (k:Nat) (i:List T54) (j l:Int) (m:List T54) (g h o:Int) (a:List T54) (p b c d e f:Int):Option R33_l2_l3 :=
 cond ((decide (h<g)))
  (f33_l2_l3_j1 k i j l m g h true o a p b c d e f)
  (some (R33_l2_l3.o2 i j l m g h false o a p b c d e f))
theorem f33_l2_l3_b_ok (k g h i j l m o a p b c d e f r) (q:f33_l2_l3_b k g h i j l m o a p b c d e f=some r):EX 33 k (nav B33 [1,2,2,2,2,2,1,2,2,1,2,2,1,2,2]) (⟨112,[(1,.ptr 30000 0),(4,.ptr 30001 0),(18,.sl 6 (rowsOf encT54 g)),(19,jI h),(20,jI i),(78,.sl 6 (rowsOf encT54 j)),(79,jI l),(80,jI m)],[(30000,.box 24 [jI o,.sl 6 (rowsOf encT54 a)]),(30001,.box 54 [jI p,jI b,jI c,jI d,jI e,jI f])]⟩:St)=some r.st:=by
 unfold f33_l2_l3_b at q
 simp only [W,simprocAttr,sr 33 9 B33 [1,2,2,2,2,2,1,2,2,1,2,2,1,2,2] rfl rfl rfl,xk B33 [2,1,2,2,2,2,2,1,2,2,1,2,2,1,2,2] .sq rfl,xk B33 [1,2,1,2,2,2,2,2,1,2,2,1,2,2,1,2,2] (.cd 81) rfl]
 rcases cond_some q with ⟨s,q⟩ | ⟨s,q⟩
 ·have hJ:=f33_l2_l3_j1_ok k g h i j l m true o a p b c d e f _ q
  simp only [W,simprocAttr,xk B33 [2,1,2,1,2,2,2,2,2,1,2,2,1,2,2,1,2,2] .sk rfl,s]
  try simp only [NM,EE] at hJ
  exact hJ
 ·cases q
  simp only [W,simprocAttr,xk B33 [3,1,2,1,2,2,2,2,2,1,2,2,1,2,2,1,2,2] (.ex 2) rfl,R33_l2_l3.st,s]
noncomputable def f33_l2_l3 (k:Nat):Nat→(List T54)→Int→Int→(List T54)→Int→Int→Int→(List T54)→Int→Int→Int→Int→Int→Int→Option R33_l2_l3
 | 0,_,_,_,_,_,_,_,_,_,_,_,_,_,_=>none
 | n+1,z,r,aa,ab,ac,ad,ae,e,af,f,g,h,i,j=>Option.bind (f33_l2_l3_b k z r aa ab ac ad ae e af f g h i j) fun o =>
  match o with
  | .o0 y=>some (.o0 y)
  | .o1 y l m p q s t u v w a b c d=>f33_l2_l3 k n y l m p q s t u v w a b c d
  | .o2 y l m p q s t u v w a b c d x=>some (.o2 y l m p q s t u v w a b c d x)
theorem f33_l2_l3_ok (k n:Nat):∀ (g:List T54) (i j:Int) (l:List T54) (m p q:Int) (a:List T54) (s b c d e f:Int) (r:R33_l2_l3) (t:f33_l2_l3 k n g i j l m p q a s b c d e f=some r) (σ:St) (hσ:headR (hints.head 33 9) (hints.canon 33 9) σ=some (⟨112,[(1,.ptr 30000 0),(4,.ptr 30001 0),(18,.sl 6 (rowsOf encT54 g)),(19,jI i),(20,jI j),(78,.sl 6 (rowsOf encT54 l)),(79,jI m),(80,jI p)],[(30000,.box 24 [jI q,.sl 6 (rowsOf encT54 a)]),(30001,.box 54 [jI s,jI b,jI c,jI d,jI e,jI f])]⟩:St)),LP 33 k (nav B33 [1,2,2,2,2,2,1,2,2,1,2,2,1,2,2]) n σ=some r.st:=by
 induction n with
 | zero=>intro g i j l m p q a s b c d e f r t;cases t
 | succ n ih =>
  intro g i j l m p q a s b c d e f r t σ hσ
  rw [f33_l2_l3] at t
  obtain ⟨o,h,t⟩:=Option.bind_eq_some_iff.1 t
  have hB:=f33_l2_l3_b_ok k g i j l m p q a s b c d e f o h
  unfold LP at ih ⊢
  unfold EX at hB
  rw [loopK_succ,show firstReg (nav B33 [1,2,2,2,2,2,1,2,2,1,2,2,1,2,2])=9 from rfl,hσ,headK_some,hB]
  cases o with
  | o0 y=>cases t;rfl
  | o1 y z aa ab ac ad ae af ag ah u v w x =>
   refine ih y z aa ab ac ad ae af ag ah u v w x r t _ ?_
   simp only [W,simprocAttr,hh_33_9,hc_33_9]
  | o2 y z aa ab ac ad ae af ag ah u v w x aj=>cases t;rfl
inductive R33_l2 where
 | o0 (y:Int)
 | o1 (y:List T54) (a b c:Int) (d:List T54)
 | o2 (y:List T54) (a b:Int) (c:Bool) (d:Int) (e:List T54)
noncomputable def R33_l2.st:R33_l2→Out×St
 | .o0 y=>(.ret,(⟨112,[(2,jI y)],[]⟩:St))
 | .o1 y a b c d=>(.norm,(⟨112,[(1,.ptr 30000 0),(18,.sl 6 (rowsOf encT54 y)),(19,jI a),(20,jI b)],[(30000,.box 24 [jI c,.sl 6 (rowsOf encT54 d)])]⟩:St))
 | .o2 y a b c d e=>(.exit 0,(⟨112,[(1,.ptr 30000 0),(18,.sl 6 (rowsOf encT54 y)),(19,jI a),(20,jI b),(21,jT c)],[(30000,.box 24 [jI d,.sl 6 (rowsOf encT54 e)])]⟩:St))
noncomputable def f33_l2_j4 (k:Nat) (b:List T54) (c d:Int) (l:List T54) (m o:Int) (p:Bool) (e:Int) (a:List T54) (q f g h i j:Int):Option R33_l2 :=
 some (.o1 b c (IntKind.i64.wrap (d+(1:Int))) e a)
theorem f33_l2_j4_ok (k g h i j l m o p a q b c d e f r) (s:f33_l2_j4 k g h i j l m o p a q b c d e f=some r):EX 33 k (nav B33 [2,2,2,1,2,2,1,2,2]) (⟨112,[(1,.ptr 30000 0),(4,.ptr 30001 0),(18,.sl 6 (rowsOf encT54 g)),(19,jI h),(20,jI i),(78,.sl 6 (rowsOf encT54 j)),(79,jI l),(80,jI m),(81,jT o)],[(30000,.box 24 [jI p,.sl 6 (rowsOf encT54 a)]),(30001,.box 54 [jI q,jI b,jI c,jI d,jI e,jI f])]⟩:St)=some r.st:=by
 unfold f33_l2_j4 at s
 cases s
 simp only [W,simprocAttr,rg B33 [2,2,2,1,2,2,1,2,2] 14 false rfl,hr 33 14 rfl,R33_l2.st]
noncomputable def f33_l2_j2 (k:Nat) (g:Int) (h:List T54) (i j:Int) (r:Bool) (l:Int) (a:List T54) (n b c d e f:Int):Option R33_l2 :=
 ifE ((0:Int)≤g) (
  ifE ((Int.toNat g)≤(List.length a)) (
   Option.bind (f33_l2_l3 k k h i j (List.take (Int.toNat g) a) ((List.length (List.take (Int.toNat g) a)):Int) 0 l a n b c d e f) fun o3 =>
    match o3 with
    | .o0 v6 =>
     some (.o0 v6)
    | .o1 _ _ _ _ _ _ _ _ _ _ _ _ _ _ =>
     none
    | .o2 v7 v8 v9 m o p q s t u v w x y z =>
     f33_l2_j4 k v7 v8 v9 m o p q s t u v w x y z))
theorem f33_l2_j2_ok (k p h i j o l a t c d e f g r) (b:f33_l2_j2 k p h i j o l a t c d e f g=some r):SQ 33 k (nav B33 [2,2,2,1,2,2,1,2,2]) (blockK 1 (EX 33 k (nav B33 [2,2,2,1,2,2,1,2,2,1,2,2]) (⟨112,[(1,.ptr 30000 0),(3,jI p),(4,.ptr 4 0),(18,.sl 6 (rowsOf encT54 h)),(19,jI i),(20,jI j),(74,jT o)],[(30000,.box 24 [jI l,.sl 6 (rowsOf encT54 a)]),(4,.box 54 [jI t,jI c,jI d,jI e,jI f,jI g])]⟩:St)))=some r.st:=by
 unfold f33_l2_j2 at b
 obtain ⟨q,b⟩:=ifE_some.1 b
 obtain ⟨s,b⟩:=ifE_some.1 b
 obtain ⟨o3,h4,b⟩:=bs b
 have m:=f33_l2_l3_ok k k h i j (List.take (Int.toNat p) a) ((List.length (List.take (Int.toNat p) a)):Int) 0 l a t c d e f g _ h4
 simp only [W,simprocAttr,sr 33 8 B33 [2,2,2,1,2,2,1,2,2,1,2,2] rfl rfl rfl,fieldAddrV,t_24,t_22,sliceV,bound,t_54,xk B33 [2,2,2,2,1,2,2,1,2,2,1,2,2] (.bk 2) rfl,xk B33 [2,2,2,2,2,1,2,2,1,2,2,1,2,2] .lp rfl,hh_33_9,hc_33_9,q,s]
 (try simp only [NM,EE] at m)
 rw [m _ (by simp only [W,simprocAttr,hh_33_9,hc_33_9,q,s])]
 clear m
 cases o3 with
 | o0 v6 =>
  (try dsimp only at b)
  cases b
  simp only [W,simprocAttr,R33_l2_l3.st,R33_l2.st,q,s]
 | o1 _ _ _ _ _ _ _ _ _ _ _ _ _ _ =>
  (try dsimp only at b)
  cases b
 | o2 v7 v8 v9 u v w x y z n aa ab ac ad ae =>
  (try dsimp only at b)
  have hJ:=f33_l2_j4_ok k v7 v8 v9 u v w x y z n aa ab ac ad ae _ b
  simp only [W,simprocAttr,R33_l2_l3.st,q,s]
  try simp only [NM,EE] at hJ
  exact hJ
noncomputable def f33_l2_j1 (k:Nat) (e:List T54) (f b:Int) (j:Bool) (c:Int) (d:List T54):Option R33_l2 :=
 ifE ((0:Int)≤b) (
  Option.bind (e[(Int.toNat b)]?) fun a =>
   Option.bind (f36 k a.From 1 c) fun o4 =>
    match o4 with
    | .o0 l =>
     cond ((!l))
      (some (.o0 230))
      (
       Option.bind (f36 k a.To 1 c) fun o9 =>
        match o9 with
        | .o0 g =>
         cond ((!g))
          (some (.o0 230))
          (
           cond ((a.From==a.To))
            (some (.o0 230))
            (
             cond ((decide (a.Start<0)))
              (some (.o0 230))
              (
               cond ((decide (a.Start≥a.End)))
                (some (.o0 230))
                (
                 cond ((decide (a.End>1048576)))
                  (some (.o0 230))
                  (
                   Option.bind (f36 k a.Rate 1 4096) fun o18 =>
                    match o18 with
                    | .o0 h =>
                     cond ((!h))
                      (some (.o0 230))
                      (
                       Option.bind (f36 k a.Delay 0 4096) fun o23 =>
                        match o23 with
                        | .o0 i =>
                         cond ((!i))
                          (some (.o0 230))
                          (f33_l2_j2 k b e f b false c d a.From a.To a.Start a.End a.Rate a.Delay)))))))))
theorem f33_l2_j1_ok (k v w u y q m r) (a:f33_l2_j1 k v w u y q m=some r):EX 33 k (nav B33 [2,2,1,2,2,1,2,2]) (⟨112,[(1,.ptr 30000 0),(18,.sl 6 (rowsOf encT54 v)),(19,jI w),(20,jI u),(21,jT y)],[(30000,.box 24 [jI q,.sl 6 (rowsOf encT54 m)])]⟩:St)=some r.st:=by
 unfold f33_l2_j1 at a
 obtain ⟨i,a⟩:=ifE_some.1 a
 obtain ⟨t,j,a⟩:=bs a
 obtain ⟨o4,h5,a⟩:=bs a
 have c:=f36_ok k t.From 1 q _ h5
 cases o4 with
 | o0 v7 =>
  (try dsimp only at a)
  (try simp only [NM,EE,R36.st] at c)
  simp only [W,simprocAttr,xk B33 [2,2,1,2,2,1,2,2] .sq rfl,xk B33 [1,2,2,1,2,2,1,2,2] (.bk 1) rfl,sr 33 5 B33 [2,1,2,2,1,2,2,1,2,2] rfl rfl rfl,indexAddrV,t_22,t_54,encT54_eq,xk B33 [2,2,1,2,2,1,2,2,1,2,2] .sq rfl,sr 33 6 B33 [1,2,2,1,2,2,1,2,2,1,2,2] rfl rfl rfl,fieldAddrV,t_3,t_24,callStep,CL,gv,List.contains,i,j,c]
  rcases cond_some a with ⟨l,a⟩ | ⟨l,a⟩
  ·cases a
   simp only [W,simprocAttr,xk B33 [2,1,2,2,1,2,2,1,2,2,1,2,2] (.cd 74) rfl,sr 33 7 B33 [2,2,1,2,2,1,2,2,1,2,2,1,2,2] rfl rfl rfl,xk B33 [2,2,2,1,2,2,1,2,2,1,2,2,1,2,2] .rt rfl,R33_l2.st,i,j,c,l]
  ·obtain ⟨o9,z,a⟩:=bs a
   have b:=f36_ok k t.To 1 q _ z
   cases o9 with
   | o0 ac =>
    (try dsimp only at a)
    (try simp only [NM,EE,R36.st] at b)
    simp only [W,simprocAttr,fieldAddrV,t_54,t_3,t_24,callStep,CL,gv,List.contains,i,j,c,l,b]
    rcases cond_some a with ⟨d,a⟩ | ⟨d,a⟩
    ·cases a
     simp only [W,simprocAttr,xk B33 [2,1,2,2,1,2,2,1,2,2,1,2,2] (.cd 74) rfl,sr 33 7 B33 [2,2,1,2,2,1,2,2,1,2,2,1,2,2] rfl rfl rfl,xk B33 [2,2,2,1,2,2,1,2,2,1,2,2,1,2,2] .rt rfl,R33_l2.st,i,j,c,l,b,d]
    ·simp only [W,simprocAttr,fieldAddrV,t_54,t_3,i,j,c,l,b,d]
     rcases cond_some a with ⟨e,a⟩ | ⟨e,a⟩
     ·cases a
      simp only [W,simprocAttr,xk B33 [2,1,2,2,1,2,2,1,2,2,1,2,2] (.cd 74) rfl,sr 33 7 B33 [2,2,1,2,2,1,2,2,1,2,2,1,2,2] rfl rfl rfl,xk B33 [2,2,2,1,2,2,1,2,2,1,2,2,1,2,2] .rt rfl,R33_l2.st,i,j,c,l,b,d,e]
     ·simp only [W,simprocAttr,fieldAddrV,t_54,t_3,i,j,c,l,b,d,e]
      rcases cond_some a with ⟨f,a⟩ | ⟨f,a⟩
      ·cases a
       simp only [W,simprocAttr,xk B33 [2,1,2,2,1,2,2,1,2,2,1,2,2] (.cd 74) rfl,sr 33 7 B33 [2,2,1,2,2,1,2,2,1,2,2,1,2,2] rfl rfl rfl,xk B33 [2,2,2,1,2,2,1,2,2,1,2,2,1,2,2] .rt rfl,R33_l2.st,i,j,c,l,b,d,e,f]
      ·simp only [W,simprocAttr,fieldAddrV,t_54,t_3,i,j,c,l,b,d,e,f]
       rcases cond_some a with ⟨h,a⟩ | ⟨h,a⟩
       ·cases a
        simp only [W,simprocAttr,xk B33 [2,1,2,2,1,2,2,1,2,2,1,2,2] (.cd 74) rfl,sr 33 7 B33 [2,2,1,2,2,1,2,2,1,2,2,1,2,2] rfl rfl rfl,xk B33 [2,2,2,1,2,2,1,2,2,1,2,2,1,2,2] .rt rfl,R33_l2.st,i,j,c,l,b,d,e,f,h]
       ·simp only [W,simprocAttr,fieldAddrV,t_54,t_3,i,j,c,l,b,d,e,f,h]
        rcases cond_some a with ⟨o,a⟩ | ⟨o,a⟩
        ·cases a
         simp only [W,simprocAttr,xk B33 [2,1,2,2,1,2,2,1,2,2,1,2,2] (.cd 74) rfl,sr 33 7 B33 [2,2,1,2,2,1,2,2,1,2,2,1,2,2] rfl rfl rfl,xk B33 [2,2,2,1,2,2,1,2,2,1,2,2,1,2,2] .rt rfl,R33_l2.st,i,j,c,l,b,d,e,f,h,o]
        ·obtain ⟨o18,n,a⟩:=bs a
         have g:=f36_ok k t.Rate 1 4096 _ n
         cases o18 with
         | o0 ad =>
          (try dsimp only at a)
          (try simp only [NM,EE,R36.st] at g)
          simp only [W,simprocAttr,fieldAddrV,t_54,t_3,callStep,CL,gv,List.contains,i,j,c,l,b,d,e,f,h,o,g]
          rcases cond_some a with ⟨s,a⟩ | ⟨s,a⟩
          ·cases a
           simp only [W,simprocAttr,xk B33 [2,1,2,2,1,2,2,1,2,2,1,2,2] (.cd 74) rfl,sr 33 7 B33 [2,2,1,2,2,1,2,2,1,2,2,1,2,2] rfl rfl rfl,xk B33 [2,2,2,1,2,2,1,2,2,1,2,2,1,2,2] .rt rfl,R33_l2.st,i,j,c,l,b,d,e,f,h,o,g,s]
          ·obtain ⟨o23,aa,a⟩:=bs a
           have p:=f36_ok k t.Delay 0 4096 _ aa
           cases o23 with
           | o0 ae =>
            (try dsimp only at a)
            (try simp only [NM,EE,R36.st] at p)
            simp only [W,simprocAttr,fieldAddrV,t_54,t_3,callStep,CL,gv,List.contains,xk B33 [2,1,2,2,1,2,2,1,2,2,1,2,2] (.cd 74) rfl,i,j,c,l,b,d,e,f,h,o,g,s,p]
            rcases cond_some a with ⟨x,a⟩ | ⟨x,a⟩
            ·cases a
             simp only [W,simprocAttr,sr 33 7 B33 [2,2,1,2,2,1,2,2,1,2,2,1,2,2] rfl rfl rfl,xk B33 [2,2,2,1,2,2,1,2,2,1,2,2,1,2,2] .rt rfl,R33_l2.st,i,j,c,l,b,d,e,f,h,o,g,s,p,x]
            ·have hJ:=f33_l2_j2_ok k u v w u false q m t.From t.To t.Start t.End t.Rate t.Delay _ a
             simp only [W,simprocAttr,xk B33 [3,2,1,2,2,1,2,2,1,2,2,1,2,2] .sk rfl,i,j,c,l,b,d,e,f,h,o,g,s,p,x]
             try simp only [NM,EE] at hJ
             exact hJ
noncomputable def f33_l2_b (k:Nat) (d:List T54) (b c e:Int) (a:List T54):Option R33_l2 :=
 cond ((decide (c<b)))
  (f33_l2_j1 k d b c true e a)
  (some (.o2 d b c false e a))
theorem f33_l2_b_ok (k b c d e a r) (f:f33_l2_b k b c d e a=some r):EX 33 k (nav B33 [1,2,2,1,2,2]) (⟨112,[(1,.ptr 30000 0),(18,.sl 6 (rowsOf encT54 b)),(19,jI c),(20,jI d)],[(30000,.box 24 [jI e,.sl 6 (rowsOf encT54 a)])]⟩:St)=some r.st:=by
 unfold f33_l2_b at f
 simp only [W,simprocAttr,sr 33 4 B33 [1,2,2,1,2,2] rfl rfl rfl,xk B33 [2,1,2,2,1,2,2] .sq rfl,xk B33 [1,2,1,2,2,1,2,2] (.cd 21) rfl]
 rcases cond_some f with ⟨g,f⟩ | ⟨g,f⟩
 ·have hJ:=f33_l2_j1_ok k b c d true e a _ f
  simp only [W,simprocAttr,xk B33 [2,1,2,1,2,2,1,2,2] .sk rfl,g]
  try simp only [NM,EE] at hJ
  exact hJ
 ·cases f
  simp only [W,simprocAttr,xk B33 [3,1,2,1,2,2,1,2,2] (.ex 0) rfl,R33_l2.st,g]
noncomputable def f33_l2 (k:Nat):Nat→(List T54)→Int→Int→Int→(List T54)→Option R33_l2
 | 0,_,_,_,_,_=>none
 | n+1,f,g,h,i,a=>Option.bind (f33_l2_b k f g h i a) fun o =>
  match o with
  | .o0 y=>some (.o0 y)
  | .o1 y b c d e=>f33_l2 k n y b c d e
  | .o2 y b c d e j=>some (.o2 y b c d e j)
theorem f33_l2_ok (k n:Nat):∀ (b:List T54) (c d e:Int) (a:List T54) (r:R33_l2) (f:f33_l2 k n b c d e a=some r) (σ:St) (hσ:headR (hints.head 33 4) (hints.canon 33 4) σ=some (⟨112,[(1,.ptr 30000 0),(18,.sl 6 (rowsOf encT54 b)),(19,jI c),(20,jI d)],[(30000,.box 24 [jI e,.sl 6 (rowsOf encT54 a)])]⟩:St)),LP 33 k (nav B33 [1,2,2,1,2,2]) n σ=some r.st:=by
 induction n with
 | zero=>intro b c d e a r f;cases f
 | succ n m =>
  intro b c d e a r f σ hσ
  rw [f33_l2] at f
  obtain ⟨o,h,f⟩:=Option.bind_eq_some_iff.1 f
  have hB:=f33_l2_b_ok k b c d e a o h
  unfold LP at m ⊢
  unfold EX at hB
  rw [loopK_succ,show firstReg (nav B33 [1,2,2,1,2,2])=4 from rfl,hσ,headK_some,hB]
  cases o with
  | o0 y=>cases f;rfl
  | o1 y g i j l =>
   refine m y g i j l r f _ ?_
   simp only [W,simprocAttr,hh_33_4,hc_33_4]
  | o2 y g i j l p=>cases f;rfl
noncomputable def f33_j3 (k:Nat) (b:List T54) (c d:Int) (e:Bool) (f:Int) (a:List T54):Option R33 :=
 some (.o0 0)
theorem f33_j3_ok (k b c d e f a r) (g:f33_j3 k b c d e f a=some r):finK Tryd.prog Tryd.f33 0 (EX 33 k (nav B33 [2,2,2]) (⟨112,[(1,.ptr 30000 0),(18,.sl 6 (rowsOf encT54 b)),(19,jI c),(20,jI d),(21,jT e)],[(30000,.box 24 [jI f,.sl 6 (rowsOf encT54 a)])]⟩:St))=some r.st:=by
 unfold f33_j3 at g
 cases g
 simp only [W,simprocAttr,sr 33 15 B33 [2,2,2] rfl rfl rfl,xk B33 [2,2,2,2] .rt rfl,fin33,R33.st]
noncomputable def f33_j1 (k:Nat) (c:Bool) (d:Int) (a:List T54):Option R33 :=
 Option.bind (f33_l2 k k a ((List.length a):Int) 0 d a) fun o1 =>
  match o1 with
  | .o0 e =>
   some (.o0 e)
  | .o1 _ _ _ _ _ =>
   none
  | .o2 f g h i j b =>
   f33_j3 k f g h i j b
theorem f33_j1_ok (k d e a r) (b:f33_j1 k d e a=some r):finK Tryd.prog Tryd.f33 0 (EX 33 k (nav B33 [2,2]) (⟨112,[(1,.ptr 1 0),(16,jT d)],[(1,.box 24 [jI e,.sl 6 (rowsOf encT54 a)])]⟩:St))=some r.st:=by
 unfold f33_j1 at b
 obtain ⟨o1,g,b⟩:=bs b
 have c:=f33_l2_ok k k a ((List.length a):Int) 0 e a _ g
 simp only [W,simprocAttr,xk B33 [2,2] .sq rfl,sr 33 3 B33 [1,2,2] rfl rfl rfl,fieldAddrV,t_24,t_22,xk B33 [2,1,2,2] (.bk 0) rfl,xk B33 [2,2,1,2,2] .lp rfl,hh_33_4,hc_33_4]
 (try simp only [NM,EE] at c)
 rw [c _ (by simp only [W,simprocAttr,hh_33_4,hc_33_4])]
 clear c
 cases o1 with
 | o0 o =>
  (try dsimp only at b)
  cases b
  simp only [W,simprocAttr,R33_l2.st,fin33,R33.st]
 | o1 _ _ _ _ _ =>
  (try dsimp only at b)
  cases b
 | o2 h i j l m f =>
  (try dsimp only at b)
  have hJ:=f33_j3_ok k h i j l m f _ b
  simp only [W,simprocAttr,R33_l2.st]
  try simp only [NM,EE] at hJ
  exact hJ
noncomputable def f33_e (k:Nat) (b:Int) (a:List T54):Option R33 :=
 Option.bind (f36 k b 2 6) fun o1 =>
  match o1 with
  | .o0 c =>
   cond ((!c))
    (some (.o0 230))
    (
     cond ((decide (((List.length a):Int)>24)))
      (some (.o0 230))
      (f33_j1 k false b a))
theorem f33_e_ok (k e c r) (a:f33_e k e c=some r):finK Tryd.prog Tryd.f33 0 (EX 33 k (nav B33 []) (⟨112,[(0,.agg [jI e,.sl 6 (rowsOf encT54 c)])],[]⟩:St))=some r.st:=by
 unfold f33_e at a
 obtain ⟨o1,g,a⟩:=bs a
 have b:=f36_ok k e 2 6 _ g
 cases o1 with
 | o0 h =>
  (try dsimp only at a)
  (try simp only [NM,EE,R36.st] at b)
  simp only [W,simprocAttr,sr 33 0 B33 [] rfl rfl rfl,xk B33 [2] .sq rfl,sr 33 1 B33 [1,2] rfl rfl rfl,fieldAddrV,t_24,t_3,callStep,CL,gv,List.contains,b]
  rcases cond_some a with ⟨d,a⟩ | ⟨d,a⟩
  ·cases a
   simp only [W,simprocAttr,xk B33 [2,1,2] (.cd 16) rfl,sr 33 2 B33 [2,2,1,2] rfl rfl rfl,xk B33 [2,2,2,1,2] .rt rfl,fin33,R33.st,b,d]
  ·simp only [W,simprocAttr,fieldAddrV,t_24,t_22,xk B33 [2,1,2] (.cd 16) rfl,b,d]
   rcases cond_some a with ⟨f,a⟩ | ⟨f,a⟩
   ·cases a
    simp only [W,simprocAttr,sr 33 2 B33 [2,2,1,2] rfl rfl rfl,xk B33 [2,2,2,1,2] .rt rfl,fin33,R33.st,b,d,f]
   ·have hJ:=f33_j1_ok k false e c _ a
    simp only [W,simprocAttr,xk B33 [3,2,1,2] .sk rfl,b,d,f]
    try simp only [NM,EE] at hJ
    exact hJ
noncomputable def f33 (k:Nat) (b:Int) (a:List T54):Option R33:=match k with | 0=>none | k+1=>f33_e k b a
theorem f33_ok (k b a r) (d:f33 k b a=some r):CV k 33 [.agg [jI b,.sl 6 (rowsOf encT54 a)]] []=some r.st:=by
 cases k with
 | zero=>cases d
 | succ k =>
  unfold CV
  rw [ev_call (F:=Tryd.f33) (c:=(nav B33 [])) rfl Tryd.func33 rfl rfl rfl rfl]
  exact f33_e_ok k b a r d
-- f41: f41 heliograph/queue.in
inductive R41 where
 | o0 (y:Bool)
noncomputable def R41.st:R41→V×List O×List O
 | .o0 y=>(jT y,[],[])
noncomputable def f41_e (k:Nat) (a b c:Int):Option R41 :=
 cond ((decide (a≥b)))
  (some (.o0 (decide (a≤c))))
  (some (.o0 false))
theorem f41_e_ok (k c d e r) (a:f41_e k c d e=some r):finK Tryd.prog Tryd.f41 0 (EX 41 k (nav B41 []) (⟨15,[(0,jI c),(1,jI d),(2,jI e)],[]⟩:St))=some r.st:=by
 unfold f41_e at a
 simp only [W,simprocAttr,sr 41 0 B41 [] rfl rfl rfl,sr 41 1 B41 [2] rfl rfl rfl]
 rcases cond_some a with ⟨b,a⟩ | ⟨b,a⟩
 ·cases a
  simp only [W,simprocAttr,xk B41 [2,2] .rt rfl,fin41,R41.st,b]
 ·cases a
  simp only [W,simprocAttr,xk B41 [2,2] .rt rfl,fin41,R41.st,b]
noncomputable def f41 (k:Nat) (a b c:Int):Option R41:=match k with | 0=>none | k+1=>f41_e k a b c
theorem f41_ok (k a b d r) (e:f41 k a b d=some r):CV k 41 [jI a,jI b,jI d] []=some r.st:=by
 cases k with
 | zero=>cases e
 | succ k =>
  unfold CV
  rw [ev_call (F:=Tryd.f41) (c:=(nav B41 [])) rfl Tryd.func41 rfl rfl rfl rfl]
  exact f41_e_ok k a b d r e
-- f63: f63 heliograph/queue.fits$1
inductive R63 where
 | o0 (y:Bool)
noncomputable def R63.st:R63→V×List O×List O
 | .o0 y=>(jT y,[],[])
noncomputable def f63_e (k:Nat) (a:Int):Option R63 :=
 some (.o0 (decide (a<0)))
theorem f63_e_ok (k a r) (b:f63_e k a=some r):finK Tryd.prog Tryd.f63 0 (EX 63 k (nav B63 []) (⟨5,[(0,jI a)],[]⟩:St))=some r.st:=by
 unfold f63_e at b
 cases b
 simp only [W,simprocAttr,sr 63 0 B63 [] rfl rfl rfl,sr 63 1 B63 [2] rfl rfl rfl,xk B63 [2,2] .rt rfl,fin63,R63.st]
noncomputable def f63 (k:Nat) (a:Int):Option R63:=match k with | 0=>none | k+1=>f63_e k a
theorem f63_ok (k a r) (b:f63 k a=some r):CV k 63 [jI a] []=some r.st:=by
 cases k with
 | zero=>cases b
 | succ k =>
  unfold CV
  rw [ev_call (F:=Tryd.f63) (c:=(nav B63 [])) rfl Tryd.func63 rfl rfl rfl rfl]
  exact f63_e_ok k a r b
-- f54b: f54 slices.IndexFunc[[]int,int]
inductive R54b where
 | o0 (y:Int)
noncomputable def R54b.st:R54b→V×List O×List O
 | .o0 y=>((jI y),[],[])
inductive R54b_l1 where
 | o0 (y:Int)
 | o1 (y:List Int) (a b:Int)
 | o2 (y:List Int) (a b:Int) (c:Bool)
noncomputable def R54b_l1.st:R54b_l1→Out×St
 | .o0 y=>(.ret,(⟨19,[(4,jI y)],[]⟩:St))
 | .o1 y a b=>(.norm,(⟨19,[(0,.sl 1 (rowsOf (encI .i64) y)),(1,V.p (Value.func (Fn.func 63) #[] #[])),(7,jI a),(8,jI b)],[]⟩:St))
 | .o2 y a b c=>(.exit 0,(⟨19,[(0,.sl 1 (rowsOf (encI .i64) y)),(1,V.p (Value.func (Fn.func 63) #[] #[])),(7,jI a),(8,jI b),(9,jT c)],[]⟩:St))
noncomputable def f54b_l1_j2 (k:Nat) (a:List Int) (e b c:Int) (d:Bool):Option R54b_l1 :=
 some (.o1 a b (IntKind.i64.wrap (c+(1:Int))))
theorem f54b_l1_j2_ok (k b c d e a r) (f:f54b_l1_j2 k b c d e a=some r):EX 54 k (nav B54 [2,2,2,1,2,2,1,2]) (⟨19,[(0,.sl 1 (rowsOf (encI .i64) b)),(1,V.p (Value.func (Fn.func 63) #[] #[])),(5,jI c),(7,jI d),(8,jI e),(16,jT a)],[]⟩:St)=some r.st:=by
 unfold f54b_l1_j2 at f
 cases f
 simp only [W,simprocAttr,rg B54 [2,2,2,1,2,2,1,2] 6 false rfl,hr 54 6 rfl,R54b_l1.st]
noncomputable def f54b_l1_j1 (k:Nat) (b:List Int) (c a:Int) (f:Bool):Option R54b_l1 :=
 ifE ((0:Int)≤a) (
  Option.bind (b[(Int.toNat a)]?) fun d =>
   Option.bind (f63 k d) fun o4 =>
    match o4 with
    | .o0 e =>
     cond (e)
      (some (.o0 a))
      (f54b_l1_j2 k b a c a false))
theorem f54b_l1_j1_ok (k d e c i r) (a:f54b_l1_j1 k d e c i=some r):EX 54 k (nav B54 [2,2,1,2,2,1,2]) (⟨19,[(0,.sl 1 (rowsOf (encI .i64) d)),(1,V.p (Value.func (Fn.func 63) #[] #[])),(7,jI e),(8,jI c),(9,jT i)],[]⟩:St)=some r.st:=by
 unfold f54b_l1_j1 at a
 obtain ⟨f,a⟩:=ifE_some.1 a
 obtain ⟨j,g,a⟩:=bs a
 obtain ⟨o4,l,a⟩:=bs a
 have b:=f63_ok k j _ l
 cases o4 with
 | o0 m =>
  (try dsimp only at a)
  (try simp only [NM,EE,R63.st] at b)
  simp only [W,simprocAttr,xk B54 [2,2,1,2,2,1,2] .sq rfl,xk B54 [1,2,2,1,2,2,1,2] (.bk 1) rfl,sr 54 3 B54 [2,1,2,2,1,2,2,1,2] rfl rfl rfl,sr 54 4 B54 [2,2,1,2,2,1,2,2,1,2] rfl rfl rfl,indexAddrV,t_25,t_3,encI_eq,callStep,CL,gv,List.contains,xk B54 [2,2,2,1,2,2,1,2,2,1,2] (.cd 16) rfl,f,g,b]
  rcases cond_some a with ⟨h,a⟩ | ⟨h,a⟩
  ·cases a
   simp only [W,simprocAttr,sr 54 5 B54 [2,2,2,2,1,2,2,1,2,2,1,2] rfl rfl rfl,xk B54 [2,2,2,2,2,1,2,2,1,2,2,1,2] .rt rfl,R54b_l1.st,f,g,b,h]
  ·have hJ:=f54b_l1_j2_ok k d c e c false _ a
   simp only [W,simprocAttr,xk B54 [3,2,2,2,1,2,2,1,2,2,1,2] .sk rfl,f,g,b,h]
   try simp only [NM,EE] at hJ
   exact hJ
noncomputable def f54b_l1_b (k:Nat) (c:List Int) (a b:Int):Option R54b_l1 :=
 cond ((decide (b<a)))
  (f54b_l1_j1 k c a b true)
  (some (.o2 c a b false))
theorem f54b_l1_b_ok (k b c d r) (a:f54b_l1_b k b c d=some r):EX 54 k (nav B54 [1,2,2,1,2]) (⟨19,[(0,.sl 1 (rowsOf (encI .i64) b)),(1,V.p (Value.func (Fn.func 63) #[] #[])),(7,jI c),(8,jI d)],[]⟩:St)=some r.st:=by
 unfold f54b_l1_b at a
 simp only [W,simprocAttr,sr 54 2 B54 [1,2,2,1,2] rfl rfl rfl,xk B54 [2,1,2,2,1,2] .sq rfl,xk B54 [1,2,1,2,2,1,2] (.cd 9) rfl]
 rcases cond_some a with ⟨e,a⟩ | ⟨e,a⟩
 ·have hJ:=f54b_l1_j1_ok k b c d true _ a
  simp only [W,simprocAttr,xk B54 [2,1,2,1,2,2,1,2] .sk rfl,e]
  try simp only [NM,EE] at hJ
  exact hJ
 ·cases a
  simp only [W,simprocAttr,xk B54 [3,1,2,1,2,2,1,2] (.ex 0) rfl,R54b_l1.st,e]
noncomputable def f54b_l1 (k:Nat):Nat→(List Int)→Int→Int→Option R54b_l1
 | 0,_,_,_=>none
 | n+1,d,e,f=>Option.bind (f54b_l1_b k d e f) fun o =>
  match o with
  | .o0 y=>some (.o0 y)
  | .o1 y a b=>f54b_l1 k n y a b
  | .o2 y a b c=>some (.o2 y a b c)
theorem f54b_l1_ok (k n:Nat):∀ (b:List Int) (c d:Int) (r:R54b_l1) (a:f54b_l1 k n b c d=some r) (σ:St) (hσ:headR (hints.head 54 2) (hints.canon 54 2) σ=some (⟨19,[(0,.sl 1 (rowsOf (encI .i64) b)),(1,V.p (Value.func (Fn.func 63) #[] #[])),(7,jI c),(8,jI d)],[]⟩:St)),LP 54 k (nav B54 [1,2,2,1,2]) n σ=some r.st:=by
 induction n with
 | zero=>intro b c d r a;cases a
 | succ n g =>
  intro b c d r a σ hσ
  rw [f54b_l1] at a
  obtain ⟨o,h,a⟩:=Option.bind_eq_some_iff.1 a
  have hB:=f54b_l1_b_ok k b c d o h
  unfold LP at g ⊢
  unfold EX at hB
  rw [loopK_succ,show firstReg (nav B54 [1,2,2,1,2])=2 from rfl,hσ,headK_some,hB]
  cases o with
  | o0 y=>cases a;rfl
  | o1 y e f =>
   refine g y e f r a _ ?_
   simp only [W,simprocAttr,hh_54_2,hc_54_2]
  | o2 y e f i=>cases a;rfl
noncomputable def f54b_j2 (k:Nat) (a:List Int) (b c:Int) (d:Bool):Option R54b :=
 some (.o0 (-1))
theorem f54b_j2_ok (k a b c d r) (e:f54b_j2 k a b c d=some r):finK Tryd.prog Tryd.f54 0 (EX 54 k (nav B54 [2,2]) (⟨19,[(0,.sl 1 (rowsOf (encI .i64) a)),(1,V.p (Value.func (Fn.func 63) #[] #[])),(7,jI b),(8,jI c),(9,jT d)],[]⟩:St))=some r.st:=by
 unfold f54b_j2 at e
 cases e
 simp only [W,simprocAttr,sr 54 7 B54 [2,2] rfl rfl rfl,xk B54 [2,2,2] .rt rfl,fin54,R54b.st]
noncomputable def f54b_e (k:Nat) (a:List Int):Option R54b :=
 Option.bind (f54b_l1 k k a ((List.length a):Int) 0) fun o1 =>
  match o1 with
  | .o0 b =>
   some (.o0 b)
  | .o1 _ _ _ =>
   none
  | .o2 c d e f =>
   f54b_j2 k c d e f
theorem f54b_e_ok (k c r) (a:f54b_e k c=some r):finK Tryd.prog Tryd.f54 0 (EX 54 k (nav B54 []) (⟨19,[(0,.sl 1 (rowsOf (encI .i64) c)),(1,V.p (Value.func (Fn.func 63) #[] #[]))],[]⟩:St))=some r.st:=by
 unfold f54b_e at a
 obtain ⟨o1,d,a⟩:=bs a
 have b:=f54b_l1_ok k k c ((List.length c):Int) 0 _ d
 simp only [W,simprocAttr,sr 54 0 B54 [] rfl rfl rfl,xk B54 [2] .sq rfl,sr 54 1 B54 [1,2] rfl rfl rfl,t_25,xk B54 [2,1,2] (.bk 0) rfl,xk B54 [2,2,1,2] .lp rfl,hh_54_2,hc_54_2]
 (try simp only [NM,EE] at b)
 rw [b _ (by simp only [W,simprocAttr,hh_54_2,hc_54_2])]
 clear b
 cases o1 with
 | o0 i =>
  (try dsimp only at a)
  cases a
  simp only [W,simprocAttr,R54b_l1.st,fin54,R54b.st]
 | o1 _ _ _ =>
  (try dsimp only at a)
  cases a
 | o2 e f g h =>
  (try dsimp only at a)
  have hJ:=f54b_j2_ok k e f g h _ a
  simp only [W,simprocAttr,R54b_l1.st]
  try simp only [NM,EE] at hJ
  exact hJ
noncomputable def f54b (k:Nat) (a:List Int):Option R54b:=match k with | 0=>none | k+1=>f54b_e k a
theorem f54b_ok (k a r) (b:f54b k a=some r):CV k 54 [.sl 1 (rowsOf (encI .i64) a),V.p (Value.func (Fn.func 63) #[] #[])] []=some r.st:=by
 cases k with
 | zero=>cases b
 | succ k =>
  unfold CV
  rw [ev_call (F:=Tryd.f54) (c:=(nav B54 [])) rfl Tryd.func54 rfl rfl rfl rfl]
  exact f54b_e_ok k a r b
-- f34b: f34 slices.ContainsFunc[[]int,int]
inductive R34b where
 | o0 (y:Bool)
noncomputable def R34b.st:R34b→V×List O×List O
 | .o0 y=>(jT y,[],[])
noncomputable def f34b_e (k:Nat) (a:List Int):Option R34b :=
 Option.bind (f54b k a) fun o1 =>
  match o1 with
  | .o0 b =>
   some (.o0 (decide (b≥0)))
theorem f34b_e_ok (k c r) (a:f34b_e k c=some r):finK Tryd.prog Tryd.f34 0 (EX 34 k (nav B34 []) (⟨9,[(0,.sl 1 (rowsOf (encI .i64) c)),(1,V.p (Value.func (Fn.func 63) #[] #[]))],[]⟩:St))=some r.st:=by
 unfold f34b_e at a
 obtain ⟨o1,d,a⟩:=bs a
 have b:=f54b_ok k c _ d
 cases o1 with
 | o0 e =>
  (try dsimp only at a)
  (try simp only [NM,EE,R54b.st] at b)
  cases a
  simp only [W,simprocAttr,sr 34 0 B34 [] rfl rfl rfl,sr 34 1 B34 [2] rfl rfl rfl,callStep,CL,gv,List.contains,xk B34 [2,2] .rt rfl,fin34,R34b.st,b]
noncomputable def f34b (k:Nat) (a:List Int):Option R34b:=match k with | 0=>none | k+1=>f34b_e k a
theorem f34b_ok (k a r) (b:f34b k a=some r):CV k 34 [.sl 1 (rowsOf (encI .i64) a),V.p (Value.func (Fn.func 63) #[] #[])] []=some r.st:=by
 cases k with
 | zero=>cases b
 | succ k =>
  unfold CV
  rw [ev_call (F:=Tryd.f34) (c:=(nav B34 [])) rfl Tryd.func34 rfl rfl rfl rfl]
  exact f34b_e_ok k a r b
-- f40: f40 heliograph/queue.fits
inductive R40 where
 | o0 (y:Bool)
noncomputable def R40.st:R40→V×List O×List O
 | .o0 y=>(jT y,[],[])
noncomputable def f40_e (k:Nat) (d:Int) (a:List T54) (b:List Int):Option R40 :=
 cond ((((List.length b):Int)==((List.length a):Int)))
  (
   Option.bind (f34b k b) fun o2 =>
    match o2 with
    | .o0 c =>
     some (.o0 (!c)))
  (some (.o0 false))
theorem f40_e_ok (k f b d r) (a:f40_e k f b d=some r):finK Tryd.prog Tryd.f40 0 (EX 40 k (nav B40 []) (⟨16,[(0,.agg [jI f,.sl 6 (rowsOf encT54 b)]),(1,.sl 1 (rowsOf (encI .i64) d))],[]⟩:St))=some r.st:=by
 unfold f40_e at a
 simp only [W,simprocAttr,sr 40 0 B40 [] rfl rfl rfl,sr 40 1 B40 [2] rfl rfl rfl,t_25,fieldAddrV,t_24,t_22]
 rcases cond_some a with ⟨e,a⟩ | ⟨e,a⟩
 ·obtain ⟨o2,g,a⟩:=bs a
  have c:=f34b_ok k d _ g
  cases o2 with
  | o0 h =>
   (try dsimp only at a)
   (try simp only [NM,EE,R34b.st] at c)
   cases a
   simp only [W,simprocAttr,callStep,CL,gv,List.contains,xk B40 [2,2] .rt rfl,fin40,R40.st,e,c]
 ·cases a
  simp only [W,simprocAttr,xk B40 [2,2] .rt rfl,fin40,R40.st,e]
noncomputable def f40 (k:Nat) (b:Int) (a:List T54) (c:List Int):Option R40:=match k with | 0=>none | k+1=>f40_e k b a c
theorem f40_ok (k b a d r) (e:f40 k b a d=some r):CV k 40 [.agg [jI b,.sl 6 (rowsOf encT54 a)],.sl 1 (rowsOf (encI .i64) d)] []=some r.st:=by
 cases k with
 | zero=>cases e
 | succ k =>
  unfold CV
  rw [ev_call (F:=Tryd.f40) (c:=(nav B40 [])) rfl Tryd.func40 rfl rfl rfl rfl]
  exact f40_e_ok k b a d r e
end Go.Proofs.YtiompmmbjpjjeaaDoorV