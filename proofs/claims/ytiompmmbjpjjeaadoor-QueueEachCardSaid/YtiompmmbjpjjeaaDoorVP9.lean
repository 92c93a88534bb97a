/- What the program's functions answer: plain functions,and that the interpreter answers what they do. Written by a program of this session,out of the translation. -/
import Derived.Test.YtiompmmbjpjjeaaDoorVP8
namespace Go.Proofs.YtiompmmbjpjjeaaDoorV
open Go
set_option linter.unusedVariables false
set_option linter.unusedSimpArgs false
set_option maxRecDepth 8000
set_option maxHeartbeats 4000000
-- f26: f26 heliograph/custody.Check
inductive R26 where
 | o0 (y:Int)
noncomputable def R26.st:R26→V×List O×List O
 | .o0 y=>((jI y),[],[])
inductive R26_l2 where
 | o0 (y:Int)
 | o1 (y:Int) (a:List T47) (b c:Int) (d:List T47)
 | o2 (y:Int) (a:List T47) (b c:Int) (d:Bool) (e:List T47)
noncomputable def R26_l2.st:R26_l2→Out×St
 | .o0 y=>(.ret,(⟨36,[(2,jI y)],[]⟩:St))
 | .o1 y a b c d=>(.norm,(⟨36,[(1,.ptr 30000 0),(3,jI y),(11,.sl 11 (rowsOf encT47 a)),(12,jI b),(13,jI c)],[(30000,.box 31 [.sl 11 (rowsOf encT47 d)])]⟩:St))
 | .o2 y a b c d e=>(.exit 0,(⟨36,[(1,.ptr 30000 0),(3,jI y),(11,.sl 11 (rowsOf encT47 a)),(12,jI b),(13,jI c),(14,jT d)],[(30000,.box 31 [.sl 11 (rowsOf encT47 e)])]⟩:St))
noncomputable def f26_l2_j3 (k:Nat) (e:Int) (a:List T47) (b c:Int) (d:List T47):Option R26_l2 :=
 some (.o1 e a b (IntKind.i64.wrap (c+(1:Int))) d)
theorem f26_l2_j3_ok (k e a b c d r) (f:f26_l2_j3 k e a b c d=some r):EX 26 k (nav B26 [2,2,2,1,2,2,1,2,2,2]) (⟨36,[(1,.ptr 30000 0),(3,jI e),(11,.sl 11 (rowsOf encT47 a)),(12,jI b),(13,jI c)],[(30000,.box 31 [.sl 11 (rowsOf encT47 d)])]⟩:St)=some r.st:=by
 unfold f26_l2_j3 at f
 cases f
 simp only [W,simprocAttr,rg B26 [2,2,2,1,2,2,1,2,2,2] 10 false rfl,hr 26 10 rfl,R26_l2.st]
noncomputable def f26_l2_j2 (k:Nat) (q:Int) (l:List T47) (m o:Int) (s:Bool) (p:List T47) (t b c d e f g h i j:Int) (a:List Int):Option R26_l2 :=
 Option.bind (f15 k t b c d e f g h i j a) fun o1 =>
  match o1 with
  | .o0 u =>
   f26_l2_j3 k (IntKind.i64.wrap (q+u)) l m o p
theorem f26_l2_j2_ok (k u l m o q p v b c d e f g h i j a r) (s:f26_l2_j2 k u l m o q p v b c d e f g h i j a=some r):SQ 26 k (nav B26 [2,2,2,1,2,2,1,2,2,2]) (blockK 1 (EX 26 k (nav B26 [2,2,2,1,2,2,1,2,2,1,2,2,2]) (⟨36,[(1,.ptr 30000 0),(3,jI u),(5,.ptr 5 0),(11,.sl 11 (rowsOf encT47 l)),(12,jI m),(13,jI o),(28,jT q)],[(30000,.box 31 [.sl 11 (rowsOf encT47 p)]),(5,.box 47 [jI v,jI b,jU c,jI d,jI e,jI f,jI g,jI h,jI i,jI j,jB a])]⟩:St)))=some r.st:=by
 unfold f26_l2_j2 at s
 obtain ⟨o1,w,s⟩:=bs s
 have t:=f15_ok k v b c d e f g h i j a _ w
 cases o1 with
 | o0 x =>
  (try dsimp only at s)
  (try simp only [NM,EE,R15.st] at t)
  have hJ:=f26_l2_j3_ok k (IntKind.i64.wrap (u+x)) l m o p _ s
  simp only [W,simprocAttr,rg B26 [2,2,2,1,2,2,1,2,2,1,2,2,2] 9 false rfl,hr 26 9 rfl,t_47,callStep,CL,gv,List.contains,t]
  try simp only [NM,EE] at hJ
  exact hJ
noncomputable def f26_l2_j1 (k:Nat) (j:Int) (c:List T47) (e b:Int) (l:Bool) (d:List T47):Option R26_l2 :=
 ifE ((0:Int)≤b) (
  Option.bind (c[(Int.toNat b)]?) fun a =>
   Option.bind (f48 k a.Source a.Dest a.Seq a.Created a.Lifetime a.HopLimit a.Hops a.Priority a.Offset a.Total a.Payload) fun o4 =>
    match o4 with
    | .o0 m =>
     cond ((m != 0))
      (some (.o0 270))
      (
       Option.bind (f20 k a.Source a.Dest a.Seq a.Created a.Lifetime a.HopLimit a.Hops a.Priority a.Offset a.Total a.Payload) fun o9 =>
        match o9 with
        | .o0 f g h =>
         Option.bind (f31 k d f g h) fun o15 =>
          match o15 with
          | .o0 i =>
           cond ((i != b))
            (some (.o0 270))
            (f26_l2_j2 k j c e b false d a.Source a.Dest a.Seq a.Created a.Lifetime a.HopLimit a.Hops a.Priority a.Offset a.Total a.Payload)))
theorem f26_l2_j1_ok (k q g h i l f r) (b:f26_l2_j1 k q g h i l f=some r):EX 26 k (nav B26 [2,2,1,2,2,1,2,2,2]) (⟨36,[(1,.ptr 30000 0),(3,jI q),(11,.sl 11 (rowsOf encT47 g)),(12,jI h),(13,jI i),(14,jT l)],[(30000,.box 31 [.sl 11 (rowsOf encT47 f)])]⟩:St)=some r.st:=by
 unfold f26_l2_j1 at b
 obtain ⟨m,b⟩:=ifE_some.1 b
 obtain ⟨a,o,b⟩:=bs b
 obtain ⟨o4,x,b⟩:=bs b
 have e:=f48_ok k a.Source a.Dest a.Seq a.Created a.Lifetime a.HopLimit a.Hops a.Priority a.Offset a.Total a.Payload _ x
 cases o4 with
 | o0 z =>
  (try dsimp only at b)
  (try simp only [NM,EE,R48.st] at e)
  simp (disch:=first|decide|apply K;kernel_rfl) only [W,simprocAttr,xk B26 [2,2,1,2,2,1,2,2,2] .sq rfl,xk B26 [1,2,2,1,2,2,1,2,2,2] (.bk 1) rfl,sr 26 6 B26 [2,1,2,2,1,2,2,1,2,2,2] rfl rfl rfl,indexAddrV,t_29,t_47,encT47_eq,xk B26 [2,2,1,2,2,1,2,2,1,2,2,2] .sq rfl,xk B26 [1,2,2,1,2,2,1,2,2,1,2,2,2] .sq rfl,rg B26 [1,1,2,2,1,2,2,1,2,2,1,2,2,2] 7 true rfl,hr 26 7 rfl,callStep,CL,gv,List.contains,m,o,e]
  rcases cond_some b with ⟨p,b⟩ | ⟨p,b⟩
  ·cases b
   simp (disch:=first|decide|apply K;kernel_rfl) only [W,simprocAttr,xk B26 [2,1,2,2,1,2,2,1,2,2,1,2,2,2] (.cd 28) rfl,sr 26 8 B26 [2,2,1,2,2,1,2,2,1,2,2,1,2,2,2] rfl rfl rfl,xk B26 [2,2,2,1,2,2,1,2,2,1,2,2,1,2,2,2] .rt rfl,R26_l2.st,m,o,e,p]
  ·obtain ⟨o9,s,b⟩:=bs b
   have c:=f20_ok k a.Source a.Dest a.Seq a.Created a.Lifetime a.HopLimit a.Hops a.Priority a.Offset a.Total a.Payload _ s
   cases o9 with
   | o0 t u v =>
    (try dsimp only at b)
    (try simp only [NM,EE,R20.st] at c)
    obtain ⟨o15,w,b⟩:=bs b
    have d:=f31_ok k f t u v _ w
    cases o15 with
    | o0 y =>
     (try dsimp only at b)
     (try simp only [NM,EE,R31.st] at d)
     simp (disch:=first|decide|apply K;kernel_rfl) only [W,simprocAttr,t_31,t_47,callStep,CL,gv,List.contains,xk B26 [2,1,2,2,1,2,2,1,2,2,1,2,2,2] (.cd 28) rfl,m,o,e,p,c,d]
     rcases cond_some b with ⟨j,b⟩ | ⟨j,b⟩
     ·cases b
      simp (disch:=first|decide|apply K;kernel_rfl) only [W,simprocAttr,sr 26 8 B26 [2,2,1,2,2,1,2,2,1,2,2,1,2,2,2] rfl rfl rfl,xk B26 [2,2,2,1,2,2,1,2,2,1,2,2,1,2,2,2] .rt rfl,R26_l2.st,m,o,e,p,c,d,j]
     ·have hJ:=f26_l2_j2_ok k q g h i false f a.Source a.Dest a.Seq a.Created a.Lifetime a.HopLimit a.Hops a.Priority a.Offset a.Total a.Payload _ b
      simp (disch:=first|decide|apply K;kernel_rfl) only [W,simprocAttr,xk B26 [3,2,1,2,2,1,2,2,1,2,2,1,2,2,2] .sk rfl,m,o,e,p,c,d,j]
      try simp only [NM,EE] at hJ
      exact hJ
noncomputable def f26_l2_b (k:Nat) (e:Int) (c:List T47) (a b:Int) (d:List T47):Option R26_l2 :=
 cond ((decide (b<a)))
  (f26_l2_j1 k e c a b true d)
  (some (.o2 e c a b false d))
theorem f26_l2_b_ok (k f a b c d r) (e:f26_l2_b k f a b c d=some r):EX 26 k (nav B26 [1,2,2,1,2,2,2]) (⟨36,[(1,.ptr 30000 0),(3,jI f),(11,.sl 11 (rowsOf encT47 a)),(12,jI b),(13,jI c)],[(30000,.box 31 [.sl 11 (rowsOf encT47 d)])]⟩:St)=some r.st:=by
 unfold f26_l2_b at e
 simp only [W,simprocAttr,sr 26 5 B26 [1,2,2,1,2,2,2] rfl rfl rfl,xk B26 [2,1,2,2,1,2,2,2] .sq rfl,xk B26 [1,2,1,2,2,1,2,2,2] (.cd 14) rfl]
 rcases cond_some e with ⟨g,e⟩ | ⟨g,e⟩
 ·have hJ:=f26_l2_j1_ok k f a b c true d _ e
  simp only [W,simprocAttr,xk B26 [2,1,2,1,2,2,1,2,2,2] .sk rfl,g]
  try simp only [NM,EE] at hJ
  exact hJ
 ·cases e
  simp only [W,simprocAttr,xk B26 [3,1,2,1,2,2,1,2,2,2] (.ex 0) rfl,R26_l2.st,g]
noncomputable def f26_l2 (k:Nat):Nat→Int→(List T47)→Int→Int→(List T47)→Option R26_l2
 | 0,_,_,_,_,_=>none
 | n+1,j,e,f,g,h=>Option.bind (f26_l2_b k j e f g h) fun o =>
  match o with
  | .o0 y=>some (.o0 y)
  | .o1 y a b c d=>f26_l2 k n y a b c d
  | .o2 y a b c d i=>some (.o2 y a b c d i)
theorem f26_l2_ok (k n:Nat):∀ (f:Int) (a:List T47) (b c:Int) (d:List T47) (r:R26_l2) (e:f26_l2 k n f a b c d=some r) (σ:St) (hσ:headR (hints.head 26 5) (hints.canon 26 5) σ=some (⟨36,[(1,.ptr 30000 0),(3,jI f),(11,.sl 11 (rowsOf encT47 a)),(12,jI b),(13,jI c)],[(30000,.box 31 [.sl 11 (rowsOf encT47 d)])]⟩:St)),LP 26 k (nav B26 [1,2,2,1,2,2,2]) n σ=some r.st:=by
 induction n with
 | zero=>intro f a b c d r e;cases e
 | succ n m =>
  intro f a b c d r e σ hσ
  rw [f26_l2] at e
  obtain ⟨o,h,e⟩:=Option.bind_eq_some_iff.1 e
  have hB:=f26_l2_b_ok k f a b c d o h
  unfold LP at m ⊢
  unfold EX at hB
  rw [loopK_succ,show firstReg (nav B26 [1,2,2,1,2,2,2])=5 from rfl,hσ,headK_some,hB]
  cases o with
  | o0 y=>cases e;rfl
  | o1 y g i j l =>
   refine m y g i j l r e _ ?_
   simp only [W,simprocAttr,hh_26_5,hc_26_5]
  | o2 y g i j l p=>cases e;rfl
noncomputable def f26_j4 (k:Nat) (a:Bool):Option R26 :=
 some (.o0 0)
theorem f26_j4_ok (k a r) (b:f26_j4 k a=some r):finK Tryd.prog Tryd.f26 0 (EX 26 k (nav B26 [2,2,2,2,2]) (⟨36,[(35,jT a)],[]⟩:St))=some r.st:=by
 unfold f26_j4 at b
 cases b
 simp only [W,simprocAttr,sr 26 13 B26 [2,2,2,2,2] rfl rfl rfl,xk B26 [2,2,2,2,2,2] .rt rfl,fin26,R26.st]
noncomputable def f26_j3 (k:Nat) (a:Int) (b:List T47) (c d:Int) (e:Bool) (f:List T47):Option R26 :=
 cond ((decide (a>12000)))
  (some (.o0 270))
  (f26_j4 k false)
theorem f26_j3_ok (k h b c d e f r) (a:f26_j3 k h b c d e f=some r):finK Tryd.prog Tryd.f26 0 (EX 26 k (nav B26 [2,2,2,2]) (⟨36,[(1,.ptr 30000 0),(3,jI h),(11,.sl 11 (rowsOf encT47 b)),(12,jI c),(13,jI d),(14,jT e)],[(30000,.box 31 [.sl 11 (rowsOf encT47 f)])]⟩:St))=some r.st:=by
 unfold f26_j3 at a
 simp only [W,simprocAttr,xk B26 [2,2,2,2] .sq rfl,sr 26 11 B26 [1,2,2,2,2] rfl rfl rfl,xk B26 [2,1,2,2,2,2] (.cd 35) rfl]
 rcases cond_some a with ⟨g,a⟩ | ⟨g,a⟩
 ·cases a
  simp only [W,simprocAttr,sr 26 12 B26 [2,2,1,2,2,2,2] rfl rfl rfl,xk B26 [2,2,2,1,2,2,2,2] .rt rfl,fin26,R26.st,g]
 ·have hJ:=f26_j4_ok k false _ a
  simp only [W,simprocAttr,xk B26 [3,2,1,2,2,2,2] .sk rfl,g]
  try simp only [NM,EE] at hJ
  exact hJ
noncomputable def f26_j1 (k:Nat) (i:Bool) (a:List T47):Option R26 :=
 Option.bind (f26_l2 k k 0 a ((List.length a):Int) 0 a) fun o1 =>
  match o1 with
  | .o0 c =>
   some (.o0 c)
  | .o1 _ _ _ _ _ =>
   none
  | .o2 d e f g h b =>
   f26_j3 k d e f g h b
theorem f26_j1_ok (k e c r) (a:f26_j1 k e c=some r):finK Tryd.prog Tryd.f26 0 (EX 26 k (nav B26 [2,2]) (⟨36,[(1,.ptr 1 0),(9,jT e)],[(1,.box 31 [.sl 11 (rowsOf encT47 c)])]⟩:St))=some r.st:=by
 unfold f26_j1 at a
 obtain ⟨o1,f,a⟩:=bs a
 have b:=f26_l2_ok k k 0 c ((List.length c):Int) 0 c _ f
 simp only [W,simprocAttr,sr 26 3 B26 [2,2] rfl rfl rfl,xk B26 [2,2,2] .sq rfl,sr 26 4 B26 [1,2,2,2] rfl rfl rfl,fieldAddrV,t_31,t_29,xk B26 [2,1,2,2,2] (.bk 0) rfl,xk B26 [2,2,1,2,2,2] .lp rfl,hh_26_5,hc_26_5]
 (try simp only [NM,EE] at b)
 rw [b _ (by simp only [W,simprocAttr,hh_26_5,hc_26_5])]
 clear b
 cases o1 with
 | o0 m =>
  (try dsimp only at a)
  cases a
  simp only [W,simprocAttr,R26_l2.st,fin26,R26.st]
 | o1 _ _ _ _ _ =>
  (try dsimp only at a)
  cases a
 | o2 g h i j l d =>
  (try dsimp only at a)
  have hJ:=f26_j3_ok k g h i j l d _ a
  simp only [W,simprocAttr,R26_l2.st]
  try simp only [NM,EE] at hJ
  exact hJ
noncomputable def f26_e (k:Nat) (a:List T47):Option R26 :=
 cond ((decide (((List.length a):Int)>32)))
  (some (.o0 270))
  (f26_j1 k false a)
theorem f26_e_ok (k b r) (a:f26_e k b=some r):finK Tryd.prog Tryd.f26 0 (EX 26 k (nav B26 []) (⟨36,[(0,.agg [.sl 11 (rowsOf encT47 b)])],[]⟩:St))=some r.st:=by
 unfold f26_e at a
 simp only [W,simprocAttr,sr 26 0 B26 [] rfl rfl rfl,xk B26 [2] .sq rfl,sr 26 1 B26 [1,2] rfl rfl rfl,fieldAddrV,t_31,t_29,xk B26 [2,1,2] (.cd 9) rfl]
 rcases cond_some a with ⟨c,a⟩ | ⟨c,a⟩
 ·cases a
  simp only [W,simprocAttr,sr 26 2 B26 [2,2,1,2] rfl rfl rfl,xk B26 [2,2,2,1,2] .rt rfl,fin26,R26.st,c]
 ·have hJ:=f26_j1_ok k false b _ a
  simp only [W,simprocAttr,xk B26 [3,2,1,2] .sk rfl,c]
  try simp only [NM,EE] at hJ
  exact hJ
noncomputable def f26 (k:Nat) (a:List T47):Option R26:=match k with | 0=>none | k+1=>f26_e k a
theorem f26_ok (k a r) (b:f26 k a=some r):CV k 26 [.agg [.sl 11 (rowsOf encT47 a)]] []=some r.st:=by
 cases k with
 | zero=>cases b
 | succ k =>
  unfold CV
  rw [ev_call (F:=Tryd.f26) (c:=(nav B26 [])) rfl Tryd.func26 rfl rfl rfl rfl]
  exact f26_e_ok k a r b
-- f42: f42 slices.Clone[[]int,int]
inductive R42 where
 | o0 (y:List Int)
noncomputable def R42.st:R42→V×List O×List O
 | .o0 y=>(.own 2000000,[],[.row true 1 3 (rowsOf (encI .i64) y)])
noncomputable def f42 (k:Nat) (a:List Int):Option R42:=match k with | 0=>none | _+1=>ifE (a.length * 8≤roomy) (some (.o0 a))
theorem f42_ok (k b r) (a:f42 k b=some r):CV k 42 [.sl 1 (rowsOf (encI .i64) b)] []=some r.st:=by
 cases k with
 | zero=>cases a
 | succ k =>
  obtain ⟨h,a⟩:=ifE_some.1 a
  cases a
  have h':((rowsOf (encI .i64) b)).length * 8≤roomy:=by rw [rowsOf_length];exact h
  unfold CV
  rw [ev_ctx (show ctx 42=some (cloneS 1 3 8) from rfl) rfl]
  simp only [cloneS,h',and_self,if_true];rfl
-- f27: f27 slices.Clone[[]heliograph/api.Bundle,heliograph/api.Bundle]
inductive R27 where
 | o0 (y:List T47)
noncomputable def R27.st:R27→V×List O×List O
 | .o0 y=>(.own 2000000,[],[.row true 11 47 (rowsOf encT47 y)])
noncomputable def f27 (k:Nat) (a:List T47):Option R27:=match k with | 0=>none | _+1=>ifE (a.length * 104≤roomy) (some (.o0 a))
theorem f27_ok (k b r) (a:f27 k b=some r):CV k 27 [.sl 11 (rowsOf encT47 b)] []=some r.st:=by
 cases k with
 | zero=>cases a
 | succ k =>
  obtain ⟨h,a⟩:=ifE_some.1 a
  cases a
  have h':((rowsOf encT47 b)).length * 104≤roomy:=by rw [rowsOf_length];exact h
  unfold CV
  rw [ev_ctx (show ctx 27=some (cloneS 11 47 104) from rfl) rfl]
  simp only [cloneS,h',and_self,if_true];rfl
-- f50: f50 cmp.isNaN[int]
inductive R50 where
 | o0 (y:Bool)
noncomputable def R50.st:R50→V×List O×List O
 | .o0 y=>(jT y,[],[])
noncomputable def f50_e (k:Nat) (a:Int):Option R50 :=
 some (.o0 (a != a))
theorem f50_e_ok (k a r) (b:f50_e k a=some r):finK Tryd.prog Tryd.f50 0 (EX 50 k (nav B50 []) (⟨6,[(0,jI a)],[]⟩:St))=some r.st:=by
 unfold f50_e at b
 cases b
 simp only [W,simprocAttr,sr 50 0 B50 [] rfl rfl rfl,sr 50 1 B50 [2] rfl rfl rfl,xk B50 [2,2] .rt rfl,fin50,R50.st]
noncomputable def f50 (k:Nat) (a:Int):Option R50:=match k with | 0=>none | k+1=>f50_e k a
theorem f50_ok (k a r) (b:f50 k a=some r):CV k 50 [jI a] []=some r.st:=by
 cases k with
 | zero=>cases b
 | succ k =>
  unfold CV
  rw [ev_call (F:=Tryd.f50) (c:=(nav B50 [])) rfl Tryd.func50 rfl rfl rfl rfl]
  exact f50_e_ok k a r b
-- f30: f30 cmp.Compare[int]
inductive R30 where
 | o0 (y:Int)
noncomputable def R30.st:R30→V×List O×List O
 | .o0 y=>((jI y),[],[])
noncomputable def f30_j1 (k:Nat) (a:Bool):Option R30 :=
 some (.o0 (-1))
theorem f30_j1_ok (k a r) (b:f30_j1 k a=some r):finK Tryd.prog Tryd.f30 0 (SQ 30 k (nav B30 [2,2,2,2]) (EX 30 k (nav B30 [2,2,2,1,2,2,2]) (⟨20,[(12,jT a)],[]⟩:St)))=some r.st:=by
 unfold f30_j1 at b
 cases b
 simp only [W,simprocAttr,sr 30 6 B30 [2,2,2,1,2,2,2] rfl rfl rfl,xk B30 [2,2,2,2,1,2,2,2] .rt rfl,fin30,R30.st]
noncomputable def f30_j5 (k:Nat) (a:Bool):Option R30 :=
 some (.o0 0)
theorem f30_j5_ok (k a r) (b:f30_j5 k a=some r):finK Tryd.prog Tryd.f30 0 (EX 30 k (nav B30 [2,2,2,2,2,2,2]) (⟨20,[(19,jT a)],[]⟩:St))=some r.st:=by
 unfold f30_j5 at b
 cases b
 simp only [W,simprocAttr,sr 30 13 B30 [2,2,2,2,2,2,2] rfl rfl rfl,xk B30 [2,2,2,2,2,2,2,2] .rt rfl,fin30,R30.st]
noncomputable def f30_j4 (k:Nat) (a b:Int) (c:Bool):Option R30 :=
 cond ((decide (a>b)))
  (some (.o0 1))
  (f30_j5 k false)
theorem f30_j4_ok (k d e b r) (a:f30_j4 k d e b=some r):finK Tryd.prog Tryd.f30 0 (EX 30 k (nav B30 [2,2,2,2,2,2]) (⟨20,[(0,jI d),(1,jI e),(16,jT b)],[]⟩:St))=some r.st:=by
 unfold f30_j4 at a
 simp only [W,simprocAttr,xk B30 [2,2,2,2,2,2] .sq rfl,sr 30 11 B30 [1,2,2,2,2,2,2] rfl rfl rfl,xk B30 [2,1,2,2,2,2,2,2] (.cd 19) rfl]
 rcases cond_some a with ⟨c,a⟩ | ⟨c,a⟩
 ·cases a
  simp only [W,simprocAttr,sr 30 12 B30 [2,2,1,2,2,2,2,2,2] rfl rfl rfl,xk B30 [2,2,2,1,2,2,2,2,2,2] .rt rfl,fin30,R30.st,c]
 ·have hJ:=f30_j5_ok k false _ a
  simp only [W,simprocAttr,xk B30 [3,2,1,2,2,2,2,2,2] .sk rfl,c]
  try simp only [NM,EE] at hJ
  exact hJ
noncomputable def f30_j3 (k:Nat) (a b:Int) (c:Bool):Option R30 :=
 cond ((decide (a<b)))
  (some (.o0 (-1)))
  (f30_j4 k a b false)
theorem f30_j3_ok (k c d b r) (a:f30_j3 k c d b=some r):finK Tryd.prog Tryd.f30 0 (EX 30 k (nav B30 [2,2,2,2,2]) (⟨20,[(0,jI c),(1,jI d),(13,jT b)],[]⟩:St))=some r.st:=by
 unfold f30_j3 at a
 simp only [W,simprocAttr,xk B30 [2,2,2,2,2] .sq rfl,sr 30 9 B30 [1,2,2,2,2,2] rfl rfl rfl,xk B30 [2,1,2,2,2,2,2] (.cd 16) rfl]
 rcases cond_some a with ⟨e,a⟩ | ⟨e,a⟩
 ·cases a
  simp only [W,simprocAttr,sr 30 10 B30 [2,2,1,2,2,2,2,2] rfl rfl rfl,xk B30 [2,2,2,1,2,2,2,2,2] .rt rfl,fin30,R30.st,e]
 ·have hJ:=f30_j4_ok k c d false _ a
  simp only [W,simprocAttr,xk B30 [3,2,1,2,2,2,2,2] .sk rfl,e]
  try simp only [NM,EE] at hJ
  exact hJ
noncomputable def f30_j2 (k:Nat) (a b:Int) (c d:Bool):Option R30 :=
 cond (c)
  (some (.o0 1))
  (f30_j3 k a b false)
theorem f30_j2_ok (k c d f b r) (a:f30_j2 k c d f b=some r):finK Tryd.prog Tryd.f30 0 (EX 30 k (nav B30 [2,2,2,2]) (⟨20,[(0,jI c),(1,jI d),(6,jT f),(11,jT b)],[]⟩:St))=some r.st:=by
 unfold f30_j2 at a
 simp only [W,simprocAttr,xk B30 [2,2,2,2] .sq rfl,sr 30 7 B30 [1,2,2,2,2] rfl rfl rfl,xk B30 [2,1,2,2,2,2] (.cd 13) rfl]
 rcases cond_some a with ⟨e,a⟩ | ⟨e,a⟩
 ·cases a
  simp only [W,simprocAttr,sr 30 8 B30 [2,2,1,2,2,2,2] rfl rfl rfl,xk B30 [2,2,2,1,2,2,2,2] .rt rfl,fin30,R30.st,e]
 ·have hJ:=f30_j3_ok k c d false _ a
  simp only [W,simprocAttr,xk B30 [3,2,1,2,2,2,2] .sk rfl,e]
  try simp only [NM,EE] at hJ
  exact hJ
noncomputable def f30_e (k:Nat) (a b:Int):Option R30 :=
 Option.bind (f50 k a) fun o1 =>
  match o1 with
  | .o0 d =>
   Option.bind (f50 k b) fun o5 =>
    match o5 with
    | .o0 c =>
     cond (d)
      (
       cond (c)
        (some (.o0 0))
        (f30_j1 k false))
      (f30_j2 k a b c false)
theorem f30_e_ok (k f g r) (a:f30_e k f g=some r):finK Tryd.prog Tryd.f30 0 (EX 30 k (nav B30 []) (⟨20,[(0,jI f),(1,jI g)],[]⟩:St))=some r.st:=by
 unfold f30_e at a
 obtain ⟨o1,h,a⟩:=bs a
 have b:=f50_ok k f _ h
 cases o1 with
 | o0 l =>
  (try dsimp only at a)
  (try simp only [NM,EE,R50.st] at b)
  obtain ⟨o5,i,a⟩:=bs a
  have c:=f50_ok k g _ i
  cases o5 with
  | o0 j =>
   (try dsimp only at a)
   (try simp only [NM,EE,R50.st] at c)
   simp only [W,simprocAttr,sr 30 0 B30 [] rfl rfl rfl,sr 30 1 B30 [2] rfl rfl rfl,callStep,CL,gv,List.contains,sr 30 2 B30 [2,2] rfl rfl rfl,xk B30 [2,2,2] .sq rfl,sr 30 3 B30 [1,2,2,2] rfl rfl rfl,xk B30 [2,1,2,2,2] (.cd 11) rfl,b,c]
   rcases cond_some a with ⟨e,a⟩ | ⟨e,a⟩
   ·simp only [W,simprocAttr,xk B30 [2,2,1,2,2,2] .sq rfl,sr 30 4 B30 [1,2,2,1,2,2,2] rfl rfl rfl,xk B30 [2,1,2,2,1,2,2,2] (.cd 12) rfl,b,c,e]
    rcases cond_some a with ⟨d,a⟩ | ⟨d,a⟩
    ·cases a
     simp only [W,simprocAttr,sr 30 5 B30 [2,2,1,2,2,1,2,2,2] rfl rfl rfl,xk B30 [2,2,2,1,2,2,1,2,2,2] .rt rfl,fin30,R30.st,b,c,e,d]
    ·have hJ:=f30_j1_ok k false _ a
     simp only [W,simprocAttr,xk B30 [3,2,1,2,2,1,2,2,2] .sk rfl,b,c,e,d]
     try simp only [NM,EE] at hJ
     exact hJ
   ·have hJ:=f30_j2_ok k f g j false _ a
    simp only [W,simprocAttr,xk B30 [3,2,1,2,2,2] .sk rfl,b,c,e]
    try simp only [NM,EE] at hJ
    exact hJ
noncomputable def f30 (k:Nat) (a b:Int):Option R30:=match k with | 0=>none | k+1=>f30_e k a b
theorem f30_ok (k a b r) (d:f30 k a b=some r):CV k 30 [jI a,jI b] []=some r.st:=by
 cases k with
 | zero=>cases d
 | succ k =>
  unfold CV
  rw [ev_call (F:=Tryd.f30) (c:=(nav B30 [])) rfl Tryd.func30 rfl rfl rfl rfl]
  exact f30_e_ok k a b r d
-- f29: f29 heliograph/custody.Order$1
inductive R29 where
 | o0 (y:Int)
noncomputable def R29.st:R29→V×List O×List O
 | .o0 y=>((jI y),[],[])
noncomputable def f29_e (k:Nat) (y e f g h i j a l m:Int) (c:List Int) (z o p q s t u b v w:Int) (d:List Int):Option R29 :=
 Option.bind (f30 k b a) fun o1 =>
  match o1 with
  | .o0 x =>
   some (.o0 x)
theorem f29_e_ok (k z e f g h i j a l m b n o p q s t u c v w d r) (x:f29_e k z e f g h i j a l m b n o p q s t u c v w d=some r):finK Tryd.prog Tryd.f29 0 (EX 29 k (nav B29 []) (⟨10,[(0,.agg [jI z,jI e,jU f,jI g,jI h,jI i,jI j,jI a,jI l,jI m,jB b]),(1,.agg [jI n,jI o,jU p,jI q,jI s,jI t,jI u,jI c,jI v,jI w,jB d])],[]⟩:St))=some r.st:=by
 unfold f29_e at x
 obtain ⟨o1,h2,x⟩:=bs x
 have y:=f30_ok k c a _ h2
 cases o1 with
 | o0 v4 =>
  (try dsimp only at x)
  (try simp only [NM,EE,R30.st] at y)
  cases x
  simp only [W,simprocAttr,sr 29 0 B29 [] rfl rfl rfl,sr 29 1 B29 [2] rfl rfl rfl,fieldAddrV,t_47,t_3,callStep,CL,gv,List.contains,xk B29 [2,2] .rt rfl,fin29,R29.st,y]
noncomputable def f29 (k:Nat) (x c d e f g h i j l:Int) (a:List Int) (y m o p q s t u v w:Int) (b:List Int):Option R29:=match k with | 0=>none | k+1=>f29_e k x c d e f g h i j l a y m o p q s t u v w b
theorem f29_ok (k y d e f g h i j l m a z o p q s t u v w x b r) (n:f29 k y d e f g h i j l m a z o p q s t u v w x b=some r):CV k 29 [.agg [jI y,jI d,jU e,jI f,jI g,jI h,jI i,jI j,jI l,jI m,jB a],.agg [jI z,jI o,jU p,jI q,jI s,jI t,jI u,jI v,jI w,jI x,jB b]] []=some r.st:=by
 cases k with
 | zero=>cases n
 | succ k =>
  unfold CV
  rw [ev_call (F:=Tryd.f29) (c:=(nav B29 [])) rfl Tryd.func29 rfl rfl rfl rfl]
  exact f29_e_ok k y d e f g h i j l m a z o p q s t u v w x b r n
-- f66: f66 slices.insertionSortCmpFunc[heliograph/api.Bundle]
inductive R66 where
 | o0 (y:List T47)
noncomputable def R66.st:R66→V×List O×List O
 | .o0 y=>(V.tup [],[.row true 11 47 (rowsOf encT47 y)],[])
inductive R66_l1_l2 where
 | o0 (y a b c:Int) (d:List T47)
 | o1 (y a b c:Int) (d:Bool) (e:List T47)
noncomputable def R66_l1_l2.st:R66_l1_l2→Out×St
 | .o0 y a b c d=>(.norm,(⟨53,[(0,.own 1000000),(1,jI y),(2,jI a),(3,V.p (Value.func (Fn.func 29) #[] #[])),(8,jI b),(9,jI c)],[(1000000,.row true 11 47 (rowsOf encT47 d))]⟩:St))
 | .o1 y a b c d e=>(.exit 2,(⟨53,[(0,.own 1000000),(1,jI y),(2,jI a),(3,V.p (Value.func (Fn.func 29) #[] #[])),(8,jI b),(9,jI c),(34,jT d)],[(1000000,.row true 11 47 (rowsOf encT47 e))]⟩:St))
noncomputable def f66_l1_l2_j2 (k:Nat) (a b c d:Int) (e:List T47):Option R66_l1_l2 :=
 some (R66_l1_l2.o0 a b c (IntKind.i64.wrap (d - (1:Int))) e)
theorem f66_l1_l2_j2_ok (k a b c d e r) (f:f66_l1_l2_j2 k a b c d e=some r):EX 66 k (nav B66 [2,2,1,2,2,2,1,2,1,2,2]) (⟨53,[(0,.own 1000000),(1,jI a),(2,jI b),(3,V.p (Value.func (Fn.func 29) #[] #[])),(8,jI c),(9,jI d)],[(1000000,.row true 11 47 (rowsOf encT47 e))]⟩:St)=some r.st:=by
 unfold f66_l1_l2_j2 at f
 cases f
 simp only [W,simprocAttr,rg B66 [2,2,1,2,2,2,1,2,1,2,2] 5 false rfl,hr 66 5 rfl,R66_l1_l2.st]
noncomputable def f66_l1_l2_j1 (k:Nat) (d e f a:Int) (g:Bool) (b:List T47):Option R66_l1_l2 :=
 ifE ((0:Int)≤(IntKind.i64.wrap (a - (1:Int)))) (
  ifE ((IntKind.i64.wrap (a - (1:Int)))<((List.length b):Int)) (
   Option.bind (b[(Int.toNat (IntKind.i64.wrap (a - (1:Int))))]?) fun c =>
    ifE ((0:Int)≤a) (
     ifE (a<((List.length b):Int)) (
      Option.bind (b[(Int.toNat a)]?) fun h =>
       ifE ((IntKind.i64.wrap (a - (1:Int)))<((List.length (List.set b (Int.toNat a) c)):Int)) (
        Option.bind ((List.set b (Int.toNat a) c)[(Int.toNat (IntKind.i64.wrap (a - (1:Int))))]?) fun i =>
         f66_l1_l2_j2 k d e f a ((List.set (List.set b (Int.toNat a) c) (Int.toNat (IntKind.i64.wrap (a - (1:Int)))) h)))))))
theorem f66_l1_l2_j1_ok (k g h j c f e r) (a:f66_l1_l2_j1 k g h j c f e=some r):EX 66 k (nav B66 [2,1,2,2,2,1,2,1,2,2]) (⟨53,[(0,.own 1000000),(1,jI g),(2,jI h),(3,V.p (Value.func (Fn.func 29) #[] #[])),(8,jI j),(9,jI c),(34,jT f)],[(1000000,.row true 11 47 (rowsOf encT47 e))]⟩:St)=some r.st:=by
 unfold f66_l1_l2_j1 at a
 obtain ⟨q,a⟩:=ifE_some.1 a
 obtain ⟨s,a⟩:=ifE_some.1 a
 obtain ⟨b,t,a⟩:=bs a
 obtain ⟨u,a⟩:=ifE_some.1 a
 obtain ⟨v,a⟩:=ifE_some.1 a
 obtain ⟨d,w,a⟩:=bs a
 have y:List.set (rowsOf encT47 e) (Int.toNat c) [jI b.Source,jI b.Dest,jU b.Seq,jI b.Created,jI b.Lifetime,jI b.HopLimit,jI b.Hops,jI b.Priority,jI b.Offset,jI b.Total,.sl 1 (rowsOf (encI .u8) b.Payload)]=rowsOf encT47 (List.set e (Int.toNat c) b):=(rowsOf_set (enc:=encT47) (l:=e) (i:=(Int.toNat c)) (x:=b)).symm
 obtain ⟨m,a⟩:=ifE_some.1 a
 obtain ⟨z,o,a⟩:=bs a
 have p:List.set (rowsOf encT47 (List.set e (Int.toNat c) b)) (Int.toNat (IntKind.i64.wrap (c - (1:Int)))) [jI d.Source,jI d.Dest,jU d.Seq,jI d.Created,jI d.Lifetime,jI d.HopLimit,jI d.Hops,jI d.Priority,jI d.Offset,jI d.Total,.sl 1 (rowsOf (encI .u8) d.Payload)]=rowsOf encT47 (List.set (List.set e (Int.toNat c) b) (Int.toNat (IntKind.i64.wrap (c - (1:Int)))) d):=(rowsOf_set (enc:=encT47) (l:=(List.set e (Int.toNat c) b)) (i:=(Int.toNat (IntKind.i64.wrap (c - (1:Int))))) (x:=d)).symm
 have hJ:=f66_l1_l2_j2_ok k g h j c ((List.set (List.set e (Int.toNat c) b) (Int.toNat (IntKind.i64.wrap (c - (1:Int)))) d)) _ a
 simp (disch:=first|decide|apply K;kernel_rfl) only [W,simprocAttr,xk B66 [2,1,2,2,2,1,2,1,2,2] .sq rfl,xk B66 [1,2,1,2,2,2,1,2,1,2,2] (.bk 3) rfl,rg B66 [2,1,2,1,2,2,2,1,2,1,2,2] 6 true rfl,hr 66 6 rfl,indexAddrV,t_29,t_47,encT47_eq,sm_47,q,s,t,u,v,w,y,m,o,p]
 try simp only [NM,EE] at hJ
 exact hJ
noncomputable def f66_l1_l2_b (k:Nat) (e f g c:Int) (d:List T47):Option R66_l1_l2 :=
 cond ((decide (c>e)))
  (
   ifE ((0:Int)≤c) (
    ifE (c<((List.length d):Int)) (
     Option.bind (d[(Int.toNat c)]?) fun a =>
      ifE ((0:Int)≤(IntKind.i64.wrap (c - (1:Int)))) (
       ifE ((IntKind.i64.wrap (c - (1:Int)))<((List.length d):Int)) (
        Option.bind (d[(Int.toNat (IntKind.i64.wrap (c - (1:Int))))]?) fun b =>
         Option.bind (f29 k a.Source a.Dest a.Seq a.Created a.Lifetime a.HopLimit a.Hops a.Priority a.Offset a.Total a.Payload b.Source b.Dest b.Seq b.Created b.Lifetime b.HopLimit b.Hops b.Priority b.Offset b.Total b.Payload) fun o10 =>
          match o10 with
          | .o0 h =>
           cond ((decide (h<0)))
            (f66_l1_l2_j1 k e f g c true d)
            (some (R66_l1_l2.o1 e f g c false d)))))))
  (some (R66_l1_l2.o1 e f g c false d))
theorem f66_l1_l2_b_ok (k g h i j l r) (a:f66_l1_l2_b k g h i j l=some r):EX 66 k (nav B66 [1,2,2,2,1,2,1,2,2]) (⟨53,[(0,.own 1000000),(1,jI g),(2,jI h),(3,V.p (Value.func (Fn.func 29) #[] #[])),(8,jI i),(9,jI j)],[(1000000,.row true 11 47 (rowsOf encT47 l))]⟩:St)=some r.st:=by
 unfold f66_l1_l2_b at a
 simp (disch:=first|decide|apply K;kernel_rfl) only [W,simprocAttr,xk B66 [1,2,2,2,1,2,1,2,2] .sq rfl,xk B66 [1,1,2,2,2,1,2,1,2,2] .sq rfl,rg B66 [1,1,1,2,2,2,1,2,1,2,2] 4 true rfl,hr 66 4 rfl]
 rcases cond_some a with ⟨f,a⟩ | ⟨f,a⟩
 ·obtain ⟨m,a⟩:=ifE_some.1 a
  obtain ⟨o,a⟩:=ifE_some.1 a
  obtain ⟨c,p,a⟩:=bs a
  obtain ⟨q,a⟩:=ifE_some.1 a
  obtain ⟨s,a⟩:=ifE_some.1 a
  obtain ⟨d,t,a⟩:=bs a
  obtain ⟨o10,u,a⟩:=bs a
  have b:=f29_ok k c.Source c.Dest c.Seq c.Created c.Lifetime c.HopLimit c.Hops c.Priority c.Offset c.Total c.Payload d.Source d.Dest d.Seq d.Created d.Lifetime d.HopLimit d.Hops d.Priority d.Offset d.Total d.Payload _ u
  cases o10 with
  | o0 v =>
   (try dsimp only at a)
   (try simp only [NM,EE,R29.st] at b)
   simp (disch:=first|decide|apply K;kernel_rfl) only [W,simprocAttr,indexAddrV,t_29,t_47,encT47_eq,callStep,CL,gv,List.contains,xk B66 [2,1,1,2,2,2,1,2,1,2,2] (.cd 34) rfl,f,m,o,p,q,s,t,b]
   rcases cond_some a with ⟨e,a⟩ | ⟨e,a⟩
   ·have hJ:=f66_l1_l2_j1_ok k g h i j true l _ a
    simp (disch:=first|decide|apply K;kernel_rfl) only [W,simprocAttr,xk B66 [2,2,1,1,2,2,2,1,2,1,2,2] .sk rfl,f,m,o,p,q,s,t,b,e]
    try simp only [NM,EE] at hJ
    exact hJ
   ·cases a
    simp (disch:=first|decide|apply K;kernel_rfl) only [W,simprocAttr,xk B66 [3,2,1,1,2,2,2,1,2,1,2,2] (.ex 2) rfl,R66_l1_l2.st,f,m,o,p,q,s,t,b,e]
 ·cases a
  simp (disch:=first|decide|apply K;kernel_rfl) only [W,simprocAttr,xk B66 [2,1,1,2,2,2,1,2,1,2,2] (.cd 34) rfl,xk B66 [3,2,1,1,2,2,2,1,2,1,2,2] (.ex 2) rfl,R66_l1_l2.st,f]
noncomputable def f66_l1_l2 (k:Nat):Nat→Int→Int→Int→Int→(List T47)→Option R66_l1_l2
 | 0,_,_,_,_,_=>none
 | n+1,f,g,h,i,j=>Option.bind (f66_l1_l2_b k f g h i j) fun o =>
  match o with
  | .o0 y a b c d=>f66_l1_l2 k n y a b c d
  | .o1 y a b c d e=>some (.o1 y a b c d e)
theorem f66_l1_l2_ok (k n:Nat):∀ (b c d e:Int) (f:List T47) (r:R66_l1_l2) (a:f66_l1_l2 k n b c d e f=some r) (σ:St) (hσ:headR (hints.head 66 4) (hints.canon 66 4) σ=some (⟨53,[(0,.own 1000000),(1,jI b),(2,jI c),(3,V.p (Value.func (Fn.func 29) #[] #[])),(8,jI d),(9,jI e)],[(1000000,.row true 11 47 (rowsOf encT47 f))]⟩:St)),LP 66 k (nav B66 [1,2,2,2,1,2,1,2,2]) n σ=some r.st:=by
 induction n with
 | zero=>intro b c d e f r a;cases a
 | succ n m =>
  intro b c d e f r a σ hσ
  rw [f66_l1_l2] at a
  obtain ⟨o,h,a⟩:=Option.bind_eq_some_iff.1 a
  have hB:=f66_l1_l2_b_ok k b c d e f o h
  unfold LP at m ⊢
  unfold EX at hB
  rw [loopK_succ,show firstReg (nav B66 [1,2,2,2,1,2,1,2,2])=4 from rfl,hσ,headK_some,hB]
  cases o with
  | o0 y g i j l =>
   refine m y g i j l r a _ ?_
   simp only [W,simprocAttr,hh_66_4,hc_66_4]
  | o1 y g i j l p=>cases a;rfl
inductive R66_l1 where
 | o0 (y a b:Int) (c:List T47)
 | o1 (y a b:Int) (c:Bool) (d:List T47)
noncomputable def R66_l1.st:R66_l1→Out×St
 | .o0 y a b c=>(.norm,(⟨53,[(0,.own 1000000),(1,jI y),(2,jI a),(3,V.p (Value.func (Fn.func 29) #[] #[])),(8,jI b)],[(1000000,.row true 11 47 (rowsOf encT47 c))]⟩:St))
 | .o1 y a b c d=>(.exit 0,(⟨53,[(0,.own 1000000),(1,jI y),(2,jI a),(3,V.p (Value.func (Fn.func 29) #[] #[])),(8,jI b),(14,jT c)],[(1000000,.row true 11 47 (rowsOf encT47 d))]⟩:St))
noncomputable def f66_l1_j3 (k:Nat) (a b c f:Int) (d:Bool) (e:List T47):Option R66_l1 :=
 some (.o0 a b (IntKind.i64.wrap (c+(1:Int))) e)
theorem f66_l1_j3_ok (k b c d e a f r) (g:f66_l1_j3 k b c d e a f=some r):EX 66 k (nav B66 [2,2,1,2,2]) (⟨53,[(0,.own 1000000),(1,jI b),(2,jI c),(3,V.p (Value.func (Fn.func 29) #[] #[])),(8,jI d),(9,jI e),(34,jT a)],[(1000000,.row true 11 47 (rowsOf encT47 f))]⟩:St)=some r.st:=by
 unfold f66_l1_j3 at g
 cases g
 simp only [W,simprocAttr,rg B66 [2,2,1,2,2] 2 false rfl,hr 66 2 rfl,R66_l1.st]
noncomputable def f66_l1_j1 (k:Nat) (b c a:Int) (d:Bool) (e:List T47):Option R66_l1 :=
 Option.bind (f66_l1_l2 k k b c a a e) fun o1 =>
  match o1 with
  | .o0 _ _ _ _ _ =>
   none
  | .o1 f g h i j l =>
   f66_l1_j3 k f g h i j l
theorem f66_l1_j1_ok (k e f d c g r) (a:f66_l1_j1 k e f d c g=some r):EX 66 k (nav B66 [2,1,2,2]) (⟨53,[(0,.own 1000000),(1,jI e),(2,jI f),(3,V.p (Value.func (Fn.func 29) #[] #[])),(8,jI d),(14,jT c)],[(1000000,.row true 11 47 (rowsOf encT47 g))]⟩:St)=some r.st:=by
 unfold f66_l1_j1 at a
 obtain ⟨o1,h,a⟩:=bs a
 have b:=f66_l1_l2_ok k k e f d d g _ h
 simp only [W,simprocAttr,xk B66 [2,1,2,2] .sq rfl,xk B66 [1,2,1,2,2] (.bk 1) rfl,sr 66 3 B66 [2,1,2,1,2,2] rfl rfl rfl,xk B66 [2,2,1,2,1,2,2] (.bk 2) rfl,xk B66 [2,2,2,1,2,1,2,2] .lp rfl,hh_66_4,hc_66_4]
 (try simp only [NM,EE] at b)
 rw [b _ (by simp only [W,simprocAttr,hh_66_4,hc_66_4])]
 clear b
 cases o1 with
 | o0 _ _ _ _ _ =>
  (try dsimp only at a)
  cases a
 | o1 i j l m o p =>
  (try dsimp only at a)
  have hJ:=f66_l1_j3_ok k i j l m o p _ a
  simp only [W,simprocAttr,R66_l1_l2.st]
  try simp only [NM,EE] at hJ
  exact hJ
noncomputable def f66_l1_b (k:Nat) (c a b:Int) (d:List T47):Option R66_l1 :=
 cond ((decide (b<a)))
  (f66_l1_j1 k c a b true d)
  (some (.o1 c a b false d))
theorem f66_l1_b_ok (k b c d e r) (a:f66_l1_b k b c d e=some r):EX 66 k (nav B66 [1,2,2]) (⟨53,[(0,.own 1000000),(1,jI b),(2,jI c),(3,V.p (Value.func (Fn.func 29) #[] #[])),(8,jI d)],[(1000000,.row true 11 47 (rowsOf encT47 e))]⟩:St)=some r.st:=by
 unfold f66_l1_b at a
 simp only [W,simprocAttr,xk B66 [1,2,2] .sq rfl,sr 66 1 B66 [1,1,2,2] rfl rfl rfl,xk B66 [2,1,1,2,2] (.cd 14) rfl]
 rcases cond_some a with ⟨f,a⟩ | ⟨f,a⟩
 ·have hJ:=f66_l1_j1_ok k b c d true e _ a
  simp only [W,simprocAttr,xk B66 [2,2,1,1,2,2] .sk rfl,f]
  try simp only [NM,EE] at hJ
  exact hJ
 ·cases a
  simp only [W,simprocAttr,xk B66 [3,2,1,1,2,2] (.ex 0) rfl,R66_l1.st,f]
noncomputable def f66_l1 (k:Nat):Nat→Int→Int→Int→(List T47)→Option R66_l1
 | 0,_,_,_,_=>none
 | n+1,e,f,g,h=>Option.bind (f66_l1_b k e f g h) fun o =>
  match o with
  | .o0 y a b c=>f66_l1 k n y a b c
  | .o1 y a b c d=>some (.o1 y a b c d)
theorem f66_l1_ok (k n:Nat):∀ (b c d:Int) (e:List T47) (r:R66_l1) (a:f66_l1 k n b c d e=some r) (σ:St) (hσ:headR (hints.head 66 1) (hints.canon 66 1) σ=some (⟨53,[(0,.own 1000000),(1,jI b),(2,jI c),(3,V.p (Value.func (Fn.func 29) #[] #[])),(8,jI d)],[(1000000,.row true 11 47 (rowsOf encT47 e))]⟩:St)),LP 66 k (nav B66 [1,2,2]) n σ=some r.st:=by
 induction n with
 | zero=>intro b c d e r a;cases a
 | succ n j =>
  intro b c d e r a σ hσ
  rw [f66_l1] at a
  obtain ⟨o,h,a⟩:=Option.bind_eq_some_iff.1 a
  have hB:=f66_l1_b_ok k b c d e o h
  unfold LP at j ⊢
  unfold EX at hB
  rw [loopK_succ,show firstReg (nav B66 [1,2,2])=1 from rfl,hσ,headK_some,hB]
  cases o with
  | o0 y f g i =>
   refine j y f g i r a _ ?_
   simp only [W,simprocAttr,hh_66_1,hc_66_1]
  | o1 y f g i l=>cases a;rfl
noncomputable def f66_e (k:Nat) (a b:Int) (c:List T47):Option R66 :=
 Option.bind (f66_l1 k k a b (IntKind.i64.wrap (a+(1:Int))) c) fun o1 =>
  match o1 with
  | .o0 _ _ _ _ =>
   none
  | .o1 e f g h d =>
   some (.o0 d)
theorem f66_e_ok (k c d e r) (a:f66_e k c d e=some r):finK Tryd.prog Tryd.f66 1 (EX 66 k (nav B66 []) (⟨53,[(0,.own 1000000),(1,jI c),(2,jI d),(3,V.p (Value.func (Fn.func 29) #[] #[]))],[(1000000,.row true 11 47 (rowsOf encT47 e))]⟩:St))=some r.st:=by
 unfold f66_e at a
 obtain ⟨o1,f,a⟩:=bs a
 have b:=f66_l1_ok k k c d (IntKind.i64.wrap (c+(1:Int))) e _ f
 simp only [W,simprocAttr,sr 66 0 B66 [] rfl rfl rfl,xk B66 [2] (.bk 0) rfl,xk B66 [2,2] .lp rfl,hh_66_1,hc_66_1]
 (try simp only [NM,EE] at b)
 rw [b _ (by simp only [W,simprocAttr,hh_66_1,hc_66_1])]
 clear b
 cases o1 with
 | o0 _ _ _ _ =>
  (try dsimp only at a)
  cases a
 | o1 g h i j l =>
  (try dsimp only at a)
  cases a
  simp only [W,simprocAttr,R66_l1.st,fin66,R66.st]
noncomputable def f66 (k:Nat) (a b:Int) (c:List T47):Option R66:=match k with | 0=>none | k+1=>f66_e k a b c
theorem f66_ok (k a b d r) (e:f66 k a b d=some r):CV k 66 [.own 1000000,jI a,jI b,V.p (Value.func (Fn.func 29) #[] #[])] [.row true 11 47 (rowsOf encT47 d)]=some r.st:=by
 cases k with
 | zero=>cases e
 | succ k =>
  unfold CV
  rw [ev_call (F:=Tryd.f66) (c:=(nav B66 [])) rfl Tryd.func66 rfl rfl rfl rfl]
  exact f66_e_ok k a b d r e
end Go.Proofs.YtiompmmbjpjjeaaDoorV