/- What the program's functions answer: plain functions,and that the interpreter answers what they do. Written by a program of this session,out of the translation. -/
import Derived.Test.YtiompmmbjpjjeaaDoorVP6
namespace Go.Proofs.YtiompmmbjpjjeaaDoorV
open Go
set_option linter.unusedVariables false
set_option linter.unusedSimpArgs false
set_option maxRecDepth 8000
set_option maxHeartbeats 4000000
-- f69a: f69 heliograph/cbor.put
inductive R69a where
 | o0 (y:List Int)
noncomputable def R69a.st:R69a→V×List O×List O
 | .o0 y=>(.own 2000000,[],[.row true 1 5 (rowsOf (encI .u8) y)])
inductive R69a_l1 where
 | o0 (y:List T113) (a b:Int) (c:List Int)
 | o1 (y:List T113) (a b:Int) (c:Bool) (d:List Int)
noncomputable def R69a_l1.st:R69a_l1→Out×St
 | .o0 y a b c=>(.norm,(⟨51,[(0,.own 38),(30,.sl 4 (rowsOf encT113 y)),(31,jI a),(32,jI b)],[(38,.row true 1 5 (rowsOf (encI .u8) c))]⟩:St))
 | .o1 y a b c d=>(.exit 1,(⟨51,[(0,.own 30000),(30,.sl 4 (rowsOf encT113 y)),(31,jI a),(32,jI b),(33,jT c)],[(30000,.row true 1 5 (rowsOf (encI .u8) d))]⟩:St))
noncomputable def f69a_l1_j2 (k:Nat) (a:List T113) (b c:Int) (d:List Int):Option R69a_l1 :=
 some (.o0 a b (IntKind.i64.wrap (c+(1:Int))) d)
theorem f69a_l1_j2_ok (k a b c d r) (e:f69a_l1_j2 k a b c d=some r):EX 69 k (nav B69 [2,2,2,1,2,2,1,2,2,2,3,2,2,2,1,2,2]) (⟨51,[(0,.own 38),(30,.sl 4 (rowsOf encT113 a)),(31,jI b),(32,jI c)],[(38,.row true 1 5 (rowsOf (encI .u8) d))]⟩:St)=some r.st:=by
 unfold f69a_l1_j2 at e
 cases e
 simp only [W,simprocAttr,rg B69 [2,2,2,1,2,2,1,2,2,2,3,2,2,2,1,2,2] 11 false rfl,hr 69 11 rfl,R69a_l1.st]
noncomputable def f69a_l1_j1 (k:Nat) (b:List T113) (d a:Int) (f:Bool) (e:List Int):Option R69a_l1 :=
 ifE ((0:Int)≤a) (
  Option.bind (b[(Int.toNat a)]?) fun c =>
   Option.bind (f69b k c.Kind c.Num c.Bytes c.Items e) fun o4 =>
    match o4 with
    | .o0 g =>
     f69a_l1_j2 k b d a g)
theorem f69a_l1_j1_ok (k b c d f e r) (a:f69a_l1_j1 k b c d f e=some r):EX 69 k (nav B69 [2,2,1,2,2,1,2,2,2,3,2,2,2,1,2,2]) (⟨51,[(0,.own 30000),(30,.sl 4 (rowsOf encT113 b)),(31,jI c),(32,jI d),(33,jT f)],[(30000,.row true 1 5 (rowsOf (encI .u8) e))]⟩:St)=some r.st:=by
 unfold f69a_l1_j1 at a
 obtain ⟨i,a⟩:=ifE_some.1 a
 obtain ⟨h,j,a⟩:=bs a
 obtain ⟨o4,l,a⟩:=bs a
 have g:=f69b_ok k h.Kind h.Num h.Bytes h.Items e _ l
 cases o4 with
 | o0 m =>
  (try dsimp only at a)
  (try simp only [NM,EE,R69b.st] at g)
  have hJ:=f69a_l1_j2_ok k b c d m _ a
  simp only [W,simprocAttr,xk B69 [2,2,1,2,2,1,2,2,2,3,2,2,2,1,2,2] .sq rfl,xk B69 [1,2,2,1,2,2,1,2,2,2,3,2,2,2,1,2,2] (.bk 2) rfl,sr 69 9 B69 [2,1,2,2,1,2,2,1,2,2,2,3,2,2,2,1,2,2] rfl rfl rfl,indexAddrV,t_111,t_113,encT113_eq,rg B69 [2,2,1,2,2,1,2,2,1,2,2,2,3,2,2,2,1,2,2] 10 false rfl,hr 69 10 rfl,callStep,CL,gv,List.contains,i,j,g]
  try simp only [NM,EE] at hJ
  exact hJ
noncomputable def f69a_l1_b (k:Nat) (c:List T113) (a b:Int) (d:List Int):Option R69a_l1 :=
 cond ((decide (b<a)))
  (f69a_l1_j1 k c a b true d)
  (some (.o1 c a b false d))
theorem f69a_l1_b_ok (k a b c d r) (e:f69a_l1_b k a b c d=some r):EX 69 k (nav B69 [1,2,2,1,2,2,2,3,2,2,2,1,2,2]) (⟨51,[(0,.own 30000),(30,.sl 4 (rowsOf encT113 a)),(31,jI b),(32,jI c)],[(30000,.row true 1 5 (rowsOf (encI .u8) d))]⟩:St)=some r.st:=by
 unfold f69a_l1_b at e
 simp only [W,simprocAttr,sr 69 8 B69 [1,2,2,1,2,2,2,3,2,2,2,1,2,2] rfl rfl rfl,xk B69 [2,1,2,2,1,2,2,2,3,2,2,2,1,2,2] .sq rfl,xk B69 [1,2,1,2,2,1,2,2,2,3,2,2,2,1,2,2] (.cd 33) rfl]
 rcases cond_some e with ⟨f,e⟩ | ⟨f,e⟩
 ·have hJ:=f69a_l1_j1_ok k a b c true d _ e
  simp only [W,simprocAttr,xk B69 [2,1,2,1,2,2,1,2,2,2,3,2,2,2,1,2,2] .sk rfl,f]
  try simp only [NM,EE] at hJ
  exact hJ
 ·cases e
  simp only [W,simprocAttr,xk B69 [3,1,2,1,2,2,1,2,2,2,3,2,2,2,1,2,2] (.ex 1) rfl,R69a_l1.st,f]
noncomputable def f69a_l1 (k:Nat):Nat→(List T113)→Int→Int→(List Int)→Option R69a_l1
 | 0,_,_,_,_=>none
 | n+1,d,e,f,g=>Option.bind (f69a_l1_b k d e f g) fun o =>
  match o with
  | .o0 y a b c=>f69a_l1 k n y a b c
  | .o1 y a b c h=>some (.o1 y a b c h)
theorem f69a_l1_ok (k n:Nat):∀ (a:List T113) (b c:Int) (d:List Int) (r:R69a_l1) (e:f69a_l1 k n a b c d=some r) (σ:St) (hσ:headR (hints.head 69 8) (hints.canon 69 8) σ=some (⟨51,[(0,.own 30000),(30,.sl 4 (rowsOf encT113 a)),(31,jI b),(32,jI c)],[(30000,.row true 1 5 (rowsOf (encI .u8) d))]⟩:St)),LP 69 k (nav B69 [1,2,2,1,2,2,2,3,2,2,2,1,2,2]) n σ=some r.st:=by
 induction n with
 | zero=>intro a b c d r e;cases e
 | succ n j =>
  intro a b c d r e σ hσ
  rw [f69a_l1] at e
  obtain ⟨o,h,e⟩:=Option.bind_eq_some_iff.1 e
  have hB:=f69a_l1_b_ok k a b c d o h
  unfold LP at j ⊢
  unfold EX at hB
  rw [loopK_succ,show firstReg (nav B69 [1,2,2,1,2,2,2,3,2,2,2,1,2,2])=8 from rfl,hσ,headK_some,hB]
  cases o with
  | o0 y f g i =>
   refine j y f g i r e _ ?_
   simp only [W,simprocAttr,hh_69_8,hc_69_8]
  | o1 y f g i l=>cases e;rfl
noncomputable def f69a_j2 (k:Nat) (b:List T113) (c d:Int) (e:Bool) (a:List Int):Option R69a :=
 some (.o0 a)
theorem f69a_j2_ok (k a b c d e r) (f:f69a_j2 k a b c d e=some r):finK Tryd.prog Tryd.f69 0 (SQ 69 k (nav B69 [2,2,2]) (blockK 0 (EX 69 k (nav B69 [2,2,2,2,3,2,2,2,1,2,2]) (⟨51,[(0,.own 30000),(30,.sl 4 (rowsOf encT113 a)),(31,jI b),(32,jI c),(33,jT d)],[(30000,.row true 1 5 (rowsOf (encI .u8) e))]⟩:St))))=some r.st:=by
 unfold f69a_j2 at f
 cases f
 simp only [W,simprocAttr,sr 69 12 B69 [2,2,2,2,3,2,2,2,1,2,2] rfl rfl rfl,xk B69 [2,2,2,2,2,3,2,2,2,1,2,2] .rt rfl,fin69,R69a.st]
noncomputable def f69a_j3 (k:Nat) (e:Int) (f:Bool) (g:List Int) (h b:Int) (a:List Int) (c:List T113):Option R69a :=
 Option.bind (f77 k e (IntKind.u64.wrap ((List.length a):Int)) g) fun o1 =>
  match o1 with
  | .o0 d =>
   ifE (((List.length d)+(List.length a))≤roomy) (
    some (.o0 (d++a)))
theorem f69a_j3_ok (k g e h i b a c r) (d:f69a_j3 k g e h i b a c=some r):finK Tryd.prog Tryd.f69 0 (EX 69 k (nav B69 [2,2,2]) (⟨51,[(0,.own 700000),(3,.ptr 3 0),(5,.p (.int .u8 g)),(20,jT e)],[(700000,.row true 1 5 (rowsOf (encI .u8) h)),(3,.box 113 [jI i,jL b,jB a,.sl 4 (rowsOf encT113 c)])]⟩:St))=some r.st:=by
 unfold f69a_j3 at d
 obtain ⟨o1,j,d⟩:=bs d
 have f:=f77_ok k g (IntKind.u64.wrap ((List.length a):Int)) h _ j
 cases o1 with
 | o0 m =>
  (try dsimp only at d)
  (try simp only [NM,EE,R77.st] at f)
  obtain ⟨l,d⟩:=ifE_some.1 d
  cases d
  simp (disch:=first|decide|apply K;kernel_rfl) only [W,simprocAttr,xk B69 [2,2,2] .sq rfl,rg B69 [1,2,2,2] 13 true rfl,hr 69 13 rfl,fieldAddrV,t_113,t_45,t_3,t_110,convV,callStep,CL,gv,List.contains,appendV,content,t_5,xk B69 [2,2,2,2] .rt rfl,fin69,R69a.st,f,l]
noncomputable def f69a_e (k:Nat) (d b:Int) (c:List Int) (a:List T113):Option R69a :=
 Option.bind (f76 k d) fun o1 =>
  match o1 with
  | .o0 e =>
   cond ((d==1))
    (
     Option.bind (f77 k e b []) fun o6 =>
      match o6 with
      | .o0 m =>
       some (.o0 m))
    (
     cond ((d==4))
      (
       Option.bind (f77 k e (IntKind.u64.wrap ((List.length a):Int)) []) fun o11 =>
        match o11 with
        | .o0 f =>
         Option.bind (f69a_l1 k k a ((List.length a):Int) 0 f) fun o15 =>
          match o15 with
          | .o0 _ _ _ _ =>
           none
          | .o1 g h i j l =>
           f69a_j2 k g h i j l)
      (f69a_j3 k e false [] d b c a))
theorem f69a_e_ok (k l d f b r) (a:f69a_e k l d f b=some r):finK Tryd.prog Tryd.f69 0 (EX 69 k (nav B69 []) (⟨51,[(0,V.nil),(1,.agg [jI l,jL d,jB f,.sl 4 (rowsOf encT113 b)])],[]⟩:St))=some r.st:=by
 unfold f69a_e at a
 obtain ⟨o1,x,a⟩:=bs a
 have c:=f76_ok k l _ x
 cases o1 with
 | o0 m =>
  (try dsimp only at a)
  (try simp only [NM,EE,R76.st] at c)
  simp only [W,simprocAttr,xk B69 [] .sq rfl,rg B69 [1] 0 false rfl,hr_69_0,sr 69 1 B69 [2] rfl rfl rfl,fieldAddrV,t_113,t_3,callStep,CL,gv,List.contains,xk B69 [2,2] .sq rfl,sr 69 2 B69 [1,2,2] rfl rfl rfl,xk B69 [2,1,2,2] (.bk 0) rfl,sr 69 3 B69 [2,2,1,2,2] rfl rfl rfl,xk B69 [2,2,2,1,2,2] (.cd 13) rfl,c]
  rcases cond_some a with ⟨i,a⟩ | ⟨i,a⟩
  ·obtain ⟨o6,y,a⟩:=bs a
   have j:=f77_ok k m d [] _ y
   cases o6 with
   | o0 z =>
    (try dsimp only at a)
    (try simp only [NM,EE,R77.st] at j)
    cases a
    simp only [W,simprocAttr,sr 69 4 B69 [2,2,2,2,1,2,2] rfl rfl rfl,fieldAddrV,t_113,t_110,callStep,CL,gv,List.contains,xk B69 [2,2,2,2,2,1,2,2] .rt rfl,fin69,R69a.st,c,i,j]
  ·simp only [W,simprocAttr,sr 69 5 B69 [3,2,2,2,1,2,2] rfl rfl rfl,xk B69 [2,3,2,2,2,1,2,2] (.cd 20) rfl,c,i]
   rcases cond_some a with ⟨g,a⟩ | ⟨g,a⟩
   ·obtain ⟨o11,o,a⟩:=bs a
    have e:=f77_ok k m (IntKind.u64.wrap ((List.length b):Int)) [] _ o
    cases o11 with
    | o0 p =>
     (try dsimp only at a)
     (try simp only [NM,EE,R77.st] at e)
     obtain ⟨o15,q,a⟩:=bs a
     have h:=f69a_l1_ok k k b ((List.length b):Int) 0 p _ q
     simp only [W,simprocAttr,sr 69 6 B69 [2,2,3,2,2,2,1,2,2] rfl rfl rfl,fieldAddrV,t_113,t_111,t_3,t_110,convV,callStep,CL,gv,List.contains,xk B69 [2,2,2,3,2,2,2,1,2,2] .sq rfl,sr 69 7 B69 [1,2,2,2,3,2,2,2,1,2,2] rfl rfl rfl,xk B69 [2,1,2,2,2,3,2,2,2,1,2,2] (.bk 1) rfl,xk B69 [2,2,1,2,2,2,3,2,2,2,1,2,2] .lp rfl,hh_69_8,hc_69_8,c,i,g,e]
     (try simp only [NM,EE] at h)
     rw [h _ (by simp only [W,simprocAttr,hh_69_8,hc_69_8,c,i,g,e])]
     clear h
     cases o15 with
     | o0 _ _ _ _ =>
      (try dsimp only at a)
      cases a
     | o1 s t u v w =>
      (try dsimp only at a)
      have hJ:=f69a_j2_ok k s t u v w _ a
      simp only [W,simprocAttr,R69a_l1.st,c,i,g,e]
      try simp only [NM,EE] at hJ
      exact hJ
   ·have hJ:=f69a_j3_ok k m false [] l d f b _ a
    simp only [W,simprocAttr,xk B69 [3,2,3,2,2,2,1,2,2] .sk rfl,c,i,g]
    try simp only [NM,EE] at hJ
    exact hJ
noncomputable def f69a (k:Nat) (d a:Int) (b:List Int) (c:List T113):Option R69a:=match k with | 0=>none | k+1=>f69a_e k d a b c
theorem f69a_ok (k e a b d r) (f:f69a k e a b d=some r):CV k 69 [V.nil,.agg [jI e,jL a,jB b,.sl 4 (rowsOf encT113 d)]] []=some r.st:=by
 cases k with
 | zero=>cases f
 | succ k =>
  unfold CV
  rw [ev_call (F:=Tryd.f69) (c:=(nav B69 [])) rfl Tryd.func69 rfl rfl rfl rfl]
  exact f69a_e_ok k e a b d r f
-- f56: f56 heliograph/cbor.Encode
inductive R56 where
 | o0 (y:List Int) (a:Int)
 | o1 (y:Int) (a:List Int)
noncomputable def R56.st:R56→V×List O×List O
 | .o0 y a=>(V.tup [jB y,jI a],[],[])
 | .o1 y a=>(V.tup [.own 2000000,jI y],[],[.row true 1 5 (rowsOf (encI .u8) a)])
noncomputable def f56_j1 (k:Nat) (f:Int) (g:Bool) (d a:Int) (b:List Int) (c:List T113):Option R56 :=
 Option.bind (f69a k d a b c) fun o1 =>
  match o1 with
  | .o0 e =>
   some (.o1 0 e)
theorem f56_j1_ok (k g h f a b c r) (d:f56_j1 k g h f a b c=some r):finK Tryd.prog Tryd.f56 0 (EX 56 k (nav B56 [2,2]) (⟨12,[(1,.ptr 1 0),(4,jI g),(8,jT h)],[(1,.box 113 [jI f,jL a,jB b,.sl 4 (rowsOf encT113 c)])]⟩:St))=some r.st:=by
 unfold f56_j1 at d
 obtain ⟨o1,i,d⟩:=bs d
 have e:=f69a_ok k f a b c _ i
 cases o1 with
 | o0 j =>
  (try dsimp only at d)
  (try simp only [NM,EE,R69a.st] at e)
  cases d
  simp only [W,simprocAttr,sr 56 4 B56 [2,2] rfl rfl rfl,t_113,callStep,CL,gv,List.contains,xk B56 [2,2,2] .rt rfl,fin56,R56.st,e]
noncomputable def f56_e (k:Nat) (e a:Int) (b:List Int) (c:List T113):Option R56 :=
 Option.bind (f68 k e a b c) fun o1 =>
  match o1 with
  | .o0 d =>
   cond ((d != 0))
    (some (.o0 [] d))
    (f56_j1 k d false e a b c)
theorem f56_e_ok (k f a b c r) (d:f56_e k f a b c=some r):finK Tryd.prog Tryd.f56 0 (EX 56 k (nav B56 []) (⟨12,[(0,.agg [jI f,jL a,jB b,.sl 4 (rowsOf encT113 c)])],[]⟩:St))=some r.st:=by
 unfold f56_e at d
 obtain ⟨o1,h,d⟩:=bs d
 have e:=f68_ok k f a b c _ h
 cases o1 with
 | o0 i =>
  (try dsimp only at d)
  (try simp only [NM,EE,R68.st] at e)
  simp only [W,simprocAttr,sr 56 0 B56 [] rfl rfl rfl,xk B56 [2] .sq rfl,sr 56 1 B56 [1,2] rfl rfl rfl,t_113,callStep,CL,gv,List.contains,sr 56 2 B56 [2,1,2] rfl rfl rfl,xk B56 [2,2,1,2] (.cd 8) rfl,e]
  rcases cond_some d with ⟨g,d⟩ | ⟨g,d⟩
  ·cases d
   simp only [W,simprocAttr,xk B56 [2,2,2,1,2] .sq rfl,rg B56 [1,2,2,2,1,2] 3 false rfl,hr_56_3,xk B56 [2,2,2,2,1,2] .rt rfl,fin56,R56.st,e,g]
  ·have hJ:=f56_j1_ok k i false f a b c _ d
   simp only [W,simprocAttr,xk B56 [3,2,2,1,2] .sk rfl,e,g]
   try simp only [NM,EE] at hJ
   exact hJ
noncomputable def f56 (k:Nat) (d a:Int) (b:List Int) (c:List T113):Option R56:=match k with | 0=>none | k+1=>f56_e k d a b c
theorem f56_ok (k e a b d r) (f:f56 k e a b d=some r):CV k 56 [.agg [jI e,jL a,jB b,.sl 4 (rowsOf encT113 d)]] []=some r.st:=by
 cases k with
 | zero=>cases f
 | succ k =>
  unfold CV
  rw [ev_call (F:=Tryd.f56) (c:=(nav B56 [])) rfl Tryd.func56 rfl rfl rfl rfl]
  exact f56_e_ok k e a b d r f
-- f78: f78 heliograph/sum.sum[uint16]
inductive R78 where
 | o0 (y:Int)
noncomputable def R78.st:R78→V×List O×List O
 | .o0 y=>(.p (.int .u16 y),[],[])
inductive R78_l1_l2 where
 | o0 (y a:Int) (b:List Int) (c d e:Int)
 | o1 (y a:Int) (b:List Int) (c d e:Int) (f:Bool)
noncomputable def R78_l1_l2.st:R78_l1_l2→Out×St
 | .o0 y a b c d e=>(.norm,(⟨36,[(1,.p (.int .u16 y)),(5,.p (.int .u16 a)),(11,jB b),(12,jI c),(13,jI d),(21,jI e)],[]⟩:St))
 | .o1 y a b c d e f=>(.exit 2,(⟨36,[(1,.p (.int .u16 y)),(5,.p (.int .u16 a)),(11,jB b),(12,jI c),(13,jI d),(21,jI e),(22,jT f)],[]⟩:St))
noncomputable def f78_l1_l2_j2 (k:Nat) (e f:Int) (a:List Int) (b c d:Int):Option R78_l1_l2 :=
 some (R78_l1_l2.o0 e f a b c (IntKind.i64.wrap (d+(1:Int))))
theorem f78_l1_l2_j2_ok (k e f a b c d r) (g:f78_l1_l2_j2 k e f a b c d=some r):EX 78 k (nav B78 [2,2,2,1,2,2,2,2,2,1,2,2,1,2,2,1,2,2]) (⟨36,[(1,.p (.int .u16 e)),(5,.p (.int .u16 f)),(11,jB a),(12,jI b),(13,jI c),(21,jI d)],[]⟩:St)=some r.st:=by
 unfold f78_l1_l2_j2 at g
 cases g
 simp only [W,simprocAttr,rg B78 [2,2,2,1,2,2,2,2,2,1,2,2,1,2,2,1,2,2] 12 false rfl,hr 78 12 rfl,R78_l1_l2.st]
noncomputable def f78_l1_l2_j3 (k:Nat) (e f:Int) (a:List Int) (b c d:Int) (g:Bool):Option R78_l1_l2 :=
 some (R78_l1_l2.o0 e f a b c (IntKind.i64.wrap (d+(1:Int))))
theorem f78_l1_l2_j3_ok (k f g a b c d e r) (h:f78_l1_l2_j3 k f g a b c d e=some r):EX 78 k (nav B78 [2,2,2,1,2,2,2,2,2,1,2,2,1,2,2,1,2,2]) (⟨36,[(1,.p (.int .u16 f)),(5,.p (.int .u16 g)),(11,jB a),(12,jI b),(13,jI c),(21,jI d),(28,jT e)],[]⟩:St)=some r.st:=by
 unfold f78_l1_l2_j3 at h
 cases h
 simp only [W,simprocAttr,rg B78 [2,2,2,1,2,2,2,2,2,1,2,2,1,2,2,1,2,2] 12 false rfl,hr 78 12 rfl,R78_l1_l2.st]
noncomputable def f78_l1_l2_j1 (k:Nat) (e f:Int) (a:List Int) (b c d:Int) (g:Bool):Option R78_l1_l2 :=
 cond (((IntKind.u16.wrap ((BitVec.ofInt (IntKind.bits .u16) f &&& BitVec.ofInt (IntKind.bits .u16) (1:Int)).toNat:Nat))==1))
  (f78_l1_l2_j2 k e ((IntKind.u16.wrap ((BitVec.ofInt (IntKind.bits .u16) (Int.fdiv f (2 ^ (min 1 (IntKind.bits .u16)))) ^^^ BitVec.ofInt (IntKind.bits .u16) e).toNat:Nat))) a b c d)
  (f78_l1_l2_j3 k e (Int.fdiv f (2 ^ (min 1 (IntKind.bits .u16)))) a b c d false)
theorem f78_l1_l2_j1_ok (k f h a b c d g r) (e:f78_l1_l2_j1 k f h a b c d g=some r):EX 78 k (nav B78 [2,2,1,2,2,2,2,2,1,2,2,1,2,2,1,2,2]) (⟨36,[(1,.p (.int .u16 f)),(5,.p (.int .u16 h)),(11,jB a),(12,jI b),(13,jI c),(21,jI d),(22,jT g)],[]⟩:St)=some r.st:=by
 unfold f78_l1_l2_j1 at e
 simp only [W,simprocAttr,xk B78 [2,2,1,2,2,2,2,2,1,2,2,1,2,2,1,2,2] .sq rfl,xk B78 [1,2,2,1,2,2,2,2,2,1,2,2,1,2,2,1,2,2] (.bk 3) rfl,sr 78 8 B78 [2,1,2,2,1,2,2,2,2,2,1,2,2,1,2,2,1,2,2] rfl rfl rfl,sr 78 9 B78 [2,2,1,2,2,1,2,2,2,2,2,1,2,2,1,2,2,1,2,2] rfl rfl rfl,shiftV,sr 78 10 B78 [2,2,2,1,2,2,1,2,2,2,2,2,1,2,2,1,2,2,1,2,2] rfl rfl rfl,xk B78 [2,2,2,2,1,2,2,1,2,2,2,2,2,1,2,2,1,2,2,1,2,2] (.cd 28) rfl]
 rcases cond_some e with ⟨i,e⟩ | ⟨i,e⟩
 ·have hJ:=f78_l1_l2_j2_ok k f ((IntKind.u16.wrap ((BitVec.ofInt (IntKind.bits .u16) (Int.fdiv h (2 ^ (min 1 (IntKind.bits .u16)))) ^^^ BitVec.ofInt (IntKind.bits .u16) f).toNat:Nat))) a b c d _ e
  simp only [W,simprocAttr,rg B78 [2,2,2,2,2,1,2,2,1,2,2,2,2,2,1,2,2,1,2,2,1,2,2] 11 false rfl,hr 78 11 rfl,i]
  try simp only [NM,EE] at hJ
  exact hJ
 ·have hJ:=f78_l1_l2_j3_ok k f (Int.fdiv h (2 ^ (min 1 (IntKind.bits .u16)))) a b c d false _ e
  simp only [W,simprocAttr,xk B78 [3,2,2,2,2,1,2,2,1,2,2,2,2,2,1,2,2,1,2,2,1,2,2] .sk rfl,i]
  try simp only [NM,EE] at hJ
  exact hJ
noncomputable def f78_l1_l2_b (k:Nat) (e f:Int) (b:List Int) (c d a:Int):Option R78_l1_l2 :=
 cond ((decide (a<8)))
  (f78_l1_l2_j1 k e f b c d a true)
  (some (R78_l1_l2.o1 e f b c d a false))
theorem f78_l1_l2_b_ok (k f g a b c d r) (e:f78_l1_l2_b k f g a b c d=some r):EX 78 k (nav B78 [1,2,2,2,2,2,1,2,2,1,2,2,1,2,2]) (⟨36,[(1,.p (.int .u16 f)),(5,.p (.int .u16 g)),(11,jB a),(12,jI b),(13,jI c),(21,jI d)],[]⟩:St)=some r.st:=by
 unfold f78_l1_l2_b at e
 simp only [W,simprocAttr,sr 78 7 B78 [1,2,2,2,2,2,1,2,2,1,2,2,1,2,2] rfl rfl rfl,xk B78 [2,1,2,2,2,2,2,1,2,2,1,2,2,1,2,2] .sq rfl,xk B78 [1,2,1,2,2,2,2,2,1,2,2,1,2,2,1,2,2] (.cd 22) rfl]
 rcases cond_some e with ⟨h,e⟩ | ⟨h,e⟩
 ·have hJ:=f78_l1_l2_j1_ok k f g a b c d true _ e
  simp only [W,simprocAttr,xk B78 [2,1,2,1,2,2,2,2,2,1,2,2,1,2,2,1,2,2] .sk rfl,h]
  try simp only [NM,EE] at hJ
  exact hJ
 ·cases e
  simp only [W,simprocAttr,xk B78 [3,1,2,1,2,2,2,2,2,1,2,2,1,2,2,1,2,2] (.ex 2) rfl,R78_l1_l2.st,h]
noncomputable def f78_l1_l2 (k:Nat):Nat→Int→Int→(List Int)→Int→Int→Int→Option R78_l1_l2
 | 0,_,_,_,_,_,_=>none
 | n+1,l,m,f,g,h,i=>Option.bind (f78_l1_l2_b k l m f g h i) fun o =>
  match o with
  | .o0 y a b c d e=>f78_l1_l2 k n y a b c d e
  | .o1 y a b c d e j=>some (.o1 y a b c d e j)
theorem f78_l1_l2_ok (k n:Nat):∀ (f g:Int) (a:List Int) (b c d:Int) (r:R78_l1_l2) (e:f78_l1_l2 k n f g a b c d=some r) (σ:St) (hσ:headR (hints.head 78 7) (hints.canon 78 7) σ=some (⟨36,[(1,.p (.int .u16 f)),(5,.p (.int .u16 g)),(11,jB a),(12,jI b),(13,jI c),(21,jI d)],[]⟩:St)),LP 78 k (nav B78 [1,2,2,2,2,2,1,2,2,1,2,2,1,2,2]) n σ=some r.st:=by
 induction n with
 | zero=>intro f g a b c d r e;cases e
 | succ n q =>
  intro f g a b c d r e σ hσ
  rw [f78_l1_l2] at e
  obtain ⟨o,h,e⟩:=Option.bind_eq_some_iff.1 e
  have hB:=f78_l1_l2_b_ok k f g a b c d o h
  unfold LP at q ⊢
  unfold EX at hB
  rw [loopK_succ,show firstReg (nav B78 [1,2,2,2,2,2,1,2,2,1,2,2,1,2,2])=7 from rfl,hσ,headK_some,hB]
  cases o with
  | o0 y i j l m p =>
   refine q y i j l m p r e _ ?_
   simp only [W,simprocAttr,hh_78_7,hc_78_7]
  | o1 y i j l m p s=>cases e;rfl
inductive R78_l1 where
 | o0 (y a:Int) (b:List Int) (c d:Int)
 | o1 (y a:Int) (b:List Int) (c d:Int) (e:Bool)
noncomputable def R78_l1.st:R78_l1→Out×St
 | .o0 y a b c d=>(.norm,(⟨36,[(1,.p (.int .u16 y)),(5,.p (.int .u16 a)),(11,jB b),(12,jI c),(13,jI d)],[]⟩:St))
 | .o1 y a b c d e=>(.exit 0,(⟨36,[(1,.p (.int .u16 y)),(5,.p (.int .u16 a)),(11,jB b),(12,jI c),(13,jI d),(14,jT e)],[]⟩:St))
noncomputable def f78_l1_j3 (k:Nat) (d e:Int) (a:List Int) (b c f:Int) (g:Bool):Option R78_l1 :=
 some (.o0 d e a b (IntKind.i64.wrap (c+(1:Int))))
theorem f78_l1_j3_ok (k f g a b c d e r) (h:f78_l1_j3 k f g a b c d e=some r):EX 78 k (nav B78 [2,2,2,1,2,2,1,2,2]) (⟨36,[(1,.p (.int .u16 f)),(5,.p (.int .u16 g)),(11,jB a),(12,jI b),(13,jI c),(21,jI d),(22,jT e)],[]⟩:St)=some r.st:=by
 unfold f78_l1_j3 at h
 cases h
 simp only [W,simprocAttr,rg B78 [2,2,2,1,2,2,1,2,2] 13 false rfl,hr 78 13 rfl,R78_l1.st]
noncomputable def f78_l1_j1 (k:Nat) (h i:Int) (b:List Int) (c a:Int) (j:Bool):Option R78_l1 :=
 ifE ((0:Int)≤a) (
  Option.bind (b[(Int.toNat a)]?) fun l =>
   Option.bind (f78_l1_l2 k k h ((IntKind.u16.wrap ((BitVec.ofInt (IntKind.bits .u16) i ^^^ BitVec.ofInt (IntKind.bits .u16) (IntKind.u16.wrap l)).toNat:Nat))) b c a 0) fun o4 =>
    match o4 with
    | .o0 _ _ _ _ _ _ =>
     none
    | .o1 m o p d e f g =>
     f78_l1_j3 k m o p d e f g)
theorem f78_l1_j1_ok (k g h b c d f r) (a:f78_l1_j1 k g h b c d f=some r):EX 78 k (nav B78 [2,2,1,2,2,1,2,2]) (⟨36,[(1,.p (.int .u16 g)),(5,.p (.int .u16 h)),(11,jB b),(12,jI c),(13,jI d),(14,jT f)],[]⟩:St)=some r.st:=by
 unfold f78_l1_j1 at a
 obtain ⟨i,a⟩:=ifE_some.1 a
 obtain ⟨q,j,a⟩:=bs a
 obtain ⟨o4,s,a⟩:=bs a
 have e:=f78_l1_l2_ok k k g ((IntKind.u16.wrap ((BitVec.ofInt (IntKind.bits .u16) h ^^^ BitVec.ofInt (IntKind.bits .u16) (IntKind.u16.wrap q)).toNat:Nat))) b c d 0 _ s
 simp only [W,simprocAttr,xk B78 [2,2,1,2,2,1,2,2] .sq rfl,xk B78 [1,2,2,1,2,2,1,2,2] (.bk 1) rfl,sr 78 4 B78 [2,1,2,2,1,2,2,1,2,2] rfl rfl rfl,indexAddrV,t_45,t_5,encI_eq,sr 78 5 B78 [2,2,1,2,2,1,2,2,1,2,2] rfl rfl rfl,t_125,convV,sr 78 6 B78 [2,2,2,1,2,2,1,2,2,1,2,2] rfl rfl rfl,xk B78 [2,2,2,2,1,2,2,1,2,2,1,2,2] (.bk 2) rfl,xk B78 [2,2,2,2,2,1,2,2,1,2,2,1,2,2] .lp rfl,hh_78_7,hc_78_7,i,j]
 (try simp only [NM,EE] at e)
 rw [e _ (by simp only [W,simprocAttr,hh_78_7,hc_78_7,i,j])]
 clear e
 cases o4 with
 | o0 _ _ _ _ _ _ =>
  (try dsimp only at a)
  cases a
 | o1 t u v l m o p =>
  (try dsimp only at a)
  have hJ:=f78_l1_j3_ok k t u v l m o p _ a
  simp only [W,simprocAttr,R78_l1_l2.st,i,j]
  try simp only [NM,EE] at hJ
  exact hJ
noncomputable def f78_l1_b (k:Nat) (d e:Int) (c:List Int) (a b:Int):Option R78_l1 :=
 cond ((decide (b<a)))
  (f78_l1_j1 k d e c a b true)
  (some (.o1 d e c a b false))
theorem f78_l1_b_ok (k e f a b c r) (d:f78_l1_b k e f a b c=some r):EX 78 k (nav B78 [1,2,2,1,2,2]) (⟨36,[(1,.p (.int .u16 e)),(5,.p (.int .u16 f)),(11,jB a),(12,jI b),(13,jI c)],[]⟩:St)=some r.st:=by
 unfold f78_l1_b at d
 simp only [W,simprocAttr,sr 78 3 B78 [1,2,2,1,2,2] rfl rfl rfl,xk B78 [2,1,2,2,1,2,2] .sq rfl,xk B78 [1,2,1,2,2,1,2,2] (.cd 14) rfl]
 rcases cond_some d with ⟨g,d⟩ | ⟨g,d⟩
 ·have hJ:=f78_l1_j1_ok k e f a b c true _ d
  simp only [W,simprocAttr,xk B78 [2,1,2,1,2,2,1,2,2] .sk rfl,g]
  try simp only [NM,EE] at hJ
  exact hJ
 ·cases d
  simp only [W,simprocAttr,xk B78 [3,1,2,1,2,2,1,2,2] (.ex 0) rfl,R78_l1.st,g]
noncomputable def f78_l1 (k:Nat):Nat→Int→Int→(List Int)→Int→Int→Option R78_l1
 | 0,_,_,_,_,_=>none
 | n+1,i,j,e,f,g=>Option.bind (f78_l1_b k i j e f g) fun o =>
  match o with
  | .o0 y a b c d=>f78_l1 k n y a b c d
  | .o1 y a b c d h=>some (.o1 y a b c d h)
theorem f78_l1_ok (k n:Nat):∀ (e f:Int) (a:List Int) (b c:Int) (r:R78_l1) (d:f78_l1 k n e f a b c=some r) (σ:St) (hσ:headR (hints.head 78 3) (hints.canon 78 3) σ=some (⟨36,[(1,.p (.int .u16 e)),(5,.p (.int .u16 f)),(11,jB a),(12,jI b),(13,jI c)],[]⟩:St)),LP 78 k (nav B78 [1,2,2,1,2,2]) n σ=some r.st:=by
 induction n with
 | zero=>intro e f a b c r d;cases d
 | succ n m =>
  intro e f a b c r d σ hσ
  rw [f78_l1] at d
  obtain ⟨o,h,d⟩:=Option.bind_eq_some_iff.1 d
  have hB:=f78_l1_b_ok k e f a b c o h
  unfold LP at m ⊢
  unfold EX at hB
  rw [loopK_succ,show firstReg (nav B78 [1,2,2,1,2,2])=3 from rfl,hσ,headK_some,hB]
  cases o with
  | o0 y g i j l =>
   refine m y g i j l r d _ ?_
   simp only [W,simprocAttr,hh_78_3,hc_78_3]
  | o1 y g i j l p=>cases d;rfl
noncomputable def f78_j2 (k:Nat) (f a:Int) (b:List Int) (c d:Int) (e:Bool):Option R78 :=
 some (.o0 (flipI .u16 a))
theorem f78_j2_ok (k e f a b c d r) (g:f78_j2 k e f a b c d=some r):finK Tryd.prog Tryd.f78 0 (EX 78 k (nav B78 [2,2,2]) (⟨36,[(1,.p (.int .u16 e)),(5,.p (.int .u16 f)),(11,jB a),(12,jI b),(13,jI c),(14,jT d)],[]⟩:St))=some r.st:=by
 unfold f78_j2 at g
 cases g
 simp only [W,simprocAttr,sr 78 14 B78 [2,2,2] rfl rfl rfl,xk B78 [2,2,2,2] .rt rfl,fin78,R78.st]
noncomputable def f78_e (k:Nat) (a:List Int) (b:Int):Option R78 :=
 Option.bind (f78_l1 k k b (flipI .u16 (IntKind.u16.wrap 0)) a ((List.length a):Int) 0) fun o1 =>
  match o1 with
  | .o0 _ _ _ _ _ =>
   none
  | .o1 c d e f g h =>
   f78_j2 k c d e f g h
theorem f78_e_ok (k c d r) (a:f78_e k c d=some r):finK Tryd.prog Tryd.f78 0 (EX 78 k (nav B78 []) (⟨36,[(0,jB c),(1,.p (.int .u16 d))],[]⟩:St))=some r.st:=by
 unfold f78_e at a
 obtain ⟨o1,e,a⟩:=bs a
 have b:=f78_l1_ok k k d (flipI .u16 (IntKind.u16.wrap 0)) c ((List.length c):Int) 0 _ e
 simp only [W,simprocAttr,sr 78 0 B78 [] rfl rfl rfl,sr 78 1 B78 [2] rfl rfl rfl,t_3,t_125,convV,xk B78 [2,2] .sq rfl,sr 78 2 B78 [1,2,2] rfl rfl rfl,t_45,xk B78 [2,1,2,2] (.bk 0) rfl,xk B78 [2,2,1,2,2] .lp rfl,hh_78_3,hc_78_3]
 (try simp only [NM,EE] at b)
 rw [b _ (by simp only [W,simprocAttr,hh_78_3,hc_78_3])]
 clear b
 cases o1 with
 | o0 _ _ _ _ _ =>
  (try dsimp only at a)
  cases a
 | o1 f g h i j l =>
  (try dsimp only at a)
  have hJ:=f78_j2_ok k f g h i j l _ a
  simp only [W,simprocAttr,R78_l1.st]
  try simp only [NM,EE] at hJ
  exact hJ
noncomputable def f78 (k:Nat) (a:List Int) (b:Int):Option R78:=match k with | 0=>none | k+1=>f78_e k a b
theorem f78_ok (k a b r) (d:f78 k a b=some r):CV k 78 [jB a,.p (.int .u16 b)] []=some r.st:=by
 cases k with
 | zero=>cases d
 | succ k =>
  unfold CV
  rw [ev_call (F:=Tryd.f78) (c:=(nav B78 [])) rfl Tryd.func78 rfl rfl rfl rfl]
  exact f78_e_ok k a b r d
-- f72: f72 heliograph/sum.Sum16
inductive R72 where
 | o0 (y:Int)
noncomputable def R72.st:R72→V×List O×List O
 | .o0 y=>(.p (.int .u16 y),[],[])
noncomputable def f72_e (k:Nat) (a:List Int):Option R72 :=
 Option.bind (f78 k a 33800) fun o1 =>
  match o1 with
  | .o0 b =>
   some (.o0 b)
theorem f72_e_ok (k c r) (a:f72_e k c=some r):finK Tryd.prog Tryd.f72 0 (EX 72 k (nav B72 []) (⟨5,[(0,jB c)],[]⟩:St))=some r.st:=by
 unfold f72_e at a
 obtain ⟨o1,d,a⟩:=bs a
 have b:=f78_ok k c 33800 _ d
 cases o1 with
 | o0 e =>
  (try dsimp only at a)
  (try simp only [NM,EE,R78.st] at b)
  cases a
  simp only [W,simprocAttr,sr 72 0 B72 [] rfl rfl rfl,sr 72 1 B72 [2] rfl rfl rfl,callStep,CL,gv,List.contains,xk B72 [2,2] .rt rfl,fin72,R72.st,b]
noncomputable def f72 (k:Nat) (a:List Int):Option R72:=match k with | 0=>none | k+1=>f72_e k a
theorem f72_ok (k a r) (b:f72 k a=some r):CV k 72 [jB a] []=some r.st:=by
 cases k with
 | zero=>cases b
 | succ k =>
  unfold CV
  rw [ev_call (F:=Tryd.f72) (c:=(nav B72 [])) rfl Tryd.func72 rfl rfl rfl rfl]
  exact f72_e_ok k a r b
-- f71: f71 heliograph/sum.seal
inductive R71 where
 | o0 (y:List Int)
noncomputable def R71.st:R71→V×List O×List O
 | .o0 y=>(.own 2000000,[],[.row true 1 5 (rowsOf (encI .u8) y)])
inductive R71_l1 where
 | o0 (y a b:Int) (c:List Int)
 | o1 (y a b:Int) (c:Bool) (d:List Int)
noncomputable def R71_l1.st:R71_l1→Out×St
 | .o0 y a b c=>(.norm,(⟨25,[(1,jU y),(7,.own 22),(11,jI a),(12,jI b)],[(22,.row true 1 5 (rowsOf (encI .u8) c))]⟩:St))
 | .o1 y a b c d=>(.exit 0,(⟨25,[(1,jU y),(7,.own 30000),(11,jI a),(12,jI b),(13,jT c)],[(30000,.row true 1 5 (rowsOf (encI .u8) d))]⟩:St))
noncomputable def f71_l1_j2 (k:Nat) (d a b:Int) (c:List Int):Option R71_l1 :=
 some (.o0 d a (IntKind.i64.wrap (b+(1:Int))) c)
theorem f71_l1_j2_ok (k d a b c r) (e:f71_l1_j2 k d a b c=some r):EX 71 k (nav B71 [2,2,2,1,2,2,1,2,2]) (⟨25,[(1,jU d),(7,.own 22),(11,jI a),(12,jI b)],[(22,.row true 1 5 (rowsOf (encI .u8) c))]⟩:St)=some r.st:=by
 unfold f71_l1_j2 at e
 cases e
 simp only [W,simprocAttr,rg B71 [2,2,2,1,2,2,1,2,2] 6 false rfl,hr 71 6 rfl,R71_l1.st]
noncomputable def f71_l1_j1 (k:Nat) (d c a:Int) (e:Bool) (b:List Int):Option R71_l1 :=
 ifE (¬(IntKind.i64.wrap ((8:Int) * a))<0) (
  ifE (((List.length b)+1)≤roomy) (
   f71_l1_j2 k d c a ((b++([(IntKind.u8.wrap (Int.fdiv d (2 ^ (min (Int.toNat (IntKind.i64.wrap ((8:Int) * a))) (IntKind.bits .u32)))))]:List Int)))))
theorem f71_l1_j1_ok (k b c a f d r) (e:f71_l1_j1 k b c a f d=some r):EX 71 k (nav B71 [2,2,1,2,2,1,2,2]) (⟨25,[(1,jU b),(7,.own 30000),(11,jI c),(12,jI a),(13,jT f)],[(30000,.row true 1 5 (rowsOf (encI .u8) d))]⟩:St)=some r.st:=by
 unfold f71_l1_j1 at e
 obtain ⟨g,e⟩:=ifE_some.1 e
 have h:[[.p (.int .u8 (IntKind.u8.wrap (Int.fdiv b (2 ^ (min (Int.toNat (IntKind.i64.wrap ((8:Int) * a))) (IntKind.bits .u32))))))]]=rowsOf (encI .u8) ([(IntKind.u8.wrap (Int.fdiv b (2 ^ (min (Int.toNat (IntKind.i64.wrap ((8:Int) * a))) (IntKind.bits .u32)))))]:List Int):=rfl
 have i:List.map (tell [0]) (rowsOf (encI .u8) ([(IntKind.u8.wrap (Int.fdiv b (2 ^ (min (Int.toNat (IntKind.i64.wrap ((8:Int) * a))) (IntKind.bits .u32)))))]:List Int))=rowsOf (encI .u8) ([(IntKind.u8.wrap (Int.fdiv b (2 ^ (min (Int.toNat (IntKind.i64.wrap ((8:Int) * a))) (IntKind.bits .u32)))))]:List Int):=rfl
 obtain ⟨j,e⟩:=ifE_some.1 e
 have hJ:=f71_l1_j2_ok k b c a ((d++([(IntKind.u8.wrap (Int.fdiv b (2 ^ (min (Int.toNat (IntKind.i64.wrap ((8:Int) * a))) (IntKind.bits .u32)))))]:List Int))) _ e
 simp only [W,simprocAttr,xk B71 [2,2,1,2,2,1,2,2] .sq rfl,xk B71 [1,2,2,1,2,2,1,2,2] (.bk 1) rfl,sr 71 4 B71 [2,1,2,2,1,2,2,1,2,2] rfl rfl rfl,rg B71 [2,2,1,2,2,1,2,2,1,2,2] 5 false rfl,hr 71 5 rfl,shiftV,t_42,t_5,convV,buildSliceV,fillRows,sm_5,t_45,appendV,content,g,h,i,j]
 try simp only [NM,EE] at hJ
 exact hJ
noncomputable def f71_l1_b (k:Nat) (d a b:Int) (c:List Int):Option R71_l1 :=
 cond ((decide (b<a)))
  (f71_l1_j1 k d a b true c)
  (some (.o1 d a b false c))
theorem f71_l1_b_ok (k e a b c r) (d:f71_l1_b k e a b c=some r):EX 71 k (nav B71 [1,2,2,1,2,2]) (⟨25,[(1,jU e),(7,.own 30000),(11,jI a),(12,jI b)],[(30000,.row true 1 5 (rowsOf (encI .u8) c))]⟩:St)=some r.st:=by
 unfold f71_l1_b at d
 simp only [W,simprocAttr,sr 71 3 B71 [1,2,2,1,2,2] rfl rfl rfl,xk B71 [2,1,2,2,1,2,2] .sq rfl,xk B71 [1,2,1,2,2,1,2,2] (.cd 13) rfl]
 rcases cond_some d with ⟨f,d⟩ | ⟨f,d⟩
 ·have hJ:=f71_l1_j1_ok k e a b true c _ d
  simp only [W,simprocAttr,xk B71 [2,1,2,1,2,2,1,2,2] .sk rfl,f]
  try simp only [NM,EE] at hJ
  exact hJ
 ·cases d
  simp only [W,simprocAttr,xk B71 [3,1,2,1,2,2,1,2,2] (.ex 0) rfl,R71_l1.st,f]
noncomputable def f71_l1 (k:Nat):Nat→Int→Int→Int→(List Int)→Option R71_l1
 | 0,_,_,_,_=>none
 | n+1,h,d,e,f=>Option.bind (f71_l1_b k h d e f) fun o =>
  match o with
  | .o0 y a b c=>f71_l1 k n y a b c
  | .o1 y a b c g=>some (.o1 y a b c g)
theorem f71_l1_ok (k n:Nat):∀ (e a b:Int) (c:List Int) (r:R71_l1) (d:f71_l1 k n e a b c=some r) (σ:St) (hσ:headR (hints.head 71 3) (hints.canon 71 3) σ=some (⟨25,[(1,jU e),(7,.own 30000),(11,jI a),(12,jI b)],[(30000,.row true 1 5 (rowsOf (encI .u8) c))]⟩:St)),LP 71 k (nav B71 [1,2,2,1,2,2]) n σ=some r.st:=by
 induction n with
 | zero=>intro e a b c r d;cases d
 | succ n j =>
  intro e a b c r d σ hσ
  rw [f71_l1] at d
  obtain ⟨o,h,d⟩:=Option.bind_eq_some_iff.1 d
  have hB:=f71_l1_b_ok k e a b c o h
  unfold LP at j ⊢
  unfold EX at hB
  rw [loopK_succ,show firstReg (nav B71 [1,2,2,1,2,2])=3 from rfl,hσ,headK_some,hB]
  cases o with
  | o0 y f g i =>
   refine j y f g i r d _ ?_
   simp only [W,simprocAttr,hh_71_3,hc_71_3]
  | o1 y f g i l=>cases d;rfl
noncomputable def f71_j2 (k:Nat) (e b c:Int) (d:Bool) (a:List Int):Option R71 :=
 some (.o0 a)
theorem f71_j2_ok (k e a b c d r) (f:f71_j2 k e a b c d=some r):finK Tryd.prog Tryd.f71 0 (EX 71 k (nav B71 [2,2,2]) (⟨25,[(1,jU e),(7,.own 30000),(11,jI a),(12,jI b),(13,jT c)],[(30000,.row true 1 5 (rowsOf (encI .u8) d))]⟩:St))=some r.st:=by
 unfold f71_j2 at f
 cases f
 simp only [W,simprocAttr,sr 71 7 B71 [2,2,2] rfl rfl rfl,xk B71 [2,2,2,2] .rt rfl,fin71,R71.st]
noncomputable def f71_e (k:Nat) (d:List Int) (e f:Int):Option R71 :=
 Option.bind (f53 k d) fun o1 =>
  match o1 with
  | .o0 g =>
   Option.bind (f71_l1 k k e f 0 g) fun o5 =>
    match o5 with
    | .o0 _ _ _ _ =>
     none
    | .o1 h i a b c =>
     f71_j2 k h i a b c
theorem f71_e_ok (k d e f r) (a:f71_e k d e f=some r):finK Tryd.prog Tryd.f71 0 (EX 71 k (nav B71 []) (⟨25,[(0,jB d),(1,jU e),(2,jI f)],[]⟩:St))=some r.st:=by
 unfold f71_e at a
 obtain ⟨o1,j,a⟩:=bs a
 have b:=f53_ok k d _ j
 cases o1 with
 | o0 l =>
  (try dsimp only at a)
  (try simp only [NM,EE,R53.st] at b)
  obtain ⟨o5,m,a⟩:=bs a
  have c:=f71_l1_ok k k e f 0 l _ m
  simp only [W,simprocAttr,sr 71 0 B71 [] rfl rfl rfl,sr 71 1 B71 [2] rfl rfl rfl,callStep,CL,gv,List.contains,xk B71 [2,2] .sq rfl,sr 71 2 B71 [1,2,2] rfl rfl rfl,xk B71 [2,1,2,2] (.bk 0) rfl,xk B71 [2,2,1,2,2] .lp rfl,hh_71_3,hc_71_3,b]
  (try simp only [NM,EE] at c)
  rw [c _ (by simp only [W,simprocAttr,hh_71_3,hc_71_3,b])]
  clear c
  cases o5 with
  | o0 _ _ _ _ =>
   (try dsimp only at a)
   cases a
  | o1 o p g h i =>
   (try dsimp only at a)
   have hJ:=f71_j2_ok k o p g h i _ a
   simp only [W,simprocAttr,R71_l1.st,b]
   try simp only [NM,EE] at hJ
   exact hJ
noncomputable def f71 (k:Nat) (a:List Int) (b c:Int):Option R71:=match k with | 0=>none | k+1=>f71_e k a b c
theorem f71_ok (k a b d r) (e:f71 k a b d=some r):CV k 71 [jB a,jU b,jI d] []=some r.st:=by
 cases k with
 | zero=>cases e
 | succ k =>
  unfold CV
  rw [ev_call (F:=Tryd.f71) (c:=(nav B71 [])) rfl Tryd.func71 rfl rfl rfl rfl]
  exact f71_e_ok k a b d r e
-- f60: f60 heliograph/sum.Seal16
inductive R60 where
 | o0 (y:List Int)
noncomputable def R60.st:R60→V×List O×List O
 | .o0 y=>(.own 2000000,[],[.row true 1 5 (rowsOf (encI .u8) y)])
noncomputable def f60_e (k:Nat) (a:List Int):Option R60 :=
 Option.bind (f72 k a) fun o1 =>
  match o1 with
  | .o0 b =>
   Option.bind (f71 k a (IntKind.u32.wrap b) 2) fun o5 =>
    match o5 with
    | .o0 c =>
     some (.o0 c)
theorem f60_e_ok (k d r) (a:f60_e k d=some r):finK Tryd.prog Tryd.f60 0 (EX 60 k (nav B60 []) (⟨8,[(0,jB d)],[]⟩:St))=some r.st:=by
 unfold f60_e at a
 obtain ⟨o1,e,a⟩:=bs a
 have b:=f72_ok k d _ e
 cases o1 with
 | o0 f =>
  (try dsimp only at a)
  (try simp only [NM,EE,R72.st] at b)
  obtain ⟨o5,g,a⟩:=bs a
  have c:=f71_ok k d (IntKind.u32.wrap f) 2 _ g
  cases o5 with
  | o0 h =>
   (try dsimp only at a)
   (try simp only [NM,EE,R71.st] at c)
   cases a
   simp only [W,simprocAttr,sr 60 0 B60 [] rfl rfl rfl,sr 60 1 B60 [2] rfl rfl rfl,callStep,CL,gv,List.contains,t_125,t_42,convV,xk B60 [2,2] .rt rfl,fin60,R60.st,b,c]
noncomputable def f60 (k:Nat) (a:List Int):Option R60:=match k with | 0=>none | k+1=>f60_e k a
theorem f60_ok (k a r) (b:f60 k a=some r):CV k 60 [jB a] []=some r.st:=by
 cases k with
 | zero=>cases b
 | succ k =>
  unfold CV
  rw [ev_call (F:=Tryd.f60) (c:=(nav B60 [])) rfl Tryd.func60 rfl rfl rfl rfl]
  exact f60_e_ok k a r b
-- f59: f59 heliograph/cbor.Bytes
inductive R59 where
 | o0 (y a:Int) (b:List T113) (c:List Int)
noncomputable def R59.st:R59→V×List O×List O
 | .o0 y a b c=>(.agg [jI y,jL a,.own 2000000,.sl 4 (rowsOf encT113 b)],[],[.row true 1 5 (rowsOf (encI .u8) c)])
noncomputable def f59_e (k:Nat) (a:List Int):Option R59 :=
 Option.bind (f53 k a) fun o1 =>
  match o1 with
  | .o0 b =>
   some (.o0 2 0 [] b)
theorem f59_e_ok (k c r) (a:f59_e k c=some r):finK Tryd.prog Tryd.f59 0 (EX 59 k (nav B59 []) (⟨6,[(0,jB c)],[]⟩:St))=some r.st:=by
 unfold f59_e at a
 obtain ⟨o1,d,a⟩:=bs a
 have b:=f53_ok k c _ d
 cases o1 with
 | o0 e =>
  (try dsimp only at a)
  (try simp only [NM,EE,R53.st] at b)
  cases a
  simp only [W,simprocAttr,xk B59 [] .sq rfl,rg B59 [1] 0 false rfl,hr_59_0,t_113,xk B59 [2] .sq rfl,rg B59 [1,2] 1 false rfl,hr_59_1,callStep,CL,gv,List.contains,bl_113,xk B59 [2,2] .rt rfl,fin59,R59.st,b]
noncomputable def f59 (k:Nat) (a:List Int):Option R59:=match k with | 0=>none | k+1=>f59_e k a
theorem f59_ok (k a r) (b:f59 k a=some r):CV k 59 [jB a] []=some r.st:=by
 cases k with
 | zero=>cases b
 | succ k =>
  unfold CV
  rw [ev_call (F:=Tryd.f59) (c:=(nav B59 [])) rfl Tryd.func59 rfl rfl rfl rfl]
  exact f59_e_ok k a r b
end Go.Proofs.YtiompmmbjpjjeaaDoorV