/- What the program's functions answer: plain functions,and that the interpreter answers what they do. Written by a program of this session,out of the translation. -/
import Derived.Test.YtbnnmplkbpgcaaaDoorVP6
namespace Go.Proofs.YtbnnmplkbpgcaaaDoorV
open Go
set_option linter.unusedVariables false
set_option linter.unusedSimpArgs false
set_option maxRecDepth 8000
set_option maxHeartbeats 4000000
-- f65: f65 heliograph/cbor.may
inductive R65 where
 | o0 (y:Bool)
noncomputable def R65.st:R65→V×List O×List O
 | .o0 y=>(jT y,[],[])
inductive R65_l2 where
 | o0 (y:Bool)
 | o1 (y:Int) (a:List T50) (b c:Int)
 | o2 (y:Int) (a:List T50) (b c:Int) (d:Bool)
noncomputable def R65_l2.st:R65_l2→Out×St
 | .o0 y=>(.ret,(⟨50,[(4,jT y)],[]⟩:St))
 | .o1 y a b c=>(.norm,(⟨50,[(1,jI y),(38,.sl 4 (rowsOf encT50 a)),(39,jI b),(40,jI c)],[]⟩:St))
 | .o2 y a b c d=>(.exit 0,(⟨50,[(1,jI y),(38,.sl 4 (rowsOf encT50 a)),(39,jI b),(40,jI c),(41,jT d)],[]⟩:St))
abbrev Ff65_aiirrzi:=Int→Int→(List Int)→(List T50)→Int→Option R65
noncomputable def f65_l2_j2 (k:Nat) (Q:Ff65_aiirrzi) (d:Int) (a:List T50) (b c:Int) (e:Bool):Option R65_l2 :=
 some (.o1 d a b (IntKind.i64.wrap (c+(1:Int))))
def If65_aiirrzi (k:Nat) (Q:Ff65_aiirrzi):Prop:=∀ (h a:Int) (b:List Int) (c:List T50) (i:Int) (r:R65),Q h a b c i=some r→CV k 65 [.agg [jI h,jL a,jB b,.sl 4 (rowsOf encT50 c)],jI i] []=some r.st
theorem f65_l2_j2_ok (k:Nat) (Q:Ff65_aiirrzi) (H:If65_aiirrzi k Q) (j:Int) (d:List T50) (e f:Int) (g:Bool) (r:R65_l2) (l:f65_l2_j2 k Q j d e f g=some r):EX 65 k (nav B65 [2,2,2,1,2,2,1,2,2]) (⟨50,[(1,jI j),(38,.sl 4 (rowsOf encT50 d)),(39,jI e),(40,jI f),(48,jT g)],[]⟩:St)=some r.st:=by
 unfold f65_l2_j2 at l
 cases l
 simp (disch:=first|apply D;decide|apply K;kernel_rfl) only [W,simprocAttr,rg B65 [2,2,2,1,2,2,1,2,2] 8 false rfl,hr 65 8 rfl,R65_l2.st]
noncomputable def f65_l2_j1 (k:Nat) (Q:Ff65_aiirrzi) (e:Int) (b:List T50) (d a:Int) (f:Bool):Option R65_l2 :=
 ifE ((0:Int)≤a) (
  Option.bind (b[(Int.toNat a)]?) fun c =>
   Option.bind (Q c.Kind c.Num c.Bytes c.Items (IntKind.i64.wrap (e - (1:Int)))) fun o4 =>
    match o4 with
    | .o0 g =>
     cond ((!g))
      (some (.o0 false))
      (f65_l2_j2 k Q e b d a false))
theorem f65_l2_j1_ok (k:Nat) (Q:Ff65_aiirrzi) (H:If65_aiirrzi k Q) (j:Int) (f:List T50) (g h:Int) (i:Bool) (r:R65_l2) (a:f65_l2_j1 k Q j f g h i=some r):EX 65 k (nav B65 [2,2,1,2,2,1,2,2]) (⟨50,[(1,jI j),(38,.sl 4 (rowsOf encT50 f)),(39,jI g),(40,jI h),(41,jT i)],[]⟩:St)=some r.st:=by
 unfold f65_l2_j1 at a
 obtain ⟨m,a⟩:=ifE_some.1 a
 obtain ⟨l,o,a⟩:=bs a
 obtain ⟨o4,t,a⟩:=bs a
 have b:=H l.Kind l.Num l.Bytes l.Items (IntKind.i64.wrap (j - (1:Int))) _ t
 cases o4 with
 | o0 u =>
  (try dsimp only at a)
  (try simp only [NM,EE,R65.st] at b)
  simp (disch:=first|apply D;decide|apply K;kernel_rfl) only [W,simprocAttr,xk B65 [2,2,1,2,2,1,2,2] .sq rfl,xk B65 [1,2,2,1,2,2,1,2,2] (.bk 1) rfl,xk B65 [2,1,2,2,1,2,2,1,2,2] .sq rfl,rg B65 [1,2,1,2,2,1,2,2,1,2,2] 5 false rfl,hr 65 5 rfl,indexAddrV,t_48,t_50,encT50_eq,xk B65 [2,2,1,2,2,1,2,2,1,2,2] .sq rfl,rg B65 [1,2,2,1,2,2,1,2,2,1,2,2] 6 false rfl,hr 65 6 rfl,callStep,CL,gv,List.contains,xk B65 [2,2,2,1,2,2,1,2,2,1,2,2] (.cd 48) rfl,m,o,b]
  rcases cond_some a with ⟨p,a⟩ | ⟨p,a⟩
  ·cases a
   simp (disch:=first|apply D;decide|apply K;kernel_rfl) only [W,simprocAttr,xk B65 [2,2,2,2,1,2,2,1,2,2,1,2,2] .sq rfl,rg B65 [1,2,2,2,2,1,2,2,1,2,2,1,2,2] 7 false rfl,hr 65 7 rfl,xk B65 [2,2,2,2,2,1,2,2,1,2,2,1,2,2] .rt rfl,R65_l2.st,m,o,b,p]
  ·have hJ:=f65_l2_j2_ok k Q H j f g h false _ a
   simp (disch:=first|apply D;decide|apply K;kernel_rfl) only [W,simprocAttr,xk B65 [3,2,2,2,1,2,2,1,2,2,1,2,2] .sk rfl,m,o,b,p]
   try simp only [NM,EE] at hJ
   exact hJ
noncomputable def f65_l2_b (k:Nat) (Q:Ff65_aiirrzi) (d:Int) (c:List T50) (a b:Int):Option R65_l2 :=
 cond ((decide (b<a)))
  (f65_l2_j1 k Q d c a b true)
  (some (.o2 d c a b false))
theorem f65_l2_b_ok (k:Nat) (Q:Ff65_aiirrzi) (H:If65_aiirrzi k Q) (h:Int) (d:List T50) (e f:Int) (r:R65_l2) (g:f65_l2_b k Q h d e f=some r):EX 65 k (nav B65 [1,2,2,1,2,2]) (⟨50,[(1,jI h),(38,.sl 4 (rowsOf encT50 d)),(39,jI e),(40,jI f)],[]⟩:St)=some r.st:=by
 unfold f65_l2_b at g
 simp (disch:=first|apply D;decide|apply K;kernel_rfl) only [W,simprocAttr,xk B65 [1,2,2,1,2,2] .sq rfl,rg B65 [1,1,2,2,1,2,2] 4 false rfl,hr 65 4 rfl,xk B65 [2,1,2,2,1,2,2] .sq rfl,xk B65 [1,2,1,2,2,1,2,2] (.cd 41) rfl]
 rcases cond_some g with ⟨i,g⟩ | ⟨i,g⟩
 ·have hJ:=f65_l2_j1_ok k Q H h d e f true _ g
  simp (disch:=first|apply D;decide|apply K;kernel_rfl) only [W,simprocAttr,xk B65 [2,1,2,1,2,2,1,2,2] .sk rfl,i]
  try simp only [NM,EE] at hJ
  exact hJ
 ·cases g
  simp (disch:=first|apply D;decide|apply K;kernel_rfl) only [W,simprocAttr,xk B65 [3,1,2,1,2,2,1,2,2] (.ex 0) rfl,R65_l2.st,i]
noncomputable def f65_l2 (k:Nat) (Q:Ff65_aiirrzi):Nat→Int→(List T50)→Int→Int→Option R65_l2
 | 0,_,_,_,_=>none
 | n+1,h,d,e,f=>Option.bind (f65_l2_b k Q h d e f) fun o =>
  match o with
  | .o0 y=>some (.o0 y)
  | .o1 y a b c=>f65_l2 k Q n y a b c
  | .o2 y a b c g=>some (.o2 y a b c g)
theorem f65_l2_ok (k:Nat) (Q:Ff65_aiirrzi) (H:If65_aiirrzi k Q) (n:Nat):∀ (i:Int) (a:List T50) (b c:Int) (r:R65_l2) (d:f65_l2 k Q n i a b c=some r) (σ:St) (hσ:headR (hints.head 65 4) (hints.canon 65 4) σ=some (⟨50,[(1,jI i),(38,.sl 4 (rowsOf encT50 a)),(39,jI b),(40,jI c)],[]⟩:St)),LP 65 k (nav B65 [1,2,2,1,2,2]) n σ=some r.st:=by
 induction n with
 | zero=>intro i a b c r d;cases d
 | succ n s =>
  intro i a b c r d σ hσ
  rw [f65_l2] at d
  obtain ⟨o,h,d⟩:=Option.bind_eq_some_iff.1 d
  have hB:=f65_l2_b_ok k Q H i a b c o h
  unfold LP at s ⊢
  unfold EX at hB
  rw [loopK_succ,show firstReg (nav B65 [1,2,2,1,2,2])=4 from rfl,hσ,headK_some,hB]
  cases o with
  | o0 y=>cases d;rfl
  | o1 y j l m =>
   refine s y j l m r d _ ?_
   simp (disch:=first|apply D;decide|apply K;kernel_rfl) only [W,simprocAttr,hh_65_4,hc_65_4]
  | o2 y j l m t=>cases d;rfl
noncomputable def f65_j3 (k:Nat) (Q:Ff65_aiirrzi) (e:Int) (a:List T50) (b c:Int) (d:Bool):Option R65 :=
 some (.o0 true)
theorem f65_j3_ok (k:Nat) (Q:Ff65_aiirrzi) (H:If65_aiirrzi k Q) (j:Int) (d:List T50) (e f:Int) (g:Bool) (r:R65) (l:f65_j3 k Q j d e f g=some r):finK Tryd.prog Tryd.f65 0 (EX 65 k (nav B65 [2,2,2]) (⟨50,[(1,jI j),(38,.sl 4 (rowsOf encT50 d)),(39,jI e),(40,jI f),(41,jT g)],[]⟩:St))=some r.st:=by
 unfold f65_j3 at l
 cases l
 simp (disch:=first|apply D;decide|apply K;kernel_rfl) only [W,simprocAttr,xk B65 [2,2,2] .sq rfl,rg B65 [1,2,2,2] 9 false rfl,hr 65 9 rfl,xk B65 [2,2,2,2] .rt rfl,fin65,R65.st]
noncomputable def f65_j1 (k:Nat) (Q:Ff65_aiirrzi) (d:Int) (e:Bool) (m b:Int) (c:List Int) (a:List T50):Option R65 :=
 Option.bind (f65_l2 k Q k d a ((List.length a):Int) 0) fun o1 =>
  match o1 with
  | .o0 f =>
   some (.o0 f)
  | .o1 _ _ _ _ =>
   none
  | .o2 g h i j l =>
   f65_j3 k Q g h i j l
theorem f65_j1_ok (k:Nat) (Q:Ff65_aiirrzi) (H:If65_aiirrzi k Q) (j:Int) (i:Bool) (o f:Int) (g:List Int) (a:List T50) (r:R65) (b:f65_j1 k Q j i o f g a=some r):finK Tryd.prog Tryd.f65 0 (EX 65 k (nav B65 [2,2]) (⟨50,[(1,jI j),(2,.ptr 2 0),(36,jT i)],[(2,.box 50 [jI o,jL f,jB g,.sl 4 (rowsOf encT50 a)])]⟩:St))=some r.st:=by
 unfold f65_j1 at b
 obtain ⟨o1,p,b⟩:=bs b
 have h:=f65_l2_ok k Q H k j a ((List.length a):Int) 0 _ p
 simp (disch:=first|apply D;decide|apply K;kernel_rfl) only [W,simprocAttr,xk B65 [2,2] .sq rfl,xk B65 [1,2,2] .sq rfl,rg B65 [1,1,2,2] 3 false rfl,hr 65 3 rfl,fieldAddrV,t_50,t_48,xk B65 [2,1,2,2] (.bk 0) rfl,xk B65 [2,2,1,2,2] .lp rfl,hh_65_4,hc_65_4]
 (try simp only [NM,EE] at h)
 rw [h _ (by simp (disch:=first|apply D;decide|apply K;kernel_rfl) only [W,simprocAttr,hh_65_4,hc_65_4])]
 clear h
 cases o1 with
 | o0 w =>
  (try dsimp only at b)
  cases b
  simp (disch:=first|apply D;decide|apply K;kernel_rfl) only [W,simprocAttr,R65_l2.st,fin65,R65.st]
 | o1 _ _ _ _ =>
  (try dsimp only at b)
  cases b
 | o2 q s t u v =>
  (try dsimp only at b)
  have hJ:=f65_j3_ok k Q H q s t u v _ b
  simp (disch:=first|apply D;decide|apply K;kernel_rfl) only [W,simprocAttr,R65_l2.st]
  try simp only [NM,EE] at hJ
  exact hJ
noncomputable def f65_e (k:Nat) (Q:Ff65_aiirrzi) (d c:Int) (a:List Int) (b:List T50) (e:Int):Option R65 :=
 cond ((e==0))
  (some (.o0 false))
  (
   Option.bind (f72 k d c a b) fun o2 =>
    match o2 with
    | .o0 g =>
     cond ((!g))
      (some (.o0 false))
      (
       cond ((decide (((List.length a):Int)>512)))
        (some (.o0 false))
        (
         cond ((decide (((List.length b):Int)>64)))
          (some (.o0 false))
          (
           cond ((d==3))
            (
             Option.bind (f49 k a) fun o10 =>
              match o10 with
              | .o0 f =>
               cond ((!f))
                (some (.o0 false))
                (f65_j1 k Q e false d c a b))
            (f65_j1 k Q e false d c a b)))))
theorem f65_e_ok (k:Nat) (Q:Ff65_aiirrzi) (H:If65_aiirrzi k Q) (j c:Int) (b:List Int) (d:List T50) (l:Int) (r:R65) (a:f65_e k Q j c b d l=some r):finK Tryd.prog Tryd.f65 0 (EX 65 k (nav B65 []) (⟨50,[(0,.agg [jI j,jL c,jB b,.sl 4 (rowsOf encT50 d)]),(1,jI l)],[]⟩:St))=some r.st:=by
 unfold f65_e at a
 simp (disch:=first|apply D;decide|apply K;kernel_rfl) only [W,simprocAttr,xk B65 [] .sq rfl,rg B65 [1] 0 false rfl,hr 65 0 rfl,xk B65 [2] .sq rfl,xk B65 [1,2] .sq rfl,rg B65 [1,1,2] 1 false rfl,hr 65 1 rfl]
 rcases cond_some a with ⟨g,a⟩ | ⟨g,a⟩
 ·cases a
  simp (disch:=first|apply D;decide|apply K;kernel_rfl) only [W,simprocAttr,xk B65 [2,1,2] (.cd 36) rfl,xk B65 [2,2,1,2] .sq rfl,rg B65 [1,2,2,1,2] 2 false rfl,hr 65 2 rfl,xk B65 [2,2,2,1,2] .rt rfl,fin65,R65.st,g]
 ·obtain ⟨o2,s,a⟩:=bs a
  have e:=f72_ok k j c b d _ s
  cases o2 with
  | o0 u =>
   (try dsimp only at a)
   (try simp only [NM,EE,R72.st] at e)
   simp (disch:=first|apply D;decide|apply K;kernel_rfl) only [W,simprocAttr,t_50,callStep,CL,gv,List.contains,g,e]
   rcases cond_some a with ⟨h,a⟩ | ⟨h,a⟩
   ·cases a
    simp (disch:=first|apply D;decide|apply K;kernel_rfl) only [W,simprocAttr,xk B65 [2,1,2] (.cd 36) rfl,xk B65 [2,2,1,2] .sq rfl,rg B65 [1,2,2,1,2] 2 false rfl,hr 65 2 rfl,xk B65 [2,2,2,1,2] .rt rfl,fin65,R65.st,g,e,h]
   ·simp (disch:=first|apply D;decide|apply K;kernel_rfl) only [W,simprocAttr,fieldAddrV,t_50,t_22,g,e,h]
    rcases cond_some a with ⟨i,a⟩ | ⟨i,a⟩
    ·cases a
     simp (disch:=first|apply D;decide|apply K;kernel_rfl) only [W,simprocAttr,xk B65 [2,1,2] (.cd 36) rfl,xk B65 [2,2,1,2] .sq rfl,rg B65 [1,2,2,1,2] 2 false rfl,hr 65 2 rfl,xk B65 [2,2,2,1,2] .rt rfl,fin65,R65.st,g,e,h,i]
    ·simp (disch:=first|apply D;decide|apply K;kernel_rfl) only [W,simprocAttr,fieldAddrV,t_50,t_48,g,e,h,i]
     rcases cond_some a with ⟨m,a⟩ | ⟨m,a⟩
     ·cases a
      simp (disch:=first|apply D;decide|apply K;kernel_rfl) only [W,simprocAttr,xk B65 [2,1,2] (.cd 36) rfl,xk B65 [2,2,1,2] .sq rfl,rg B65 [1,2,2,1,2] 2 false rfl,hr 65 2 rfl,xk B65 [2,2,2,1,2] .rt rfl,fin65,R65.st,g,e,h,i,m]
     ·simp (disch:=first|apply D;decide|apply K;kernel_rfl) only [W,simprocAttr,fieldAddrV,t_50,t_3,g,e,h,i,m]
      rcases cond_some a with ⟨p,a⟩ | ⟨p,a⟩
      ·obtain ⟨o10,q,a⟩:=bs a
       have f:=f49_ok k b _ q
       cases o10 with
       | o0 t =>
        (try dsimp only at a)
        (try simp only [NM,EE,R49.st] at f)
        simp (disch:=first|apply D;decide|apply K;kernel_rfl) only [W,simprocAttr,fieldAddrV,t_50,t_22,callStep,CL,gv,List.contains,xk B65 [2,1,2] (.cd 36) rfl,g,e,h,i,m,p,f]
        rcases cond_some a with ⟨o,a⟩ | ⟨o,a⟩
        ·cases a
         simp (disch:=first|apply D;decide|apply K;kernel_rfl) only [W,simprocAttr,xk B65 [2,2,1,2] .sq rfl,rg B65 [1,2,2,1,2] 2 false rfl,hr 65 2 rfl,xk B65 [2,2,2,1,2] .rt rfl,fin65,R65.st,g,e,h,i,m,p,f,o]
        ·have hJ:=f65_j1_ok k Q H l false j c b d _ a
         simp (disch:=first|apply D;decide|apply K;kernel_rfl) only [W,simprocAttr,xk B65 [3,2,1,2] .sk rfl,g,e,h,i,m,p,f,o]
         try simp only [NM,EE] at hJ
         exact hJ
      ·have hJ:=f65_j1_ok k Q H l false j c b d _ a
       simp (disch:=first|apply D;decide|apply K;kernel_rfl) only [W,simprocAttr,xk B65 [2,1,2] (.cd 36) rfl,xk B65 [3,2,1,2] .sk rfl,g,e,h,i,m,p]
       try simp only [NM,EE] at hJ
       exact hJ
noncomputable def f65:Nat→Int→Int→(List Int)→(List T50)→Int→Option R65
 | 0,_,_,_,_,_=>none
 | k+1,d,a,b,c,e=>f65_e k (f65 k) d a b c e
theorem f65_all (k:Nat):(∀ (e a:Int) (b:List Int) (d:List T50) (f:Int) (r:R65),f65 k e a b d f=some r→CV k 65 [.agg [jI e,jL a,jB b,.sl 4 (rowsOf encT50 d)],jI f] []=some r.st):=by
 induction k with
 | zero=>exact (by intro e a b d f r g;rw [f65] at g;cases g)
 | succ k h =>
  have ih_f65_aiirrzi:=h
  exact (by intro e a b d f r g;rw [f65] at g;unfold CV;rw [ev_call (F:=Tryd.f65) (c:=(nav B65 [])) rfl Tryd.func65 rfl rfl rfl rfl];exact f65_e_ok k (f65 k) ih_f65_aiirrzi e a b d f r g)
theorem f65_ok (k d a b c e r) (f:f65 k d a b c e=some r):CV k 65 [.agg [jI d,jL a,jB b,.sl 4 (rowsOf encT50 c)],jI e] []=some r.st:=f65_all k d a b c e r f
-- f50: f50 heliograph/cbor.Check
inductive R50 where
 | o0 (y:Int)
noncomputable def R50.st:R50→V×List O×List O
 | .o0 y=>((jI y),[],[])
noncomputable def f50_j1 (k:Nat) (a:Bool):Option R50 :=
 some (.o0 0)
theorem f50_j1_ok (k a r) (b:f50_j1 k a=some r):finK Tryd.prog Tryd.f50 0 (EX 50 k (nav B50 [2,2]) (⟨6,[(5,jT a)],[]⟩:St))=some r.st:=by
 unfold f50_j1 at b
 cases b
 simp (disch:=first|apply D;decide|apply K;kernel_rfl) only [W,simprocAttr,xk B50 [2,2] .sq rfl,rg B50 [1,2,2] 3 false rfl,hr 50 3 rfl,xk B50 [2,2,2] .rt rfl,fin50,R50.st]
noncomputable def f50_e (k:Nat) (d a:Int) (b:List Int) (c:List T50):Option R50 :=
 Option.bind (f65 k d a b c 4) fun o1 =>
  match o1 with
  | .o0 e =>
   cond ((!e))
    (some (.o0 170))
    (f50_j1 k false)
theorem f50_e_ok (k f a b c r) (d:f50_e k f a b c=some r):finK Tryd.prog Tryd.f50 0 (EX 50 k (nav B50 []) (⟨6,[(0,.agg [jI f,jL a,jB b,.sl 4 (rowsOf encT50 c)])],[]⟩:St))=some r.st:=by
 unfold f50_e at d
 obtain ⟨o1,h,d⟩:=bs d
 have e:=f65_ok k f a b c 4 _ h
 cases o1 with
 | o0 i =>
  (try dsimp only at d)
  (try simp only [NM,EE,R65.st] at e)
  simp (disch:=first|apply D;decide|apply K;kernel_rfl) only [W,simprocAttr,xk B50 [] .sq rfl,rg B50 [1] 0 false rfl,hr 50 0 rfl,xk B50 [2] .sq rfl,xk B50 [1,2] .sq rfl,rg B50 [1,1,2] 1 false rfl,hr 50 1 rfl,t_50,callStep,CL,gv,List.contains,xk B50 [2,1,2] (.cd 5) rfl,e]
  rcases cond_some d with ⟨g,d⟩ | ⟨g,d⟩
  ·cases d
   simp (disch:=first|apply D;decide|apply K;kernel_rfl) only [W,simprocAttr,xk B50 [2,2,1,2] .sq rfl,rg B50 [1,2,2,1,2] 2 false rfl,hr 50 2 rfl,xk B50 [2,2,2,1,2] .rt rfl,fin50,R50.st,e,g]
  ·have hJ:=f50_j1_ok k false _ d
   simp (disch:=first|apply D;decide|apply K;kernel_rfl) only [W,simprocAttr,xk B50 [3,2,1,2] .sk rfl,e,g]
   try simp only [NM,EE] at hJ
   exact hJ
noncomputable def f50 (k:Nat) (d a:Int) (b:List Int) (c:List T50):Option R50:=match k with | 0=>none | k+1=>f50_e k d a b c
theorem f50_ok (k e a b d r) (f:f50 k e a b d=some r):CV k 50 [.agg [jI e,jL a,jB b,.sl 4 (rowsOf encT50 d)]] []=some r.st:=by
 cases k with
 | zero=>cases f
 | succ k =>
  unfold CV
  rw [ev_call (F:=Tryd.f50) (c:=(nav B50 [])) rfl Tryd.func50 rfl rfl rfl rfl]
  exact f50_e_ok k e a b d r f
-- f66: f66 heliograph/cbor.types
inductive R66 where
 | o0 (y:Int)
noncomputable def R66.st:R66→V×List O×List O
 | .o0 y=>(.p (.int .u8 y),[],[])
noncomputable def f66_e (k:Nat) (a:Int):Option R66 :=
 ifE ((0:Int)≤a) (
  ifE (a<5) (
   Option.bind (([0,0,2,3,4]:List Int)[(Int.toNat a)]?) fun b =>
    some (.o0 b)))
theorem f66_e_ok (k b r) (a:f66_e k b=some r):finK Tryd.prog Tryd.f66 0 (EX 66 k (nav B66 []) (⟨6,[(0,jI b)],[]⟩:St))=some r.st:=by
 unfold f66_e at a
 have c:[.p (.int .u8 0),.p (.int .u8 0),.p (.int .u8 2),.p (.int .u8 3),.p (.int .u8 4)]=arrC (cI .u8) ([0,0,2,3,4]:List Int):=rfl
 have d:overlay (arrC (cI .u8) ([0,0,2,3,4]:List Int)) 0 [.p (.int .u8 0)]=arrC (cI .u8) ([0,0,2,3,4]:List Int):=rfl
 have e:overlay (arrC (cI .u8) ([0,0,2,3,4]:List Int)) 1 [.p (.int .u8 0)]=arrC (cI .u8) ([0,0,2,3,4]:List Int):=rfl
 obtain ⟨f,a⟩:=ifE_some.1 a
 obtain ⟨g,a⟩:=ifE_some.1 a
 obtain ⟨i,h,a⟩:=bs a
 cases a
 simp (disch:=first|apply D;decide|apply K;kernel_rfl) only [W,simprocAttr,xk B66 [] .sq rfl,rg B66 [1] 0 false rfl,hr 66 0 rfl,xk B66 [2] .sq rfl,rg B66 [1,2] 1 false rfl,hr 66 1 rfl,bl_109,t_109,arrIdxV,t_5,xk B66 [2,2] .rt rfl,fin66,R66.st,c,d,e,f,g,h]
noncomputable def f66 (k:Nat) (a:Int):Option R66:=match k with | 0=>none | k+1=>f66_e k a
theorem f66_ok (k a r) (b:f66 k a=some r):CV k 66 [jI a] []=some r.st:=by
 cases k with
 | zero=>cases b
 | succ k =>
  unfold CV
  rw [ev_call (F:=Tryd.f66) (c:=(nav B66 [])) rfl Tryd.func66 rfl rfl rfl rfl]
  exact f66_e_ok k a r b
-- f76: f76 heliograph/octet.put
inductive R76 where
 | o0 (y a:List Int)
noncomputable def R76.st:R76→V×List O×List O
 | .o0 y a=>(.own 2000000,[.row false 1 5 (rowsOf (encI .u8) y)],[.row true 1 5 (rowsOf (encI .u8) a)])
inductive R76_l1 where
 | o0 (y a:Int) (b c:List Int)
 | o1 (y a:Int) (b:Bool) (c d:List Int)
noncomputable def R76_l1.st:R76_l1→Out×St
 | .o0 y a b c=>(.norm,(⟨25,[(0,.own 23),(1,jL y),(7,jI a)],[(23,.row true 1 5 (rowsOf (encI .u8) b)),(1000000,.row false 1 5 (rowsOf (encI .u8) c))]⟩:St))
 | .o1 y a b c d=>(.exit 0,(⟨25,[(0,.own 30000),(1,jL y),(7,jI a),(13,jT b)],[(30000,.row true 1 5 (rowsOf (encI .u8) c)),(1000000,.row false 1 5 (rowsOf (encI .u8) d))]⟩:St))
noncomputable def f76_l1_j2 (k:Nat) (b c:Int) (a d:List Int):Option R76_l1 :=
 some (.o0 b (IntKind.i64.wrap (c - (1:Int))) a d)
theorem f76_l1_j2_ok (k b c a d r) (e:f76_l1_j2 k b c a d=some r):EX 76 k (nav B76 [2,2,1,2,2,1,2,2]) (⟨25,[(0,.own 23),(1,jL b),(7,jI c)],[(23,.row true 1 5 (rowsOf (encI .u8) a)),(1000000,.row false 1 5 (rowsOf (encI .u8) d))]⟩:St)=some r.st:=by
 unfold f76_l1_j2 at e
 cases e
 simp (disch:=first|apply D;decide|apply K;kernel_rfl) only [W,simprocAttr,rg B76 [2,2,1,2,2,1,2,2] 4 false rfl,hr 76 4 rfl,R76_l1.st]
noncomputable def f76_l1_j1 (k:Nat) (c b:Int) (d:Bool) (a e:List Int):Option R76_l1 :=
 ifE (¬(IntKind.i64.wrap ((8:Int) * b))<0) (
  ifE (((List.length a)+1)≤roomy) (
   f76_l1_j2 k c b ((a++([(IntKind.u8.wrap (Int.fdiv c (2 ^ (min (Int.toNat (IntKind.i64.wrap ((8:Int) * b))) (IntKind.bits .u64)))))]:List Int))) e))
theorem f76_l1_j1_ok (k a b e c f r) (d:f76_l1_j1 k a b e c f=some r):EX 76 k (nav B76 [2,1,2,2,1,2,2]) (⟨25,[(0,.own 30000),(1,jL a),(7,jI b),(13,jT e)],[(30000,.row true 1 5 (rowsOf (encI .u8) c)),(1000000,.row false 1 5 (rowsOf (encI .u8) f))]⟩:St)=some r.st:=by
 unfold f76_l1_j1 at d
 obtain ⟨g,d⟩:=ifE_some.1 d
 have h:[[.p (.int .u8 (IntKind.u8.wrap (Int.fdiv a (2 ^ (min (Int.toNat (IntKind.i64.wrap ((8:Int) * b))) (IntKind.bits .u64))))))]]=rowsOf (encI .u8) ([(IntKind.u8.wrap (Int.fdiv a (2 ^ (min (Int.toNat (IntKind.i64.wrap ((8:Int) * b))) (IntKind.bits .u64)))))]:List Int):=rfl
 have i:List.map (tell [0]) (rowsOf (encI .u8) ([(IntKind.u8.wrap (Int.fdiv a (2 ^ (min (Int.toNat (IntKind.i64.wrap ((8:Int) * b))) (IntKind.bits .u64)))))]:List Int))=rowsOf (encI .u8) ([(IntKind.u8.wrap (Int.fdiv a (2 ^ (min (Int.toNat (IntKind.i64.wrap ((8:Int) * b))) (IntKind.bits .u64)))))]:List Int):=rfl
 obtain ⟨j,d⟩:=ifE_some.1 d
 have hJ:=f76_l1_j2_ok k a b ((c++([(IntKind.u8.wrap (Int.fdiv a (2 ^ (min (Int.toNat (IntKind.i64.wrap ((8:Int) * b))) (IntKind.bits .u64)))))]:List Int))) f _ d
 simp (disch:=first|apply D;decide|apply K;kernel_rfl) only [W,simprocAttr,xk B76 [2,1,2,2,1,2,2] .sq rfl,xk B76 [1,2,1,2,2,1,2,2] (.bk 1) rfl,rg B76 [2,1,2,1,2,2,1,2,2] 5 false rfl,hr 76 5 rfl,shiftV,t_47,t_5,convV,buildSliceV,fillRows,sm_5,t_22,appendV,content,g,h,i,j]
 try simp only [NM,EE] at hJ
 exact hJ
noncomputable def f76_l1_b (k:Nat) (c b:Int) (a d:List Int):Option R76_l1 :=
 cond ((decide (b≥0)))
  (f76_l1_j1 k c b true a d)
  (some (.o1 c b false a d))
theorem f76_l1_b_ok (k c d a e r) (b:f76_l1_b k c d a e=some r):EX 76 k (nav B76 [1,2,2,1,2,2]) (⟨25,[(0,.own 30000),(1,jL c),(7,jI d)],[(30000,.row true 1 5 (rowsOf (encI .u8) a)),(1000000,.row false 1 5 (rowsOf (encI .u8) e))]⟩:St)=some r.st:=by
 unfold f76_l1_b at b
 simp (disch:=first|apply D;decide|apply K;kernel_rfl) only [W,simprocAttr,xk B76 [1,2,2,1,2,2] .sq rfl,xk B76 [1,1,2,2,1,2,2] .sq rfl,rg B76 [1,1,1,2,2,1,2,2] 3 false rfl,hr 76 3 rfl,xk B76 [2,1,1,2,2,1,2,2] (.cd 13) rfl]
 rcases cond_some b with ⟨f,b⟩ | ⟨f,b⟩
 ·have hJ:=f76_l1_j1_ok k c d true a e _ b
  simp (disch:=first|apply D;decide|apply K;kernel_rfl) only [W,simprocAttr,xk B76 [2,2,1,1,2,2,1,2,2] .sk rfl,f]
  try simp only [NM,EE] at hJ
  exact hJ
 ·cases b
  simp (disch:=first|apply D;decide|apply K;kernel_rfl) only [W,simprocAttr,xk B76 [3,2,1,1,2,2,1,2,2] (.ex 0) rfl,R76_l1.st,f]
noncomputable def f76_l1 (k:Nat):Nat→Int→Int→(List Int)→(List Int)→Option R76_l1
 | 0,_,_,_,_=>none
 | n+1,f,g,d,h=>Option.bind (f76_l1_b k f g d h) fun o =>
  match o with
  | .o0 y a b c=>f76_l1 k n y a b c
  | .o1 y a b c e=>some (.o1 y a b c e)
theorem f76_l1_ok (k n:Nat):∀ (c d:Int) (a e:List Int) (r:R76_l1) (b:f76_l1 k n c d a e=some r) (σ:St) (hσ:headR (hints.head 76 3) (hints.canon 76 3) σ=some (⟨25,[(0,.own 30000),(1,jL c),(7,jI d)],[(30000,.row true 1 5 (rowsOf (encI .u8) a)),(1000000,.row false 1 5 (rowsOf (encI .u8) e))]⟩:St)),LP 76 k (nav B76 [1,2,2,1,2,2]) n σ=some r.st:=by
 induction n with
 | zero=>intro c d a e r b;cases b
 | succ n j =>
  intro c d a e r b σ hσ
  rw [f76_l1] at b
  obtain ⟨o,h,b⟩:=Option.bind_eq_some_iff.1 b
  have hB:=f76_l1_b_ok k c d a e o h
  unfold LP at j ⊢
  unfold EX at hB
  rw [loopK_succ,show firstReg (nav B76 [1,2,2,1,2,2])=3 from rfl,hσ,headK_some,hB]
  cases o with
  | o0 y f g i =>
   refine j y f g i r b _ ?_
   simp (disch:=first|apply D;decide|apply K;kernel_rfl) only [W,simprocAttr,hh_76_3,hc_76_3]
  | o1 y f g i l=>cases b;rfl
noncomputable def f76_j2 (k:Nat) (d e:Int) (b:Bool) (a c:List Int):Option R76 :=
 some (.o0 c a)
theorem f76_j2_ok (k c d a b e r) (f:f76_j2 k c d a b e=some r):finK Tryd.prog Tryd.f76 1 (EX 76 k (nav B76 [2,2,2]) (⟨25,[(0,.own 30000),(1,jL c),(7,jI d),(13,jT a)],[(30000,.row true 1 5 (rowsOf (encI .u8) b)),(1000000,.row false 1 5 (rowsOf (encI .u8) e))]⟩:St))=some r.st:=by
 unfold f76_j2 at f
 cases f
 simp (disch:=first|apply D;decide|apply K;kernel_rfl) only [W,simprocAttr,xk B76 [2,2,2] .sq rfl,rg B76 [1,2,2,2] 6 false rfl,hr 76 6 rfl,xk B76 [2,2,2,2] .rt rfl,fin76,R76.st]
noncomputable def f76_e (k:Nat) (e f:Int) (d:List Int):Option R76 :=
 Option.bind (f53 k d) fun o1 =>
  match o1 with
  | .o0 g =>
   Option.bind (f76_l1 k k e (IntKind.i64.wrap (f - (1:Int))) g d) fun o5 =>
    match o5 with
    | .o0 _ _ _ _ =>
     none
    | .o1 h i a b c =>
     f76_j2 k h i a b c
theorem f76_e_ok (k e f d r) (a:f76_e k e f d=some r):finK Tryd.prog Tryd.f76 1 (EX 76 k (nav B76 []) (⟨25,[(0,.own 1000000),(1,jL e),(2,jI f)],[(1000000,.row true 1 5 (rowsOf (encI .u8) d))]⟩:St))=some r.st:=by
 unfold f76_e at a
 obtain ⟨o1,j,a⟩:=bs a
 have b:=f53_ok k d _ j
 cases o1 with
 | o0 l =>
  (try dsimp only at a)
  (try simp only [NM,EE,R53.st] at b)
  obtain ⟨o5,m,a⟩:=bs a
  have c:=f76_l1_ok k k e (IntKind.i64.wrap (f - (1:Int))) l d _ m
  simp (disch:=first|apply D;decide|apply K;kernel_rfl) only [W,simprocAttr,xk B76 [] .sq rfl,rg B76 [1] 0 false rfl,hr 76 0 rfl,xk B76 [2] .sq rfl,rg B76 [1,2] 1 false rfl,hr 76 1 rfl,callStep,CL,gv,List.contains,xk B76 [2,2] .sq rfl,xk B76 [1,2,2] .sq rfl,rg B76 [1,1,2,2] 2 false rfl,hr 76 2 rfl,xk B76 [2,1,2,2] (.bk 0) rfl,xk B76 [2,2,1,2,2] .lp rfl,hh_76_3,hc_76_3,b]
  (try simp only [NM,EE] at c)
  rw [c _ (by simp (disch:=first|apply D;decide|apply K;kernel_rfl) only [W,simprocAttr,hh_76_3,hc_76_3,b])]
  clear c
  cases o5 with
  | o0 _ _ _ _ =>
   (try dsimp only at a)
   cases a
  | o1 o p g h i =>
   (try dsimp only at a)
   have hJ:=f76_j2_ok k o p g h i _ a
   simp (disch:=first|apply D;decide|apply K;kernel_rfl) only [W,simprocAttr,R76_l1.st,b]
   try simp only [NM,EE] at hJ
   exact hJ
noncomputable def f76 (k:Nat) (a b:Int) (c:List Int):Option R76:=match k with | 0=>none | k+1=>f76_e k a b c
theorem f76_ok (k a b d r) (e:f76 k a b d=some r):CV k 76 [.own 1000000,jL a,jI b] [.row true 1 5 (rowsOf (encI .u8) d)]=some r.st:=by
 cases k with
 | zero=>cases e
 | succ k =>
  unfold CV
  rw [ev_call (F:=Tryd.f76) (c:=(nav B76 [])) rfl Tryd.func76 rfl rfl rfl rfl]
  exact f76_e_ok k a b d r e
-- f73: f73 heliograph/octet.Put16
inductive R73 where
 | o0 (y a:List Int)
noncomputable def R73.st:R73→V×List O×List O
 | .o0 y a=>(.own 2000000,[.row false 1 5 (rowsOf (encI .u8) y)],[.row true 1 5 (rowsOf (encI .u8) a)])
noncomputable def f73_e (k:Nat) (a:Int) (b:List Int):Option R73 :=
 Option.bind (f76 k (IntKind.u64.wrap a) 2 b) fun o1 =>
  match o1 with
  | .o0 c d =>
   some (.o0 c d)
theorem f73_e_ok (k c d r) (a:f73_e k c d=some r):finK Tryd.prog Tryd.f73 1 (EX 73 k (nav B73 []) (⟨9,[(0,.own 1000000),(1,.p (.int .u16 c))],[(1000000,.row true 1 5 (rowsOf (encI .u8) d))]⟩:St))=some r.st:=by
 unfold f73_e at a
 obtain ⟨o1,e,a⟩:=bs a
 have b:=f76_ok k (IntKind.u64.wrap c) 2 d _ e
 cases o1 with
 | o0 f g =>
  (try dsimp only at a)
  (try simp only [NM,EE,R76.st] at b)
  cases a
  simp (disch:=first|apply D;decide|apply K;kernel_rfl) only [W,simprocAttr,xk B73 [] .sq rfl,rg B73 [1] 0 false rfl,hr 73 0 rfl,xk B73 [2] .sq rfl,rg B73 [1,2] 1 false rfl,hr 73 1 rfl,t_80,t_47,convV,callStep,CL,gv,List.contains,xk B73 [2,2] .rt rfl,fin73,R73.st,b]
noncomputable def f73 (k:Nat) (a:Int) (b:List Int):Option R73:=match k with | 0=>none | k+1=>f73_e k a b
theorem f73_ok (k a b r) (d:f73 k a b=some r):CV k 73 [.own 1000000,.p (.int .u16 a)] [.row true 1 5 (rowsOf (encI .u8) b)]=some r.st:=by
 cases k with
 | zero=>cases d
 | succ k =>
  unfold CV
  rw [ev_call (F:=Tryd.f73) (c:=(nav B73 [])) rfl Tryd.func73 rfl rfl rfl rfl]
  exact f73_e_ok k a b r d
-- f74: f74 heliograph/octet.Put32
inductive R74 where
 | o0 (y a:List Int)
noncomputable def R74.st:R74→V×List O×List O
 | .o0 y a=>(.own 2000000,[.row false 1 5 (rowsOf (encI .u8) y)],[.row true 1 5 (rowsOf (encI .u8) a)])
noncomputable def f74_e (k:Nat) (a:Int) (b:List Int):Option R74 :=
 Option.bind (f76 k (IntKind.u64.wrap a) 4 b) fun o1 =>
  match o1 with
  | .o0 c d =>
   some (.o0 c d)
theorem f74_e_ok (k c d r) (a:f74_e k c d=some r):finK Tryd.prog Tryd.f74 1 (EX 74 k (nav B74 []) (⟨9,[(0,.own 1000000),(1,jU c)],[(1000000,.row true 1 5 (rowsOf (encI .u8) d))]⟩:St))=some r.st:=by
 unfold f74_e at a
 obtain ⟨o1,e,a⟩:=bs a
 have b:=f76_ok k (IntKind.u64.wrap c) 4 d _ e
 cases o1 with
 | o0 f g =>
  (try dsimp only at a)
  (try simp only [NM,EE,R76.st] at b)
  cases a
  simp (disch:=first|apply D;decide|apply K;kernel_rfl) only [W,simprocAttr,xk B74 [] .sq rfl,rg B74 [1] 0 false rfl,hr 74 0 rfl,xk B74 [2] .sq rfl,rg B74 [1,2] 1 false rfl,hr 74 1 rfl,t_24,t_47,convV,callStep,CL,gv,List.contains,xk B74 [2,2] .rt rfl,fin74,R74.st,b]
noncomputable def f74 (k:Nat) (a:Int) (b:List Int):Option R74:=match k with | 0=>none | k+1=>f74_e k a b
theorem f74_ok (k a b r) (d:f74 k a b=some r):CV k 74 [.own 1000000,jU a] [.row true 1 5 (rowsOf (encI .u8) b)]=some r.st:=by
 cases k with
 | zero=>cases d
 | succ k =>
  unfold CV
  rw [ev_call (F:=Tryd.f74) (c:=(nav B74 [])) rfl Tryd.func74 rfl rfl rfl rfl]
  exact f74_e_ok k a b r d
-- f75: f75 heliograph/octet.Put64
inductive R75 where
 | o0 (y a:List Int)
noncomputable def R75.st:R75→V×List O×List O
 | .o0 y a=>(.own 2000000,[.row false 1 5 (rowsOf (encI .u8) y)],[.row true 1 5 (rowsOf (encI .u8) a)])
noncomputable def f75_e (k:Nat) (a:Int) (b:List Int):Option R75 :=
 Option.bind (f76 k a 8 b) fun o1 =>
  match o1 with
  | .o0 c d =>
   some (.o0 c d)
theorem f75_e_ok (k c d r) (a:f75_e k c d=some r):finK Tryd.prog Tryd.f75 1 (EX 75 k (nav B75 []) (⟨8,[(0,.own 1000000),(1,jL c)],[(1000000,.row true 1 5 (rowsOf (encI .u8) d))]⟩:St))=some r.st:=by
 unfold f75_e at a
 obtain ⟨o1,e,a⟩:=bs a
 have b:=f76_ok k c 8 d _ e
 cases o1 with
 | o0 f g =>
  (try dsimp only at a)
  (try simp only [NM,EE,R76.st] at b)
  cases a
  simp (disch:=first|apply D;decide|apply K;kernel_rfl) only [W,simprocAttr,xk B75 [] .sq rfl,rg B75 [1] 0 false rfl,hr 75 0 rfl,xk B75 [2] .sq rfl,rg B75 [1,2] 1 false rfl,hr 75 1 rfl,callStep,CL,gv,List.contains,xk B75 [2,2] .rt rfl,fin75,R75.st,b]
noncomputable def f75 (k:Nat) (a:Int) (b:List Int):Option R75:=match k with | 0=>none | k+1=>f75_e k a b
theorem f75_ok (k a b r) (d:f75 k a b=some r):CV k 75 [.own 1000000,jL a] [.row true 1 5 (rowsOf (encI .u8) b)]=some r.st:=by
 cases k with
 | zero=>cases d
 | succ k =>
  unfold CV
  rw [ev_call (F:=Tryd.f75) (c:=(nav B75 [])) rfl Tryd.func75 rfl rfl rfl rfl]
  exact f75_e_ok k a b r d
-- f67: f67 heliograph/cbor.head
inductive R67 where
 | o0 (y:List Int)
noncomputable def R67.st:R67→V×List O×List O
 | .o0 y=>(.own 2000000,[.dead],[.row true 1 5 (rowsOf (encI .u8) y)])
noncomputable def f67_j1 (k:Nat) (b c:Int) (d:Bool) (a:List Int):Option R67 :=
 ifE (((List.length a)+1)≤roomy) (
  Option.bind (f75 k c ((a++([(IntKind.u8.wrap ((BitVec.ofInt (IntKind.bits .u8) b ||| BitVec.ofInt (IntKind.bits .u8) (27:Int)).toNat:Nat))]:List Int)))) fun o4 =>
   match o4 with
   | .o0 f e =>
    some (.o0 e))
theorem f67_j1_ok (k a e c f r) (b:f67_j1 k a e c f=some r):finK Tryd.prog Tryd.f67 1 (EX 67 k (nav B67 [2,2,2]) (⟨58,[(0,.own 1000000),(1,.p (.int .u8 a)),(2,jL e),(40,jT c)],[(1000000,.row true 1 5 (rowsOf (encI .u8) f))]⟩:St))=some r.st:=by
 unfold f67_j1 at b
 have g:[[.p (.int .u8 (IntKind.u8.wrap ((BitVec.ofInt (IntKind.bits .u8) a ||| BitVec.ofInt (IntKind.bits .u8) (27:Int)).toNat:Nat)))]]=rowsOf (encI .u8) ([(IntKind.u8.wrap ((BitVec.ofInt (IntKind.bits .u8) a ||| BitVec.ofInt (IntKind.bits .u8) (27:Int)).toNat:Nat))]:List Int):=rfl
 have h:List.map (tell [0]) (rowsOf (encI .u8) ([(IntKind.u8.wrap ((BitVec.ofInt (IntKind.bits .u8) a ||| BitVec.ofInt (IntKind.bits .u8) (27:Int)).toNat:Nat))]:List Int))=rowsOf (encI .u8) ([(IntKind.u8.wrap ((BitVec.ofInt (IntKind.bits .u8) a ||| BitVec.ofInt (IntKind.bits .u8) (27:Int)).toNat:Nat))]:List Int):=rfl
 obtain ⟨i,b⟩:=ifE_some.1 b
 obtain ⟨o4,j,b⟩:=bs b
 have d:=f75_ok k e ((f++([(IntKind.u8.wrap ((BitVec.ofInt (IntKind.bits .u8) a ||| BitVec.ofInt (IntKind.bits .u8) (27:Int)).toNat:Nat))]:List Int))) _ j
 cases o4 with
 | o0 l m =>
  (try dsimp only at b)
  (try simp only [NM,EE,R75.st] at d)
  cases b
  simp (disch:=first|apply D;decide|apply K;kernel_rfl) only [W,simprocAttr,xk B67 [2,2,2] .sq rfl,rg B67 [1,2,2,2] 10 false rfl,hr 67 10 rfl,buildSliceV,fillRows,sm_5,t_22,t_5,appendV,content,callStep,CL,gv,List.contains,xk B67 [2,2,2,2] .rt rfl,fin67,R67.st,g,h,i,d]
noncomputable def f67_e (k:Nat) (c a:Int) (b:List Int):Option R67 :=
 cond ((decide (a<24)))
  (
   ifE (((List.length b)+1)≤roomy) (
    some (.o0 ((b++([(IntKind.u8.wrap ((BitVec.ofInt (IntKind.bits .u8) (IntKind.u8.wrap (c * 2 ^ (min 5 (IntKind.bits .u8)))) ||| BitVec.ofInt (IntKind.bits .u8) (IntKind.u8.wrap a)).toNat:Nat))]:List Int))))))
  (
   cond ((decide (a<256)))
    (
     ifE (((List.length b)+2)≤roomy) (
      some (.o0 ((b++([(IntKind.u8.wrap ((BitVec.ofInt (IntKind.bits .u8) (IntKind.u8.wrap (c * 2 ^ (min 5 (IntKind.bits .u8)))) ||| BitVec.ofInt (IntKind.bits .u8) (24:Int)).toNat:Nat)),(IntKind.u8.wrap a)]:List Int))))))
    (
     cond ((decide (a<65536)))
      (
       ifE (((List.length b)+1)≤roomy) (
        Option.bind (f73 k (IntKind.u16.wrap a) ((b++([(IntKind.u8.wrap ((BitVec.ofInt (IntKind.bits .u8) (IntKind.u8.wrap (c * 2 ^ (min 5 (IntKind.bits .u8)))) ||| BitVec.ofInt (IntKind.bits .u8) (25:Int)).toNat:Nat))]:List Int)))) fun o13 =>
         match o13 with
         | .o0 f d =>
          some (.o0 d)))
      (
       cond ((decide (a<4294967296)))
        (
         ifE (((List.length b)+1)≤roomy) (
          Option.bind (f74 k (IntKind.u32.wrap a) ((b++([(IntKind.u8.wrap ((BitVec.ofInt (IntKind.bits .u8) (IntKind.u8.wrap (c * 2 ^ (min 5 (IntKind.bits .u8)))) ||| BitVec.ofInt (IntKind.bits .u8) (26:Int)).toNat:Nat))]:List Int)))) fun o22 =>
           match o22 with
           | .o0 g e =>
            some (.o0 e)))
        (f67_j1 k (IntKind.u8.wrap (c * 2 ^ (min 5 (IntKind.bits .u8)))) a false b))))
theorem f67_e_ok (k b c i r) (a:f67_e k b c i=some r):finK Tryd.prog Tryd.f67 1 (EX 67 k (nav B67 []) (⟨58,[(0,.own 1000000),(1,.p (.int .u8 b)),(2,jL c)],[(1000000,.row true 1 5 (rowsOf (encI .u8) i))]⟩:St))=some r.st:=by
 unfold f67_e at a
 simp (disch:=first|apply D;decide|apply K;kernel_rfl) only [W,simprocAttr,xk B67 [] .sq rfl,rg B67 [1] 0 false rfl,hr 67 0 rfl,xk B67 [2] .sq rfl,rg B67 [1,2] 1 false rfl,hr 67 1 rfl,shiftV,xk B67 [2,2] .sq rfl,xk B67 [1,2,2] (.bk 0) rfl,xk B67 [2,1,2,2] .sq rfl,rg B67 [1,2,1,2,2] 2 false rfl,hr 67 2 rfl,xk B67 [2,2,1,2,2] (.cd 9) rfl]
 rcases cond_some a with ⟨d,a⟩ | ⟨d,a⟩
 ·have v:[[.p (.int .u8 (IntKind.u8.wrap ((BitVec.ofInt (IntKind.bits .u8) (IntKind.u8.wrap (b * 2 ^ (min 5 (IntKind.bits .u8)))) ||| BitVec.ofInt (IntKind.bits .u8) (IntKind.u8.wrap c)).toNat:Nat)))]]=rowsOf (encI .u8) ([(IntKind.u8.wrap ((BitVec.ofInt (IntKind.bits .u8) (IntKind.u8.wrap (b * 2 ^ (min 5 (IntKind.bits .u8)))) ||| BitVec.ofInt (IntKind.bits .u8) (IntKind.u8.wrap c)).toNat:Nat))]:List Int):=rfl
  have w:List.map (tell [0]) (rowsOf (encI .u8) ([(IntKind.u8.wrap ((BitVec.ofInt (IntKind.bits .u8) (IntKind.u8.wrap (b * 2 ^ (min 5 (IntKind.bits .u8)))) ||| BitVec.ofInt (IntKind.bits .u8) (IntKind.u8.wrap c)).toNat:Nat))]:List Int))=rowsOf (encI .u8) ([(IntKind.u8.wrap ((BitVec.ofInt (IntKind.bits .u8) (IntKind.u8.wrap (b * 2 ^ (min 5 (IntKind.bits .u8)))) ||| BitVec.ofInt (IntKind.bits .u8) (IntKind.u8.wrap c)).toNat:Nat))]:List Int):=rfl
  obtain ⟨x,a⟩:=ifE_some.1 a
  cases a
  simp (disch:=first|apply D;decide|apply K;kernel_rfl) only [W,simprocAttr,xk B67 [2,2,2,1,2,2] .sq rfl,rg B67 [1,2,2,2,1,2,2] 3 false rfl,hr 67 3 rfl,t_47,t_5,convV,buildSliceV,fillRows,sm_5,t_22,appendV,content,xk B67 [2,2,2,2,1,2,2] .rt rfl,fin67,R67.st,d,v,w,x]
 ·simp (disch:=first|apply D;decide|apply K;kernel_rfl) only [W,simprocAttr,xk B67 [3,2,2,1,2,2] .sq rfl,rg B67 [1,3,2,2,1,2,2] 4 false rfl,hr 67 4 rfl,xk B67 [2,3,2,2,1,2,2] (.cd 19) rfl,d]
  rcases cond_some a with ⟨g,a⟩ | ⟨g,a⟩
  ·have y:[[.p (.int .u8 (IntKind.u8.wrap ((BitVec.ofInt (IntKind.bits .u8) (IntKind.u8.wrap (b * 2 ^ (min 5 (IntKind.bits .u8)))) ||| BitVec.ofInt (IntKind.bits .u8) (24:Int)).toNat:Nat)))],[.p (.int .u8 (IntKind.u8.wrap c))]]=rowsOf (encI .u8) ([(IntKind.u8.wrap ((BitVec.ofInt (IntKind.bits .u8) (IntKind.u8.wrap (b * 2 ^ (min 5 (IntKind.bits .u8)))) ||| BitVec.ofInt (IntKind.bits .u8) (24:Int)).toNat:Nat)),(IntKind.u8.wrap c)]:List Int):=rfl
   have z:List.map (tell [0]) (rowsOf (encI .u8) ([(IntKind.u8.wrap ((BitVec.ofInt (IntKind.bits .u8) (IntKind.u8.wrap (b * 2 ^ (min 5 (IntKind.bits .u8)))) ||| BitVec.ofInt (IntKind.bits .u8) (24:Int)).toNat:Nat)),(IntKind.u8.wrap c)]:List Int))=rowsOf (encI .u8) ([(IntKind.u8.wrap ((BitVec.ofInt (IntKind.bits .u8) (IntKind.u8.wrap (b * 2 ^ (min 5 (IntKind.bits .u8)))) ||| BitVec.ofInt (IntKind.bits .u8) (24:Int)).toNat:Nat)),(IntKind.u8.wrap c)]:List Int):=rfl
   obtain ⟨n,a⟩:=ifE_some.1 a
   cases a
   simp (disch:=first|apply D;decide|apply K;kernel_rfl) only [W,simprocAttr,xk B67 [2,2,3,2,2,1,2,2] .sq rfl,rg B67 [1,2,2,3,2,2,1,2,2] 5 false rfl,hr 67 5 rfl,t_47,t_5,convV,buildSliceV,fillRows,sm_5,t_22,appendV,content,xk B67 [2,2,2,3,2,2,1,2,2] .rt rfl,fin67,R67.st,d,g,y,z,n]
  ·simp (disch:=first|apply D;decide|apply K;kernel_rfl) only [W,simprocAttr,xk B67 [3,2,3,2,2,1,2,2] .sq rfl,rg B67 [1,3,2,3,2,2,1,2,2] 6 false rfl,hr 67 6 rfl,xk B67 [2,3,2,3,2,2,1,2,2] (.cd 29) rfl,d,g]
   rcases cond_some a with ⟨j,a⟩ | ⟨j,a⟩
   ·have l:[[.p (.int .u8 (IntKind.u8.wrap ((BitVec.ofInt (IntKind.bits .u8) (IntKind.u8.wrap (b * 2 ^ (min 5 (IntKind.bits .u8)))) ||| BitVec.ofInt (IntKind.bits .u8) (25:Int)).toNat:Nat)))]]=rowsOf (encI .u8) ([(IntKind.u8.wrap ((BitVec.ofInt (IntKind.bits .u8) (IntKind.u8.wrap (b * 2 ^ (min 5 (IntKind.bits .u8)))) ||| BitVec.ofInt (IntKind.bits .u8) (25:Int)).toNat:Nat))]:List Int):=rfl
    have m:List.map (tell [0]) (rowsOf (encI .u8) ([(IntKind.u8.wrap ((BitVec.ofInt (IntKind.bits .u8) (IntKind.u8.wrap (b * 2 ^ (min 5 (IntKind.bits .u8)))) ||| BitVec.ofInt (IntKind.bits .u8) (25:Int)).toNat:Nat))]:List Int))=rowsOf (encI .u8) ([(IntKind.u8.wrap ((BitVec.ofInt (IntKind.bits .u8) (IntKind.u8.wrap (b * 2 ^ (min 5 (IntKind.bits .u8)))) ||| BitVec.ofInt (IntKind.bits .u8) (25:Int)).toNat:Nat))]:List Int):=rfl
    obtain ⟨o,a⟩:=ifE_some.1 a
    obtain ⟨o13,p,a⟩:=bs a
    have e:=f73_ok k (IntKind.u16.wrap c) ((i++([(IntKind.u8.wrap ((BitVec.ofInt (IntKind.bits .u8) (IntKind.u8.wrap (b * 2 ^ (min 5 (IntKind.bits .u8)))) ||| BitVec.ofInt (IntKind.bits .u8) (25:Int)).toNat:Nat))]:List Int))) _ p
    cases o13 with
    | o0 aa ab =>
     (try dsimp only at a)
     (try simp only [NM,EE,R73.st] at e)
     cases a
     simp (disch:=first|apply D;decide|apply K;kernel_rfl) only [W,simprocAttr,xk B67 [2,2,3,2,3,2,2,1,2,2] .sq rfl,rg B67 [1,2,2,3,2,3,2,2,1,2,2] 7 false rfl,hr 67 7 rfl,buildSliceV,fillRows,sm_5,t_22,t_5,appendV,content,t_47,t_80,convV,callStep,CL,gv,List.contains,xk B67 [2,2,2,3,2,3,2,2,1,2,2] .rt rfl,fin67,R67.st,d,g,j,l,m,o,e]
   ·simp (disch:=first|apply D;decide|apply K;kernel_rfl) only [W,simprocAttr,xk B67 [3,2,3,2,3,2,2,1,2,2] .sq rfl,rg B67 [1,3,2,3,2,3,2,2,1,2,2] 8 false rfl,hr 67 8 rfl,xk B67 [2,3,2,3,2,3,2,2,1,2,2] (.cd 40) rfl,d,g,j]
    rcases cond_some a with ⟨h,a⟩ | ⟨h,a⟩
    ·have q:[[.p (.int .u8 (IntKind.u8.wrap ((BitVec.ofInt (IntKind.bits .u8) (IntKind.u8.wrap (b * 2 ^ (min 5 (IntKind.bits .u8)))) ||| BitVec.ofInt (IntKind.bits .u8) (26:Int)).toNat:Nat)))]]=rowsOf (encI .u8) ([(IntKind.u8.wrap ((BitVec.ofInt (IntKind.bits .u8) (IntKind.u8.wrap (b * 2 ^ (min 5 (IntKind.bits .u8)))) ||| BitVec.ofInt (IntKind.bits .u8) (26:Int)).toNat:Nat))]:List Int):=rfl
     have s:List.map (tell [0]) (rowsOf (encI .u8) ([(IntKind.u8.wrap ((BitVec.ofInt (IntKind.bits .u8) (IntKind.u8.wrap (b * 2 ^ (min 5 (IntKind.bits .u8)))) ||| BitVec.ofInt (IntKind.bits .u8) (26:Int)).toNat:Nat))]:List Int))=rowsOf (encI .u8) ([(IntKind.u8.wrap ((BitVec.ofInt (IntKind.bits .u8) (IntKind.u8.wrap (b * 2 ^ (min 5 (IntKind.bits .u8)))) ||| BitVec.ofInt (IntKind.bits .u8) (26:Int)).toNat:Nat))]:List Int):=rfl
     obtain ⟨t,a⟩:=ifE_some.1 a
     obtain ⟨o22,u,a⟩:=bs a
     have f:=f74_ok k (IntKind.u32.wrap c) ((i++([(IntKind.u8.wrap ((BitVec.ofInt (IntKind.bits .u8) (IntKind.u8.wrap (b * 2 ^ (min 5 (IntKind.bits .u8)))) ||| BitVec.ofInt (IntKind.bits .u8) (26:Int)).toNat:Nat))]:List Int))) _ u
     cases o22 with
     | o0 ac ad =>
      (try dsimp only at a)
      (try simp only [NM,EE,R74.st] at f)
      cases a
      simp (disch:=first|apply D;decide|apply K;kernel_rfl) only [W,simprocAttr,xk B67 [2,2,3,2,3,2,3,2,2,1,2,2] .sq rfl,rg B67 [1,2,2,3,2,3,2,3,2,2,1,2,2] 9 false rfl,hr 67 9 rfl,buildSliceV,fillRows,sm_5,t_22,t_5,appendV,content,t_47,t_24,convV,callStep,CL,gv,List.contains,xk B67 [2,2,2,3,2,3,2,3,2,2,1,2,2] .rt rfl,fin67,R67.st,d,g,j,h,q,s,t,f]
    ·have hJ:=f67_j1_ok k (IntKind.u8.wrap (b * 2 ^ (min 5 (IntKind.bits .u8)))) c false i _ a
     simp (disch:=first|apply D;decide|apply K;kernel_rfl) only [W,simprocAttr,xk B67 [3,2,3,2,3,2,3,2,2,1,2,2] .sk rfl,d,g,j,h]
     try simp only [NM,EE] at hJ
     exact hJ
noncomputable def f67 (k:Nat) (a b:Int) (c:List Int):Option R67:=match k with | 0=>none | k+1=>f67_e k a b c
theorem f67_ok (k a b d r) (e:f67 k a b d=some r):CV k 67 [.own 1000000,.p (.int .u8 a),jL b] [.row true 1 5 (rowsOf (encI .u8) d)]=some r.st:=by
 cases k with
 | zero=>cases e
 | succ k =>
  unfold CV
  rw [ev_call (F:=Tryd.f67) (c:=(nav B67 [])) rfl Tryd.func67 rfl rfl rfl rfl]
  exact f67_e_ok k a b d r e
end Go.Proofs.YtbnnmplkbpgcaaaDoorV