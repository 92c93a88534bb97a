/- What the program's functions answer: plain functions,and that the interpreter answers what they do. Written by a program of this session,out of the translation. -/
import Derived.Test.YtbnnmplkbpgcaaaDoorVP7
namespace Go.Proofs.YtbnnmplkbpgcaaaDoorV
open Go
set_option linter.unusedVariables false
set_option linter.unusedSimpArgs false
set_option maxRecDepth 8000
set_option maxHeartbeats 4000000
-- f51b: f51 heliograph/cbor.put
inductive R51b where
 | o0 (y:List Int)
noncomputable def R51b.st:R51b→V×List O×List O
 | .o0 y=>(.own 2000000,[.dead],[.row true 1 5 (rowsOf (encI .u8) y)])
inductive R51b_l1 where
 | o0 (y:List T50) (a b:Int) (c:List Int)
 | o1 (y:List T50) (a b:Int) (c:Bool) (d:List Int)
noncomputable def R51b_l1.st:R51b_l1→Out×St
 | .o0 y a b c=>(.norm,(⟨51,[(0,.own 38),(30,.sl 4 (rowsOf encT50 y)),(31,jI a),(32,jI b)],[(38,.row true 1 5 (rowsOf (encI .u8) c)),(1000000,.dead)]⟩:St))
 | .o1 y a b c d=>(.exit 1,(⟨51,[(0,.own 30000),(30,.sl 4 (rowsOf encT50 y)),(31,jI a),(32,jI b),(33,jT c)],[(30000,.row true 1 5 (rowsOf (encI .u8) d)),(1000000,.dead)]⟩:St))
abbrev Ff51_oaiirrz_w:=Int→Int→(List Int)→(List T50)→(List Int)→Option R51b
noncomputable def f51b_l1_j2 (k:Nat) (Q:Ff51_oaiirrz_w) (a:List T50) (b c:Int) (d:List Int):Option R51b_l1 :=
 some (.o0 a b (IntKind.i64.wrap (c+(1:Int))) d)
def If51_oaiirrz_w (k:Nat) (Q:Ff51_oaiirrz_w):Prop:=∀ (h a:Int) (b:List Int) (c:List T50) (i:List Int) (r:R51b),Q h a b c i=some r→CV k 51 [.own 1000000,.agg [jI h,jL a,jB b,.sl 4 (rowsOf encT50 c)]] [.row true 1 5 (rowsOf (encI .u8) i)]=some r.st
theorem f51b_l1_j2_ok (k:Nat) (Q:Ff51_oaiirrz_w) (H:If51_oaiirrz_w k Q) (d:List T50) (e f:Int) (g:List Int) (r:R51b_l1) (j:f51b_l1_j2 k Q d e f g=some r):EX 51 k (nav B51 [2,2,2,1,2,2,1,2,2,2,3,2,2,2,1,2,2]) (⟨51,[(0,.own 38),(30,.sl 4 (rowsOf encT50 d)),(31,jI e),(32,jI f)],[(38,.row true 1 5 (rowsOf (encI .u8) g)),(1000000,.dead)]⟩:St)=some r.st:=by
 unfold f51b_l1_j2 at j
 cases j
 simp (disch:=first|apply D;decide|apply K;kernel_rfl) only [W,simprocAttr,rg B51 [2,2,2,1,2,2,1,2,2,2,3,2,2,2,1,2,2] 11 false rfl,hr 51 11 rfl,R51b_l1.st]
noncomputable def f51b_l1_j1 (k:Nat) (Q:Ff51_oaiirrz_w) (b:List T50) (d a:Int) (f:Bool) (e:List Int):Option R51b_l1 :=
 ifE ((0:Int)≤a) (
  Option.bind (b[(Int.toNat a)]?) fun c =>
   Option.bind (Q c.Kind c.Num c.Bytes c.Items e) fun o4 =>
    match o4 with
    | .o0 g =>
     f51b_l1_j2 k Q b d a g)
theorem f51b_l1_j1_ok (k:Nat) (Q:Ff51_oaiirrz_w) (H:If51_oaiirrz_w k Q) (e:List T50) (f g:Int) (i:Bool) (h:List Int) (r:R51b_l1) (a:f51b_l1_j1 k Q e f g i h=some r):EX 51 k (nav B51 [2,2,1,2,2,1,2,2,2,3,2,2,2,1,2,2]) (⟨51,[(0,.own 30000),(30,.sl 4 (rowsOf encT50 e)),(31,jI f),(32,jI g),(33,jT i)],[(30000,.row true 1 5 (rowsOf (encI .u8) h)),(1000000,.dead)]⟩:St)=some r.st:=by
 unfold f51b_l1_j1 at a
 obtain ⟨p,a⟩:=ifE_some.1 a
 obtain ⟨l,q,a⟩:=bs a
 obtain ⟨o4,s,a⟩:=bs a
 have j:=H l.Kind l.Num l.Bytes l.Items h _ s
 cases o4 with
 | o0 t =>
  (try dsimp only at a)
  (try simp only [NM,EE,R51b.st] at j)
  have hJ:=f51b_l1_j2_ok k Q H e f g t _ a
  simp (disch:=first|apply D;decide|apply K;kernel_rfl) only [W,simprocAttr,xk B51 [2,2,1,2,2,1,2,2,2,3,2,2,2,1,2,2] .sq rfl,xk B51 [1,2,2,1,2,2,1,2,2,2,3,2,2,2,1,2,2] (.bk 2) rfl,xk B51 [2,1,2,2,1,2,2,1,2,2,2,3,2,2,2,1,2,2] .sq rfl,rg B51 [1,2,1,2,2,1,2,2,1,2,2,2,3,2,2,2,1,2,2] 9 false rfl,hr 51 9 rfl,indexAddrV,t_48,t_50,encT50_eq,rg B51 [2,2,1,2,2,1,2,2,1,2,2,2,3,2,2,2,1,2,2] 10 false rfl,hr 51 10 rfl,callStep,CL,gv,List.contains,p,q,j]
  try simp only [NM,EE] at hJ
  exact hJ
noncomputable def f51b_l1_b (k:Nat) (Q:Ff51_oaiirrz_w) (c:List T50) (a b:Int) (d:List Int):Option R51b_l1 :=
 cond ((decide (b<a)))
  (f51b_l1_j1 k Q c a b true d)
  (some (.o1 c a b false d))
theorem f51b_l1_b_ok (k:Nat) (Q:Ff51_oaiirrz_w) (H:If51_oaiirrz_w k Q) (d:List T50) (e f:Int) (g:List Int) (r:R51b_l1) (h:f51b_l1_b k Q d e f g=some r):EX 51 k (nav B51 [1,2,2,1,2,2,2,3,2,2,2,1,2,2]) (⟨51,[(0,.own 30000),(30,.sl 4 (rowsOf encT50 d)),(31,jI e),(32,jI f)],[(30000,.row true 1 5 (rowsOf (encI .u8) g)),(1000000,.dead)]⟩:St)=some r.st:=by
 unfold f51b_l1_b at h
 simp (disch:=first|apply D;decide|apply K;kernel_rfl) only [W,simprocAttr,xk B51 [1,2,2,1,2,2,2,3,2,2,2,1,2,2] .sq rfl,rg B51 [1,1,2,2,1,2,2,2,3,2,2,2,1,2,2] 8 false rfl,hr 51 8 rfl,xk B51 [2,1,2,2,1,2,2,2,3,2,2,2,1,2,2] .sq rfl,xk B51 [1,2,1,2,2,1,2,2,2,3,2,2,2,1,2,2] (.cd 33) rfl]
 rcases cond_some h with ⟨i,h⟩ | ⟨i,h⟩
 ·have hJ:=f51b_l1_j1_ok k Q H d e f true g _ h
  simp (disch:=first|apply D;decide|apply K;kernel_rfl) only [W,simprocAttr,xk B51 [2,1,2,1,2,2,1,2,2,2,3,2,2,2,1,2,2] .sk rfl,i]
  try simp only [NM,EE] at hJ
  exact hJ
 ·cases h
  simp (disch:=first|apply D;decide|apply K;kernel_rfl) only [W,simprocAttr,xk B51 [3,1,2,1,2,2,1,2,2,2,3,2,2,2,1,2,2] (.ex 1) rfl,R51b_l1.st,i]
noncomputable def f51b_l1 (k:Nat) (Q:Ff51_oaiirrz_w):Nat→(List T50)→Int→Int→(List Int)→Option R51b_l1
 | 0,_,_,_,_=>none
 | n+1,d,e,f,g=>Option.bind (f51b_l1_b k Q d e f g) fun o =>
  match o with
  | .o0 y a b c=>f51b_l1 k Q n y a b c
  | .o1 y a b c h=>some (.o1 y a b c h)
theorem f51b_l1_ok (k:Nat) (Q:Ff51_oaiirrz_w) (H:If51_oaiirrz_w k Q) (n:Nat):∀ (a:List T50) (b c:Int) (d:List Int) (r:R51b_l1) (i:f51b_l1 k Q n a b c d=some r) (σ:St) (hσ:headR (hints.head 51 8) (hints.canon 51 8) σ=some (⟨51,[(0,.own 30000),(30,.sl 4 (rowsOf encT50 a)),(31,jI b),(32,jI c)],[(30000,.row true 1 5 (rowsOf (encI .u8) d)),(1000000,.dead)]⟩:St)),LP 51 k (nav B51 [1,2,2,1,2,2,2,3,2,2,2,1,2,2]) n σ=some r.st:=by
 induction n with
 | zero=>intro a b c d r i;cases i
 | succ n s =>
  intro a b c d r i σ hσ
  rw [f51b_l1] at i
  obtain ⟨o,h,i⟩:=Option.bind_eq_some_iff.1 i
  have hB:=f51b_l1_b_ok k Q H a b c d o h
  unfold LP at s ⊢
  unfold EX at hB
  rw [loopK_succ,show firstReg (nav B51 [1,2,2,1,2,2,2,3,2,2,2,1,2,2])=8 from rfl,hσ,headK_some,hB]
  cases o with
  | o0 y j l m =>
   refine s y j l m r i _ ?_
   simp (disch:=first|apply D;decide|apply K;kernel_rfl) only [W,simprocAttr,hh_51_8,hc_51_8]
  | o1 y j l m t=>cases i;rfl
noncomputable def f51b_j2 (k:Nat) (Q:Ff51_oaiirrz_w) (b:List T50) (c d:Int) (e:Bool) (a:List Int):Option R51b :=
 some (.o0 a)
theorem f51b_j2_ok (k:Nat) (Q:Ff51_oaiirrz_w) (H:If51_oaiirrz_w k Q) (d:List T50) (e f:Int) (g:Bool) (h:List Int) (r:R51b) (l:f51b_j2 k Q d e f g h=some r):finK Tryd.prog Tryd.f51 1 (SQ 51 k (nav B51 [2,2,2]) (blockK 0 (EX 51 k (nav B51 [2,2,2,2,3,2,2,2,1,2,2]) (⟨51,[(0,.own 30000),(30,.sl 4 (rowsOf encT50 d)),(31,jI e),(32,jI f),(33,jT g)],[(30000,.row true 1 5 (rowsOf (encI .u8) h)),(1000000,.dead)]⟩:St))))=some r.st:=by
 unfold f51b_j2 at l
 cases l
 simp (disch:=first|apply D;decide|apply K;kernel_rfl) only [W,simprocAttr,xk B51 [2,2,2,2,3,2,2,2,1,2,2] .sq rfl,rg B51 [1,2,2,2,2,3,2,2,2,1,2,2] 12 false rfl,hr 51 12 rfl,xk B51 [2,2,2,2,2,3,2,2,2,1,2,2] .rt rfl,fin51,R51b.st]
noncomputable def f51b_j3 (k:Nat) (Q:Ff51_oaiirrz_w) (e:Int) (f:Bool) (g:List Int) (h b:Int) (a:List Int) (c:List T50):Option R51b :=
 Option.bind (f67 k e (IntKind.u64.wrap ((List.length a):Int)) g) fun o1 =>
  match o1 with
  | .o0 d =>
   ifE (((List.length d)+(List.length a))≤roomy) (
    some (.o0 (d++a)))
theorem f51b_j3_ok (k:Nat) (Q:Ff51_oaiirrz_w) (H:If51_oaiirrz_w k Q) (l:Int) (i:Bool) (h:List Int) (o e:Int) (a:List Int) (f:List T50) (r:R51b) (g:f51b_j3 k Q l i h o e a f=some r):finK Tryd.prog Tryd.f51 1 (EX 51 k (nav B51 [2,2,2]) (⟨51,[(0,.own 1000000),(3,.ptr 3 0),(5,.p (.int .u8 l)),(20,jT i)],[(1000000,.row true 1 5 (rowsOf (encI .u8) h)),(3,.box 50 [jI o,jL e,jB a,.sl 4 (rowsOf encT50 f)])]⟩:St))=some r.st:=by
 unfold f51b_j3 at g
 obtain ⟨o1,p,g⟩:=bs g
 have j:=f67_ok k l (IntKind.u64.wrap ((List.length a):Int)) h _ p
 cases o1 with
 | o0 s =>
  (try dsimp only at g)
  (try simp only [NM,EE,R67.st] at j)
  obtain ⟨q,g⟩:=ifE_some.1 g
  cases g
  simp (disch:=first|apply D;decide|apply K;kernel_rfl) only [W,simprocAttr,xk B51 [2,2,2] .sq rfl,rg B51 [1,2,2,2] 13 true rfl,hr 51 13 rfl,fieldAddrV,t_50,t_22,t_3,t_47,convV,callStep,CL,gv,List.contains,appendV,content,t_5,xk B51 [2,2,2,2] .rt rfl,fin51,R51b.st,j,q]
noncomputable def f51b_e (k:Nat) (Q:Ff51_oaiirrz_w) (d b:Int) (c:List Int) (a:List T50) (e:List Int):Option R51b :=
 Option.bind (f66 k d) fun o1 =>
  match o1 with
  | .o0 f =>
   cond ((d==1))
    (
     Option.bind (f67 k f b e) fun o6 =>
      match o6 with
      | .o0 o =>
       some (.o0 o))
    (
     cond ((d==4))
      (
       Option.bind (f67 k f (IntKind.u64.wrap ((List.length a):Int)) e) fun o11 =>
        match o11 with
        | .o0 g =>
         Option.bind (f51b_l1 k Q k a ((List.length a):Int) 0 g) fun o15 =>
          match o15 with
          | .o0 _ _ _ _ =>
           none
          | .o1 h i j l m =>
           f51b_j2 k Q h i j l m)
      (f51b_j3 k Q f false e d b c a))
theorem f51b_e_ok (k:Nat) (Q:Ff51_oaiirrz_w) (H:If51_oaiirrz_w k Q) (j c:Int) (d:List Int) (a:List T50) (i:List Int) (r:R51b) (b:f51b_e k Q j c d a i=some r):finK Tryd.prog Tryd.f51 1 (EX 51 k (nav B51 []) (⟨51,[(0,.own 1000000),(1,.agg [jI j,jL c,jB d,.sl 4 (rowsOf encT50 a)])],[(1000000,.row true 1 5 (rowsOf (encI .u8) i))]⟩:St))=some r.st:=by
 unfold f51b_e at b
 obtain ⟨o1,y,b⟩:=bs b
 have e:=f66_ok k j _ y
 cases o1 with
 | o0 o =>
  (try dsimp only at b)
  (try simp only [NM,EE,R66.st] at e)
  simp (disch:=first|apply D;decide|apply K;kernel_rfl) only [W,simprocAttr,xk B51 [] .sq rfl,rg B51 [1] 0 false rfl,hr_51_0,xk B51 [2] .sq rfl,rg B51 [1,2] 1 false rfl,hr 51 1 rfl,fieldAddrV,t_50,t_3,callStep,CL,gv,List.contains,xk B51 [2,2] .sq rfl,xk B51 [1,2,2] .sq rfl,rg B51 [1,1,2,2] 2 false rfl,hr 51 2 rfl,xk B51 [2,1,2,2] (.bk 0) rfl,xk B51 [2,2,1,2,2] .sq rfl,rg B51 [1,2,2,1,2,2] 3 false rfl,hr 51 3 rfl,xk B51 [2,2,2,1,2,2] (.cd 13) rfl,e]
  rcases cond_some b with ⟨l,b⟩ | ⟨l,b⟩
  ·obtain ⟨o6,z,b⟩:=bs b
   have m:=f67_ok k o c i _ z
   cases o6 with
   | o0 n =>
    (try dsimp only at b)
    (try simp only [NM,EE,R67.st] at m)
    cases b
    simp (disch:=first|apply D;decide|apply K;kernel_rfl) only [W,simprocAttr,xk B51 [2,2,2,2,1,2,2] .sq rfl,rg B51 [1,2,2,2,2,1,2,2] 4 false rfl,hr 51 4 rfl,fieldAddrV,t_50,t_47,callStep,CL,gv,List.contains,xk B51 [2,2,2,2,2,1,2,2] .rt rfl,fin51,R51b.st,e,l,m]
  ·simp (disch:=first|apply D;decide|apply K;kernel_rfl) only [W,simprocAttr,xk B51 [3,2,2,2,1,2,2] .sq rfl,rg B51 [1,3,2,2,2,1,2,2] 5 false rfl,hr 51 5 rfl,xk B51 [2,3,2,2,2,1,2,2] (.cd 20) rfl,e,l]
   rcases cond_some b with ⟨g,b⟩ | ⟨g,b⟩
   ·obtain ⟨o11,p,b⟩:=bs b
    have f:=f67_ok k o (IntKind.u64.wrap ((List.length a):Int)) i _ p
    cases o11 with
    | o0 q =>
     (try dsimp only at b)
     (try simp only [NM,EE,R67.st] at f)
     obtain ⟨o15,s,b⟩:=bs b
     have h:=f51b_l1_ok k Q H k a ((List.length a):Int) 0 q _ s
     simp (disch:=first|apply D;decide|apply K;kernel_rfl) only [W,simprocAttr,xk B51 [2,2,3,2,2,2,1,2,2] .sq rfl,rg B51 [1,2,2,3,2,2,2,1,2,2] 6 false rfl,hr 51 6 rfl,fieldAddrV,t_50,t_48,t_3,t_47,convV,callStep,CL,gv,List.contains,xk B51 [2,2,2,3,2,2,2,1,2,2] .sq rfl,xk B51 [1,2,2,2,3,2,2,2,1,2,2] .sq rfl,rg B51 [1,1,2,2,2,3,2,2,2,1,2,2] 7 false rfl,hr 51 7 rfl,xk B51 [2,1,2,2,2,3,2,2,2,1,2,2] (.bk 1) rfl,xk B51 [2,2,1,2,2,2,3,2,2,2,1,2,2] .lp rfl,hh_51_8,hc_51_8,e,l,g,f]
     (try simp only [NM,EE] at h)
     rw [h _ (by simp (disch:=first|apply D;decide|apply K;kernel_rfl) only [W,simprocAttr,hh_51_8,hc_51_8,e,l,g,f])]
     clear h
     cases o15 with
     | o0 _ _ _ _ =>
      (try dsimp only at b)
      cases b
     | o1 t u v w x =>
      (try dsimp only at b)
      have hJ:=f51b_j2_ok k Q H t u v w x _ b
      simp (disch:=first|apply D;decide|apply K;kernel_rfl) only [W,simprocAttr,R51b_l1.st,e,l,g,f]
      try simp only [NM,EE] at hJ
      exact hJ
   ·have hJ:=f51b_j3_ok k Q H o false i j c d a _ b
    simp (disch:=first|apply D;decide|apply K;kernel_rfl) only [W,simprocAttr,xk B51 [3,2,3,2,2,2,1,2,2] .sk rfl,e,l,g]
    try simp only [NM,EE] at hJ
    exact hJ
noncomputable def f51b:Nat→Int→Int→(List Int)→(List T50)→(List Int)→Option R51b
 | 0,_,_,_,_,_=>none
 | k+1,d,a,b,c,e=>f51b_e k (f51b k) d a b c e
theorem f51b_all (k:Nat):(∀ (e a:Int) (b:List Int) (d:List T50) (f:List Int) (r:R51b),f51b k e a b d f=some r→CV k 51 [.own 1000000,.agg [jI e,jL a,jB b,.sl 4 (rowsOf encT50 d)]] [.row true 1 5 (rowsOf (encI .u8) f)]=some r.st):=by
 induction k with
 | zero=>exact (by intro e a b d f r g;rw [f51b] at g;cases g)
 | succ k h =>
  have ih_f51_oaiirrz_w:=h
  exact (by intro e a b d f r g;rw [f51b] at g;unfold CV;rw [ev_call (F:=Tryd.f51) (c:=(nav B51 [])) rfl Tryd.func51 rfl rfl rfl rfl];exact f51b_e_ok k (f51b k) ih_f51_oaiirrz_w e a b d f r g)
theorem f51b_ok (k d a b c e r) (f:f51b k d a b c e=some r):CV k 51 [.own 1000000,.agg [jI d,jL a,jB b,.sl 4 (rowsOf encT50 c)]] [.row true 1 5 (rowsOf (encI .u8) e)]=some r.st:=f51b_all k d a b c e r f
-- f51a: f51 heliograph/cbor.put
inductive R51a where
 | o0 (y:List Int)
noncomputable def R51a.st:R51a→V×List O×List O
 | .o0 y=>(.own 2000000,[],[.row true 1 5 (rowsOf (encI .u8) y)])
inductive R51a_l1 where
 | o0 (y:List T50) (a b:Int) (c:List Int)
 | o1 (y:List T50) (a b:Int) (c:Bool) (d:List Int)
noncomputable def R51a_l1.st:R51a_l1→Out×St
 | .o0 y a b c=>(.norm,(⟨51,[(0,.own 38),(30,.sl 4 (rowsOf encT50 y)),(31,jI a),(32,jI b)],[(38,.row true 1 5 (rowsOf (encI .u8) c))]⟩:St))
 | .o1 y a b c d=>(.exit 1,(⟨51,[(0,.own 30000),(30,.sl 4 (rowsOf encT50 y)),(31,jI a),(32,jI b),(33,jT c)],[(30000,.row true 1 5 (rowsOf (encI .u8) d))]⟩:St))
noncomputable def f51a_l1_j2 (k:Nat) (a:List T50) (b c:Int) (d:List Int):Option R51a_l1 :=
 some (.o0 a b (IntKind.i64.wrap (c+(1:Int))) d)
theorem f51a_l1_j2_ok (k a b c d r) (e:f51a_l1_j2 k a b c d=some r):EX 51 k (nav B51 [2,2,2,1,2,2,1,2,2,2,3,2,2,2,1,2,2]) (⟨51,[(0,.own 38),(30,.sl 4 (rowsOf encT50 a)),(31,jI b),(32,jI c)],[(38,.row true 1 5 (rowsOf (encI .u8) d))]⟩:St)=some r.st:=by
 unfold f51a_l1_j2 at e
 cases e
 simp (disch:=first|apply D;decide|apply K;kernel_rfl) only [W,simprocAttr,rg B51 [2,2,2,1,2,2,1,2,2,2,3,2,2,2,1,2,2] 11 false rfl,hr 51 11 rfl,R51a_l1.st]
noncomputable def f51a_l1_j1 (k:Nat) (b:List T50) (d a:Int) (f:Bool) (e:List Int):Option R51a_l1 :=
 ifE ((0:Int)≤a) (
  Option.bind (b[(Int.toNat a)]?) fun c =>
   Option.bind (f51b k c.Kind c.Num c.Bytes c.Items e) fun o4 =>
    match o4 with
    | .o0 g =>
     f51a_l1_j2 k b d a g)
theorem f51a_l1_j1_ok (k b c d f e r) (a:f51a_l1_j1 k b c d f e=some r):EX 51 k (nav B51 [2,2,1,2,2,1,2,2,2,3,2,2,2,1,2,2]) (⟨51,[(0,.own 30000),(30,.sl 4 (rowsOf encT50 b)),(31,jI c),(32,jI d),(33,jT f)],[(30000,.row true 1 5 (rowsOf (encI .u8) e))]⟩:St)=some r.st:=by
 unfold f51a_l1_j1 at a
 obtain ⟨i,a⟩:=ifE_some.1 a
 obtain ⟨h,j,a⟩:=bs a
 obtain ⟨o4,l,a⟩:=bs a
 have g:=f51b_ok k h.Kind h.Num h.Bytes h.Items e _ l
 cases o4 with
 | o0 m =>
  (try dsimp only at a)
  (try simp only [NM,EE,R51b.st] at g)
  have hJ:=f51a_l1_j2_ok k b c d m _ a
  simp (disch:=first|apply D;decide|apply K;kernel_rfl) only [W,simprocAttr,xk B51 [2,2,1,2,2,1,2,2,2,3,2,2,2,1,2,2] .sq rfl,xk B51 [1,2,2,1,2,2,1,2,2,2,3,2,2,2,1,2,2] (.bk 2) rfl,xk B51 [2,1,2,2,1,2,2,1,2,2,2,3,2,2,2,1,2,2] .sq rfl,rg B51 [1,2,1,2,2,1,2,2,1,2,2,2,3,2,2,2,1,2,2] 9 false rfl,hr 51 9 rfl,indexAddrV,t_48,t_50,encT50_eq,rg B51 [2,2,1,2,2,1,2,2,1,2,2,2,3,2,2,2,1,2,2] 10 false rfl,hr 51 10 rfl,callStep,CL,gv,List.contains,i,j,g]
  try simp only [NM,EE] at hJ
  exact hJ
noncomputable def f51a_l1_b (k:Nat) (c:List T50) (a b:Int) (d:List Int):Option R51a_l1 :=
 cond ((decide (b<a)))
  (f51a_l1_j1 k c a b true d)
  (some (.o1 c a b false d))
theorem f51a_l1_b_ok (k a b c d r) (e:f51a_l1_b k a b c d=some r):EX 51 k (nav B51 [1,2,2,1,2,2,2,3,2,2,2,1,2,2]) (⟨51,[(0,.own 30000),(30,.sl 4 (rowsOf encT50 a)),(31,jI b),(32,jI c)],[(30000,.row true 1 5 (rowsOf (encI .u8) d))]⟩:St)=some r.st:=by
 unfold f51a_l1_b at e
 simp (disch:=first|apply D;decide|apply K;kernel_rfl) only [W,simprocAttr,xk B51 [1,2,2,1,2,2,2,3,2,2,2,1,2,2] .sq rfl,rg B51 [1,1,2,2,1,2,2,2,3,2,2,2,1,2,2] 8 false rfl,hr 51 8 rfl,xk B51 [2,1,2,2,1,2,2,2,3,2,2,2,1,2,2] .sq rfl,xk B51 [1,2,1,2,2,1,2,2,2,3,2,2,2,1,2,2] (.cd 33) rfl]
 rcases cond_some e with ⟨f,e⟩ | ⟨f,e⟩
 ·have hJ:=f51a_l1_j1_ok k a b c true d _ e
  simp (disch:=first|apply D;decide|apply K;kernel_rfl) only [W,simprocAttr,xk B51 [2,1,2,1,2,2,1,2,2,2,3,2,2,2,1,2,2] .sk rfl,f]
  try simp only [NM,EE] at hJ
  exact hJ
 ·cases e
  simp (disch:=first|apply D;decide|apply K;kernel_rfl) only [W,simprocAttr,xk B51 [3,1,2,1,2,2,1,2,2,2,3,2,2,2,1,2,2] (.ex 1) rfl,R51a_l1.st,f]
noncomputable def f51a_l1 (k:Nat):Nat→(List T50)→Int→Int→(List Int)→Option R51a_l1
 | 0,_,_,_,_=>none
 | n+1,d,e,f,g=>Option.bind (f51a_l1_b k d e f g) fun o =>
  match o with
  | .o0 y a b c=>f51a_l1 k n y a b c
  | .o1 y a b c h=>some (.o1 y a b c h)
theorem f51a_l1_ok (k n:Nat):∀ (a:List T50) (b c:Int) (d:List Int) (r:R51a_l1) (e:f51a_l1 k n a b c d=some r) (σ:St) (hσ:headR (hints.head 51 8) (hints.canon 51 8) σ=some (⟨51,[(0,.own 30000),(30,.sl 4 (rowsOf encT50 a)),(31,jI b),(32,jI c)],[(30000,.row true 1 5 (rowsOf (encI .u8) d))]⟩:St)),LP 51 k (nav B51 [1,2,2,1,2,2,2,3,2,2,2,1,2,2]) n σ=some r.st:=by
 induction n with
 | zero=>intro a b c d r e;cases e
 | succ n j =>
  intro a b c d r e σ hσ
  rw [f51a_l1] at e
  obtain ⟨o,h,e⟩:=Option.bind_eq_some_iff.1 e
  have hB:=f51a_l1_b_ok k a b c d o h
  unfold LP at j ⊢
  unfold EX at hB
  rw [loopK_succ,show firstReg (nav B51 [1,2,2,1,2,2,2,3,2,2,2,1,2,2])=8 from rfl,hσ,headK_some,hB]
  cases o with
  | o0 y f g i =>
   refine j y f g i r e _ ?_
   simp (disch:=first|apply D;decide|apply K;kernel_rfl) only [W,simprocAttr,hh_51_8,hc_51_8]
  | o1 y f g i l=>cases e;rfl
noncomputable def f51a_j2 (k:Nat) (b:List T50) (c d:Int) (e:Bool) (a:List Int):Option R51a :=
 some (.o0 a)
theorem f51a_j2_ok (k a b c d e r) (f:f51a_j2 k a b c d e=some r):finK Tryd.prog Tryd.f51 0 (SQ 51 k (nav B51 [2,2,2]) (blockK 0 (EX 51 k (nav B51 [2,2,2,2,3,2,2,2,1,2,2]) (⟨51,[(0,.own 30000),(30,.sl 4 (rowsOf encT50 a)),(31,jI b),(32,jI c),(33,jT d)],[(30000,.row true 1 5 (rowsOf (encI .u8) e))]⟩:St))))=some r.st:=by
 unfold f51a_j2 at f
 cases f
 simp (disch:=first|apply D;decide|apply K;kernel_rfl) only [W,simprocAttr,xk B51 [2,2,2,2,3,2,2,2,1,2,2] .sq rfl,rg B51 [1,2,2,2,2,3,2,2,2,1,2,2] 12 false rfl,hr 51 12 rfl,xk B51 [2,2,2,2,2,3,2,2,2,1,2,2] .rt rfl,fin51,R51a.st]
noncomputable def f51a_j3 (k:Nat) (e:Int) (f:Bool) (g:List Int) (h b:Int) (a:List Int) (c:List T50):Option R51a :=
 Option.bind (f67 k e (IntKind.u64.wrap ((List.length a):Int)) g) fun o1 =>
  match o1 with
  | .o0 d =>
   ifE (((List.length d)+(List.length a))≤roomy) (
    some (.o0 (d++a)))
theorem f51a_j3_ok (k g e h i b a c r) (d:f51a_j3 k g e h i b a c=some r):finK Tryd.prog Tryd.f51 0 (EX 51 k (nav B51 [2,2,2]) (⟨51,[(0,.own 700000),(3,.ptr 3 0),(5,.p (.int .u8 g)),(20,jT e)],[(700000,.row true 1 5 (rowsOf (encI .u8) h)),(3,.box 50 [jI i,jL b,jB a,.sl 4 (rowsOf encT50 c)])]⟩:St))=some r.st:=by
 unfold f51a_j3 at d
 obtain ⟨o1,j,d⟩:=bs d
 have f:=f67_ok k g (IntKind.u64.wrap ((List.length a):Int)) h _ j
 cases o1 with
 | o0 m =>
  (try dsimp only at d)
  (try simp only [NM,EE,R67.st] at f)
  obtain ⟨l,d⟩:=ifE_some.1 d
  cases d
  simp (disch:=first|apply D;decide|apply K;kernel_rfl) only [W,simprocAttr,xk B51 [2,2,2] .sq rfl,rg B51 [1,2,2,2] 13 true rfl,hr 51 13 rfl,fieldAddrV,t_50,t_22,t_3,t_47,convV,callStep,CL,gv,List.contains,appendV,content,t_5,xk B51 [2,2,2,2] .rt rfl,fin51,R51a.st,f,l]
noncomputable def f51a_e (k:Nat) (d b:Int) (c:List Int) (a:List T50):Option R51a :=
 Option.bind (f66 k d) fun o1 =>
  match o1 with
  | .o0 e =>
   cond ((d==1))
    (
     Option.bind (f67 k e b []) fun o6 =>
      match o6 with
      | .o0 m =>
       some (.o0 m))
    (
     cond ((d==4))
      (
       Option.bind (f67 k e (IntKind.u64.wrap ((List.length a):Int)) []) fun o11 =>
        match o11 with
        | .o0 f =>
         Option.bind (f51a_l1 k k a ((List.length a):Int) 0 f) fun o15 =>
          match o15 with
          | .o0 _ _ _ _ =>
           none
          | .o1 g h i j l =>
           f51a_j2 k g h i j l)
      (f51a_j3 k e false [] d b c a))
theorem f51a_e_ok (k l d f b r) (a:f51a_e k l d f b=some r):finK Tryd.prog Tryd.f51 0 (EX 51 k (nav B51 []) (⟨51,[(0,V.nil),(1,.agg [jI l,jL d,jB f,.sl 4 (rowsOf encT50 b)])],[]⟩:St))=some r.st:=by
 unfold f51a_e at a
 obtain ⟨o1,x,a⟩:=bs a
 have c:=f66_ok k l _ x
 cases o1 with
 | o0 m =>
  (try dsimp only at a)
  (try simp only [NM,EE,R66.st] at c)
  simp (disch:=first|apply D;decide|apply K;kernel_rfl) only [W,simprocAttr,xk B51 [] .sq rfl,rg B51 [1] 0 false rfl,hr_51_0,xk B51 [2] .sq rfl,rg B51 [1,2] 1 false rfl,hr 51 1 rfl,fieldAddrV,t_50,t_3,callStep,CL,gv,List.contains,xk B51 [2,2] .sq rfl,xk B51 [1,2,2] .sq rfl,rg B51 [1,1,2,2] 2 false rfl,hr 51 2 rfl,xk B51 [2,1,2,2] (.bk 0) rfl,xk B51 [2,2,1,2,2] .sq rfl,rg B51 [1,2,2,1,2,2] 3 false rfl,hr 51 3 rfl,xk B51 [2,2,2,1,2,2] (.cd 13) rfl,c]
  rcases cond_some a with ⟨i,a⟩ | ⟨i,a⟩
  ·obtain ⟨o6,y,a⟩:=bs a
   have j:=f67_ok k m d [] _ y
   cases o6 with
   | o0 z =>
    (try dsimp only at a)
    (try simp only [NM,EE,R67.st] at j)
    cases a
    simp (disch:=first|apply D;decide|apply K;kernel_rfl) only [W,simprocAttr,xk B51 [2,2,2,2,1,2,2] .sq rfl,rg B51 [1,2,2,2,2,1,2,2] 4 false rfl,hr 51 4 rfl,fieldAddrV,t_50,t_47,callStep,CL,gv,List.contains,xk B51 [2,2,2,2,2,1,2,2] .rt rfl,fin51,R51a.st,c,i,j]
  ·simp (disch:=first|apply D;decide|apply K;kernel_rfl) only [W,simprocAttr,xk B51 [3,2,2,2,1,2,2] .sq rfl,rg B51 [1,3,2,2,2,1,2,2] 5 false rfl,hr 51 5 rfl,xk B51 [2,3,2,2,2,1,2,2] (.cd 20) rfl,c,i]
   rcases cond_some a with ⟨g,a⟩ | ⟨g,a⟩
   ·obtain ⟨o11,o,a⟩:=bs a
    have e:=f67_ok k m (IntKind.u64.wrap ((List.length b):Int)) [] _ o
    cases o11 with
    | o0 p =>
     (try dsimp only at a)
     (try simp only [NM,EE,R67.st] at e)
     obtain ⟨o15,q,a⟩:=bs a
     have h:=f51a_l1_ok k k b ((List.length b):Int) 0 p _ q
     simp (disch:=first|apply D;decide|apply K;kernel_rfl) only [W,simprocAttr,xk B51 [2,2,3,2,2,2,1,2,2] .sq rfl,rg B51 [1,2,2,3,2,2,2,1,2,2] 6 false rfl,hr 51 6 rfl,fieldAddrV,t_50,t_48,t_3,t_47,convV,callStep,CL,gv,List.contains,xk B51 [2,2,2,3,2,2,2,1,2,2] .sq rfl,xk B51 [1,2,2,2,3,2,2,2,1,2,2] .sq rfl,rg B51 [1,1,2,2,2,3,2,2,2,1,2,2] 7 false rfl,hr 51 7 rfl,xk B51 [2,1,2,2,2,3,2,2,2,1,2,2] (.bk 1) rfl,xk B51 [2,2,1,2,2,2,3,2,2,2,1,2,2] .lp rfl,hh_51_8,hc_51_8,c,i,g,e]
     (try simp only [NM,EE] at h)
     rw [h _ (by simp (disch:=first|apply D;decide|apply K;kernel_rfl) only [W,simprocAttr,hh_51_8,hc_51_8,c,i,g,e])]
     clear h
     cases o15 with
     | o0 _ _ _ _ =>
      (try dsimp only at a)
      cases a
     | o1 s t u v w =>
      (try dsimp only at a)
      have hJ:=f51a_j2_ok k s t u v w _ a
      simp (disch:=first|apply D;decide|apply K;kernel_rfl) only [W,simprocAttr,R51a_l1.st,c,i,g,e]
      try simp only [NM,EE] at hJ
      exact hJ
   ·have hJ:=f51a_j3_ok k m false [] l d f b _ a
    simp (disch:=first|apply D;decide|apply K;kernel_rfl) only [W,simprocAttr,xk B51 [3,2,3,2,2,2,1,2,2] .sk rfl,c,i,g]
    try simp only [NM,EE] at hJ
    exact hJ
noncomputable def f51a (k:Nat) (d a:Int) (b:List Int) (c:List T50):Option R51a:=match k with | 0=>none | k+1=>f51a_e k d a b c
theorem f51a_ok (k e a b d r) (f:f51a k e a b d=some r):CV k 51 [V.nil,.agg [jI e,jL a,jB b,.sl 4 (rowsOf encT50 d)]] []=some r.st:=by
 cases k with
 | zero=>cases f
 | succ k =>
  unfold CV
  rw [ev_call (F:=Tryd.f51) (c:=(nav B51 [])) rfl Tryd.func51 rfl rfl rfl rfl]
  exact f51a_e_ok k e a b d r f
-- f31: f31 heliograph/cbor.Encode
inductive R31 where
 | o0 (y:List Int) (a:Int)
 | o1 (y:Int) (a:List Int)
noncomputable def R31.st:R31→V×List O×List O
 | .o0 y a=>(V.tup [jB y,jI a],[],[])
 | .o1 y a=>(V.tup [.own 2000000,jI y],[],[.row true 1 5 (rowsOf (encI .u8) a)])
noncomputable def f31_j1 (k:Nat) (f:Int) (g:Bool) (d a:Int) (b:List Int) (c:List T50):Option R31 :=
 Option.bind (f51a k d a b c) fun o1 =>
  match o1 with
  | .o0 e =>
   some (.o1 0 e)
theorem f31_j1_ok (k g h f a b c r) (d:f31_j1 k g h f a b c=some r):finK Tryd.prog Tryd.f31 0 (EX 31 k (nav B31 [2,2]) (⟨12,[(1,.ptr 1 0),(4,jI g),(8,jT h)],[(1,.box 50 [jI f,jL a,jB b,.sl 4 (rowsOf encT50 c)])]⟩:St))=some r.st:=by
 unfold f31_j1 at d
 obtain ⟨o1,i,d⟩:=bs d
 have e:=f51a_ok k f a b c _ i
 cases o1 with
 | o0 j =>
  (try dsimp only at d)
  (try simp only [NM,EE,R51a.st] at e)
  cases d
  simp (disch:=first|apply D;decide|apply K;kernel_rfl) only [W,simprocAttr,xk B31 [2,2] .sq rfl,rg B31 [1,2,2] 4 false rfl,hr 31 4 rfl,t_50,callStep,CL,gv,List.contains,xk B31 [2,2,2] .rt rfl,fin31,R31.st,e]
noncomputable def f31_e (k:Nat) (e a:Int) (b:List Int) (c:List T50):Option R31 :=
 Option.bind (f50 k e a b c) fun o1 =>
  match o1 with
  | .o0 d =>
   cond ((d != 0))
    (some (.o0 [] d))
    (f31_j1 k d false e a b c)
theorem f31_e_ok (k f a b c r) (d:f31_e k f a b c=some r):finK Tryd.prog Tryd.f31 0 (EX 31 k (nav B31 []) (⟨12,[(0,.agg [jI f,jL a,jB b,.sl 4 (rowsOf encT50 c)])],[]⟩:St))=some r.st:=by
 unfold f31_e at d
 obtain ⟨o1,h,d⟩:=bs d
 have e:=f50_ok k f a b c _ h
 cases o1 with
 | o0 i =>
  (try dsimp only at d)
  (try simp only [NM,EE,R50.st] at e)
  simp (disch:=first|apply D;decide|apply K;kernel_rfl) only [W,simprocAttr,xk B31 [] .sq rfl,rg B31 [1] 0 false rfl,hr 31 0 rfl,xk B31 [2] .sq rfl,xk B31 [1,2] .sq rfl,rg B31 [1,1,2] 1 false rfl,hr 31 1 rfl,t_50,callStep,CL,gv,List.contains,xk B31 [2,1,2] .sq rfl,rg B31 [1,2,1,2] 2 false rfl,hr 31 2 rfl,xk B31 [2,2,1,2] (.cd 8) rfl,e]
  rcases cond_some d with ⟨g,d⟩ | ⟨g,d⟩
  ·cases d
   simp (disch:=first|apply D;decide|apply K;kernel_rfl) only [W,simprocAttr,xk B31 [2,2,2,1,2] .sq rfl,rg B31 [1,2,2,2,1,2] 3 false rfl,hr_31_3,xk B31 [2,2,2,2,1,2] .rt rfl,fin31,R31.st,e,g]
  ·have hJ:=f31_j1_ok k i false f a b c _ d
   simp (disch:=first|apply D;decide|apply K;kernel_rfl) only [W,simprocAttr,xk B31 [3,2,2,1,2] .sk rfl,e,g]
   try simp only [NM,EE] at hJ
   exact hJ
noncomputable def f31 (k:Nat) (d a:Int) (b:List Int) (c:List T50):Option R31:=match k with | 0=>none | k+1=>f31_e k d a b c
theorem f31_ok (k e a b d r) (f:f31 k e a b d=some r):CV k 31 [.agg [jI e,jL a,jB b,.sl 4 (rowsOf encT50 d)]] []=some r.st:=by
 cases k with
 | zero=>cases f
 | succ k =>
  unfold CV
  rw [ev_call (F:=Tryd.f31) (c:=(nav B31 [])) rfl Tryd.func31 rfl rfl rfl rfl]
  exact f31_e_ok k e a b d r f
-- f34: f34 heliograph/cbor.Bytes
inductive R34 where
 | o0 (y a:Int) (b:List T50) (c:List Int)
noncomputable def R34.st:R34→V×List O×List O
 | .o0 y a b c=>(.agg [jI y,jL a,.own 2000000,.sl 4 (rowsOf encT50 b)],[],[.row true 1 5 (rowsOf (encI .u8) c)])
noncomputable def f34_e (k:Nat) (a:List Int):Option R34 :=
 Option.bind (f53 k a) fun o1 =>
  match o1 with
  | .o0 b =>
   some (.o0 2 0 [] b)
theorem f34_e_ok (k c r) (a:f34_e k c=some r):finK Tryd.prog Tryd.f34 0 (EX 34 k (nav B34 []) (⟨6,[(0,jB c)],[]⟩:St))=some r.st:=by
 unfold f34_e at a
 obtain ⟨o1,d,a⟩:=bs a
 have b:=f53_ok k c _ d
 cases o1 with
 | o0 e =>
  (try dsimp only at a)
  (try simp only [NM,EE,R53.st] at b)
  cases a
  simp (disch:=first|apply D;decide|apply K;kernel_rfl) only [W,simprocAttr,xk B34 [] .sq rfl,rg B34 [1] 0 false rfl,hr_34_0,t_50,xk B34 [2] .sq rfl,rg B34 [1,2] 1 false rfl,hr_34_1,callStep,CL,gv,List.contains,bl_50,xk B34 [2,2] .rt rfl,fin34,R34.st,b]
noncomputable def f34 (k:Nat) (a:List Int):Option R34:=match k with | 0=>none | k+1=>f34_e k a
theorem f34_ok (k a r) (b:f34 k a=some r):CV k 34 [jB a] []=some r.st:=by
 cases k with
 | zero=>cases b
 | succ k =>
  unfold CV
  rw [ev_call (F:=Tryd.f34) (c:=(nav B34 [])) rfl Tryd.func34 rfl rfl rfl rfl]
  exact f34_e_ok k a r b
end Go.Proofs.YtbnnmplkbpgcaaaDoorV