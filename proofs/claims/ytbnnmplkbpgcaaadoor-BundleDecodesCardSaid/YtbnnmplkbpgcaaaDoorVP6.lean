/- What the program's functions answer: plain functions,and that the interpreter answers what they do. Written by a program of this session,out of the translation. -/
import Derived.Test.YtbnnmplkbpgcaaaDoorVP5
namespace Go.Proofs.YtbnnmplkbpgcaaaDoorV
open Go
set_option linter.unusedVariables false
set_option linter.unusedSimpArgs false
set_option maxRecDepth 8000
set_option maxHeartbeats 4000000
-- f52: f52 heliograph/cbor.own
inductive R52 where
 | o0 (y a:Int) (b:List Int) (c:List T50)
noncomputable def R52.st:R52→V×List O×List O
 | .o0 y a b c=>(.agg [jI y,jL a,.own 2000000,.own 2000001],[],[.row true 1 5 (rowsOf (encI .u8) b),.row true 4 50 (rowsOf encT50 c)])
inductive R52_l1 where
 | o0 (y:List T50) (b c d e:Int) (f:List Int) (g:List T50) (h i:Int) (j:List Int) (a:List T50)
 | o1 (y:List T50) (b c:Int) (d:Bool) (e f:Int) (g:List Int) (h:List T50) (i j:Int) (a:List Int) (l:List T50)
noncomputable def R52_l1.st:R52_l1→Out×St
 | .o0 y b c d e f g h i j a=>(.norm,(⟨28,[(1,.ptr 30000 0),(2,.ptr 30003 0),(13,.sl 4 (rowsOf encT50 y)),(14,jI b),(15,jI c)],[(30000,.box 50 [jI d,jL e,.own 30001,.own 24]),(30001,.row true 1 5 (rowsOf (encI .u8) f)),(24,.row true 4 50 (rowsOf encT50 g)),(30003,.box 50 [jI h,jL i,.own 30004,.own 30005]),(30004,.row true 1 5 (rowsOf (encI .u8) j)),(30005,.row true 4 50 (rowsOf encT50 a))]⟩:St))
 | .o1 y b c d e f g h i j a l=>(.exit 0,(⟨28,[(1,.ptr 30000 0),(2,.ptr 30003 0),(13,.sl 4 (rowsOf encT50 y)),(14,jI b),(15,jI c),(16,jT d)],[(30000,.box 50 [jI e,jL f,.own 30001,.own 30002]),(30001,.row true 1 5 (rowsOf (encI .u8) g)),(30002,.row true 4 50 (rowsOf encT50 h)),(30003,.box 50 [jI i,jL j,.own 30004,.own 30005]),(30004,.row true 1 5 (rowsOf (encI .u8) a)),(30005,.row true 4 50 (rowsOf encT50 l))]⟩:St))
abbrev Ff52_aiirrz:=Int→Int→(List Int)→(List T50)→Option R52
noncomputable def f52_l1_j2 (k:Nat) (Q:Ff52_aiirrz) (c:List T50) (d e f a:Int) (g:List Int) (h:List T50) (i b:Int) (j:List Int) (l:List T50):Option R52_l1 :=
 some (.o0 c d (IntKind.i64.wrap (e+(1:Int))) f a g h i b j l)
def If52_aiirrz (k:Nat) (Q:Ff52_aiirrz):Prop:=∀ (q c:Int) (d:List Int) (e:List T50) (r:R52),Q q c d e=some r→CV k 52 [.agg [jI q,jL c,jB d,.sl 4 (rowsOf encT50 e)]] []=some r.st
theorem f52_l1_j2_ok (k:Nat) (Q:Ff52_aiirrz) (H:If52_aiirrz k Q) (f:List T50) (g h i a:Int) (j:List Int) (l:List T50) (m b:Int) (o:List Int) (p:List T50) (r:R52_l1) (s:f52_l1_j2 k Q f g h i a j l m b o p=some r):EX 52 k (nav B52 [2,2,2,1,2,2,1,2,2,2,2]) (⟨28,[(1,.ptr 30000 0),(2,.ptr 30003 0),(13,.sl 4 (rowsOf encT50 f)),(14,jI g),(15,jI h)],[(30000,.box 50 [jI i,jL a,.own 30001,.own 24]),(30001,.row true 1 5 (rowsOf (encI .u8) j)),(24,.row true 4 50 (rowsOf encT50 l)),(30003,.box 50 [jI m,jL b,.own 30004,.own 30005]),(30004,.row true 1 5 (rowsOf (encI .u8) o)),(30005,.row true 4 50 (rowsOf encT50 p))]⟩:St)=some r.st:=by
 unfold f52_l1_j2 at s
 cases s
 simp (disch:=first|apply D;decide|apply K;kernel_rfl) only [W,simprocAttr,rg B52 [2,2,2,1,2,2,1,2,2,2,2] 8 false rfl,hr 52 8 rfl,R52_l1.st]
noncomputable def f52_l1_j1 (k:Nat) (Q:Ff52_aiirrz) (d:List T50) (g a:Int) (p:Bool) (h b:Int) (i:List Int) (e:List T50) (j c:Int) (l:List Int) (m:List T50):Option R52_l1 :=
 ifE ((0:Int)≤a) (
  Option.bind (d[(Int.toNat a)]?) fun f =>
   Option.bind (Q f.Kind f.Num f.Bytes f.Items) fun o4 =>
    match o4 with
    | .o0 q s t o =>
     ifE (((List.length e)+1) * 64≤roomy) (
      f52_l1_j2 k Q d g a h b i (e++([(T50.mk q s t o)]:List T50)) j c l m))
theorem f52_l1_j1_ok (k:Nat) (Q:Ff52_aiirrz) (H:If52_aiirrz k Q) (h:List T50) (i j:Int) (t:Bool) (l a:Int) (m:List Int) (o:List T50) (p b:Int) (q:List Int) (s:List T50) (r:R52_l1) (c:f52_l1_j1 k Q h i j t l a m o p b q s=some r):EX 52 k (nav B52 [2,2,1,2,2,1,2,2,2,2]) (⟨28,[(1,.ptr 30000 0),(2,.ptr 30003 0),(13,.sl 4 (rowsOf encT50 h)),(14,jI i),(15,jI j),(16,jT t)],[(30000,.box 50 [jI l,jL a,.own 30001,.own 30002]),(30001,.row true 1 5 (rowsOf (encI .u8) m)),(30002,.row true 4 50 (rowsOf encT50 o)),(30003,.box 50 [jI p,jL b,.own 30004,.own 30005]),(30004,.row true 1 5 (rowsOf (encI .u8) q)),(30005,.row true 4 50 (rowsOf encT50 s))]⟩:St)=some r.st:=by
 unfold f52_l1_j1 at c
 obtain ⟨h1,c⟩:=ifE_some.1 c
 obtain ⟨y,h3,c⟩:=bs c
 obtain ⟨o4,h5,c⟩:=bs c
 have u:=H y.Kind y.Num y.Bytes y.Items _ h5
 cases o4 with
 | o0 v w x d =>
  (try dsimp only at c)
  (try simp only [NM,EE,R52.st] at u)
  have z:[[jI v,jL w,jB x,.sl 4 (rowsOf encT50 d)]]=rowsOf encT50 ([(T50.mk v w x d)]:List T50):=by first | rfl | simp only [jB,rowsOf,List.map_cons,List.map_nil,encT50_eq]
  have n:List.map (tell [0,0,1,4]) (rowsOf encT50 ([(T50.mk v w x d)]:List T50))=rowsOf encT50 ([(T50.mk v w x d)]:List T50):=by first | rfl | simp only [jB,rowsOf,List.map_cons,List.map_nil,encT50_eq]
  obtain ⟨aa,c⟩:=ifE_some.1 c
  have hJ:=f52_l1_j2_ok k Q H h i j l a m (o++([(T50.mk v w x d)]:List T50)) p b q s _ c
  simp (disch:=first|apply D;decide|apply K;kernel_rfl) only [W,simprocAttr,xk B52 [2,2,1,2,2,1,2,2,2,2] .sq rfl,xk B52 [1,2,2,1,2,2,1,2,2,2,2] (.bk 1) rfl,xk B52 [2,1,2,2,1,2,2,1,2,2,2,2] .sq rfl,rg B52 [1,2,1,2,2,1,2,2,1,2,2,2,2] 6 false rfl,hr 52 6 rfl,indexAddrV,t_48,t_50,encT50_eq,rg B52 [2,2,1,2,2,1,2,2,1,2,2,2,2] 7 true rfl,hr 52 7 rfl,fieldAddrV,callStep,CL,gv,List.contains,buildSliceV,fillRows,sm_50,appendV,content,h1,h3,u,z,n,aa]
  try simp only [NM,EE] at hJ
  exact hJ
noncomputable def f52_l1_b (k:Nat) (Q:Ff52_aiirrz) (e:List T50) (c d f a:Int) (g:List Int) (h:List T50) (i b:Int) (j:List Int) (l:List T50):Option R52_l1 :=
 cond ((decide (d<c)))
  (f52_l1_j1 k Q e c d true f a g h i b j l)
  (some (.o1 e c d false f a g h i b j l))
theorem f52_l1_b_ok (k:Nat) (Q:Ff52_aiirrz) (H:If52_aiirrz k Q) (f:List T50) (g h i a:Int) (j:List Int) (l:List T50) (m b:Int) (o:List Int) (p:List T50) (r:R52_l1) (q:f52_l1_b k Q f g h i a j l m b o p=some r):EX 52 k (nav B52 [1,2,2,1,2,2,2,2]) (⟨28,[(1,.ptr 30000 0),(2,.ptr 30003 0),(13,.sl 4 (rowsOf encT50 f)),(14,jI g),(15,jI h)],[(30000,.box 50 [jI i,jL a,.own 30001,.own 30002]),(30001,.row true 1 5 (rowsOf (encI .u8) j)),(30002,.row true 4 50 (rowsOf encT50 l)),(30003,.box 50 [jI m,jL b,.own 30004,.own 30005]),(30004,.row true 1 5 (rowsOf (encI .u8) o)),(30005,.row true 4 50 (rowsOf encT50 p))]⟩:St)=some r.st:=by
 unfold f52_l1_b at q
 simp (disch:=first|apply D;decide|apply K;kernel_rfl) only [W,simprocAttr,xk B52 [1,2,2,1,2,2,2,2] .sq rfl,rg B52 [1,1,2,2,1,2,2,2,2] 5 false rfl,hr 52 5 rfl,xk B52 [2,1,2,2,1,2,2,2,2] .sq rfl,xk B52 [1,2,1,2,2,1,2,2,2,2] (.cd 16) rfl]
 rcases cond_some q with ⟨s,q⟩ | ⟨s,q⟩
 ·have hJ:=f52_l1_j1_ok k Q H f g h true i a j l m b o p _ q
  simp (disch:=first|apply D;decide|apply K;kernel_rfl) only [W,simprocAttr,xk B52 [2,1,2,1,2,2,1,2,2,2,2] .sk rfl,s]
  try simp only [NM,EE] at hJ
  exact hJ
 ·cases q
  simp (disch:=first|apply D;decide|apply K;kernel_rfl) only [W,simprocAttr,xk B52 [3,1,2,1,2,2,1,2,2,2,2] (.ex 0) rfl,R52_l1.st,s]
noncomputable def f52_l1 (k:Nat) (Q:Ff52_aiirrz):Nat→(List T50)→Int→Int→Int→Int→(List Int)→(List T50)→Int→Int→(List Int)→(List T50)→Option R52_l1
 | 0,_,_,_,_,_,_,_,_,_,_,_=>none
 | n+1,q,s,t,u,b,v,w,x,c,z,r=>Option.bind (f52_l1_b k Q q s t u b v w x c z r) fun o =>
  match o with
  | .o0 y d e f g h i j l m a=>f52_l1 k Q n y d e f g h i j l m a
  | .o1 y d e f g h i j l m a p=>some (.o1 y d e f g h i j l m a p)
theorem f52_l1_ok (k:Nat) (Q:Ff52_aiirrz) (H:If52_aiirrz k Q) (n:Nat):∀ (c:List T50) (d e f a:Int) (g:List Int) (i:List T50) (j b:Int) (l:List Int) (m:List T50) (r:R52_l1) (t:f52_l1 k Q n c d e f a g i j b l m=some r) (σ:St) (hσ:headR (hints.head 52 5) (hints.canon 52 5) σ=some (⟨28,[(1,.ptr 30000 0),(2,.ptr 30003 0),(13,.sl 4 (rowsOf encT50 c)),(14,jI d),(15,jI e)],[(30000,.box 50 [jI f,jL a,.own 30001,.own 30002]),(30001,.row true 1 5 (rowsOf (encI .u8) g)),(30002,.row true 4 50 (rowsOf encT50 i)),(30003,.box 50 [jI j,jL b,.own 30004,.own 30005]),(30004,.row true 1 5 (rowsOf (encI .u8) l)),(30005,.row true 4 50 (rowsOf encT50 m))]⟩:St)),LP 52 k (nav B52 [1,2,2,1,2,2,2,2]) n σ=some r.st:=by
 induction n with
 | zero=>intro c d e f a g i j b l m r t;cases t
 | succ n ih =>
  intro c d e f a g i j b l m r t σ hσ
  rw [f52_l1] at t
  obtain ⟨o,h,t⟩:=Option.bind_eq_some_iff.1 t
  have hB:=f52_l1_b_ok k Q H c d e f a g i j b l m o h
  unfold LP at ih ⊢
  unfold EX at hB
  rw [loopK_succ,show firstReg (nav B52 [1,2,2,1,2,2,2,2])=5 from rfl,hσ,headK_some,hB]
  cases o with
  | o0 y v w x z aa ab ac ad ae u =>
   refine ih y v w x z aa ab ac ad ae u r t _ ?_
   simp (disch:=first|apply D;decide|apply K;kernel_rfl) only [W,simprocAttr,hh_52_5,hc_52_5]
  | o1 y v w x z aa ab ac ad ae u ah=>cases t;rfl
noncomputable def f52_j2 (k:Nat) (Q:Ff52_aiirrz) (f:List T50) (g h:Int) (i:Bool) (b a:Int) (c:List Int) (d:List T50) (j e:Int) (l:List Int) (m:List T50):Option R52 :=
 some (.o0 b a c d)
theorem f52_j2_ok (k:Nat) (Q:Ff52_aiirrz) (H:If52_aiirrz k Q) (f:List T50) (g h:Int) (i:Bool) (j a:Int) (l:List Int) (m:List T50) (o b:Int) (p:List Int) (q:List T50) (r:R52) (t:f52_j2 k Q f g h i j a l m o b p q=some r):finK Tryd.prog Tryd.f52 0 (EX 52 k (nav B52 [2,2,2,2,2]) (⟨28,[(1,.ptr 30000 0),(2,.ptr 30003 0),(13,.sl 4 (rowsOf encT50 f)),(14,jI g),(15,jI h),(16,jT i)],[(30000,.box 50 [jI j,jL a,.own 30001,.own 30002]),(30001,.row true 1 5 (rowsOf (encI .u8) l)),(30002,.row true 4 50 (rowsOf encT50 m)),(30003,.box 50 [jI o,jL b,.own 30004,.own 30005]),(30004,.row true 1 5 (rowsOf (encI .u8) p)),(30005,.row true 4 50 (rowsOf encT50 q))]⟩:St))=some r.st:=by
 unfold f52_j2 at t
 cases t
 simp (disch:=first|apply D;decide|apply K;kernel_rfl) only [W,simprocAttr,xk B52 [2,2,2,2,2] .sq rfl,rg B52 [1,2,2,2,2,2] 9 false rfl,hr 52 9 rfl,t_50,xk B52 [2,2,2,2,2,2] .rt rfl,fin52,R52.st]
noncomputable def f52_e (k:Nat) (Q:Ff52_aiirrz) (p b:Int) (c:List Int) (a:List T50):Option R52 :=
 Option.bind (f53 k c) fun o1 =>
  match o1 with
  | .o0 q =>
   Option.bind (f52_l1 k Q k a ((List.length a):Int) 0 p b q [] 0 0 [] []) fun o5 =>
    match o5 with
    | .o0 _ _ _ _ _ _ _ _ _ _ _ =>
     none
    | .o1 s t d e f g h i j l m o =>
     f52_j2 k Q s t d e f g h i j l m o
theorem f52_e_ok (k:Nat) (Q:Ff52_aiirrz) (H:If52_aiirrz k Q) (g b:Int) (c:List Int) (a:List T50) (r:R52) (d:f52_e k Q g b c a=some r):finK Tryd.prog Tryd.f52 0 (EX 52 k (nav B52 []) (⟨28,[(0,.agg [jI g,jL b,jB c,.sl 4 (rowsOf encT50 a)])],[]⟩:St))=some r.st:=by
 unfold f52_e at d
 obtain ⟨o1,u,d⟩:=bs d
 have e:=f53_ok k c _ u
 cases o1 with
 | o0 v =>
  (try dsimp only at d)
  (try simp only [NM,EE,R53.st] at e)
  obtain ⟨o5,w,d⟩:=bs d
  have f:=f52_l1_ok k Q H k a ((List.length a):Int) 0 g b v [] 0 0 [] [] _ w
  simp (disch:=first|apply D;decide|apply K;kernel_rfl) only [W,simprocAttr,xk B52 [] .sq rfl,rg B52 [1] 0 false rfl,hr_52_0,t_50,xk B52 [2] .sq rfl,rg B52 [1,2] 1 false rfl,hr 52 1 rfl,fieldAddrV,t_22,callStep,CL,gv,List.contains,xk B52 [2,2] .sq rfl,rg B52 [1,2,2] 2 false rfl,hr 52 2 rfl,t_48,xk B52 [2,2,2] .sq rfl,rg B52 [1,2,2,2] 3 false rfl,hr_52_3,xk B52 [2,2,2,2] .sq rfl,xk B52 [1,2,2,2,2] .sq rfl,rg B52 [1,1,2,2,2,2] 4 false rfl,hr 52 4 rfl,xk B52 [2,1,2,2,2,2] (.bk 0) rfl,xk B52 [2,2,1,2,2,2,2] .lp rfl,hh_52_5,hc_52_5,e]
  (try simp only [NM,EE] at f)
  rw [f _ (by simp (disch:=first|apply D;decide|apply K;kernel_rfl) only [W,simprocAttr,hh_52_5,hc_52_5,e])]
  clear f
  cases o5 with
  | o0 _ _ _ _ _ _ _ _ _ _ _ =>
   (try dsimp only at d)
   cases d
  | o1 x y h i j l m o p q s t =>
   (try dsimp only at d)
   have hJ:=f52_j2_ok k Q H x y h i j l m o p q s t _ d
   simp (disch:=first|apply D;decide|apply K;kernel_rfl) only [W,simprocAttr,R52_l1.st,e]
   try simp only [NM,EE] at hJ
   exact hJ
noncomputable def f52:Nat→Int→Int→(List Int)→(List T50)→Option R52
 | 0,_,_,_,_=>none
 | k+1,d,a,b,c=>f52_e k (f52 k) d a b c
theorem f52_all (k:Nat):(∀ (e a:Int) (b:List Int) (d:List T50) (r:R52),f52 k e a b d=some r→CV k 52 [.agg [jI e,jL a,jB b,.sl 4 (rowsOf encT50 d)]] []=some r.st):=by
 induction k with
 | zero=>exact (by intro e a b d r f;rw [f52] at f;cases f)
 | succ k g =>
  have ih_f52_aiirrz:=g
  exact (by intro e a b d r f;rw [f52] at f;unfold CV;rw [ev_call (F:=Tryd.f52) (c:=(nav B52 [])) rfl Tryd.func52 rfl rfl rfl rfl];exact f52_e_ok k (f52 k) ih_f52_aiirrz e a b d r f)
theorem f52_ok (k d a b c r) (e:f52 k d a b c=some r):CV k 52 [.agg [jI d,jL a,jB b,.sl 4 (rowsOf encT50 c)]] []=some r.st:=f52_all k d a b c r e
-- f33: f33 heliograph/cbor.List
inductive R33 where
 | o0 (y a:Int) (b:List Int) (c:List T50)
noncomputable def R33.st:R33→V×List O×List O
 | .o0 y a b c=>(.agg [jI y,jL a,jB b,.own 2000000],[],[.row true 4 50 (rowsOf encT50 c)])
inductive R33_l1 where
 | o0 (y:List T50) (b c d e:Int) (f:List Int) (g:List T50) (h i:Int) (j:List Int) (a:List T50)
 | o1 (y:List T50) (b c:Int) (d:Bool) (e f:Int) (g:List Int) (h:List T50) (i j:Int) (a:List Int) (l:List T50)
noncomputable def R33_l1.st:R33_l1→Out×St
 | .o0 y b c d e f g h i j a=>(.norm,(⟨22,[(2,.ptr 30000 0),(3,.ptr 30002 0),(7,.sl 4 (rowsOf encT50 y)),(8,jI b),(9,jI c)],[(30000,.box 50 [jI d,jL e,jB f,.own 30001]),(30001,.row true 4 50 (rowsOf encT50 g)),(30002,.box 50 [jI h,jL i,jB j,.own 18]),(18,.row true 4 50 (rowsOf encT50 a))]⟩:St))
 | .o1 y b c d e f g h i j a l=>(.exit 0,(⟨22,[(2,.ptr 30000 0),(3,.ptr 30002 0),(7,.sl 4 (rowsOf encT50 y)),(8,jI b),(9,jI c),(10,jT d)],[(30000,.box 50 [jI e,jL f,jB g,.own 30001]),(30001,.row true 4 50 (rowsOf encT50 h)),(30002,.box 50 [jI i,jL j,jB a,.own 30003]),(30003,.row true 4 50 (rowsOf encT50 l))]⟩:St))
noncomputable def f33_l1_j2 (k:Nat) (i:List T50) (j l e a:Int) (b:List Int) (f:List T50) (g c:Int) (d:List Int) (h:List T50):Option R33_l1 :=
 some (.o0 i j (IntKind.i64.wrap (l+(1:Int))) e a b f g c d h)
theorem f33_l1_j2_ok (k i j l e a b f g c d h r) (m:f33_l1_j2 k i j l e a b f g c d h=some r):EX 33 k (nav B33 [2,2,2,1,2,2,1,2,2]) (⟨22,[(2,.ptr 30000 0),(3,.ptr 30002 0),(7,.sl 4 (rowsOf encT50 i)),(8,jI j),(9,jI l)],[(30000,.box 50 [jI e,jL a,jB b,.own 30001]),(30001,.row true 4 50 (rowsOf encT50 f)),(30002,.box 50 [jI g,jL c,jB d,.own 18]),(18,.row true 4 50 (rowsOf encT50 h))]⟩:St)=some r.st:=by
 unfold f33_l1_j2 at m
 cases m
 simp (disch:=first|apply D;decide|apply K;kernel_rfl) only [W,simprocAttr,rg B33 [2,2,2,1,2,2,1,2,2] 6 false rfl,hr 33 6 rfl,R33_l1.st]
noncomputable def f33_l1_j1 (k:Nat) (m:List T50) (o g:Int) (p:Bool) (h a:Int) (b:List Int) (i:List T50) (j c:Int) (d:List Int) (e:List T50):Option R33_l1 :=
 ifE ((0:Int)≤g) (
  Option.bind (m[(Int.toNat g)]?) fun f =>
   Option.bind (f52 k f.Kind f.Num f.Bytes f.Items) fun o4 =>
    match o4 with
    | .o0 q s t l =>
     ifE (((List.length e)+1) * 64≤roomy) (
      f33_l1_j2 k m o g h a b i j c d (e++([(T50.mk q s t l)]:List T50))))
theorem f33_l1_j1_ok (k t u v l g a b h i c d j r) (e:f33_l1_j1 k t u v l g a b h i c d j=some r):EX 33 k (nav B33 [2,2,1,2,2,1,2,2]) (⟨22,[(2,.ptr 30000 0),(3,.ptr 30002 0),(7,.sl 4 (rowsOf encT50 t)),(8,jI u),(9,jI v),(10,jT l)],[(30000,.box 50 [jI g,jL a,jB b,.own 30001]),(30001,.row true 4 50 (rowsOf encT50 h)),(30002,.box 50 [jI i,jL c,jB d,.own 30003]),(30003,.row true 4 50 (rowsOf encT50 j))]⟩:St)=some r.st:=by
 unfold f33_l1_j1 at e
 obtain ⟨z,e⟩:=ifE_some.1 e
 obtain ⟨s,n,e⟩:=bs e
 obtain ⟨o4,h5,e⟩:=bs e
 have m:=f52_ok k s.Kind s.Num s.Bytes s.Items _ h5
 cases o4 with
 | o0 o p q f =>
  (try dsimp only at e)
  (try simp only [NM,EE,R52.st] at m)
  have w:[[jI o,jL p,jB q,.sl 4 (rowsOf encT50 f)]]=rowsOf encT50 ([(T50.mk o p q f)]:List T50):=by first | rfl | simp only [jB,rowsOf,List.map_cons,List.map_nil,encT50_eq]
  have x:List.map (tell [0,0,1,4]) (rowsOf encT50 ([(T50.mk o p q f)]:List T50))=rowsOf encT50 ([(T50.mk o p q f)]:List T50):=by first | rfl | simp only [jB,rowsOf,List.map_cons,List.map_nil,encT50_eq]
  obtain ⟨y,e⟩:=ifE_some.1 e
  have hJ:=f33_l1_j2_ok k t u v g a b h i c d (j++([(T50.mk o p q f)]:List T50)) _ e
  simp (disch:=first|apply D;decide|apply K;kernel_rfl) only [W,simprocAttr,xk B33 [2,2,1,2,2,1,2,2] .sq rfl,xk B33 [1,2,2,1,2,2,1,2,2] (.bk 1) rfl,xk B33 [2,1,2,2,1,2,2,1,2,2] .sq rfl,rg B33 [1,2,1,2,2,1,2,2,1,2,2] 4 false rfl,hr 33 4 rfl,indexAddrV,t_48,t_50,encT50_eq,rg B33 [2,2,1,2,2,1,2,2,1,2,2] 5 true rfl,hr 33 5 rfl,fieldAddrV,callStep,CL,gv,List.contains,buildSliceV,fillRows,sm_50,appendV,content,z,n,m,w,x,y]
  try simp only [NM,EE] at hJ
  exact hJ
noncomputable def f33_l1_b (k:Nat) (l:List T50) (i j e a:Int) (b:List Int) (f:List T50) (g c:Int) (d:List Int) (h:List T50):Option R33_l1 :=
 cond ((decide (j<i)))
  (f33_l1_j1 k l i j true e a b f g c d h)
  (some (.o1 l i j false e a b f g c d h))
theorem f33_l1_b_ok (k j l m e a b f g c d h r) (i:f33_l1_b k j l m e a b f g c d h=some r):EX 33 k (nav B33 [1,2,2,1,2,2]) (⟨22,[(2,.ptr 30000 0),(3,.ptr 30002 0),(7,.sl 4 (rowsOf encT50 j)),(8,jI l),(9,jI m)],[(30000,.box 50 [jI e,jL a,jB b,.own 30001]),(30001,.row true 4 50 (rowsOf encT50 f)),(30002,.box 50 [jI g,jL c,jB d,.own 30003]),(30003,.row true 4 50 (rowsOf encT50 h))]⟩:St)=some r.st:=by
 unfold f33_l1_b at i
 simp (disch:=first|apply D;decide|apply K;kernel_rfl) only [W,simprocAttr,xk B33 [1,2,2,1,2,2] .sq rfl,rg B33 [1,1,2,2,1,2,2] 3 false rfl,hr 33 3 rfl,xk B33 [2,1,2,2,1,2,2] .sq rfl,xk B33 [1,2,1,2,2,1,2,2] (.cd 10) rfl]
 rcases cond_some i with ⟨o,i⟩ | ⟨o,i⟩
 ·have hJ:=f33_l1_j1_ok k j l m true e a b f g c d h _ i
  simp (disch:=first|apply D;decide|apply K;kernel_rfl) only [W,simprocAttr,xk B33 [2,1,2,1,2,2,1,2,2] .sk rfl,o]
  try simp only [NM,EE] at hJ
  exact hJ
 ·cases i
  simp (disch:=first|apply D;decide|apply K;kernel_rfl) only [W,simprocAttr,xk B33 [3,1,2,1,2,2,1,2,2] (.ex 0) rfl,R33_l1.st,o]
noncomputable def f33_l1 (k:Nat):Nat→(List T50)→Int→Int→Int→Int→(List Int)→(List T50)→Int→Int→(List Int)→(List T50)→Option R33_l1
 | 0,_,_,_,_,_,_,_,_,_,_,_=>none
 | n+1,x,z,r,t,b,c,u,v,d,e,w=>Option.bind (f33_l1_b k x z r t b c u v d e w) fun o =>
  match o with
  | .o0 y f g h i j l m p q a=>f33_l1 k n y f g h i j l m p q a
  | .o1 y f g h i j l m p q a s=>some (.o1 y f g h i j l m p q a s)
theorem f33_l1_ok (k n:Nat):∀ (m:List T50) (p q e a:Int) (b:List Int) (f:List T50) (g c:Int) (d:List Int) (i:List T50) (r:R33_l1) (j:f33_l1 k n m p q e a b f g c d i=some r) (σ:St) (hσ:headR (hints.head 33 3) (hints.canon 33 3) σ=some (⟨22,[(2,.ptr 30000 0),(3,.ptr 30002 0),(7,.sl 4 (rowsOf encT50 m)),(8,jI p),(9,jI q)],[(30000,.box 50 [jI e,jL a,jB b,.own 30001]),(30001,.row true 4 50 (rowsOf encT50 f)),(30002,.box 50 [jI g,jL c,jB d,.own 30003]),(30003,.row true 4 50 (rowsOf encT50 i))]⟩:St)),LP 33 k (nav B33 [1,2,2,1,2,2]) n σ=some r.st:=by
 induction n with
 | zero=>intro m p q e a b f g c d i r j;cases j
 | succ n ih =>
  intro m p q e a b f g c d i r j σ hσ
  rw [f33_l1] at j
  obtain ⟨o,h,j⟩:=Option.bind_eq_some_iff.1 j
  have hB:=f33_l1_b_ok k m p q e a b f g c d i o h
  unfold LP at ih ⊢
  unfold EX at hB
  rw [loopK_succ,show firstReg (nav B33 [1,2,2,1,2,2])=3 from rfl,hσ,headK_some,hB]
  cases o with
  | o0 y s t u v w x z aa ab l =>
   refine ih y s t u v w x z aa ab l r j _ ?_
   simp (disch:=first|apply D;decide|apply K;kernel_rfl) only [W,simprocAttr,hh_33_3,hc_33_3]
  | o1 y s t u v w x z aa ab l ad=>cases j;rfl
noncomputable def f33_j2 (k:Nat) (j:List T50) (l m:Int) (g:Bool) (h c:Int) (d:List Int) (i:List T50) (e a:Int) (b:List Int) (f:List T50):Option R33 :=
 some (.o0 e a b f)
theorem f33_j2_ok (k j l m e f a b g h c d i r) (o:f33_j2 k j l m e f a b g h c d i=some r):finK Tryd.prog Tryd.f33 0 (EX 33 k (nav B33 [2,2,2]) (⟨22,[(2,.ptr 30000 0),(3,.ptr 30002 0),(7,.sl 4 (rowsOf encT50 j)),(8,jI l),(9,jI m),(10,jT e)],[(30000,.box 50 [jI f,jL a,jB b,.own 30001]),(30001,.row true 4 50 (rowsOf encT50 g)),(30002,.box 50 [jI h,jL c,jB d,.own 30003]),(30003,.row true 4 50 (rowsOf encT50 i))]⟩:St))=some r.st:=by
 unfold f33_j2 at o
 cases o
 simp (disch:=first|apply D;decide|apply K;kernel_rfl) only [W,simprocAttr,xk B33 [2,2,2] .sq rfl,rg B33 [1,2,2,2] 7 false rfl,hr 33 7 rfl,t_50,xk B33 [2,2,2,2] .rt rfl,fin33,R33.st]
noncomputable def f33_e (k:Nat) (g:List T50):Option R33 :=
 Option.bind (f33_l1 k k g ((List.length g):Int) 0 0 0 [] [] 4 0 [] []) fun o1 =>
  match o1 with
  | .o0 _ _ _ _ _ _ _ _ _ _ _ =>
   none
  | .o1 h i j l m o a b c d e f =>
   f33_j2 k h i j l m o a b c d e f
theorem f33_e_ok (k c r) (a:f33_e k c=some r):finK Tryd.prog Tryd.f33 0 (EX 33 k (nav B33 []) (⟨22,[(0,.sl 4 (rowsOf encT50 c))],[]⟩:St))=some r.st:=by
 unfold f33_e at a
 obtain ⟨o1,j,a⟩:=bs a
 have b:=f33_l1_ok k k c ((List.length c):Int) 0 0 0 [] [] 4 0 [] [] _ j
 simp (disch:=first|apply D;decide|apply K;kernel_rfl) only [W,simprocAttr,xk B33 [] .sq rfl,rg B33 [1] 0 false rfl,hr_33_0,t_50,xk B33 [2] .sq rfl,rg B33 [1,2] 1 false rfl,hr_33_1,bl_50,xk B33 [2,2] .sq rfl,xk B33 [1,2,2] .sq rfl,rg B33 [1,1,2,2] 2 false rfl,hr 33 2 rfl,t_48,xk B33 [2,1,2,2] (.bk 0) rfl,xk B33 [2,2,1,2,2] .lp rfl,hh_33_3,hc_33_3]
 (try simp only [NM,EE] at b)
 rw [b _ (by simp (disch:=first|apply D;decide|apply K;kernel_rfl) only [W,simprocAttr,hh_33_3,hc_33_3])]
 clear b
 cases o1 with
 | o0 _ _ _ _ _ _ _ _ _ _ _ =>
  (try dsimp only at a)
  cases a
 | o1 l m o p q s d e f g h i =>
  (try dsimp only at a)
  have hJ:=f33_j2_ok k l m o p q s d e f g h i _ a
  simp (disch:=first|apply D;decide|apply K;kernel_rfl) only [W,simprocAttr,R33_l1.st]
  try simp only [NM,EE] at hJ
  exact hJ
noncomputable def f33 (k:Nat) (a:List T50):Option R33:=match k with | 0=>none | k+1=>f33_e k a
theorem f33_ok (k a r) (b:f33 k a=some r):CV k 33 [.sl 4 (rowsOf encT50 a)] []=some r.st:=by
 cases k with
 | zero=>cases b
 | succ k =>
  unfold CV
  rw [ev_call (F:=Tryd.f33) (c:=(nav B33 [])) rfl Tryd.func33 rfl rfl rfl rfl]
  exact f33_e_ok k a r b
-- f32: f32 heliograph/bundle.numbers
inductive R32 where
 | o0 (y a:Int) (b:List Int) (c:List T50)
noncomputable def R32.st:R32→V×List O×List O
 | .o0 y a b c=>(.agg [jI y,jL a,jB b,.own 2000000],[],[.row true 4 50 (rowsOf encT50 c)])
inductive R32_l1 where
 | o0 (y:List Int) (a b c d:Int) (e:List Int) (f g:List T50)
 | o1 (y:List Int) (a b:Int) (c:Bool) (d e:Int) (f:List Int) (g h:List T50)
noncomputable def R32_l1.st:R32_l1→Out×St
 | .o0 y a b c d e f g=>(.norm,(⟨21,[(2,.ptr 30000 0),(3,.own 17),(6,.sl 1 (rowsOf (encI .i64) y)),(7,jI a),(8,jI b)],[(30000,.box 50 [jI c,jL d,jB e,.own 30001]),(30001,.row true 4 50 (rowsOf encT50 f)),(17,.row true 4 50 (rowsOf encT50 g))]⟩:St))
 | .o1 y a b c d e f g h=>(.exit 0,(⟨21,[(2,.ptr 30000 0),(3,.own 30002),(6,.sl 1 (rowsOf (encI .i64) y)),(7,jI a),(8,jI b),(9,jT c)],[(30000,.box 50 [jI d,jL e,jB f,.own 30001]),(30001,.row true 4 50 (rowsOf encT50 g)),(30002,.row true 4 50 (rowsOf encT50 h))]⟩:St))
noncomputable def f32_l1_j2 (k:Nat) (f:List Int) (g h c a:Int) (b:List Int) (d e:List T50):Option R32_l1 :=
 some (.o0 f g (IntKind.i64.wrap (h+(1:Int))) c a b d e)
theorem f32_l1_j2_ok (k f g h c a b d e r) (i:f32_l1_j2 k f g h c a b d e=some r):EX 32 k (nav B32 [2,2,2,1,2,2,1,2,2]) (⟨21,[(2,.ptr 30000 0),(3,.own 17),(6,.sl 1 (rowsOf (encI .i64) f)),(7,jI g),(8,jI h)],[(30000,.box 50 [jI c,jL a,jB b,.own 30001]),(30001,.row true 4 50 (rowsOf encT50 d)),(17,.row true 4 50 (rowsOf encT50 e))]⟩:St)=some r.st:=by
 unfold f32_l1_j2 at i
 cases i
 simp (disch:=first|apply D;decide|apply K;kernel_rfl) only [W,simprocAttr,rg B32 [2,2,2,1,2,2,1,2,2] 6 false rfl,hr 32 6 rfl,R32_l1.st]
noncomputable def f32_l1_j1 (k:Nat) (h:List Int) (i d:Int) (p:Bool) (e a:Int) (b:List Int) (f c:List T50):Option R32_l1 :=
 ifE ((0:Int)≤d) (
  Option.bind (h[(Int.toNat d)]?) fun j =>
   Option.bind (f36 k (IntKind.u64.wrap j)) fun o4 =>
    match o4 with
    | .o0 l m o g =>
     ifE (((List.length c)+1) * 64≤roomy) (
      f32_l1_j2 k h i d e a b f (c++([(T50.mk l m o g)]:List T50))))
theorem f32_l1_j1_ok (k m o p u e a b f g r) (c:f32_l1_j1 k m o p u e a b f g=some r):EX 32 k (nav B32 [2,2,1,2,2,1,2,2]) (⟨21,[(2,.ptr 30000 0),(3,.own 30002),(6,.sl 1 (rowsOf (encI .i64) m)),(7,jI o),(8,jI p),(9,jT u)],[(30000,.box 50 [jI e,jL a,jB b,.own 30001]),(30001,.row true 4 50 (rowsOf encT50 f)),(30002,.row true 4 50 (rowsOf encT50 g))]⟩:St)=some r.st:=by
 unfold f32_l1_j1 at c
 obtain ⟨v,c⟩:=ifE_some.1 c
 obtain ⟨w,x,c⟩:=bs c
 obtain ⟨o4,y,c⟩:=bs c
 have h:=f36_ok k (IntKind.u64.wrap w) _ y
 cases o4 with
 | o0 i j l d =>
  (try dsimp only at c)
  (try simp only [NM,EE,R36.st] at h)
  have q:[[jI i,jL j,jB l,.sl 4 (rowsOf encT50 d)]]=rowsOf encT50 ([(T50.mk i j l d)]:List T50):=by first | rfl | simp only [jB,rowsOf,List.map_cons,List.map_nil,encT50_eq]
  have s:List.map (tell [0,0,1,4]) (rowsOf encT50 ([(T50.mk i j l d)]:List T50))=rowsOf encT50 ([(T50.mk i j l d)]:List T50):=by first | rfl | simp only [jB,rowsOf,List.map_cons,List.map_nil,encT50_eq]
  obtain ⟨t,c⟩:=ifE_some.1 c
  have hJ:=f32_l1_j2_ok k m o p e a b f (g++([(T50.mk i j l d)]:List T50)) _ c
  simp (disch:=first|apply D;decide|apply K;kernel_rfl) only [W,simprocAttr,xk B32 [2,2,1,2,2,1,2,2] .sq rfl,xk B32 [1,2,2,1,2,2,1,2,2] (.bk 1) rfl,xk B32 [2,1,2,2,1,2,2,1,2,2] .sq rfl,rg B32 [1,2,1,2,2,1,2,2,1,2,2] 4 false rfl,hr 32 4 rfl,indexAddrV,t_66,t_3,encI_eq,rg B32 [2,2,1,2,2,1,2,2,1,2,2] 5 false rfl,hr 32 5 rfl,t_47,convV,callStep,CL,gv,List.contains,buildSliceV,fillRows,sm_50,t_48,t_50,appendV,content,v,x,h,q,s,t]
  try simp only [NM,EE] at hJ
  exact hJ
noncomputable def f32_l1_b (k:Nat) (h:List Int) (f g c a:Int) (b:List Int) (d e:List T50):Option R32_l1 :=
 cond ((decide (g<f)))
  (f32_l1_j1 k h f g true c a b d e)
  (some (.o1 h f g false c a b d e))
theorem f32_l1_b_ok (k g h i c a b d e r) (f:f32_l1_b k g h i c a b d e=some r):EX 32 k (nav B32 [1,2,2,1,2,2]) (⟨21,[(2,.ptr 30000 0),(3,.own 30002),(6,.sl 1 (rowsOf (encI .i64) g)),(7,jI h),(8,jI i)],[(30000,.box 50 [jI c,jL a,jB b,.own 30001]),(30001,.row true 4 50 (rowsOf encT50 d)),(30002,.row true 4 50 (rowsOf encT50 e))]⟩:St)=some r.st:=by
 unfold f32_l1_b at f
 simp (disch:=first|apply D;decide|apply K;kernel_rfl) only [W,simprocAttr,xk B32 [1,2,2,1,2,2] .sq rfl,rg B32 [1,1,2,2,1,2,2] 3 false rfl,hr 32 3 rfl,xk B32 [2,1,2,2,1,2,2] .sq rfl,xk B32 [1,2,1,2,2,1,2,2] (.cd 9) rfl]
 rcases cond_some f with ⟨j,f⟩ | ⟨j,f⟩
 ·have hJ:=f32_l1_j1_ok k g h i true c a b d e _ f
  simp (disch:=first|apply D;decide|apply K;kernel_rfl) only [W,simprocAttr,xk B32 [2,1,2,1,2,2,1,2,2] .sk rfl,j]
  try simp only [NM,EE] at hJ
  exact hJ
 ·cases f
  simp (disch:=first|apply D;decide|apply K;kernel_rfl) only [W,simprocAttr,xk B32 [3,1,2,1,2,2,1,2,2] (.ex 0) rfl,R32_l1.st,j]
noncomputable def f32_l1 (k:Nat):Nat→(List Int)→Int→Int→Int→Int→(List Int)→(List T50)→(List T50)→Option R32_l1
 | 0,_,_,_,_,_,_,_,_=>none
 | n+1,q,s,t,j,a,b,l,m=>Option.bind (f32_l1_b k q s t j a b l m) fun o =>
  match o with
  | .o0 y c d e f g h i=>f32_l1 k n y c d e f g h i
  | .o1 y c d e f g h i p=>some (.o1 y c d e f g h i p)
theorem f32_l1_ok (k n:Nat):∀ (g:List Int) (i j c a:Int) (b:List Int) (d e:List T50) (r:R32_l1) (f:f32_l1 k n g i j c a b d e=some r) (σ:St) (hσ:headR (hints.head 32 3) (hints.canon 32 3) σ=some (⟨21,[(2,.ptr 30000 0),(3,.own 30002),(6,.sl 1 (rowsOf (encI .i64) g)),(7,jI i),(8,jI j)],[(30000,.box 50 [jI c,jL a,jB b,.own 30001]),(30001,.row true 4 50 (rowsOf encT50 d)),(30002,.row true 4 50 (rowsOf encT50 e))]⟩:St)),LP 32 k (nav B32 [1,2,2,1,2,2]) n σ=some r.st:=by
 induction n with
 | zero=>intro g i j c a b d e r f;cases f
 | succ n v =>
  intro g i j c a b d e r f σ hσ
  rw [f32_l1] at f
  obtain ⟨o,h,f⟩:=Option.bind_eq_some_iff.1 f
  have hB:=f32_l1_b_ok k g i j c a b d e o h
  unfold LP at v ⊢
  unfold EX at hB
  rw [loopK_succ,show firstReg (nav B32 [1,2,2,1,2,2])=3 from rfl,hσ,headK_some,hB]
  cases o with
  | o0 y l m p q s t u =>
   refine v y l m p q s t u r f _ ?_
   simp (disch:=first|apply D;decide|apply K;kernel_rfl) only [W,simprocAttr,hh_32_3,hc_32_3]
  | o1 y l m p q s t u w=>cases f;rfl
noncomputable def f32_j2 (k:Nat) (j:List Int) (l m:Int) (o:Bool) (d a:Int) (b:List Int) (e c:List T50):Option R32 :=
 Option.bind (f33 k c) fun o1 =>
  match o1 with
  | .o0 f g h i =>
   some (.o0 f g h i)
theorem f32_j2_ok (k h i j l d a b e c r) (f:f32_j2 k h i j l d a b e c=some r):finK Tryd.prog Tryd.f32 0 (EX 32 k (nav B32 [2,2,2]) (⟨21,[(2,.ptr 30000 0),(3,.own 30002),(6,.sl 1 (rowsOf (encI .i64) h)),(7,jI i),(8,jI j),(9,jT l)],[(30000,.box 50 [jI d,jL a,jB b,.own 30001]),(30001,.row true 4 50 (rowsOf encT50 e)),(30002,.row true 4 50 (rowsOf encT50 c))]⟩:St))=some r.st:=by
 unfold f32_j2 at f
 obtain ⟨o1,m,f⟩:=bs f
 have g:=f33_ok k c _ m
 cases o1 with
 | o0 o p q s =>
  (try dsimp only at f)
  (try simp only [NM,EE,R33.st] at g)
  cases f
  simp (disch:=first|apply D;decide|apply K;kernel_rfl) only [W,simprocAttr,xk B32 [2,2,2] .sq rfl,rg B32 [1,2,2,2] 7 false rfl,hr 32 7 rfl,callStep,CL,gv,List.contains,t_50,xk B32 [2,2,2,2] .rt rfl,fin32,R32.st,g]
noncomputable def f32_e (k:Nat) (d:List Int):Option R32 :=
 Option.bind (f32_l1 k k d ((List.length d):Int) 0 0 0 [] [] []) fun o1 =>
  match o1 with
  | .o0 _ _ _ _ _ _ _ _ =>
   none
  | .o1 e f g h i j a b c =>
   f32_j2 k e f g h i j a b c
theorem f32_e_ok (k c r) (a:f32_e k c=some r):finK Tryd.prog Tryd.f32 0 (EX 32 k (nav B32 []) (⟨21,[(0,.sl 1 (rowsOf (encI .i64) c))],[]⟩:St))=some r.st:=by
 unfold f32_e at a
 obtain ⟨o1,g,a⟩:=bs a
 have b:=f32_l1_ok k k c ((List.length c):Int) 0 0 0 [] [] [] _ g
 simp (disch:=first|apply D;decide|apply K;kernel_rfl) only [W,simprocAttr,xk B32 [] .sq rfl,rg B32 [1] 0 false rfl,hr_32_0,t_50,xk B32 [2] .sq rfl,rg B32 [1,2] 1 false rfl,hr_32_1,xk B32 [2,2] .sq rfl,xk B32 [1,2,2] .sq rfl,rg B32 [1,1,2,2] 2 false rfl,hr 32 2 rfl,t_66,xk B32 [2,1,2,2] (.bk 0) rfl,xk B32 [2,2,1,2,2] .lp rfl,hh_32_3,hc_32_3]
 (try simp only [NM,EE] at b)
 rw [b _ (by simp (disch:=first|apply D;decide|apply K;kernel_rfl) only [W,simprocAttr,hh_32_3,hc_32_3])]
 clear b
 cases o1 with
 | o0 _ _ _ _ _ _ _ _ =>
  (try dsimp only at a)
  cases a
 | o1 h i j l m o d e f =>
  (try dsimp only at a)
  have hJ:=f32_j2_ok k h i j l m o d e f _ a
  simp (disch:=first|apply D;decide|apply K;kernel_rfl) only [W,simprocAttr,R32_l1.st]
  try simp only [NM,EE] at hJ
  exact hJ
noncomputable def f32 (k:Nat) (a:List Int):Option R32:=match k with | 0=>none | k+1=>f32_e k a
theorem f32_ok (k a r) (b:f32 k a=some r):CV k 32 [.sl 1 (rowsOf (encI .i64) a)] []=some r.st:=by
 cases k with
 | zero=>cases b
 | succ k =>
  unfold CV
  rw [ev_call (F:=Tryd.f32) (c:=(nav B32 [])) rfl Tryd.func32 rfl rfl rfl rfl]
  exact f32_e_ok k a r b
-- f72: f72 heliograph/cbor.plain
inductive R72 where
 | o0 (y:Bool)
noncomputable def R72.st:R72→V×List O×List O
 | .o0 y=>(jT y,[],[])
noncomputable def f72_j1 (k:Nat) (g a:Int) (b:List Int) (c:List T50) (h d:Int) (e:List Int) (f:List T50):Option R72 :=
 cond ((a==d))
  (
   cond ((((List.length b):Int)==((List.length e):Int)))
    (some (.o0 ((((List.length c):Int)==((List.length f):Int)))))
    (some (.o0 false)))
  (some (.o0 false))
theorem f72_j1_ok (k j b c d l e f g r) (a:f72_j1 k j b c d l e f g=some r):finK Tryd.prog Tryd.f72 0 (EX 72 k (nav B72 [2,2,2]) (⟨48,[(1,.ptr 1 0),(3,.ptr 3 0)],[(1,.box 50 [jI j,jL b,jB c,.sl 4 (rowsOf encT50 d)]),(3,.box 50 [jI l,jL e,jB f,.sl 4 (rowsOf encT50 g)])]⟩:St))=some r.st:=by
 unfold f72_j1 at a
 simp (disch:=first|apply D;decide|apply K;kernel_rfl) only [W,simprocAttr,xk B72 [2,2,2] .sq rfl,rg B72 [1,2,2,2] 11 false rfl,hr 72 11 rfl,fieldAddrV,t_50,t_47]
 rcases cond_some a with ⟨h,a⟩ | ⟨h,a⟩
 ·simp (disch:=first|apply D;decide|apply K;kernel_rfl) only [W,simprocAttr,fieldAddrV,t_50,t_22,h]
  rcases cond_some a with ⟨i,a⟩ | ⟨i,a⟩
  ·cases a
   simp (disch:=first|apply D;decide|apply K;kernel_rfl) only [W,simprocAttr,fieldAddrV,t_50,t_48,xk B72 [2,2,2,2] .rt rfl,fin72,R72.st,h,i]
  ·cases a
   simp (disch:=first|apply D;decide|apply K;kernel_rfl) only [W,simprocAttr,xk B72 [2,2,2,2] .rt rfl,fin72,R72.st,h,i]
 ·cases a
  simp (disch:=first|apply D;decide|apply K;kernel_rfl) only [W,simprocAttr,xk B72 [2,2,2,2] .rt rfl,fin72,R72.st,h]
noncomputable def f72_j2 (k:Nat) (j:Int) (g:Bool) (h c:Int) (a:List Int) (b:List T50) (i d:Int) (e:List Int) (f:List T50):Option R72 :=
 cond (g)
  (f72_j1 k h c a b i d a f)
  (
   cond ((j==4))
    (f72_j1 k h c a b i d e b)
    (some (.o0 false)))
theorem f72_j2_ok (k o h j c a b l d e f r) (g:f72_j2 k o h j c a b l d e f=some r):finK Tryd.prog Tryd.f72 0 (SQ 72 k (nav B72 [2,2,2]) (blockK 0 (EX 72 k (nav B72 [2,3,2,2,2,1,2,2]) (⟨48,[(1,.ptr 1 0),(3,.ptr 3 0),(8,jI o),(14,jT h)],[(1,.box 50 [jI j,jL c,jB a,.sl 4 (rowsOf encT50 b)]),(3,.box 50 [jI l,jL d,jB e,.sl 4 (rowsOf encT50 f)])]⟩:St))))=some r.st:=by
 unfold f72_j2 at g
 simp (disch:=first|apply D;decide|apply K;kernel_rfl) only [W,simprocAttr,xk B72 [2,3,2,2,2,1,2,2] (.cd 14) rfl]
 rcases cond_some g with ⟨i,g⟩ | ⟨i,g⟩
 ·have hJ:=f72_j1_ok k j c a b l d a f _ g
  simp (disch:=first|apply D;decide|apply K;kernel_rfl) only [W,simprocAttr,rg B72 [2,2,3,2,2,2,1,2,2] 8 false rfl,hr 72 8 rfl,fieldAddrV,t_50,t_22,i]
  try simp only [NM,EE] at hJ
  exact hJ
 ·simp (disch:=first|apply D;decide|apply K;kernel_rfl) only [W,simprocAttr,xk B72 [3,2,3,2,2,2,1,2,2] .sq rfl,rg B72 [1,3,2,3,2,2,2,1,2,2] 9 false rfl,hr 72 9 rfl,xk B72 [2,3,2,3,2,2,2,1,2,2] (.cd 20) rfl,i]
  rcases cond_some g with ⟨m,g⟩ | ⟨m,g⟩
  ·have hJ:=f72_j1_ok k j c a b l d e b _ g
   simp (disch:=first|apply D;decide|apply K;kernel_rfl) only [W,simprocAttr,rg B72 [2,2,3,2,3,2,2,2,1,2,2] 10 false rfl,hr 72 10 rfl,fieldAddrV,t_50,t_48,i,m]
   try simp only [NM,EE] at hJ
   exact hJ
  ·cases g
   simp (disch:=first|apply D;decide|apply K;kernel_rfl) only [W,simprocAttr,xk B72 [3,2,3,2,3,2,2,2,1,2,2] .sq rfl,rg B72 [1,3,2,3,2,3,2,2,2,1,2,2] 3 false rfl,hr 72 3 rfl,xk B72 [2,3,2,3,2,3,2,2,2,1,2,2] .rt rfl,fin72,R72.st,i,m]
noncomputable def f72_e (k:Nat) (b a:Int) (c:List Int) (d:List T50):Option R72 :=
 cond ((b==1))
  (f72_j1 k b a c d b a [] [])
  (
   cond ((b==2))
    (f72_j2 k b true b a c d b 0 [] [])
    (f72_j2 k b (b==3) b a c d b 0 [] []))
theorem f72_e_ok (k d a b c r) (e:f72_e k d a b c=some r):finK Tryd.prog Tryd.f72 0 (EX 72 k (nav B72 []) (⟨48,[(0,.agg [jI d,jL a,jB b,.sl 4 (rowsOf encT50 c)])],[]⟩:St))=some r.st:=by
 unfold f72_e at e
 simp (disch:=first|apply D;decide|apply K;kernel_rfl) only [W,simprocAttr,xk B72 [] .sq rfl,rg B72 [1] 0 false rfl,hr 72 0 rfl,xk B72 [2] .sq rfl,rg B72 [1,2] 1 false rfl,hr_72_1,fieldAddrV,t_50,t_3,bl_50,xk B72 [2,2] .sq rfl,xk B72 [1,2,2] .sq rfl,rg B72 [1,1,2,2] 2 false rfl,hr 72 2 rfl,xk B72 [2,1,2,2] (.bk 0) rfl,xk B72 [2,2,1,2,2] .sq rfl,rg B72 [1,2,2,1,2,2] 4 false rfl,hr 72 4 rfl,xk B72 [2,2,2,1,2,2] (.cd 9) rfl]
 rcases cond_some e with ⟨f,e⟩ | ⟨f,e⟩
 ·have hJ:=f72_j1_ok k d a b c d a [] [] _ e
  simp (disch:=first|apply D;decide|apply K;kernel_rfl) only [W,simprocAttr,rg B72 [2,2,2,2,1,2,2] 5 false rfl,hr 72 5 rfl,fieldAddrV,t_50,t_47,f]
  try simp only [NM,EE] at hJ
  exact hJ
 ·simp (disch:=first|apply D;decide|apply K;kernel_rfl) only [W,simprocAttr,xk B72 [3,2,2,2,1,2,2] .sq rfl,xk B72 [1,3,2,2,2,1,2,2] .sq rfl,rg B72 [1,1,3,2,2,2,1,2,2] 6 false rfl,hr 72 6 rfl,xk B72 [2,1,3,2,2,2,1,2,2] (.cd 14) rfl,f]
  rcases cond_some e with ⟨g,e⟩ | ⟨g,e⟩
  ·have hJ:=f72_j2_ok k d true d a b c d 0 [] [] _ e
   simp (disch:=first|apply D;decide|apply K;kernel_rfl) only [W,simprocAttr,xk B72 [2,2,1,3,2,2,2,1,2,2] .sk rfl,f,g]
   try simp only [NM,EE] at hJ
   exact hJ
  ·have hJ:=f72_j2_ok k d (d==3) d a b c d 0 [] [] _ e
   simp (disch:=first|apply D;decide|apply K;kernel_rfl) only [W,simprocAttr,rg B72 [3,2,1,3,2,2,2,1,2,2] 7 false rfl,hr 72 7 rfl,f,g]
   try simp only [NM,EE] at hJ
   exact hJ
noncomputable def f72 (k:Nat) (d a:Int) (b:List Int) (c:List T50):Option R72:=match k with | 0=>none | k+1=>f72_e k d a b c
theorem f72_ok (k e a b d r) (f:f72 k e a b d=some r):CV k 72 [.agg [jI e,jL a,jB b,.sl 4 (rowsOf encT50 d)]] []=some r.st:=by
 cases k with
 | zero=>cases f
 | succ k =>
  unfold CV
  rw [ev_call (F:=Tryd.f72) (c:=(nav B72 [])) rfl Tryd.func72 rfl rfl rfl rfl]
  exact f72_e_ok k e a b d r f
end Go.Proofs.YtbnnmplkbpgcaaaDoorV