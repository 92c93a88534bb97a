/- What the program's functions answer: plain functions,and that the interpreter answers what they do. Written by a program of this session,out of the translation. -/
import Derived.Test.YtiompmmbjpjjeaaDoorVP3
namespace Go.Proofs.YtiompmmbjpjjeaaDoorV
open Go
set_option linter.unusedVariables false
set_option linter.unusedSimpArgs false
set_option maxRecDepth 8000
set_option maxHeartbeats 4000000
-- f70: f70 heliograph/cbor.own
inductive R70 where
 | o0 (y a:Int) (b:List Int) (c:List T113)
noncomputable def R70.st:R70→V×List O×List O
 | .o0 y a b c=>(.agg [jI y,jL a,.own 2000000,.own 2000001],[],[.row true 1 5 (rowsOf (encI .u8) b),.row true 4 113 (rowsOf encT113 c)])
inductive R70_l1 where
 | o0 (y:List T113) (b c d e:Int) (f:List Int) (g:List T113) (h i:Int) (j:List Int) (a:List T113)
 | o1 (y:List T113) (b c:Int) (d:Bool) (e f:Int) (g:List Int) (h:List T113) (i j:Int) (a:List Int) (l:List T113)
noncomputable def R70_l1.st:R70_l1→Out×St
 | .o0 y b c d e f g h i j a=>(.norm,(⟨28,[(1,.ptr 30000 0),(2,.ptr 30003 0),(13,.sl 4 (rowsOf encT113 y)),(14,jI b),(15,jI c)],[(30000,.box 113 [jI d,jL e,.own 30001,.own 24]),(30001,.row true 1 5 (rowsOf (encI .u8) f)),(24,.row true 4 113 (rowsOf encT113 g)),(30003,.box 113 [jI h,jL i,.own 30004,.own 30005]),(30004,.row true 1 5 (rowsOf (encI .u8) j)),(30005,.row true 4 113 (rowsOf encT113 a))]⟩:St))
 | .o1 y b c d e f g h i j a l=>(.exit 0,(⟨28,[(1,.ptr 30000 0),(2,.ptr 30003 0),(13,.sl 4 (rowsOf encT113 y)),(14,jI b),(15,jI c),(16,jT d)],[(30000,.box 113 [jI e,jL f,.own 30001,.own 30002]),(30001,.row true 1 5 (rowsOf (encI .u8) g)),(30002,.row true 4 113 (rowsOf encT113 h)),(30003,.box 113 [jI i,jL j,.own 30004,.own 30005]),(30004,.row true 1 5 (rowsOf (encI .u8) a)),(30005,.row true 4 113 (rowsOf encT113 l))]⟩:St))
abbrev Ff70_aiirrz:=Int→Int→(List Int)→(List T113)→Option R70
noncomputable def f70_l1_j2 (k:Nat) (Q:Ff70_aiirrz) (c:List T113) (d e f a:Int) (g:List Int) (h:List T113) (i b:Int) (j:List Int) (l:List T113):Option R70_l1 :=
 some (.o0 c d (IntKind.i64.wrap (e+(1:Int))) f a g h i b j l)
def If70_aiirrz (k:Nat) (Q:Ff70_aiirrz):Prop:=∀ (q c:Int) (d:List Int) (e:List T113) (r:R70),Q q c d e=some r→CV k 70 [.agg [jI q,jL c,jB d,.sl 4 (rowsOf encT113 e)]] []=some r.st
theorem f70_l1_j2_ok (k Q) (H:If70_aiirrz k Q) (f g h i a j l m b o p r) (s:f70_l1_j2 k Q f g h i a j l m b o p=some r):EX 70 k (nav B70 [2,2,2,1,2,2,1,2,2,2,2]) (⟨28,[(1,.ptr 30000 0),(2,.ptr 30003 0),(13,.sl 4 (rowsOf encT113 f)),(14,jI g),(15,jI h)],[(30000,.box 113 [jI i,jL a,.own 30001,.own 24]),(30001,.row true 1 5 (rowsOf (encI .u8) j)),(24,.row true 4 113 (rowsOf encT113 l)),(30003,.box 113 [jI m,jL b,.own 30004,.own 30005]),(30004,.row true 1 5 (rowsOf (encI .u8) o)),(30005,.row true 4 113 (rowsOf encT113 p))]⟩:St)=some r.st:=by
 unfold f70_l1_j2 at s
 cases s
 simp only [W,simprocAttr,rg B70 [2,2,2,1,2,2,1,2,2,2,2] 8 false rfl,hr 70 8 rfl,R70_l1.st]
noncomputable def f70_l1_j1 (k:Nat) (Q:Ff70_aiirrz) (d:List T113) (g a:Int) (p:Bool) (h b:Int) (i:List Int) (e:List T113) (j c:Int) (l:List Int) (m:List T113):Option R70_l1 :=
 ifE ((0:Int)≤a) (
  Option.bind (d[(Int.toNat a)]?) fun f =>
   Option.bind (Q f.Kind f.Num f.Bytes f.Items) fun o4 =>
    match o4 with
    | .o0 q s t o =>
     ifE (((List.length e)+1) * 64≤roomy) (
      f70_l1_j2 k Q d g a h b i (e++([(T113.mk q s t o)]:List T113)) j c l m))
theorem f70_l1_j1_ok (k Q) (H:If70_aiirrz k Q) (h i j t l a m o p b q s r) (c:f70_l1_j1 k Q h i j t l a m o p b q s=some r):EX 70 k (nav B70 [2,2,1,2,2,1,2,2,2,2]) (⟨28,[(1,.ptr 30000 0),(2,.ptr 30003 0),(13,.sl 4 (rowsOf encT113 h)),(14,jI i),(15,jI j),(16,jT t)],[(30000,.box 113 [jI l,jL a,.own 30001,.own 30002]),(30001,.row true 1 5 (rowsOf (encI .u8) m)),(30002,.row true 4 113 (rowsOf encT113 o)),(30003,.box 113 [jI p,jL b,.own 30004,.own 30005]),(30004,.row true 1 5 (rowsOf (encI .u8) q)),(30005,.row true 4 113 (rowsOf encT113 s))]⟩:St)=some r.st:=by
 unfold f70_l1_j1 at c
 obtain ⟨h1,c⟩:=ifE_some.1 c
 obtain ⟨y,h3,c⟩:=bs c
 obtain ⟨o4,h5,c⟩:=bs c
 have u:=H y.Kind y.Num y.Bytes y.Items _ h5
 cases o4 with
 | o0 v w x d =>
  (try dsimp only at c)
  (try simp only [NM,EE,R70.st] at u)
  have z:[[jI v,jL w,jB x,.sl 4 (rowsOf encT113 d)]]=rowsOf encT113 ([(T113.mk v w x d)]:List T113):=by first | rfl | simp only [jB,rowsOf,List.map_cons,List.map_nil,encT113_eq]
  have n:List.map (tell [0,0,1,4]) (rowsOf encT113 ([(T113.mk v w x d)]:List T113))=rowsOf encT113 ([(T113.mk v w x d)]:List T113):=by first | rfl | simp only [jB,rowsOf,List.map_cons,List.map_nil,encT113_eq]
  obtain ⟨aa,c⟩:=ifE_some.1 c
  have hJ:=f70_l1_j2_ok k Q H h i j l a m (o++([(T113.mk v w x d)]:List T113)) p b q s _ c
  simp (disch:=first|decide|apply K;kernel_rfl) only [W,simprocAttr,xk B70 [2,2,1,2,2,1,2,2,2,2] .sq rfl,xk B70 [1,2,2,1,2,2,1,2,2,2,2] (.bk 1) rfl,sr 70 6 B70 [2,1,2,2,1,2,2,1,2,2,2,2] rfl rfl rfl,indexAddrV,t_111,t_113,encT113_eq,rg B70 [2,2,1,2,2,1,2,2,1,2,2,2,2] 7 true rfl,hr 70 7 rfl,fieldAddrV,callStep,CL,gv,List.contains,buildSliceV,fillRows,sm_113,appendV,content,h1,h3,u,z,n,aa]
  try simp only [NM,EE] at hJ
  exact hJ
noncomputable def f70_l1_b (k:Nat) (Q:Ff70_aiirrz) (e:List T113) (c d f a:Int) (g:List Int) (h:List T113) (i b:Int) (j:List Int) (l:List T113):Option R70_l1 :=
 cond ((decide (d<c)))
  (f70_l1_j1 k Q e c d true f a g h i b j l)
  (some (.o1 e c d false f a g h i b j l))
theorem f70_l1_b_ok (k Q) (H:If70_aiirrz k Q) (f g h i a j l m b o p r) (q:f70_l1_b k Q f g h i a j l m b o p=some r):EX 70 k (nav B70 [1,2,2,1,2,2,2,2]) (⟨28,[(1,.ptr 30000 0),(2,.ptr 30003 0),(13,.sl 4 (rowsOf encT113 f)),(14,jI g),(15,jI h)],[(30000,.box 113 [jI i,jL a,.own 30001,.own 30002]),(30001,.row true 1 5 (rowsOf (encI .u8) j)),(30002,.row true 4 113 (rowsOf encT113 l)),(30003,.box 113 [jI m,jL b,.own 30004,.own 30005]),(30004,.row true 1 5 (rowsOf (encI .u8) o)),(30005,.row true 4 113 (rowsOf encT113 p))]⟩:St)=some r.st:=by
 unfold f70_l1_b at q
 simp only [W,simprocAttr,sr 70 5 B70 [1,2,2,1,2,2,2,2] rfl rfl rfl,xk B70 [2,1,2,2,1,2,2,2,2] .sq rfl,xk B70 [1,2,1,2,2,1,2,2,2,2] (.cd 16) rfl]
 rcases cond_some q with ⟨s,q⟩ | ⟨s,q⟩
 ·have hJ:=f70_l1_j1_ok k Q H f g h true i a j l m b o p _ q
  simp only [W,simprocAttr,xk B70 [2,1,2,1,2,2,1,2,2,2,2] .sk rfl,s]
  try simp only [NM,EE] at hJ
  exact hJ
 ·cases q
  simp only [W,simprocAttr,xk B70 [3,1,2,1,2,2,1,2,2,2,2] (.ex 0) rfl,R70_l1.st,s]
noncomputable def f70_l1 (k:Nat) (Q:Ff70_aiirrz):Nat→(List T113)→Int→Int→Int→Int→(List Int)→(List T113)→Int→Int→(List Int)→(List T113)→Option R70_l1
 | 0,_,_,_,_,_,_,_,_,_,_,_=>none
 | n+1,q,s,t,u,b,v,w,x,c,z,r=>Option.bind (f70_l1_b k Q q s t u b v w x c z r) fun o =>
  match o with
  | .o0 y d e f g h i j l m a=>f70_l1 k Q n y d e f g h i j l m a
  | .o1 y d e f g h i j l m a p=>some (.o1 y d e f g h i j l m a p)
theorem f70_l1_ok (k:Nat) (Q:Ff70_aiirrz) (H:If70_aiirrz k Q) (n:Nat):∀ (c:List T113) (d e f a:Int) (g:List Int) (i:List T113) (j b:Int) (l:List Int) (m:List T113) (r:R70_l1) (t:f70_l1 k Q n c d e f a g i j b l m=some r) (σ:St) (hσ:headR (hints.head 70 5) (hints.canon 70 5) σ=some (⟨28,[(1,.ptr 30000 0),(2,.ptr 30003 0),(13,.sl 4 (rowsOf encT113 c)),(14,jI d),(15,jI e)],[(30000,.box 113 [jI f,jL a,.own 30001,.own 30002]),(30001,.row true 1 5 (rowsOf (encI .u8) g)),(30002,.row true 4 113 (rowsOf encT113 i)),(30003,.box 113 [jI j,jL b,.own 30004,.own 30005]),(30004,.row true 1 5 (rowsOf (encI .u8) l)),(30005,.row true 4 113 (rowsOf encT113 m))]⟩:St)),LP 70 k (nav B70 [1,2,2,1,2,2,2,2]) n σ=some r.st:=by
 induction n with
 | zero=>intro c d e f a g i j b l m r t;cases t
 | succ n ih =>
  intro c d e f a g i j b l m r t σ hσ
  rw [f70_l1] at t
  obtain ⟨o,h,t⟩:=Option.bind_eq_some_iff.1 t
  have hB:=f70_l1_b_ok k Q H c d e f a g i j b l m o h
  unfold LP at ih ⊢
  unfold EX at hB
  rw [loopK_succ,show firstReg (nav B70 [1,2,2,1,2,2,2,2])=5 from rfl,hσ,headK_some,hB]
  cases o with
  | o0 y v w x z aa ab ac ad ae u =>
   refine ih y v w x z aa ab ac ad ae u r t _ ?_
   simp only [W,simprocAttr,hh_70_5,hc_70_5]
  | o1 y v w x z aa ab ac ad ae u ah=>cases t;rfl
noncomputable def f70_j2 (k:Nat) (Q:Ff70_aiirrz) (f:List T113) (g h:Int) (i:Bool) (b a:Int) (c:List Int) (d:List T113) (j e:Int) (l:List Int) (m:List T113):Option R70 :=
 some (.o0 b a c d)
theorem f70_j2_ok (k Q) (H:If70_aiirrz k Q) (f g h i j a l m o b p q r) (t:f70_j2 k Q f g h i j a l m o b p q=some r):finK Tryd.prog Tryd.f70 0 (EX 70 k (nav B70 [2,2,2,2,2]) (⟨28,[(1,.ptr 30000 0),(2,.ptr 30003 0),(13,.sl 4 (rowsOf encT113 f)),(14,jI g),(15,jI h),(16,jT i)],[(30000,.box 113 [jI j,jL a,.own 30001,.own 30002]),(30001,.row true 1 5 (rowsOf (encI .u8) l)),(30002,.row true 4 113 (rowsOf encT113 m)),(30003,.box 113 [jI o,jL b,.own 30004,.own 30005]),(30004,.row true 1 5 (rowsOf (encI .u8) p)),(30005,.row true 4 113 (rowsOf encT113 q))]⟩:St))=some r.st:=by
 unfold f70_j2 at t
 cases t
 simp only [W,simprocAttr,sr 70 9 B70 [2,2,2,2,2] rfl rfl rfl,t_113,xk B70 [2,2,2,2,2,2] .rt rfl,fin70,R70.st]
noncomputable def f70_e (k:Nat) (Q:Ff70_aiirrz) (p b:Int) (c:List Int) (a:List T113):Option R70 :=
 Option.bind (f53 k c) fun o1 =>
  match o1 with
  | .o0 q =>
   Option.bind (f70_l1 k Q k a ((List.length a):Int) 0 p b q [] 0 0 [] []) fun o5 =>
    match o5 with
    | .o0 _ _ _ _ _ _ _ _ _ _ _ =>
     none
    | .o1 s t d e f g h i j l m o =>
     f70_j2 k Q s t d e f g h i j l m o
theorem f70_e_ok (k Q) (H:If70_aiirrz k Q) (g b c a r) (d:f70_e k Q g b c a=some r):finK Tryd.prog Tryd.f70 0 (EX 70 k (nav B70 []) (⟨28,[(0,.agg [jI g,jL b,jB c,.sl 4 (rowsOf encT113 a)])],[]⟩:St))=some r.st:=by
 unfold f70_e at d
 obtain ⟨o1,u,d⟩:=bs d
 have e:=f53_ok k c _ u
 cases o1 with
 | o0 v =>
  (try dsimp only at d)
  (try simp only [NM,EE,R53.st] at e)
  obtain ⟨o5,w,d⟩:=bs d
  have f:=f70_l1_ok k Q H k a ((List.length a):Int) 0 g b v [] 0 0 [] [] _ w
  simp only [W,simprocAttr,xk B70 [] .sq rfl,rg B70 [1] 0 false rfl,hr_70_0,t_113,sr 70 1 B70 [2] rfl rfl rfl,fieldAddrV,t_45,callStep,CL,gv,List.contains,sr 70 2 B70 [2,2] rfl rfl rfl,t_111,xk B70 [2,2,2] .sq rfl,rg B70 [1,2,2,2] 3 false rfl,hr_70_3,xk B70 [2,2,2,2] .sq rfl,sr 70 4 B70 [1,2,2,2,2] rfl rfl rfl,xk B70 [2,1,2,2,2,2] (.bk 0) rfl,xk B70 [2,2,1,2,2,2,2] .lp rfl,hh_70_5,hc_70_5,e]
  (try simp only [NM,EE] at f)
  rw [f _ (by simp only [W,simprocAttr,hh_70_5,hc_70_5,e])]
  clear f
  cases o5 with
  | o0 _ _ _ _ _ _ _ _ _ _ _ =>
   (try dsimp only at d)
   cases d
  | o1 x y h i j l m o p q s t =>
   (try dsimp only at d)
   have hJ:=f70_j2_ok k Q H x y h i j l m o p q s t _ d
   simp only [W,simprocAttr,R70_l1.st,e]
   try simp only [NM,EE] at hJ
   exact hJ
noncomputable def f70:Nat→Int→Int→(List Int)→(List T113)→Option R70
 | 0,_,_,_,_=>none
 | k+1,d,a,b,c=>f70_e k (f70 k) d a b c
theorem f70_all (k:Nat):(∀ (e a:Int) (b:List Int) (d:List T113) (r:R70),f70 k e a b d=some r→CV k 70 [.agg [jI e,jL a,jB b,.sl 4 (rowsOf encT113 d)]] []=some r.st):=by
 induction k with
 | zero=>exact (by intro e a b d r f;rw [f70] at f;cases f)
 | succ k g =>
  have ih_f70_aiirrz:=g
  exact (by intro e a b d r f;rw [f70] at f;unfold CV;rw [ev_call (F:=Tryd.f70) (c:=(nav B70 [])) rfl Tryd.func70 rfl rfl rfl rfl];exact f70_e_ok k (f70 k) ih_f70_aiirrz e a b d r f)
theorem f70_ok (k d a b c r) (e:f70 k d a b c=some r):CV k 70 [.agg [jI d,jL a,jB b,.sl 4 (rowsOf encT113 c)]] []=some r.st:=f70_all k d a b c r e
-- f58: f58 heliograph/cbor.List
inductive R58 where
 | o0 (y a:Int) (b:List Int) (c:List T113)
noncomputable def R58.st:R58→V×List O×List O
 | .o0 y a b c=>(.agg [jI y,jL a,jB b,.own 2000000],[],[.row true 4 113 (rowsOf encT113 c)])
inductive R58_l1 where
 | o0 (y:List T113) (b c d e:Int) (f:List Int) (g:List T113) (h i:Int) (j:List Int) (a:List T113)
 | o1 (y:List T113) (b c:Int) (d:Bool) (e f:Int) (g:List Int) (h:List T113) (i j:Int) (a:List Int) (l:List T113)
noncomputable def R58_l1.st:R58_l1→Out×St
 | .o0 y b c d e f g h i j a=>(.norm,(⟨22,[(2,.ptr 30000 0),(3,.ptr 30002 0),(7,.sl 4 (rowsOf encT113 y)),(8,jI b),(9,jI c)],[(30000,.box 113 [jI d,jL e,jB f,.own 30001]),(30001,.row true 4 113 (rowsOf encT113 g)),(30002,.box 113 [jI h,jL i,jB j,.own 18]),(18,.row true 4 113 (rowsOf encT113 a))]⟩:St))
 | .o1 y b c d e f g h i j a l=>(.exit 0,(⟨22,[(2,.ptr 30000 0),(3,.ptr 30002 0),(7,.sl 4 (rowsOf encT113 y)),(8,jI b),(9,jI c),(10,jT d)],[(30000,.box 113 [jI e,jL f,jB g,.own 30001]),(30001,.row true 4 113 (rowsOf encT113 h)),(30002,.box 113 [jI i,jL j,jB a,.own 30003]),(30003,.row true 4 113 (rowsOf encT113 l))]⟩:St))
noncomputable def f58_l1_j2 (k:Nat) (i:List T113) (j l e a:Int) (b:List Int) (f:List T113) (g c:Int) (d:List Int) (h:List T113):Option R58_l1 :=
 some (.o0 i j (IntKind.i64.wrap (l+(1:Int))) e a b f g c d h)
theorem f58_l1_j2_ok (k i j l e a b f g c d h r) (m:f58_l1_j2 k i j l e a b f g c d h=some r):EX 58 k (nav B58 [2,2,2,1,2,2,1,2,2]) (⟨22,[(2,.ptr 30000 0),(3,.ptr 30002 0),(7,.sl 4 (rowsOf encT113 i)),(8,jI j),(9,jI l)],[(30000,.box 113 [jI e,jL a,jB b,.own 30001]),(30001,.row true 4 113 (rowsOf encT113 f)),(30002,.box 113 [jI g,jL c,jB d,.own 18]),(18,.row true 4 113 (rowsOf encT113 h))]⟩:St)=some r.st:=by
 unfold f58_l1_j2 at m
 cases m
 simp only [W,simprocAttr,rg B58 [2,2,2,1,2,2,1,2,2] 6 false rfl,hr 58 6 rfl,R58_l1.st]
noncomputable def f58_l1_j1 (k:Nat) (m:List T113) (o g:Int) (p:Bool) (h a:Int) (b:List Int) (i:List T113) (j c:Int) (d:List Int) (e:List T113):Option R58_l1 :=
 ifE ((0:Int)≤g) (
  Option.bind (m[(Int.toNat g)]?) fun f =>
   Option.bind (f70 k f.Kind f.Num f.Bytes f.Items) fun o4 =>
    match o4 with
    | .o0 q s t l =>
     ifE (((List.length e)+1) * 64≤roomy) (
      f58_l1_j2 k m o g h a b i j c d (e++([(T113.mk q s t l)]:List T113))))
theorem f58_l1_j1_ok (k t u v l g a b h i c d j r) (e:f58_l1_j1 k t u v l g a b h i c d j=some r):EX 58 k (nav B58 [2,2,1,2,2,1,2,2]) (⟨22,[(2,.ptr 30000 0),(3,.ptr 30002 0),(7,.sl 4 (rowsOf encT113 t)),(8,jI u),(9,jI v),(10,jT l)],[(30000,.box 113 [jI g,jL a,jB b,.own 30001]),(30001,.row true 4 113 (rowsOf encT113 h)),(30002,.box 113 [jI i,jL c,jB d,.own 30003]),(30003,.row true 4 113 (rowsOf encT113 j))]⟩:St)=some r.st:=by
 unfold f58_l1_j1 at e
 obtain ⟨z,e⟩:=ifE_some.1 e
 obtain ⟨s,n,e⟩:=bs e
 obtain ⟨o4,h5,e⟩:=bs e
 have m:=f70_ok k s.Kind s.Num s.Bytes s.Items _ h5
 cases o4 with
 | o0 o p q f =>
  (try dsimp only at e)
  (try simp only [NM,EE,R70.st] at m)
  have w:[[jI o,jL p,jB q,.sl 4 (rowsOf encT113 f)]]=rowsOf encT113 ([(T113.mk o p q f)]:List T113):=by first | rfl | simp only [jB,rowsOf,List.map_cons,List.map_nil,encT113_eq]
  have x:List.map (tell [0,0,1,4]) (rowsOf encT113 ([(T113.mk o p q f)]:List T113))=rowsOf encT113 ([(T113.mk o p q f)]:List T113):=by first | rfl | simp only [jB,rowsOf,List.map_cons,List.map_nil,encT113_eq]
  obtain ⟨y,e⟩:=ifE_some.1 e
  have hJ:=f58_l1_j2_ok k t u v g a b h i c d (j++([(T113.mk o p q f)]:List T113)) _ e
  simp (disch:=first|decide|apply K;kernel_rfl) only [W,simprocAttr,xk B58 [2,2,1,2,2,1,2,2] .sq rfl,xk B58 [1,2,2,1,2,2,1,2,2] (.bk 1) rfl,sr 58 4 B58 [2,1,2,2,1,2,2,1,2,2] rfl rfl rfl,indexAddrV,t_111,t_113,encT113_eq,rg B58 [2,2,1,2,2,1,2,2,1,2,2] 5 true rfl,hr 58 5 rfl,fieldAddrV,callStep,CL,gv,List.contains,buildSliceV,fillRows,sm_113,appendV,content,z,n,m,w,x,y]
  try simp only [NM,EE] at hJ
  exact hJ
noncomputable def f58_l1_b (k:Nat) (l:List T113) (i j e a:Int) (b:List Int) (f:List T113) (g c:Int) (d:List Int) (h:List T113):Option R58_l1 :=
 cond ((decide (j<i)))
  (f58_l1_j1 k l i j true e a b f g c d h)
  (some (.o1 l i j false e a b f g c d h))
theorem f58_l1_b_ok (k j l m e a b f g c d h r) (i:f58_l1_b k j l m e a b f g c d h=some r):EX 58 k (nav B58 [1,2,2,1,2,2]) (⟨22,[(2,.ptr 30000 0),(3,.ptr 30002 0),(7,.sl 4 (rowsOf encT113 j)),(8,jI l),(9,jI m)],[(30000,.box 113 [jI e,jL a,jB b,.own 30001]),(30001,.row true 4 113 (rowsOf encT113 f)),(30002,.box 113 [jI g,jL c,jB d,.own 30003]),(30003,.row true 4 113 (rowsOf encT113 h))]⟩:St)=some r.st:=by
 unfold f58_l1_b at i
 simp only [W,simprocAttr,sr 58 3 B58 [1,2,2,1,2,2] rfl rfl rfl,xk B58 [2,1,2,2,1,2,2] .sq rfl,xk B58 [1,2,1,2,2,1,2,2] (.cd 10) rfl]
 rcases cond_some i with ⟨o,i⟩ | ⟨o,i⟩
 ·have hJ:=f58_l1_j1_ok k j l m true e a b f g c d h _ i
  simp only [W,simprocAttr,xk B58 [2,1,2,1,2,2,1,2,2] .sk rfl,o]
  try simp only [NM,EE] at hJ
  exact hJ
 ·cases i
  simp only [W,simprocAttr,xk B58 [3,1,2,1,2,2,1,2,2] (.ex 0) rfl,R58_l1.st,o]
noncomputable def f58_l1 (k:Nat):Nat→(List T113)→Int→Int→Int→Int→(List Int)→(List T113)→Int→Int→(List Int)→(List T113)→Option R58_l1
 | 0,_,_,_,_,_,_,_,_,_,_,_=>none
 | n+1,x,z,r,t,b,c,u,v,d,e,w=>Option.bind (f58_l1_b k x z r t b c u v d e w) fun o =>
  match o with
  | .o0 y f g h i j l m p q a=>f58_l1 k n y f g h i j l m p q a
  | .o1 y f g h i j l m p q a s=>some (.o1 y f g h i j l m p q a s)
theorem f58_l1_ok (k n:Nat):∀ (m:List T113) (p q e a:Int) (b:List Int) (f:List T113) (g c:Int) (d:List Int) (i:List T113) (r:R58_l1) (j:f58_l1 k n m p q e a b f g c d i=some r) (σ:St) (hσ:headR (hints.head 58 3) (hints.canon 58 3) σ=some (⟨22,[(2,.ptr 30000 0),(3,.ptr 30002 0),(7,.sl 4 (rowsOf encT113 m)),(8,jI p),(9,jI q)],[(30000,.box 113 [jI e,jL a,jB b,.own 30001]),(30001,.row true 4 113 (rowsOf encT113 f)),(30002,.box 113 [jI g,jL c,jB d,.own 30003]),(30003,.row true 4 113 (rowsOf encT113 i))]⟩:St)),LP 58 k (nav B58 [1,2,2,1,2,2]) n σ=some r.st:=by
 induction n with
 | zero=>intro m p q e a b f g c d i r j;cases j
 | succ n ih =>
  intro m p q e a b f g c d i r j σ hσ
  rw [f58_l1] at j
  obtain ⟨o,h,j⟩:=Option.bind_eq_some_iff.1 j
  have hB:=f58_l1_b_ok k m p q e a b f g c d i o h
  unfold LP at ih ⊢
  unfold EX at hB
  rw [loopK_succ,show firstReg (nav B58 [1,2,2,1,2,2])=3 from rfl,hσ,headK_some,hB]
  cases o with
  | o0 y s t u v w x z aa ab l =>
   refine ih y s t u v w x z aa ab l r j _ ?_
   simp only [W,simprocAttr,hh_58_3,hc_58_3]
  | o1 y s t u v w x z aa ab l ad=>cases j;rfl
noncomputable def f58_j2 (k:Nat) (j:List T113) (l m:Int) (g:Bool) (h c:Int) (d:List Int) (i:List T113) (e a:Int) (b:List Int) (f:List T113):Option R58 :=
 some (.o0 e a b f)
theorem f58_j2_ok (k j l m e f a b g h c d i r) (o:f58_j2 k j l m e f a b g h c d i=some r):finK Tryd.prog Tryd.f58 0 (EX 58 k (nav B58 [2,2,2]) (⟨22,[(2,.ptr 30000 0),(3,.ptr 30002 0),(7,.sl 4 (rowsOf encT113 j)),(8,jI l),(9,jI m),(10,jT e)],[(30000,.box 113 [jI f,jL a,jB b,.own 30001]),(30001,.row true 4 113 (rowsOf encT113 g)),(30002,.box 113 [jI h,jL c,jB d,.own 30003]),(30003,.row true 4 113 (rowsOf encT113 i))]⟩:St))=some r.st:=by
 unfold f58_j2 at o
 cases o
 simp only [W,simprocAttr,sr 58 7 B58 [2,2,2] rfl rfl rfl,t_113,xk B58 [2,2,2,2] .rt rfl,fin58,R58.st]
noncomputable def f58_e (k:Nat) (g:List T113):Option R58 :=
 Option.bind (f58_l1 k k g ((List.length g):Int) 0 0 0 [] [] 4 0 [] []) fun o1 =>
  match o1 with
  | .o0 _ _ _ _ _ _ _ _ _ _ _ =>
   none
  | .o1 h i j l m o a b c d e f =>
   f58_j2 k h i j l m o a b c d e f
theorem f58_e_ok (k c r) (a:f58_e k c=some r):finK Tryd.prog Tryd.f58 0 (EX 58 k (nav B58 []) (⟨22,[(0,.sl 4 (rowsOf encT113 c))],[]⟩:St))=some r.st:=by
 unfold f58_e at a
 obtain ⟨o1,j,a⟩:=bs a
 have b:=f58_l1_ok k k c ((List.length c):Int) 0 0 0 [] [] 4 0 [] [] _ j
 simp only [W,simprocAttr,xk B58 [] .sq rfl,rg B58 [1] 0 false rfl,hr_58_0,t_113,xk B58 [2] .sq rfl,rg B58 [1,2] 1 false rfl,hr_58_1,bl_113,xk B58 [2,2] .sq rfl,sr 58 2 B58 [1,2,2] rfl rfl rfl,t_111,xk B58 [2,1,2,2] (.bk 0) rfl,xk B58 [2,2,1,2,2] .lp rfl,hh_58_3,hc_58_3]
 (try simp only [NM,EE] at b)
 rw [b _ (by simp only [W,simprocAttr,hh_58_3,hc_58_3])]
 clear b
 cases o1 with
 | o0 _ _ _ _ _ _ _ _ _ _ _ =>
  (try dsimp only at a)
  cases a
 | o1 l m o p q s d e f g h i =>
  (try dsimp only at a)
  have hJ:=f58_j2_ok k l m o p q s d e f g h i _ a
  simp only [W,simprocAttr,R58_l1.st]
  try simp only [NM,EE] at hJ
  exact hJ
noncomputable def f58 (k:Nat) (a:List T113):Option R58:=match k with | 0=>none | k+1=>f58_e k a
theorem f58_ok (k a r) (b:f58 k a=some r):CV k 58 [.sl 4 (rowsOf encT113 a)] []=some r.st:=by
 cases k with
 | zero=>cases b
 | succ k =>
  unfold CV
  rw [ev_call (F:=Tryd.f58) (c:=(nav B58 [])) rfl Tryd.func58 rfl rfl rfl rfl]
  exact f58_e_ok k a r b
-- f57: f57 heliograph/bundle.numbers
inductive R57 where
 | o0 (y a:Int) (b:List Int) (c:List T113)
noncomputable def R57.st:R57→V×List O×List O
 | .o0 y a b c=>(.agg [jI y,jL a,jB b,.own 2000000],[],[.row true 4 113 (rowsOf encT113 c)])
inductive R57_l1 where
 | o0 (y:List Int) (a b c d:Int) (e:List Int) (f g:List T113)
 | o1 (y:List Int) (a b:Int) (c:Bool) (d e:Int) (f:List Int) (g h:List T113)
noncomputable def R57_l1.st:R57_l1→Out×St
 | .o0 y a b c d e f g=>(.norm,(⟨21,[(2,.ptr 30000 0),(3,.own 17),(6,.sl 1 (rowsOf (encI .i64) y)),(7,jI a),(8,jI b)],[(30000,.box 113 [jI c,jL d,jB e,.own 30001]),(30001,.row true 4 113 (rowsOf encT113 f)),(17,.row true 4 113 (rowsOf encT113 g))]⟩:St))
 | .o1 y a b c d e f g h=>(.exit 0,(⟨21,[(2,.ptr 30000 0),(3,.own 30002),(6,.sl 1 (rowsOf (encI .i64) y)),(7,jI a),(8,jI b),(9,jT c)],[(30000,.box 113 [jI d,jL e,jB f,.own 30001]),(30001,.row true 4 113 (rowsOf encT113 g)),(30002,.row true 4 113 (rowsOf encT113 h))]⟩:St))
noncomputable def f57_l1_j2 (k:Nat) (f:List Int) (g h c a:Int) (b:List Int) (d e:List T113):Option R57_l1 :=
 some (.o0 f g (IntKind.i64.wrap (h+(1:Int))) c a b d e)
theorem f57_l1_j2_ok (k f g h c a b d e r) (i:f57_l1_j2 k f g h c a b d e=some r):EX 57 k (nav B57 [2,2,2,1,2,2,1,2,2]) (⟨21,[(2,.ptr 30000 0),(3,.own 17),(6,.sl 1 (rowsOf (encI .i64) f)),(7,jI g),(8,jI h)],[(30000,.box 113 [jI c,jL a,jB b,.own 30001]),(30001,.row true 4 113 (rowsOf encT113 d)),(17,.row true 4 113 (rowsOf encT113 e))]⟩:St)=some r.st:=by
 unfold f57_l1_j2 at i
 cases i
 simp only [W,simprocAttr,rg B57 [2,2,2,1,2,2,1,2,2] 6 false rfl,hr 57 6 rfl,R57_l1.st]
noncomputable def f57_l1_j1 (k:Nat) (h:List Int) (i d:Int) (p:Bool) (e a:Int) (b:List Int) (f c:List T113):Option R57_l1 :=
 ifE ((0:Int)≤d) (
  Option.bind (h[(Int.toNat d)]?) fun j =>
   Option.bind (f61 k (IntKind.u64.wrap j)) fun o4 =>
    match o4 with
    | .o0 l m o g =>
     ifE (((List.length c)+1) * 64≤roomy) (
      f57_l1_j2 k h i d e a b f (c++([(T113.mk l m o g)]:List T113))))
theorem f57_l1_j1_ok (k m o p u e a b f g r) (c:f57_l1_j1 k m o p u e a b f g=some r):EX 57 k (nav B57 [2,2,1,2,2,1,2,2]) (⟨21,[(2,.ptr 30000 0),(3,.own 30002),(6,.sl 1 (rowsOf (encI .i64) m)),(7,jI o),(8,jI p),(9,jT u)],[(30000,.box 113 [jI e,jL a,jB b,.own 30001]),(30001,.row true 4 113 (rowsOf encT113 f)),(30002,.row true 4 113 (rowsOf encT113 g))]⟩:St)=some r.st:=by
 unfold f57_l1_j1 at c
 obtain ⟨v,c⟩:=ifE_some.1 c
 obtain ⟨w,x,c⟩:=bs c
 obtain ⟨o4,y,c⟩:=bs c
 have h:=f61_ok k (IntKind.u64.wrap w) _ y
 cases o4 with
 | o0 i j l d =>
  (try dsimp only at c)
  (try simp only [NM,EE,R61.st] at h)
  have q:[[jI i,jL j,jB l,.sl 4 (rowsOf encT113 d)]]=rowsOf encT113 ([(T113.mk i j l d)]:List T113):=by first | rfl | simp only [jB,rowsOf,List.map_cons,List.map_nil,encT113_eq]
  have s:List.map (tell [0,0,1,4]) (rowsOf encT113 ([(T113.mk i j l d)]:List T113))=rowsOf encT113 ([(T113.mk i j l d)]:List T113):=by first | rfl | simp only [jB,rowsOf,List.map_cons,List.map_nil,encT113_eq]
  obtain ⟨t,c⟩:=ifE_some.1 c
  have hJ:=f57_l1_j2_ok k m o p e a b f (g++([(T113.mk i j l d)]:List T113)) _ c
  simp only [W,simprocAttr,xk B57 [2,2,1,2,2,1,2,2] .sq rfl,xk B57 [1,2,2,1,2,2,1,2,2] (.bk 1) rfl,sr 57 4 B57 [2,1,2,2,1,2,2,1,2,2] rfl rfl rfl,indexAddrV,t_25,t_3,encI_eq,rg B57 [2,2,1,2,2,1,2,2,1,2,2] 5 false rfl,hr 57 5 rfl,t_110,convV,callStep,CL,gv,List.contains,buildSliceV,fillRows,sm_113,t_111,t_113,appendV,content,v,x,h,q,s,t]
  try simp only [NM,EE] at hJ
  exact hJ
noncomputable def f57_l1_b (k:Nat) (h:List Int) (f g c a:Int) (b:List Int) (d e:List T113):Option R57_l1 :=
 cond ((decide (g<f)))
  (f57_l1_j1 k h f g true c a b d e)
  (some (.o1 h f g false c a b d e))
theorem f57_l1_b_ok (k g h i c a b d e r) (f:f57_l1_b k g h i c a b d e=some r):EX 57 k (nav B57 [1,2,2,1,2,2]) (⟨21,[(2,.ptr 30000 0),(3,.own 30002),(6,.sl 1 (rowsOf (encI .i64) g)),(7,jI h),(8,jI i)],[(30000,.box 113 [jI c,jL a,jB b,.own 30001]),(30001,.row true 4 113 (rowsOf encT113 d)),(30002,.row true 4 113 (rowsOf encT113 e))]⟩:St)=some r.st:=by
 unfold f57_l1_b at f
 simp only [W,simprocAttr,sr 57 3 B57 [1,2,2,1,2,2] rfl rfl rfl,xk B57 [2,1,2,2,1,2,2] .sq rfl,xk B57 [1,2,1,2,2,1,2,2] (.cd 9) rfl]
 rcases cond_some f with ⟨j,f⟩ | ⟨j,f⟩
 ·have hJ:=f57_l1_j1_ok k g h i true c a b d e _ f
  simp only [W,simprocAttr,xk B57 [2,1,2,1,2,2,1,2,2] .sk rfl,j]
  try simp only [NM,EE] at hJ
  exact hJ
 ·cases f
  simp only [W,simprocAttr,xk B57 [3,1,2,1,2,2,1,2,2] (.ex 0) rfl,R57_l1.st,j]
noncomputable def f57_l1 (k:Nat):Nat→(List Int)→Int→Int→Int→Int→(List Int)→(List T113)→(List T113)→Option R57_l1
 | 0,_,_,_,_,_,_,_,_=>none
 | n+1,q,s,t,j,a,b,l,m=>Option.bind (f57_l1_b k q s t j a b l m) fun o =>
  match o with
  | .o0 y c d e f g h i=>f57_l1 k n y c d e f g h i
  | .o1 y c d e f g h i p=>some (.o1 y c d e f g h i p)
theorem f57_l1_ok (k n:Nat):∀ (g:List Int) (i j c a:Int) (b:List Int) (d e:List T113) (r:R57_l1) (f:f57_l1 k n g i j c a b d e=some r) (σ:St) (hσ:headR (hints.head 57 3) (hints.canon 57 3) σ=some (⟨21,[(2,.ptr 30000 0),(3,.own 30002),(6,.sl 1 (rowsOf (encI .i64) g)),(7,jI i),(8,jI j)],[(30000,.box 113 [jI c,jL a,jB b,.own 30001]),(30001,.row true 4 113 (rowsOf encT113 d)),(30002,.row true 4 113 (rowsOf encT113 e))]⟩:St)),LP 57 k (nav B57 [1,2,2,1,2,2]) n σ=some r.st:=by
 induction n with
 | zero=>intro g i j c a b d e r f;cases f
 | succ n v =>
  intro g i j c a b d e r f σ hσ
  rw [f57_l1] at f
  obtain ⟨o,h,f⟩:=Option.bind_eq_some_iff.1 f
  have hB:=f57_l1_b_ok k g i j c a b d e o h
  unfold LP at v ⊢
  unfold EX at hB
  rw [loopK_succ,show firstReg (nav B57 [1,2,2,1,2,2])=3 from rfl,hσ,headK_some,hB]
  cases o with
  | o0 y l m p q s t u =>
   refine v y l m p q s t u r f _ ?_
   simp only [W,simprocAttr,hh_57_3,hc_57_3]
  | o1 y l m p q s t u w=>cases f;rfl
noncomputable def f57_j2 (k:Nat) (j:List Int) (l m:Int) (o:Bool) (d a:Int) (b:List Int) (e c:List T113):Option R57 :=
 Option.bind (f58 k c) fun o1 =>
  match o1 with
  | .o0 f g h i =>
   some (.o0 f g h i)
theorem f57_j2_ok (k h i j l d a b e c r) (f:f57_j2 k h i j l d a b e c=some r):finK Tryd.prog Tryd.f57 0 (EX 57 k (nav B57 [2,2,2]) (⟨21,[(2,.ptr 30000 0),(3,.own 30002),(6,.sl 1 (rowsOf (encI .i64) h)),(7,jI i),(8,jI j),(9,jT l)],[(30000,.box 113 [jI d,jL a,jB b,.own 30001]),(30001,.row true 4 113 (rowsOf encT113 e)),(30002,.row true 4 113 (rowsOf encT113 c))]⟩:St))=some r.st:=by
 unfold f57_j2 at f
 obtain ⟨o1,m,f⟩:=bs f
 have g:=f58_ok k c _ m
 cases o1 with
 | o0 o p q s =>
  (try dsimp only at f)
  (try simp only [NM,EE,R58.st] at g)
  cases f
  simp only [W,simprocAttr,sr 57 7 B57 [2,2,2] rfl rfl rfl,callStep,CL,gv,List.contains,t_113,xk B57 [2,2,2,2] .rt rfl,fin57,R57.st,g]
noncomputable def f57_e (k:Nat) (d:List Int):Option R57 :=
 Option.bind (f57_l1 k k d ((List.length d):Int) 0 0 0 [] [] []) fun o1 =>
  match o1 with
  | .o0 _ _ _ _ _ _ _ _ =>
   none
  | .o1 e f g h i j a b c =>
   f57_j2 k e f g h i j a b c
theorem f57_e_ok (k c r) (a:f57_e k c=some r):finK Tryd.prog Tryd.f57 0 (EX 57 k (nav B57 []) (⟨21,[(0,.sl 1 (rowsOf (encI .i64) c))],[]⟩:St))=some r.st:=by
 unfold f57_e at a
 obtain ⟨o1,g,a⟩:=bs a
 have b:=f57_l1_ok k k c ((List.length c):Int) 0 0 0 [] [] [] _ g
 simp only [W,simprocAttr,xk B57 [] .sq rfl,rg B57 [1] 0 false rfl,hr_57_0,t_113,xk B57 [2] .sq rfl,rg B57 [1,2] 1 false rfl,hr_57_1,xk B57 [2,2] .sq rfl,sr 57 2 B57 [1,2,2] rfl rfl rfl,t_25,xk B57 [2,1,2,2] (.bk 0) rfl,xk B57 [2,2,1,2,2] .lp rfl,hh_57_3,hc_57_3]
 (try simp only [NM,EE] at b)
 rw [b _ (by simp only [W,simprocAttr,hh_57_3,hc_57_3])]
 clear b
 cases o1 with
 | o0 _ _ _ _ _ _ _ _ =>
  (try dsimp only at a)
  cases a
 | o1 h i j l m o d e f =>
  (try dsimp only at a)
  have hJ:=f57_j2_ok k h i j l m o d e f _ a
  simp only [W,simprocAttr,R57_l1.st]
  try simp only [NM,EE] at hJ
  exact hJ
noncomputable def f57 (k:Nat) (a:List Int):Option R57:=match k with | 0=>none | k+1=>f57_e k a
theorem f57_ok (k a r) (b:f57 k a=some r):CV k 57 [.sl 1 (rowsOf (encI .i64) a)] []=some r.st:=by
 cases k with
 | zero=>cases b
 | succ k =>
  unfold CV
  rw [ev_call (F:=Tryd.f57) (c:=(nav B57 [])) rfl Tryd.func57 rfl rfl rfl rfl]
  exact f57_e_ok k a r b
-- f81: f81 heliograph/cbor.plain
inductive R81 where
 | o0 (y:Bool)
noncomputable def R81.st:R81→V×List O×List O
 | .o0 y=>(jT y,[],[])
noncomputable def f81_j1 (k:Nat) (g a:Int) (b:List Int) (c:List T113) (h d:Int) (e:List Int) (f:List T113):Option R81 :=
 cond ((a==d))
  (
   cond ((((List.length b):Int)==((List.length e):Int)))
    (some (.o0 ((((List.length c):Int)==((List.length f):Int)))))
    (some (.o0 false)))
  (some (.o0 false))
theorem f81_j1_ok (k j b c d l e f g r) (a:f81_j1 k j b c d l e f g=some r):finK Tryd.prog Tryd.f81 0 (EX 81 k (nav B81 [2,2,2]) (⟨48,[(1,.ptr 1 0),(3,.ptr 3 0)],[(1,.box 113 [jI j,jL b,jB c,.sl 4 (rowsOf encT113 d)]),(3,.box 113 [jI l,jL e,jB f,.sl 4 (rowsOf encT113 g)])]⟩:St))=some r.st:=by
 unfold f81_j1 at a
 simp only [W,simprocAttr,sr 81 11 B81 [2,2,2] rfl rfl rfl,fieldAddrV,t_113,t_110]
 rcases cond_some a with ⟨h,a⟩ | ⟨h,a⟩
 ·simp only [W,simprocAttr,fieldAddrV,t_113,t_45,h]
  rcases cond_some a with ⟨i,a⟩ | ⟨i,a⟩
  ·cases a
   simp only [W,simprocAttr,fieldAddrV,t_113,t_111,xk B81 [2,2,2,2] .rt rfl,fin81,R81.st,h,i]
  ·cases a
   simp only [W,simprocAttr,xk B81 [2,2,2,2] .rt rfl,fin81,R81.st,h,i]
 ·cases a
  simp only [W,simprocAttr,xk B81 [2,2,2,2] .rt rfl,fin81,R81.st,h]
noncomputable def f81_j2 (k:Nat) (j:Int) (g:Bool) (h c:Int) (a:List Int) (b:List T113) (i d:Int) (e:List Int) (f:List T113):Option R81 :=
 cond (g)
  (f81_j1 k h c a b i d a f)
  (
   cond ((j==4))
    (f81_j1 k h c a b i d e b)
    (some (.o0 false)))
theorem f81_j2_ok (k o h j c a b l d e f r) (g:f81_j2 k o h j c a b l d e f=some r):finK Tryd.prog Tryd.f81 0 (SQ 81 k (nav B81 [2,2,2]) (blockK 0 (EX 81 k (nav B81 [2,3,2,2,2,1,2,2]) (⟨48,[(1,.ptr 1 0),(3,.ptr 3 0),(8,jI o),(14,jT h)],[(1,.box 113 [jI j,jL c,jB a,.sl 4 (rowsOf encT113 b)]),(3,.box 113 [jI l,jL d,jB e,.sl 4 (rowsOf encT113 f)])]⟩:St))))=some r.st:=by
 unfold f81_j2 at g
 simp only [W,simprocAttr,xk B81 [2,3,2,2,2,1,2,2] (.cd 14) rfl]
 rcases cond_some g with ⟨i,g⟩ | ⟨i,g⟩
 ·have hJ:=f81_j1_ok k j c a b l d a f _ g
  simp only [W,simprocAttr,rg B81 [2,2,3,2,2,2,1,2,2] 8 false rfl,hr 81 8 rfl,fieldAddrV,t_113,t_45,i]
  try simp only [NM,EE] at hJ
  exact hJ
 ·simp only [W,simprocAttr,sr 81 9 B81 [3,2,3,2,2,2,1,2,2] rfl rfl rfl,xk B81 [2,3,2,3,2,2,2,1,2,2] (.cd 20) rfl,i]
  rcases cond_some g with ⟨m,g⟩ | ⟨m,g⟩
  ·have hJ:=f81_j1_ok k j c a b l d e b _ g
   simp only [W,simprocAttr,rg B81 [2,2,3,2,3,2,2,2,1,2,2] 10 false rfl,hr 81 10 rfl,fieldAddrV,t_113,t_111,i,m]
   try simp only [NM,EE] at hJ
   exact hJ
  ·cases g
   simp only [W,simprocAttr,sr 81 3 B81 [3,2,3,2,3,2,2,2,1,2,2] rfl rfl rfl,xk B81 [2,3,2,3,2,3,2,2,2,1,2,2] .rt rfl,fin81,R81.st,i,m]
noncomputable def f81_e (k:Nat) (b a:Int) (c:List Int) (d:List T113):Option R81 :=
 cond ((b==1))
  (f81_j1 k b a c d b a [] [])
  (
   cond ((b==2))
    (f81_j2 k b true b a c d b 0 [] [])
    (f81_j2 k b (b==3) b a c d b 0 [] []))
theorem f81_e_ok (k d a b c r) (e:f81_e k d a b c=some r):finK Tryd.prog Tryd.f81 0 (EX 81 k (nav B81 []) (⟨48,[(0,.agg [jI d,jL a,jB b,.sl 4 (rowsOf encT113 c)])],[]⟩:St))=some r.st:=by
 unfold f81_e at e
 simp only [W,simprocAttr,sr 81 0 B81 [] rfl rfl rfl,xk B81 [2] .sq rfl,rg B81 [1,2] 1 false rfl,hr_81_1,fieldAddrV,t_113,t_3,bl_113,xk B81 [2,2] .sq rfl,sr 81 2 B81 [1,2,2] rfl rfl rfl,xk B81 [2,1,2,2] (.bk 0) rfl,sr 81 4 B81 [2,2,1,2,2] rfl rfl rfl,xk B81 [2,2,2,1,2,2] (.cd 9) rfl]
 rcases cond_some e with ⟨f,e⟩ | ⟨f,e⟩
 ·have hJ:=f81_j1_ok k d a b c d a [] [] _ e
  simp only [W,simprocAttr,rg B81 [2,2,2,2,1,2,2] 5 false rfl,hr 81 5 rfl,fieldAddrV,t_113,t_110,f]
  try simp only [NM,EE] at hJ
  exact hJ
 ·simp only [W,simprocAttr,xk B81 [3,2,2,2,1,2,2] .sq rfl,sr 81 6 B81 [1,3,2,2,2,1,2,2] rfl rfl rfl,xk B81 [2,1,3,2,2,2,1,2,2] (.cd 14) rfl,f]
  rcases cond_some e with ⟨g,e⟩ | ⟨g,e⟩
  ·have hJ:=f81_j2_ok k d true d a b c d 0 [] [] _ e
   simp only [W,simprocAttr,xk B81 [2,2,1,3,2,2,2,1,2,2] .sk rfl,f,g]
   try simp only [NM,EE] at hJ
   exact hJ
  ·have hJ:=f81_j2_ok k d (d==3) d a b c d 0 [] [] _ e
   simp only [W,simprocAttr,rg B81 [3,2,1,3,2,2,2,1,2,2] 7 false rfl,hr 81 7 rfl,f,g]
   try simp only [NM,EE] at hJ
   exact hJ
noncomputable def f81 (k:Nat) (d a:Int) (b:List Int) (c:List T113):Option R81:=match k with | 0=>none | k+1=>f81_e k d a b c
theorem f81_ok (k e a b d r) (f:f81 k e a b d=some r):CV k 81 [.agg [jI e,jL a,jB b,.sl 4 (rowsOf encT113 d)]] []=some r.st:=by
 cases k with
 | zero=>cases f
 | succ k =>
  unfold CV
  rw [ev_call (F:=Tryd.f81) (c:=(nav B81 [])) rfl Tryd.func81 rfl rfl rfl rfl]
  exact f81_e_ok k e a b d r f
-- f86: f86 unicode/utf8.word[[]byte]
inductive R86 where
 | o0 (y:Int)
noncomputable def R86.st:R86→V×List O×List O
 | .o0 y=>(jL y,[],[])
noncomputable def f86_j1 (k:Nat) (a:List Int):Option R86 :=
 Option.bind (a[0]?) fun e =>
  Option.bind (a[1]?) fun f =>
   Option.bind (a[2]?) fun g =>
    Option.bind (a[3]?) fun h =>
     Option.bind (a[4]?) fun i =>
      Option.bind (a[5]?) fun b =>
       Option.bind (a[6]?) fun c =>
        Option.bind (a[7]?) fun d =>
         some (.o0 ((IntKind.u64.wrap ((BitVec.ofInt (IntKind.bits .u64) (IntKind.u64.wrap ((BitVec.ofInt (IntKind.bits .u64) (IntKind.u64.wrap ((BitVec.ofInt (IntKind.bits .u64) (IntKind.u64.wrap ((BitVec.ofInt (IntKind.bits .u64) (IntKind.u64.wrap ((BitVec.ofInt (IntKind.bits .u64) (IntKind.u64.wrap ((BitVec.ofInt (IntKind.bits .u64) (IntKind.u64.wrap ((BitVec.ofInt (IntKind.bits .u64) (IntKind.u64.wrap e) ||| BitVec.ofInt (IntKind.bits .u64) (IntKind.u64.wrap ((IntKind.u64.wrap f) * 2 ^ (min 8 (IntKind.bits .u64))))).toNat:Nat)) ||| BitVec.ofInt (IntKind.bits .u64) (IntKind.u64.wrap ((IntKind.u64.wrap g) * 2 ^ (min 16 (IntKind.bits .u64))))).toNat:Nat)) ||| BitVec.ofInt (IntKind.bits .u64) (IntKind.u64.wrap ((IntKind.u64.wrap h) * 2 ^ (min 24 (IntKind.bits .u64))))).toNat:Nat)) ||| BitVec.ofInt (IntKind.bits .u64) (IntKind.u64.wrap ((IntKind.u64.wrap i) * 2 ^ (min 32 (IntKind.bits .u64))))).toNat:Nat)) ||| BitVec.ofInt (IntKind.bits .u64) (IntKind.u64.wrap ((IntKind.u64.wrap b) * 2 ^ (min 40 (IntKind.bits .u64))))).toNat:Nat)) ||| BitVec.ofInt (IntKind.bits .u64) (IntKind.u64.wrap ((IntKind.u64.wrap c) * 2 ^ (min 48 (IntKind.bits .u64))))).toNat:Nat)) ||| BitVec.ofInt (IntKind.bits .u64) (IntKind.u64.wrap ((IntKind.u64.wrap d) * 2 ^ (min 56 (IntKind.bits .u64))))).toNat:Nat))))
theorem f86_j1_ok (k f r) (a:f86_j1 k f=some r):finK Tryd.prog Tryd.f86 0 (EX 86 k (nav B86 [2,2]) (⟨71,[(0,jB f)],[]⟩:St))=some r.st:=by
 unfold f86_j1 at a
 obtain ⟨p,g,a⟩:=bs a
 obtain ⟨q,h,a⟩:=bs a
 obtain ⟨s,i,a⟩:=bs a
 obtain ⟨t,j,a⟩:=bs a
 obtain ⟨u,b,a⟩:=bs a
 obtain ⟨l,c,a⟩:=bs a
 obtain ⟨m,d,a⟩:=bs a
 obtain ⟨o,e,a⟩:=bs a
 cases a
 simp (disch:=first|decide|apply K;kernel_rfl) only [W,simprocAttr,xk B86 [2,2] .sq rfl,rg B86 [1,2,2] 2 true rfl,hr 86 2 rfl,indexAddrV,t_45,t_5,encI_eq,t_110,convV,shiftV,xk B86 [2,2,2] .rt rfl,fin86,R86.st,g,h,i,j,b,c,d,e]
noncomputable def f86_e (k:Nat) (a:List Int):Option R86 :=
 f86_j1 k a
theorem f86_e_ok (k a r) (b:f86_e k a=some r):finK Tryd.prog Tryd.f86 0 (EX 86 k (nav B86 []) (⟨71,[(0,jB a)],[]⟩:St))=some r.st:=by
 unfold f86_e at b
 have hJ:=f86_j1_ok k a _ b
 simp only [W,simprocAttr,sr 86 0 B86 [] rfl rfl rfl,xk B86 [2] .sq rfl,xk B86 [1,2] .cf rfl,xk B86 [3,1,2] .sk rfl]
 try simp only [NM,EE] at hJ
 exact hJ
noncomputable def f86 (k:Nat) (a:List Int):Option R86:=match k with | 0=>none | k+1=>f86_e k a
theorem f86_ok (k a r) (b:f86 k a=some r):CV k 86 [jB a] []=some r.st:=by
 cases k with
 | zero=>cases b
 | succ k =>
  unfold CV
  rw [ev_call (F:=Tryd.f86) (c:=(nav B86 [])) rfl Tryd.func86 rfl rfl rfl rfl]
  exact f86_e_ok k a r b
end Go.Proofs.YtiompmmbjpjjeaaDoorV