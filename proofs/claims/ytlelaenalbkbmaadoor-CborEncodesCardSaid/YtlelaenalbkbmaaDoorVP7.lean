/- What the program's functions answer: plain functions,and that the interpreter answers what they do. Written by a program of this session,out of the translation. -/
import Derived.Test.YtlelaenalbkbmaaDoorVP6
namespace Go.Proofs.YtlelaenalbkbmaaDoorV
open Go
set_option linter.unusedVariables false
set_option linter.unusedSimpArgs false
set_option maxRecDepth 8000
set_option maxHeartbeats 4000000
-- f15: f15 heliograph/heliographref07.Bytes
inductive R15 where
 | o0 (y:List Int)
noncomputable def R15.st:R15→V×List O×List O
 | .o0 y=>(.own 2000000,[],[.row true 1 5 (rowsOf (encI .u8) y)])
inductive R15_l2 where
 | o0 (y a b:Int) (c:List Int) (d:List T28) (e:List Int)
 | o1 (y:Int) (a:Bool) (b c:Int) (d:List Int) (e:List T28) (f:List Int)
noncomputable def R15_l2.st:R15_l2→Out×St
 | .o0 y a b c d e=>(.norm,(⟨45,[(1,.ptr 30000 0),(3,.own 33),(4,jI y)],[(30000,.box 28 [jI a,.p (.int .u64 b),.sl 1 (rowsOf (encI .u8) c),.sl 4 (rowsOf encT28 d)]),(33,.row true 1 5 (rowsOf (encI .u8) e))]⟩:St))
 | .o1 y a b c d e f=>(.exit 0,(⟨45,[(1,.ptr 30000 0),(3,.own 30001),(4,jI y),(23,.p (.bool a))],[(30000,.box 28 [jI b,.p (.int .u64 c),.sl 1 (rowsOf (encI .u8) d),.sl 4 (rowsOf encT28 e)]),(30001,.row true 1 5 (rowsOf (encI .u8) f))]⟩:St))
noncomputable def f15_l2_j2 (k:Nat) (q_f15_aiirrz:Int→Int→(List Int)→(List T28)→Option R15) (f d a:Int) (b:List Int) (c:List T28) (e:List Int):Option R15_l2 :=
 some (.o0 (IntKind.i64.wrap (f+(1:Int))) d a b c e)
theorem f15_l2_j2_ok (k:Nat) (q_f15_aiirrz:Int→Int→(List Int)→(List T28)→Option R15) (hq_f15_aiirrz:∀ (i d:Int) (e:List Int) (f:List T28) (r:R15),q_f15_aiirrz i d e f=some r→CV k 15 [.agg [jI i,.p (.int .u64 d),.sl 1 (rowsOf (encI .u8) e),.sl 4 (rowsOf encT28 f)]] []=some r.st) (j g a:Int) (b:List Int) (c:List T28) (h:List Int) (r:R15_l2) (l:f15_l2_j2 k q_f15_aiirrz j g a b c h=some r):EX 15 k (nav B15 [2,2,1,2,2,1,2,2,2,1,2,2]) (⟨45,[(1,.ptr 30000 0),(3,.own 33),(4,jI j)],[(30000,.box 28 [jI g,.p (.int .u64 a),.sl 1 (rowsOf (encI .u8) b),.sl 4 (rowsOf encT28 c)]),(33,.row true 1 5 (rowsOf (encI .u8) h))]⟩:St)=some r.st:=by
 unfold f15_l2_j2 at l
 cases l
 simp (disch:=first|apply D;decide|apply K;kernel_rfl) only [E,EE,↓reduceIte,simprocAttr,rg B15 [2,2,1,2,2,1,2,2,2,1,2,2] 7 false rfl,hr 15 7 rfl,R15_l2.st]
noncomputable def f15_l2_j1 (k:Nat) (q_f15_aiirrz:Int→Int→(List Int)→(List T28)→Option R15) (e:Int) (i:Bool) (f b:Int) (c:List Int) (a:List T28) (g:List Int):Option R15_l2 :=
 ifE ((0:Int)≤e) (
  Option.bind (a[(Int.toNat e)]?) fun d =>
   Option.bind (q_f15_aiirrz d.Kind d.Num d.Bytes d.Items) fun o4 =>
    match o4 with
    | .o0 j =>
     Option.bind (f27 k g j) fun o8 =>
      match o8 with
      | .o0 h =>
       f15_l2_j2 k q_f15_aiirrz e f b c a h)
theorem f15_l2_j1_ok (k:Nat) (q_f15_aiirrz:Int→Int→(List Int)→(List T28)→Option R15) (hq_f15_aiirrz:∀ (s e:Int) (f:List Int) (g:List T28) (r:R15),q_f15_aiirrz s e f g=some r→CV k 15 [.agg [jI s,.p (.int .u64 e),.sl 1 (rowsOf (encI .u8) f),.sl 4 (rowsOf encT28 g)]] []=some r.st) (p:Int) (l:Bool) (i a:Int) (b:List Int) (c:List T28) (j:List Int) (r:R15_l2) (d:f15_l2_j1 k q_f15_aiirrz p l i a b c j=some r):EX 15 k (nav B15 [2,1,2,2,1,2,2,2,1,2,2]) (⟨45,[(1,.ptr 30000 0),(3,.own 30001),(4,jI p),(23,.p (.bool l))],[(30000,.box 28 [jI i,.p (.int .u64 a),.sl 1 (rowsOf (encI .u8) b),.sl 4 (rowsOf encT28 c)]),(30001,.row true 1 5 (rowsOf (encI .u8) j))]⟩:St)=some r.st:=by
 unfold f15_l2_j1 at d
 obtain ⟨t,d⟩:=ifE_some.1 d
 obtain ⟨o,u,d⟩:=bs d
 obtain ⟨o4,v,d⟩:=bs d
 have m:=hq_f15_aiirrz o.Kind o.Num o.Bytes o.Items _ v
 cases o4 with
 | o0 w =>
  (try dsimp only at d)
  (try simp only [NM,EE,R15.st] at m)
  obtain ⟨o8,x,d⟩:=bs d
  have h:=f27_ok k j w _ x
  cases o8 with
  | o0 q =>
   (try dsimp only at d)
   (try simp only [NM,EE,R27.st] at h)
   have hJ:=f15_l2_j2_ok k q_f15_aiirrz hq_f15_aiirrz p i a b c q _ d
   simp (disch:=first|apply D;decide|apply K;kernel_rfl) only [E,EE,↓reduceIte,simprocAttr,xk B15 [2,1,2,2,1,2,2,2,1,2,2] .sq rfl,xk B15 [1,2,1,2,2,1,2,2,2,1,2,2] (.bk 1) rfl,rg B15 [2,1,2,1,2,2,1,2,2,2,1,2,2] 8 false rfl,hr 15 8 rfl,fieldAddrV,t_28,t_26,indexAddrV,encT28_eq,callStep,CL,gv,List.contains,t,u,m,h]
   try simp only [NM,EE] at hJ
   exact hJ
noncomputable def f15_l2_b (k:Nat) (q_f15_aiirrz:Int→Int→(List Int)→(List T28)→Option R15) (f d b:Int) (c:List Int) (a:List T28) (e:List Int):Option R15_l2 :=
 cond ((decide (f<((List.length a):Int))))
  (f15_l2_j1 k q_f15_aiirrz f true d b c a e)
  (some (.o1 f false d b c a e))
theorem f15_l2_b_ok (k:Nat) (q_f15_aiirrz:Int→Int→(List Int)→(List T28)→Option R15) (hq_f15_aiirrz:∀ (m d:Int) (e:List Int) (f:List T28) (r:R15),q_f15_aiirrz m d e f=some r→CV k 15 [.agg [jI m,.p (.int .u64 d),.sl 1 (rowsOf (encI .u8) e),.sl 4 (rowsOf encT28 f)]] []=some r.st) (j g a:Int) (b:List Int) (c:List T28) (h:List Int) (r:R15_l2) (i:f15_l2_b k q_f15_aiirrz j g a b c h=some r):EX 15 k (nav B15 [1,2,2,1,2,2,2,1,2,2]) (⟨45,[(1,.ptr 30000 0),(3,.own 30001),(4,jI j)],[(30000,.box 28 [jI g,.p (.int .u64 a),.sl 1 (rowsOf (encI .u8) b),.sl 4 (rowsOf encT28 c)]),(30001,.row true 1 5 (rowsOf (encI .u8) h))]⟩:St)=some r.st:=by
 unfold f15_l2_b at i
 simp (disch:=first|apply D;decide|apply K;kernel_rfl) only [E,EE,↓reduceIte,simprocAttr,xk B15 [1,2,2,1,2,2,2,1,2,2] .sq rfl,xk B15 [1,1,2,2,1,2,2,2,1,2,2] .sq rfl,rg B15 [1,1,1,2,2,1,2,2,2,1,2,2] 6 false rfl,hr 15 6 rfl,fieldAddrV,t_28,t_26,xk B15 [2,1,1,2,2,1,2,2,2,1,2,2] (.cd 23) rfl]
 rcases cond_some i with ⟨l,i⟩ | ⟨l,i⟩
 ·have hJ:=f15_l2_j1_ok k q_f15_aiirrz hq_f15_aiirrz j true g a b c h _ i
  simp (disch:=first|apply D;decide|apply K;kernel_rfl) only [E,EE,↓reduceIte,simprocAttr,xk B15 [2,2,1,1,2,2,1,2,2,2,1,2,2] .sk rfl,l]
  try simp only [NM,EE] at hJ
  exact hJ
 ·cases i
  simp (disch:=first|apply D;decide|apply K;kernel_rfl) only [E,EE,↓reduceIte,simprocAttr,xk B15 [3,2,1,1,2,2,1,2,2,2,1,2,2] (.ex 0) rfl,R15_l2.st,l]
noncomputable def f15_l2 (k:Nat) (q_f15_aiirrz:Int→Int→(List Int)→(List T28)→Option R15):Nat→Int→Int→Int→(List Int)→(List T28)→(List Int)→Option R15_l2
 | 0,_,_,_,_,_,_=>none
 | n+1,m,i,a,b,c,j=>Option.bind (f15_l2_b k q_f15_aiirrz m i a b c j) fun o =>
  match o with
  | .o0 y d e f g h=>f15_l2 k q_f15_aiirrz n y d e f g h
  | .o1 y d e f g h l=>some (.o1 y d e f g h l)
theorem f15_l2_ok (k:Nat) (q_f15_aiirrz:Int→Int→(List Int)→(List T28)→Option R15) (hq_f15_aiirrz:∀ (u f:Int) (g:List Int) (i:List T28) (r:R15),q_f15_aiirrz u f g i=some r→CV k 15 [.agg [jI u,.p (.int .u64 f),.sl 1 (rowsOf (encI .u8) g),.sl 4 (rowsOf encT28 i)]] []=some r.st) (n:Nat):∀ (l d a:Int) (b:List Int) (c:List T28) (e:List Int) (r:R15_l2) (j:f15_l2 k q_f15_aiirrz n l d a b c e=some r) (σ:St) (hσ:headR (hints.head 15 6) (hints.canon 15 6) σ=some (⟨45,[(1,.ptr 30000 0),(3,.own 30001),(4,jI l)],[(30000,.box 28 [jI d,.p (.int .u64 a),.sl 1 (rowsOf (encI .u8) b),.sl 4 (rowsOf encT28 c)]),(30001,.row true 1 5 (rowsOf (encI .u8) e))]⟩:St)),LP 15 k (nav B15 [1,2,2,1,2,2,2,1,2,2]) n σ=some r.st:=by
 induction n with
 | zero=>intro l d a b c e r j;cases j
 | succ n v =>
  intro l d a b c e r j σ hσ
  rw [f15_l2] at j
  obtain ⟨o,h,j⟩:=Option.bind_eq_some_iff.1 j
  have hB:=f15_l2_b_ok k q_f15_aiirrz hq_f15_aiirrz l d a b c e o h
  unfold LP at v ⊢
  unfold EX at hB
  rw [loopK_succ,show firstReg (nav B15 [1,2,2,1,2,2,2,1,2,2])=6 from rfl,hσ,headK_some,hB]
  cases o with
  | o0 y m p q s t =>
   refine v y m p q s t r j _ ?_
   simp (disch:=first|apply D;decide|apply K;kernel_rfl) only [E,EE,↓reduceIte,simprocAttr,hh_15_6,hc_15_6]
  | o1 y m p q s t w=>cases j;rfl
noncomputable def f15_j3 (k:Nat) (q_f15_aiirrz:Int→Int→(List Int)→(List T28)→Option R15) (g:Int) (e:Bool) (f a:Int) (b:List Int) (c:List T28) (d:List Int):Option R15 :=
 some (.o0 d)
theorem f15_j3_ok (k:Nat) (q_f15_aiirrz:Int→Int→(List Int)→(List T28)→Option R15) (hq_f15_aiirrz:∀ (j d:Int) (e:List Int) (f:List T28) (r:R15),q_f15_aiirrz j d e f=some r→CV k 15 [.agg [jI j,.p (.int .u64 d),.sl 1 (rowsOf (encI .u8) e),.sl 4 (rowsOf encT28 f)]] []=some r.st) (l:Int) (g:Bool) (h a:Int) (b:List Int) (c:List T28) (i:List Int) (r:R15) (m:f15_j3 k q_f15_aiirrz l g h a b c i=some r):finK Tryd.prog Tryd.f15 0 (SQ 15 k (nav B15 [2,2,2]) (EX 15 k (nav B15 [2,2,2,2,1,2,2]) (⟨45,[(1,.ptr 30000 0),(3,.own 30001),(4,jI l),(23,.p (.bool g))],[(30000,.box 28 [jI h,.p (.int .u64 a),.sl 1 (rowsOf (encI .u8) b),.sl 4 (rowsOf encT28 c)]),(30001,.row true 1 5 (rowsOf (encI .u8) i))]⟩:St)))=some r.st:=by
 unfold f15_j3 at m
 cases m
 simp (disch:=first|apply D;decide|apply K;kernel_rfl) only [E,EE,↓reduceIte,simprocAttr,xk B15 [2,2,2,2,1,2,2] .sq rfl,rg B15 [1,2,2,2,2,1,2,2] 9 false rfl,hr 15 9 rfl,xk B15 [2,2,2,2,2,1,2,2] .rt rfl,fin15,R15.st]
noncomputable def f15_j4 (k:Nat) (q_f15_aiirrz:Int→Int→(List Int)→(List T28)→Option R15) (d:Bool) (e b:Int) (a:List Int) (c:List T28):Option R15 :=
 Option.bind (f26 k e (IntKind.u64.wrap ((List.length a):Int))) fun o1 =>
  match o1 with
  | .o0 f =>
   Option.bind (f27 k f a) fun o5 =>
    match o5 with
    | .o0 g =>
     some (.o0 g)
theorem f15_j4_ok (k:Nat) (q_f15_aiirrz:Int→Int→(List Int)→(List T28)→Option R15) (hq_f15_aiirrz:∀ (m b:Int) (c:List Int) (d:List T28) (r:R15),q_f15_aiirrz m b c d=some r→CV k 15 [.agg [jI m,.p (.int .u64 b),.sl 1 (rowsOf (encI .u8) c),.sl 4 (rowsOf encT28 d)]] []=some r.st) (h:Bool) (l e:Int) (a:List Int) (f:List T28) (r:R15) (g:f15_j4 k q_f15_aiirrz h l e a f=some r):finK Tryd.prog Tryd.f15 0 (EX 15 k (nav B15 [2,2,2]) (⟨45,[(1,.ptr 1 0),(13,.p (.bool h))],[(1,.box 28 [jI l,.p (.int .u64 e),.sl 1 (rowsOf (encI .u8) a),.sl 4 (rowsOf encT28 f)])]⟩:St))=some r.st:=by
 unfold f15_j4 at g
 obtain ⟨o1,o,g⟩:=bs g
 have i:=f26_ok k l (IntKind.u64.wrap ((List.length a):Int)) _ o
 cases o1 with
 | o0 p =>
  (try dsimp only at g)
  (try simp only [NM,EE,R26.st] at i)
  obtain ⟨o5,q,g⟩:=bs g
  have j:=f27_ok k p a _ q
  cases o5 with
  | o0 s =>
   (try dsimp only at g)
   (try simp only [NM,EE,R27.st] at j)
   cases g
   simp (disch:=first|apply D;decide|apply K;kernel_rfl) only [E,EE,↓reduceIte,simprocAttr,xk B15 [2,2,2] .sq rfl,rg B15 [1,2,2,2] 10 true rfl,hr 15 10 rfl,fieldAddrV,t_28,t_3,t_25,t_24,convV,callStep,CL,gv,List.contains,xk B15 [2,2,2,2] .rt rfl,fin15,R15.st,i,j]
noncomputable def f15_j1 (k:Nat) (q_f15_aiirrz:Int→Int→(List Int)→(List T28)→Option R15) (o:Bool) (d b:Int) (c:List Int) (a:List T28):Option R15 :=
 cond ((d==4))
  (
   Option.bind (f26 k 4 (IntKind.u64.wrap ((List.length a):Int))) fun o2 =>
    match o2 with
    | .o0 l =>
     Option.bind (f15_l2 k q_f15_aiirrz k 0 d b c a l) fun o6 =>
      match o6 with
      | .o0 _ _ _ _ _ _ =>
       none
      | .o1 m e f g h i j =>
       f15_j3 k q_f15_aiirrz m e f g h i j)
  (f15_j4 k q_f15_aiirrz false d b c a)
theorem f15_j1_ok (k:Nat) (q_f15_aiirrz:Int→Int→(List Int)→(List T28)→Option R15) (hq_f15_aiirrz:∀ (u f:Int) (g:List Int) (h:List T28) (r:R15),q_f15_aiirrz u f g h=some r→CV k 15 [.agg [jI u,.p (.int .u64 f),.sl 1 (rowsOf (encI .u8) g),.sl 4 (rowsOf encT28 h)]] []=some r.st) (v:Bool) (l b:Int) (c:List Int) (a:List T28) (r:R15) (d:f15_j1 k q_f15_aiirrz v l b c a=some r):finK Tryd.prog Tryd.f15 0 (EX 15 k (nav B15 [2,2]) (⟨45,[(1,.ptr 1 0),(7,.p (.bool v))],[(1,.box 28 [jI l,.p (.int .u64 b),.sl 1 (rowsOf (encI .u8) c),.sl 4 (rowsOf encT28 a)])]⟩:St))=some r.st:=by
 unfold f15_j1 at d
 simp (disch:=first|apply D;decide|apply K;kernel_rfl) only [E,EE,↓reduceIte,simprocAttr,xk B15 [2,2] .sq rfl,xk B15 [1,2,2] .sq rfl,rg B15 [1,1,2,2] 3 false rfl,hr 15 3 rfl,fieldAddrV,t_28,t_3,xk B15 [2,1,2,2] (.cd 13) rfl]
 rcases cond_some d with ⟨j,d⟩ | ⟨j,d⟩
 ·obtain ⟨o2,w,d⟩:=bs d
  have e:=f26_ok k 4 (IntKind.u64.wrap ((List.length a):Int)) _ w
  cases o2 with
  | o0 x =>
   (try dsimp only at d)
   (try simp only [NM,EE,R26.st] at e)
   obtain ⟨o6,y,d⟩:=bs d
   have i:=f15_l2_ok k q_f15_aiirrz hq_f15_aiirrz k 0 l b c a x _ y
   simp (disch:=first|apply D;decide|apply K;kernel_rfl) only [E,EE,↓reduceIte,simprocAttr,xk B15 [2,2,1,2,2] .sq rfl,rg B15 [1,2,2,1,2,2] 4 false rfl,hr 15 4 rfl,fieldAddrV,t_28,t_26,t_3,t_24,convV,callStep,CL,gv,List.contains,xk B15 [2,2,2,1,2,2] .sq rfl,xk B15 [1,2,2,2,1,2,2] .sq rfl,rg B15 [1,1,2,2,2,1,2,2] 5 false rfl,hr 15 5 rfl,xk B15 [2,1,2,2,2,1,2,2] (.bk 0) rfl,xk B15 [2,2,1,2,2,2,1,2,2] .lp rfl,hh_15_6,hc_15_6,j,e]
   (try simp only [NM,EE] at i)
   rw [i _ (by simp (disch:=first|apply D;decide|apply K;kernel_rfl) only [E,EE,↓reduceIte,simprocAttr,hh_15_6,hc_15_6,j,e])]
   clear i
   cases o6 with
   | o0 _ _ _ _ _ _ =>
    (try dsimp only at d)
    cases d
   | o1 z m o p q s t =>
    (try dsimp only at d)
    have hJ:=f15_j3_ok k q_f15_aiirrz hq_f15_aiirrz z m o p q s t _ d
    simp (disch:=first|apply D;decide|apply K;kernel_rfl) only [E,EE,↓reduceIte,simprocAttr,R15_l2.st,j,e]
    try simp only [NM,EE] at hJ
    exact hJ
 ·have hJ:=f15_j4_ok k q_f15_aiirrz hq_f15_aiirrz false l b c a _ d
  simp (disch:=first|apply D;decide|apply K;kernel_rfl) only [E,EE,↓reduceIte,simprocAttr,xk B15 [3,2,1,2,2] .sk rfl,j]
  try simp only [NM,EE] at hJ
  exact hJ
noncomputable def f15_e (k:Nat) (q_f15_aiirrz:Int→Int→(List Int)→(List T28)→Option R15) (d a:Int) (b:List Int) (c:List T28):Option R15 :=
 cond ((d==1))
  (
   Option.bind (f26 k 0 a) fun o2 =>
    match o2 with
    | .o0 e =>
     some (.o0 e))
  (f15_j1 k q_f15_aiirrz false d a b c)
theorem f15_e_ok (k:Nat) (q_f15_aiirrz:Int→Int→(List Int)→(List T28)→Option R15) (hq_f15_aiirrz:∀ (e a:Int) (b:List Int) (c:List T28) (r:R15),q_f15_aiirrz e a b c=some r→CV k 15 [.agg [jI e,.p (.int .u64 a),.sl 1 (rowsOf (encI .u8) b),.sl 4 (rowsOf encT28 c)]] []=some r.st) (e a:Int) (b:List Int) (c:List T28) (r:R15) (d:f15_e k q_f15_aiirrz e a b c=some r):finK Tryd.prog Tryd.f15 0 (EX 15 k (nav B15 []) (⟨45,[(0,.agg [jI e,.p (.int .u64 a),.sl 1 (rowsOf (encI .u8) b),.sl 4 (rowsOf encT28 c)])],[]⟩:St))=some r.st:=by
 unfold f15_e at d
 simp (disch:=first|apply D;decide|apply K;kernel_rfl) only [E,EE,↓reduceIte,simprocAttr,xk B15 [] .sq rfl,rg B15 [1] 0 false rfl,hr 15 0 rfl,xk B15 [2] .sq rfl,xk B15 [1,2] .sq rfl,rg B15 [1,1,2] 1 false rfl,hr 15 1 rfl,fieldAddrV,t_28,t_3,xk B15 [2,1,2] (.cd 7) rfl]
 rcases cond_some d with ⟨g,d⟩ | ⟨g,d⟩
 ·obtain ⟨o2,h,d⟩:=bs d
  have f:=f26_ok k 0 a _ h
  cases o2 with
  | o0 i =>
   (try dsimp only at d)
   (try simp only [NM,EE,R26.st] at f)
   cases d
   simp (disch:=first|apply D;decide|apply K;kernel_rfl) only [E,EE,↓reduceIte,simprocAttr,xk B15 [2,2,1,2] .sq rfl,rg B15 [1,2,2,1,2] 2 false rfl,hr 15 2 rfl,fieldAddrV,t_28,t_24,callStep,CL,gv,List.contains,xk B15 [2,2,2,1,2] .rt rfl,fin15,R15.st,g,f]
 ·have hJ:=f15_j1_ok k q_f15_aiirrz hq_f15_aiirrz false e a b c _ d
  simp (disch:=first|apply D;decide|apply K;kernel_rfl) only [E,EE,↓reduceIte,simprocAttr,xk B15 [3,2,1,2] .sk rfl,g]
  try simp only [NM,EE] at hJ
  exact hJ
noncomputable def f15:Nat→Int→Int→(List Int)→(List T28)→Option R15
 | 0,_,_,_,_=>none
 | k+1,d,a,b,c=>f15_e k (f15 k) d a b c
theorem f15_all (k:Nat):(∀ (e a:Int) (b:List Int) (d:List T28) (r:R15),f15 k e a b d=some r→CV k 15 [.agg [jI e,.p (.int .u64 a),.sl 1 (rowsOf (encI .u8) b),.sl 4 (rowsOf encT28 d)]] []=some r.st):=by
 induction k with
 | zero=>exact (by intro e a b d r f;rw [f15] at f;cases f)
 | succ k g =>
  have ih_f15_aiirrz:=g
  exact (by intro e a b d r f;rw [f15] at f;unfold CV;rw [ev_call (F:=Tryd.f15) (c:=(nav B15 [])) rfl Tryd.func15 rfl rfl rfl rfl];exact f15_e_ok k (f15 k) ih_f15_aiirrz e a b d r f)
theorem f15_ok (k d a b c r) (e:f15 k d a b c=some r):CV k 15 [.agg [jI d,.p (.int .u64 a),.sl 1 (rowsOf (encI .u8) b),.sl 4 (rowsOf encT28 c)]] []=some r.st:=f15_all k d a b c r e
-- f14: f14 heliograph/heliographref01.Same
inductive R14 where
 | o0 (y:Bool)
noncomputable def R14.st:R14→V×List O×List O
 | .o0 y=>(.p (.bool y),[],[])
inductive R14_l2 where
 | o0 (y:Bool)
 | o1 (y a:List Int) (b:Int)
 | o2 (y a:List Int) (b:Int) (c:Bool)
noncomputable def R14_l2.st:R14_l2→Out×St
 | .o0 y=>(.ret,(⟨26,[(4,.p (.bool y))],[]⟩:St))
 | .o1 y a b=>(.norm,(⟨26,[(0,.sl 1 (rowsOf (encI .u8) y)),(1,.sl 1 (rowsOf (encI .u8) a)),(5,jI b)],[]⟩:St))
 | .o2 y a b c=>(.exit 0,(⟨26,[(0,.sl 1 (rowsOf (encI .u8) y)),(1,.sl 1 (rowsOf (encI .u8) a)),(5,jI b),(14,.p (.bool c))],[]⟩:St))
noncomputable def f14_l2_j2 (k:Nat) (a b:List Int) (c:Int) (d:Bool):Option R14_l2 :=
 some (.o1 a b (IntKind.i64.wrap (c+(1:Int))))
theorem f14_l2_j2_ok (k b c d a r) (e:f14_l2_j2 k b c d a=some r):EX 14 k (nav B14 [2,2,1,2,2,1,2,2]) (⟨26,[(0,.sl 1 (rowsOf (encI .u8) b)),(1,.sl 1 (rowsOf (encI .u8) c)),(5,jI d),(25,.p (.bool a))],[]⟩:St)=some r.st:=by
 unfold f14_l2_j2 at e
 cases e
 simp (disch:=first|apply D;decide|apply K;kernel_rfl) only [E,EE,↓reduceIte,simprocAttr,rg B14 [2,2,1,2,2,1,2,2] 5 false rfl,hr 14 5 rfl,R14_l2.st]
noncomputable def f14_l2_j1 (k:Nat) (b c:List Int) (a:Int) (d:Bool):Option R14_l2 :=
 ifE ((0:Int)≤a) (
  Option.bind (b[(Int.toNat a)]?) fun e =>
   Option.bind (c[(Int.toNat a)]?) fun f =>
    cond ((e != f))
     (some (.o0 false))
     (f14_l2_j2 k b c a false))
theorem f14_l2_j1_ok (k c d e b r) (a:f14_l2_j1 k c d e b=some r):EX 14 k (nav B14 [2,1,2,2,1,2,2]) (⟨26,[(0,.sl 1 (rowsOf (encI .u8) c)),(1,.sl 1 (rowsOf (encI .u8) d)),(5,jI e),(14,.p (.bool b))],[]⟩:St)=some r.st:=by
 unfold f14_l2_j1 at a
 obtain ⟨f,a⟩:=ifE_some.1 a
 obtain ⟨j,g,a⟩:=bs a
 obtain ⟨l,h,a⟩:=bs a
 simp (disch:=first|apply D;decide|apply K;kernel_rfl) only [E,EE,↓reduceIte,simprocAttr,xk B14 [2,1,2,2,1,2,2] .sq rfl,xk B14 [1,2,1,2,2,1,2,2] (.bk 1) rfl,xk B14 [2,1,2,1,2,2,1,2,2] .sq rfl,rg B14 [1,2,1,2,1,2,2,1,2,2] 6 true rfl,hr 14 6 rfl,indexAddrV,t_25,t_5,encI_eq,xk B14 [2,2,1,2,1,2,2,1,2,2] (.cd 25) rfl,f,g,h]
 rcases cond_some a with ⟨i,a⟩ | ⟨i,a⟩
 ·cases a
  simp (disch:=first|apply D;decide|apply K;kernel_rfl) only [E,EE,↓reduceIte,simprocAttr,xk B14 [2,2,2,1,2,1,2,2,1,2,2] .sq rfl,rg B14 [1,2,2,2,1,2,1,2,2,1,2,2] 7 false rfl,hr 14 7 rfl,xk B14 [2,2,2,2,1,2,1,2,2,1,2,2] .rt rfl,R14_l2.st,f,g,h,i]
 ·have hJ:=f14_l2_j2_ok k c d e false _ a
  simp (disch:=first|apply D;decide|apply K;kernel_rfl) only [E,EE,↓reduceIte,simprocAttr,xk B14 [3,2,2,1,2,1,2,2,1,2,2] .sk rfl,f,g,h,i]
  try simp only [NM,EE] at hJ
  exact hJ
noncomputable def f14_l2_b (k:Nat) (a c:List Int) (b:Int):Option R14_l2 :=
 cond ((decide (b<((List.length a):Int))))
  (f14_l2_j1 k a c b true)
  (some (.o2 a c b false))
theorem f14_l2_b_ok (k b c d r) (a:f14_l2_b k b c d=some r):EX 14 k (nav B14 [1,2,2,1,2,2]) (⟨26,[(0,.sl 1 (rowsOf (encI .u8) b)),(1,.sl 1 (rowsOf (encI .u8) c)),(5,jI d)],[]⟩:St)=some r.st:=by
 unfold f14_l2_b at a
 simp (disch:=first|apply D;decide|apply K;kernel_rfl) only [E,EE,↓reduceIte,simprocAttr,xk B14 [1,2,2,1,2,2] .sq rfl,xk B14 [1,1,2,2,1,2,2] .sq rfl,rg B14 [1,1,1,2,2,1,2,2] 4 false rfl,hr 14 4 rfl,t_25,xk B14 [2,1,1,2,2,1,2,2] (.cd 14) rfl]
 rcases cond_some a with ⟨e,a⟩ | ⟨e,a⟩
 ·have hJ:=f14_l2_j1_ok k b c d true _ a
  simp (disch:=first|apply D;decide|apply K;kernel_rfl) only [E,EE,↓reduceIte,simprocAttr,xk B14 [2,2,1,1,2,2,1,2,2] .sk rfl,e]
  try simp only [NM,EE] at hJ
  exact hJ
 ·cases a
  simp (disch:=first|apply D;decide|apply K;kernel_rfl) only [E,EE,↓reduceIte,simprocAttr,xk B14 [3,2,1,1,2,2,1,2,2] (.ex 0) rfl,R14_l2.st,e]
noncomputable def f14_l2 (k:Nat):Nat→(List Int)→(List Int)→Int→Option R14_l2
 | 0,_,_,_=>none
 | n+1,d,e,f=>Option.bind (f14_l2_b k d e f) fun o =>
  match o with
  | .o0 y=>some (.o0 y)
  | .o1 y a b=>f14_l2 k n y a b
  | .o2 y a b c=>some (.o2 y a b c)
theorem f14_l2_ok (k n:Nat):∀ (b c:List Int) (d:Int) (r:R14_l2) (a:f14_l2 k n b c d=some r) (σ:St) (hσ:headR (hints.head 14 4) (hints.canon 14 4) σ=some (⟨26,[(0,.sl 1 (rowsOf (encI .u8) b)),(1,.sl 1 (rowsOf (encI .u8) c)),(5,jI d)],[]⟩:St)),LP 14 k (nav B14 [1,2,2,1,2,2]) n σ=some r.st:=by
 induction n with
 | zero=>intro b c d r a;cases a
 | succ n g =>
  intro b c d r a σ hσ
  rw [f14_l2] at a
  obtain ⟨o,h,a⟩:=Option.bind_eq_some_iff.1 a
  have hB:=f14_l2_b_ok k b c d o h
  unfold LP at g ⊢
  unfold EX at hB
  rw [loopK_succ,show firstReg (nav B14 [1,2,2,1,2,2])=4 from rfl,hσ,headK_some,hB]
  cases o with
  | o0 y=>cases a;rfl
  | o1 y e f =>
   refine g y e f r a _ ?_
   simp (disch:=first|apply D;decide|apply K;kernel_rfl) only [E,EE,↓reduceIte,simprocAttr,hh_14_4,hc_14_4]
  | o2 y e f i=>cases a;rfl
noncomputable def f14_j3 (k:Nat) (b c:List Int) (d:Int) (a:Bool):Option R14 :=
 some (.o0 true)
theorem f14_j3_ok (k b c d a r) (e:f14_j3 k b c d a=some r):finK Tryd.prog Tryd.f14 0 (EX 14 k (nav B14 [2,2,2]) (⟨26,[(0,.sl 1 (rowsOf (encI .u8) b)),(1,.sl 1 (rowsOf (encI .u8) c)),(5,jI d),(14,.p (.bool a))],[]⟩:St))=some r.st:=by
 unfold f14_j3 at e
 cases e
 simp (disch:=first|apply D;decide|apply K;kernel_rfl) only [E,EE,↓reduceIte,simprocAttr,xk B14 [2,2,2] .sq rfl,rg B14 [1,2,2,2] 8 false rfl,hr 14 8 rfl,xk B14 [2,2,2,2] .rt rfl,fin14,R14.st]
noncomputable def f14_j1 (k:Nat) (a b:List Int) (c:Bool):Option R14 :=
 Option.bind (f14_l2 k k a b 0) fun o1 =>
  match o1 with
  | .o0 d =>
   some (.o0 d)
  | .o1 _ _ _ =>
   none
  | .o2 e f g h =>
   f14_j3 k e f g h
theorem f14_j1_ok (k d e c r) (a:f14_j1 k d e c=some r):finK Tryd.prog Tryd.f14 0 (EX 14 k (nav B14 [2,2]) (⟨26,[(0,.sl 1 (rowsOf (encI .u8) d)),(1,.sl 1 (rowsOf (encI .u8) e)),(10,.p (.bool c))],[]⟩:St))=some r.st:=by
 unfold f14_j1 at a
 obtain ⟨o1,f,a⟩:=bs a
 have b:=f14_l2_ok k k d e 0 _ f
 simp (disch:=first|apply D;decide|apply K;kernel_rfl) only [E,EE,↓reduceIte,simprocAttr,xk B14 [2,2] .sq rfl,xk B14 [1,2,2] .sq rfl,rg B14 [1,1,2,2] 3 false rfl,hr 14 3 rfl,xk B14 [2,1,2,2] (.bk 0) rfl,xk B14 [2,2,1,2,2] .lp rfl,hh_14_4,hc_14_4]
 (try simp only [NM,EE] at b)
 rw [b _ (by simp (disch:=first|apply D;decide|apply K;kernel_rfl) only [E,EE,↓reduceIte,simprocAttr,hh_14_4,hc_14_4])]
 clear b
 cases o1 with
 | o0 l =>
  (try dsimp only at a)
  cases a
  simp (disch:=first|apply D;decide|apply K;kernel_rfl) only [E,EE,↓reduceIte,simprocAttr,R14_l2.st,fin14,R14.st]
 | o1 _ _ _ =>
  (try dsimp only at a)
  cases a
 | o2 g h i j =>
  (try dsimp only at a)
  have hJ:=f14_j3_ok k g h i j _ a
  simp (disch:=first|apply D;decide|apply K;kernel_rfl) only [E,EE,↓reduceIte,simprocAttr,R14_l2.st]
  try simp only [NM,EE] at hJ
  exact hJ
noncomputable def f14_e (k:Nat) (a b:List Int):Option R14 :=
 cond ((((List.length a):Int) != ((List.length b):Int)))
  (some (.o0 false))
  (f14_j1 k a b false)
theorem f14_e_ok (k b c r) (a:f14_e k b c=some r):finK Tryd.prog Tryd.f14 0 (EX 14 k (nav B14 []) (⟨26,[(0,.sl 1 (rowsOf (encI .u8) b)),(1,.sl 1 (rowsOf (encI .u8) c))],[]⟩:St))=some r.st:=by
 unfold f14_e at a
 simp (disch:=first|apply D;decide|apply K;kernel_rfl) only [E,EE,↓reduceIte,simprocAttr,xk B14 [] .sq rfl,rg B14 [1] 0 false rfl,hr 14 0 rfl,xk B14 [2] .sq rfl,xk B14 [1,2] .sq rfl,rg B14 [1,1,2] 1 false rfl,hr 14 1 rfl,t_25,xk B14 [2,1,2] (.cd 10) rfl]
 rcases cond_some a with ⟨d,a⟩ | ⟨d,a⟩
 ·cases a
  simp (disch:=first|apply D;decide|apply K;kernel_rfl) only [E,EE,↓reduceIte,simprocAttr,xk B14 [2,2,1,2] .sq rfl,rg B14 [1,2,2,1,2] 2 false rfl,hr 14 2 rfl,xk B14 [2,2,2,1,2] .rt rfl,fin14,R14.st,d]
 ·have hJ:=f14_j1_ok k b c false _ a
  simp (disch:=first|apply D;decide|apply K;kernel_rfl) only [E,EE,↓reduceIte,simprocAttr,xk B14 [3,2,1,2] .sk rfl,d]
  try simp only [NM,EE] at hJ
  exact hJ
noncomputable def f14 (k:Nat) (a b:List Int):Option R14:=match k with | 0=>none | k+1=>f14_e k a b
theorem f14_ok (k a b r) (d:f14 k a b=some r):CV k 14 [.sl 1 (rowsOf (encI .u8) a),.sl 1 (rowsOf (encI .u8) b)] []=some r.st:=by
 cases k with
 | zero=>cases d
 | succ k =>
  unfold CV
  rw [ev_call (F:=Tryd.f14) (c:=(nav B14 [])) rfl Tryd.func14 rfl rfl rfl rfl]
  exact f14_e_ok k a b r d
-- f3: f3 heliograph/heliographlaw07.CborEncodes
inductive R3 where
 | o0 (y:Bool)
noncomputable def R3.st:R3→V×List O×List O
 | .o0 y=>(.p (.bool y),[],[])
noncomputable def f3_j3 (k:Nat) (g:List Int) (h:Int) (i:Bool) (f a:Int) (b:List Int) (c:List T28):Option R3 :=
 cond ((h==0))
  (
   Option.bind (f13 k f a b c) fun o2 =>
    match o2 with
    | .o0 j =>
     cond ((j==0))
      (
       Option.bind (f15 k f a b c) fun o7 =>
        match o7 with
        | .o0 d =>
         Option.bind (f14 k g d) fun o11 =>
          match o11 with
          | .o0 e =>
           some (.o0 e))
      (some (.o0 false)))
  (some (.o0 false))
theorem f3_j3_ok (k l q g j b c d r) (a:f3_j3 k l q g j b c d=some r):finK Tryd.prog Tryd.f3 0 (EX 3 k (nav B3 [2,2,2,2,2,2]) (⟨48,[(3,.ptr 3 0),(4,.sl 1 (rowsOf (encI .u8) l)),(5,jI q),(22,.p (.bool g))],[(3,.box 28 [jI j,.p (.int .u64 b),.sl 1 (rowsOf (encI .u8) c),.sl 4 (rowsOf encT28 d)])]⟩:St))=some r.st:=by
 unfold f3_j3 at a
 simp (disch:=first|apply D;decide|apply K;kernel_rfl) only [E,EE,↓reduceIte,simprocAttr,xk B3 [2,2,2,2,2,2] .sq rfl,rg B3 [1,2,2,2,2,2,2] 9 false rfl,hr 3 9 rfl]
 rcases cond_some a with ⟨h,a⟩ | ⟨h,a⟩
 ·obtain ⟨o2,s,a⟩:=bs a
  have e:=f13_ok k j b c d _ s
  cases o2 with
  | o0 v =>
   (try dsimp only at a)
   (try simp only [NM,EE,R13.st] at e)
   simp (disch:=first|apply D;decide|apply K;kernel_rfl) only [E,EE,↓reduceIte,simprocAttr,t_28,callStep,CL,gv,List.contains,h,e]
   rcases cond_some a with ⟨m,a⟩ | ⟨m,a⟩
   ·obtain ⟨o7,t,a⟩:=bs a
    have i:=f15_ok k j b c d _ t
    cases o7 with
    | o0 o =>
     (try dsimp only at a)
     (try simp only [NM,EE,R15.st] at i)
     obtain ⟨o11,p,a⟩:=bs a
     have f:=f14_ok k l o _ p
     cases o11 with
     | o0 u =>
      (try dsimp only at a)
      (try simp only [NM,EE,R14.st] at f)
      cases a
      simp (disch:=first|apply D;decide|apply K;kernel_rfl) only [E,EE,↓reduceIte,simprocAttr,t_28,callStep,CL,gv,List.contains,xk B3 [2,2,2,2,2,2,2] .rt rfl,fin3,R3.st,h,e,m,i,f]
   ·cases a
    simp (disch:=first|apply D;decide|apply K;kernel_rfl) only [E,EE,↓reduceIte,simprocAttr,xk B3 [2,2,2,2,2,2,2] .rt rfl,fin3,R3.st,h,e,m]
 ·cases a
  simp (disch:=first|apply D;decide|apply K;kernel_rfl) only [E,EE,↓reduceIte,simprocAttr,xk B3 [2,2,2,2,2,2,2] .rt rfl,fin3,R3.st,h]
noncomputable def f3_j2 (k:Nat) (f:List Int) (g:Int) (h:Bool) (d a:Int) (b:List Int) (c:List T28):Option R3 :=
 Option.bind (f12 k d a b c) fun o1 =>
  match o1 with
  | .o0 i =>
   cond ((!i))
    (
     cond ((((List.length f):Int)==0))
      (
       cond ((g==170))
        (
         Option.bind (f13 k d a b c) fun o8 =>
          match o8 with
          | .o0 e =>
           some (.o0 (e==170)))
        (some (.o0 false)))
      (some (.o0 false)))
    (f3_j3 k f g false d a b c)
theorem f3_j2_ok (k l m h i b c d r) (a:f3_j2 k l m h i b c d=some r):finK Tryd.prog Tryd.f3 0 (EX 3 k (nav B3 [2,2,2,2,2]) (⟨48,[(3,.ptr 3 0),(4,.sl 1 (rowsOf (encI .u8) l)),(5,jI m),(19,.p (.bool h))],[(3,.box 28 [jI i,.p (.int .u64 b),.sl 1 (rowsOf (encI .u8) c),.sl 4 (rowsOf encT28 d)])]⟩:St))=some r.st:=by
 unfold f3_j2 at a
 obtain ⟨o1,p,a⟩:=bs a
 have e:=f12_ok k i b c d _ p
 cases o1 with
 | o0 t =>
  (try dsimp only at a)
  (try simp only [NM,EE,R12.st] at e)
  simp (disch:=first|apply D;decide|apply K;kernel_rfl) only [E,EE,↓reduceIte,simprocAttr,xk B3 [2,2,2,2,2] .sq rfl,xk B3 [1,2,2,2,2,2] .sq rfl,rg B3 [1,1,2,2,2,2,2] 7 false rfl,hr 3 7 rfl,t_28,callStep,CL,gv,List.contains,xk B3 [2,1,2,2,2,2,2] (.cd 22) rfl,e]
  rcases cond_some a with ⟨g,a⟩ | ⟨g,a⟩
  ·simp (disch:=first|apply D;decide|apply K;kernel_rfl) only [E,EE,↓reduceIte,simprocAttr,xk B3 [2,2,1,2,2,2,2,2] .sq rfl,rg B3 [1,2,2,1,2,2,2,2,2] 8 false rfl,hr 3 8 rfl,t_25,e,g]
   rcases cond_some a with ⟨j,a⟩ | ⟨j,a⟩
   ·rcases cond_some a with ⟨o,a⟩ | ⟨o,a⟩
    ·obtain ⟨o8,q,a⟩:=bs a
     have f:=f13_ok k i b c d _ q
     cases o8 with
     | o0 s =>
      (try dsimp only at a)
      (try simp only [NM,EE,R13.st] at f)
      cases a
      simp (disch:=first|apply D;decide|apply K;kernel_rfl) only [E,EE,↓reduceIte,simprocAttr,t_28,callStep,CL,gv,List.contains,xk B3 [2,2,2,1,2,2,2,2,2] .rt rfl,fin3,R3.st,e,g,j,o,f]
    ·cases a
     simp (disch:=first|apply D;decide|apply K;kernel_rfl) only [E,EE,↓reduceIte,simprocAttr,xk B3 [2,2,2,1,2,2,2,2,2] .rt rfl,fin3,R3.st,e,g,j,o]
   ·cases a
    simp (disch:=first|apply D;decide|apply K;kernel_rfl) only [E,EE,↓reduceIte,simprocAttr,xk B3 [2,2,2,1,2,2,2,2,2] .rt rfl,fin3,R3.st,e,g,j]
  ·have hJ:=f3_j3_ok k l m false i b c d _ a
   simp (disch:=first|apply D;decide|apply K;kernel_rfl) only [E,EE,↓reduceIte,simprocAttr,xk B3 [3,2,1,2,2,2,2,2] .sk rfl,e,g]
   try simp only [NM,EE] at hJ
   exact hJ
noncomputable def f3_j5 (k:Nat) (h:Int) (i:Bool) (g a:Int) (b:List Int) (c:List T28) (d:List Int):Option R3 :=
 cond ((h==0))
  (
   Option.bind (f13 k g a b c) fun o2 =>
    match o2 with
    | .o0 j =>
     cond ((j==0))
      (
       Option.bind (f15 k g a b c) fun o7 =>
        match o7 with
        | .o0 e =>
         Option.bind (f14 k d e) fun o11 =>
          match o11 with
          | .o0 f =>
           some (.o0 f))
      (some (.o0 false)))
  (some (.o0 false))
theorem f3_j5_ok (k q h l b c d g r) (a:f3_j5 k q h l b c d g=some r):finK Tryd.prog Tryd.f3 0 (EX 3 k (nav B3 [2,2,2,2,2,2]) (⟨48,[(3,.ptr 3 0),(4,.own 12),(5,jI q),(22,.p (.bool h))],[(3,.box 28 [jI l,.p (.int .u64 b),.sl 1 (rowsOf (encI .u8) c),.sl 4 (rowsOf encT28 d)]),(12,.row true 1 5 (rowsOf (encI .u8) g))]⟩:St))=some r.st:=by
 unfold f3_j5 at a
 simp (disch:=first|apply D;decide|apply K;kernel_rfl) only [E,EE,↓reduceIte,simprocAttr,xk B3 [2,2,2,2,2,2] .sq rfl,rg B3 [1,2,2,2,2,2,2] 9 false rfl,hr 3 9 rfl]
 rcases cond_some a with ⟨i,a⟩ | ⟨i,a⟩
 ·obtain ⟨o2,s,a⟩:=bs a
  have e:=f13_ok k l b c d _ s
  cases o2 with
  | o0 v =>
   (try dsimp only at a)
   (try simp only [NM,EE,R13.st] at e)
   simp (disch:=first|apply D;decide|apply K;kernel_rfl) only [E,EE,↓reduceIte,simprocAttr,t_28,callStep,CL,gv,List.contains,i,e]
   rcases cond_some a with ⟨m,a⟩ | ⟨m,a⟩
   ·obtain ⟨o7,t,a⟩:=bs a
    have j:=f15_ok k l b c d _ t
    cases o7 with
    | o0 o =>
     (try dsimp only at a)
     (try simp only [NM,EE,R15.st] at j)
     obtain ⟨o11,p,a⟩:=bs a
     have f:=f14_ok k g o _ p
     cases o11 with
     | o0 u =>
      (try dsimp only at a)
      (try simp only [NM,EE,R14.st] at f)
      cases a
      simp (disch:=first|apply D;decide|apply K;kernel_rfl) only [E,EE,↓reduceIte,simprocAttr,t_28,callStep,CL,gv,List.contains,xk B3 [2,2,2,2,2,2,2] .rt rfl,fin3,R3.st,i,e,m,j,f]
   ·cases a
    simp (disch:=first|apply D;decide|apply K;kernel_rfl) only [E,EE,↓reduceIte,simprocAttr,xk B3 [2,2,2,2,2,2,2] .rt rfl,fin3,R3.st,i,e,m]
 ·cases a
  simp (disch:=first|apply D;decide|apply K;kernel_rfl) only [E,EE,↓reduceIte,simprocAttr,xk B3 [2,2,2,2,2,2,2] .rt rfl,fin3,R3.st,i]
noncomputable def f3_j4 (k:Nat) (g:Int) (h:Bool) (e a:Int) (b:List Int) (c:List T28) (d:List Int):Option R3 :=
 Option.bind (f12 k e a b c) fun o1 =>
  match o1 with
  | .o0 i =>
   cond ((!i))
    (
     cond ((((List.length d):Int)==0))
      (
       cond ((g==170))
        (
         Option.bind (f13 k e a b c) fun o8 =>
          match o8 with
          | .o0 f =>
           some (.o0 (f==170)))
        (some (.o0 false)))
      (some (.o0 false)))
    (f3_j5 k g false e a b c d)
theorem f3_j4_ok (k m i j b c d g r) (a:f3_j4 k m i j b c d g=some r):finK Tryd.prog Tryd.f3 0 (EX 3 k (nav B3 [2,2,2,2,2]) (⟨48,[(3,.ptr 3 0),(4,.own 12),(5,jI m),(19,.p (.bool i))],[(3,.box 28 [jI j,.p (.int .u64 b),.sl 1 (rowsOf (encI .u8) c),.sl 4 (rowsOf encT28 d)]),(12,.row true 1 5 (rowsOf (encI .u8) g))]⟩:St))=some r.st:=by
 unfold f3_j4 at a
 obtain ⟨o1,p,a⟩:=bs a
 have e:=f12_ok k j b c d _ p
 cases o1 with
 | o0 t =>
  (try dsimp only at a)
  (try simp only [NM,EE,R12.st] at e)
  simp (disch:=first|apply D;decide|apply K;kernel_rfl) only [E,EE,↓reduceIte,simprocAttr,xk B3 [2,2,2,2,2] .sq rfl,xk B3 [1,2,2,2,2,2] .sq rfl,rg B3 [1,1,2,2,2,2,2] 7 false rfl,hr 3 7 rfl,t_28,callStep,CL,gv,List.contains,xk B3 [2,1,2,2,2,2,2] (.cd 22) rfl,e]
  rcases cond_some a with ⟨h,a⟩ | ⟨h,a⟩
  ·simp (disch:=first|apply D;decide|apply K;kernel_rfl) only [E,EE,↓reduceIte,simprocAttr,xk B3 [2,2,1,2,2,2,2,2] .sq rfl,rg B3 [1,2,2,1,2,2,2,2,2] 8 false rfl,hr 3 8 rfl,t_25,e,h]
   rcases cond_some a with ⟨l,a⟩ | ⟨l,a⟩
   ·rcases cond_some a with ⟨o,a⟩ | ⟨o,a⟩
    ·obtain ⟨o8,q,a⟩:=bs a
     have f:=f13_ok k j b c d _ q
     cases o8 with
     | o0 s =>
      (try dsimp only at a)
      (try simp only [NM,EE,R13.st] at f)
      cases a
      simp (disch:=first|apply D;decide|apply K;kernel_rfl) only [E,EE,↓reduceIte,simprocAttr,t_28,callStep,CL,gv,List.contains,xk B3 [2,2,2,1,2,2,2,2,2] .rt rfl,fin3,R3.st,e,h,l,o,f]
    ·cases a
     simp (disch:=first|apply D;decide|apply K;kernel_rfl) only [E,EE,↓reduceIte,simprocAttr,xk B3 [2,2,2,1,2,2,2,2,2] .rt rfl,fin3,R3.st,e,h,l,o]
   ·cases a
    simp (disch:=first|apply D;decide|apply K;kernel_rfl) only [E,EE,↓reduceIte,simprocAttr,xk B3 [2,2,2,1,2,2,2,2,2] .rt rfl,fin3,R3.st,e,h,l]
  ·have hJ:=f3_j5_ok k m false j b c d g _ a
   simp (disch:=first|apply D;decide|apply K;kernel_rfl) only [E,EE,↓reduceIte,simprocAttr,xk B3 [3,2,1,2,2,2,2,2] .sk rfl,e,h]
   try simp only [NM,EE] at hJ
   exact hJ
noncomputable def f3_j1 (k:Nat) (l:List T49) (m:Bool):Option R3 :=
 Option.bind (f9 k l) fun o1 =>
  match o1 with
  | .o0 a b c d =>
   Option.bind (f10 k a b c d) fun o8 =>
    match o8 with
    | .o0 e f =>
     Option.bind (f11 k a b c d a b c d) fun o16 =>
      match o16 with
      | .o0 g =>
       cond ((!g))
        (some (.o0 false))
        (f3_j2 k e f false a b c d)
    | .o1 h i =>
     Option.bind (f11 k a b c d a b c d) fun o26 =>
      match o26 with
      | .o0 j =>
       cond ((!j))
        (some (.o0 false))
        (f3_j4 k h false a b c d i)
theorem f3_j1_ok (k m v r) (b:f3_j1 k m v=some r):finK Tryd.prog Tryd.f3 0 (EX 3 k (nav B3 [2,2]) (⟨48,[(0,.sl 6 (rowsOf encT49 m)),(7,.p (.bool v))],[]⟩:St))=some r.st:=by
 unfold f3_j1 at b
 obtain ⟨o1,w,b⟩:=bs b
 have c:=f9_ok k m _ w
 cases o1 with
 | o0 f g h i =>
  (try dsimp only at b)
  (try simp only [NM,EE,R9.st] at c)
  simp (disch:=first|apply D;decide|apply K;kernel_rfl) only [E,EE,↓reduceIte,simprocAttr,xk B3 [2,2] .sq rfl,rg B3 [1,2,2] 3 false rfl,hr 3 3 rfl,callStep,CL,gv,List.contains,t_28,xk B3 [2,2,2] .sq rfl,rg B3 [1,2,2,2] 4 false rfl,hr 3 4 rfl,c]
  obtain ⟨o8,x,b⟩:=bs b
  have a:=f10_ok k f g h i _ x
  cases o8 with
  | o0 o p =>
   (try dsimp only at b)
   (try simp only [NM,EE,R10.st] at a)
   obtain ⟨o16,q,b⟩:=bs b
   have d:=f11_ok k f g h i f g h i _ q
   cases o16 with
   | o0 y =>
    (try dsimp only at b)
    (try simp only [NM,EE,R11.st] at d)
    simp (disch:=first|apply D;decide|apply K;kernel_rfl) only [E,EE,↓reduceIte,simprocAttr,xk B3 [2,2,2,2] .sq rfl,xk B3 [1,2,2,2,2] .sq rfl,rg B3 [1,1,2,2,2,2] 5 true rfl,hr 3 5 rfl,t_28,callStep,CL,gv,List.contains,xk B3 [2,1,2,2,2,2] (.cd 19) rfl,c,a,d]
    rcases cond_some b with ⟨j,b⟩ | ⟨j,b⟩
    ·cases b
     simp (disch:=first|apply D;decide|apply K;kernel_rfl) only [E,EE,↓reduceIte,simprocAttr,xk B3 [2,2,1,2,2,2,2] .sq rfl,rg B3 [1,2,2,1,2,2,2,2] 6 false rfl,hr 3 6 rfl,xk B3 [2,2,2,1,2,2,2,2] .rt rfl,fin3,R3.st,c,a,d,j]
    ·have hJ:=f3_j2_ok k o p false f g h i _ b
     simp (disch:=first|apply D;decide|apply K;kernel_rfl) only [E,EE,↓reduceIte,simprocAttr,xk B3 [3,2,1,2,2,2,2] .sk rfl,c,a,d,j]
     try simp only [NM,EE] at hJ
     exact hJ
  | o1 s t =>
   (try dsimp only at b)
   (try simp only [NM,EE,R10.st] at a)
   obtain ⟨o26,u,b⟩:=bs b
   have e:=f11_ok k f g h i f g h i _ u
   cases o26 with
   | o0 z =>
    (try dsimp only at b)
    (try simp only [NM,EE,R11.st] at e)
    simp (disch:=first|apply D;decide|apply K;kernel_rfl) only [E,EE,↓reduceIte,simprocAttr,xk B3 [2,2,2,2] .sq rfl,xk B3 [1,2,2,2,2] .sq rfl,rg B3 [1,1,2,2,2,2] 5 true rfl,hr 3 5 rfl,t_28,callStep,CL,gv,List.contains,xk B3 [2,1,2,2,2,2] (.cd 19) rfl,c,a,e]
    rcases cond_some b with ⟨l,b⟩ | ⟨l,b⟩
    ·cases b
     simp (disch:=first|apply D;decide|apply K;kernel_rfl) only [E,EE,↓reduceIte,simprocAttr,xk B3 [2,2,1,2,2,2,2] .sq rfl,rg B3 [1,2,2,1,2,2,2,2] 6 false rfl,hr 3 6 rfl,xk B3 [2,2,2,1,2,2,2,2] .rt rfl,fin3,R3.st,c,a,e,l]
    ·have hJ:=f3_j4_ok k s false f g h i t _ b
     simp (disch:=first|apply D;decide|apply K;kernel_rfl) only [E,EE,↓reduceIte,simprocAttr,xk B3 [3,2,1,2,2,2,2] .sk rfl,c,a,e,l]
     try simp only [NM,EE] at hJ
     exact hJ
noncomputable def f3_e (k:Nat) (a:List T49):Option R3 :=
 Option.bind (f8 k) fun o1 =>
  match o1 with
  | .o0 b =>
   cond ((!b))
    (some (.o0 false))
    (f3_j1 k a false)
theorem f3_e_ok (k c r) (a:f3_e k c=some r):finK Tryd.prog Tryd.f3 0 (EX 3 k (nav B3 []) (⟨48,[(0,.sl 6 (rowsOf encT49 c))],[]⟩:St))=some r.st:=by
 unfold f3_e at a
 obtain ⟨o1,e,a⟩:=bs a
 have b:=f8_ok k _ e
 cases o1 with
 | o0 f =>
  (try dsimp only at a)
  (try simp only [NM,EE,R8.st] at b)
  simp (disch:=first|apply D;decide|apply K;kernel_rfl) only [E,EE,↓reduceIte,simprocAttr,xk B3 [] .sq rfl,rg B3 [1] 0 false rfl,hr 3 0 rfl,xk B3 [2] .sq rfl,xk B3 [1,2] .sq rfl,rg B3 [1,1,2] 1 false rfl,hr 3 1 rfl,callStep,CL,gv,List.contains,xk B3 [2,1,2] (.cd 7) rfl,b]
  rcases cond_some a with ⟨d,a⟩ | ⟨d,a⟩
  ·cases a
   simp (disch:=first|apply D;decide|apply K;kernel_rfl) only [E,EE,↓reduceIte,simprocAttr,xk B3 [2,2,1,2] .sq rfl,rg B3 [1,2,2,1,2] 2 false rfl,hr 3 2 rfl,xk B3 [2,2,2,1,2] .rt rfl,fin3,R3.st,b,d]
  ·have hJ:=f3_j1_ok k c false _ a
   simp (disch:=first|apply D;decide|apply K;kernel_rfl) only [E,EE,↓reduceIte,simprocAttr,xk B3 [3,2,1,2] .sk rfl,b,d]
   try simp only [NM,EE] at hJ
   exact hJ
noncomputable def f3 (k:Nat) (a:List T49):Option R3:=match k with | 0=>none | k+1=>f3_e k a
theorem f3_ok (k a r) (b:f3 k a=some r):CV k 3 [.sl 6 (rowsOf encT49 a)] []=some r.st:=by
 cases k with
 | zero=>cases b
 | succ k =>
  unfold CV
  rw [ev_call (F:=Tryd.f3) (c:=(nav B3 [])) rfl Tryd.func3 rfl rfl rfl rfl]
  exact f3_e_ok k a r b
end Go.Proofs.YtlelaenalbkbmaaDoorV