/- What the program's functions answer: plain functions,and that the interpreter answers what they do. Written by a program of this session,out of the translation. -/
import Derived.Test.YtlelaenalbkbmaaDoorVP1
namespace Go.Proofs.YtlelaenalbkbmaaDoorV
open Go
set_option linter.unusedVariables false
set_option linter.unusedSimpArgs false
set_option maxRecDepth 8000
set_option maxHeartbeats 4000000
-- f19d: f19 heliograph/heliographref07.Same
inductive R19d where
 | o0 (y:Bool)
noncomputable def R19d.st:R19d→V×List O×List O
 | .o0 y=>(.p (.bool y),[],[])
inductive R19d_l2 where
 | o0 (y:Bool)
 | o1 (y a b:Int) (c:List Int) (d:List T28) (e f:Int) (g:List Int) (h:List T28)
 | o2 (y:Int) (a:Bool) (b c:Int) (d:List Int) (e:List T28) (f g:Int) (h:List Int) (i:List T28)
noncomputable def R19d_l2.st:R19d_l2→Out×St
 | .o0 y=>(.ret,(⟨54,[(4,.p (.bool y))],[]⟩:St))
 | .o1 y a b c d e f g h=>(.norm,(⟨54,[(2,.ptr 30000 0),(3,.ptr 30001 0),(5,jI y)],[(30000,.box 28 [jI a,.p (.int .u64 b),.sl 1 (rowsOf (encI .u8) c),.sl 4 (rowsOf encT28 d)]),(30001,.box 28 [jI e,.p (.int .u64 f),.sl 1 (rowsOf (encI .u8) g),.sl 4 (rowsOf encT28 h)])]⟩:St))
 | .o2 y a b c d e f g h i=>(.exit 0,(⟨54,[(2,.ptr 30000 0),(3,.ptr 30001 0),(5,jI y),(39,.p (.bool a))],[(30000,.box 28 [jI b,.p (.int .u64 c),.sl 1 (rowsOf (encI .u8) d),.sl 4 (rowsOf encT28 e)]),(30001,.box 28 [jI f,.p (.int .u64 g),.sl 1 (rowsOf (encI .u8) h),.sl 4 (rowsOf encT28 i)])]⟩:St))
noncomputable def f19d_l2_j2 (k:Nat) (q_f19_aiirrzaiirrz:Int→Int→(List Int)→(List T28)→Int→Int→(List Int)→(List T28)→Option R19d) (i:Int) (j:Bool) (g a:Int) (b:List Int) (c:List T28) (h d:Int) (e:List Int) (f:List T28):Option R19d_l2 :=
 some (.o1 (IntKind.i64.wrap (i+(1:Int))) g a b c h d e f)
theorem f19d_l2_j2_ok (k:Nat) (q_f19_aiirrzaiirrz:Int→Int→(List Int)→(List T28)→Int→Int→(List Int)→(List T28)→Option R19d) (hq_f19_aiirrzaiirrz:∀ (s g:Int) (h:List Int) (i:List T28) (t j:Int) (l:List Int) (m:List T28) (r:R19d),q_f19_aiirrzaiirrz s g h i t j l m=some r→CV k 19 [.agg [jI s,.p (.int .u64 g),.sl 1 (rowsOf (encI .u8) h),.sl 4 (rowsOf encT28 i)],.agg [jI t,.p (.int .u64 j),.sl 1 (rowsOf (encI .u8) l),.sl 4 (rowsOf encT28 m)]] []=some r.st) (u:Int) (o:Bool) (p a:Int) (b:List Int) (c:List T28) (q d:Int) (e:List Int) (f:List T28) (r:R19d_l2) (v:f19d_l2_j2 k q_f19_aiirrzaiirrz u o p a b c q d e f=some r):EX 19 k (nav B19 [2,2,1,2,2,1,2,2]) (⟨54,[(2,.ptr 30000 0),(3,.ptr 30001 0),(5,jI u),(53,.p (.bool o))],[(30000,.box 28 [jI p,.p (.int .u64 a),.sl 1 (rowsOf (encI .u8) b),.sl 4 (rowsOf encT28 c)]),(30001,.box 28 [jI q,.p (.int .u64 d),.sl 1 (rowsOf (encI .u8) e),.sl 4 (rowsOf encT28 f)])]⟩:St)=some r.st:=by
 unfold f19d_l2_j2 at v
 cases v
 simp (disch:=first|apply D;decide|apply K;kernel_rfl) only [E,EE,↓reduceIte,simprocAttr,rg B19 [2,2,1,2,2,1,2,2] 5 false rfl,hr 19 5 rfl,R19d_l2.st]
noncomputable def f19d_l2_j1 (k:Nat) (q_f19_aiirrzaiirrz:Int→Int→(List Int)→(List T28)→Int→Int→(List Int)→(List T28)→Option R19d) (g:Int) (m:Bool) (j c:Int) (d:List Int) (a:List T28) (l e:Int) (f:List Int) (b:List T28):Option R19d_l2 :=
 ifE ((0:Int)≤g) (
  Option.bind (a[(Int.toNat g)]?) fun h =>
   Option.bind (b[(Int.toNat g)]?) fun i =>
    Option.bind (q_f19_aiirrzaiirrz h.Kind h.Num h.Bytes h.Items i.Kind i.Num i.Bytes i.Items) fun o6 =>
     match o6 with
     | .o0 o =>
      cond ((!o))
       (some (.o0 false))
       (f19d_l2_j2 k q_f19_aiirrzaiirrz g false j c d a l e f b))
theorem f19d_l2_j1_ok (k:Nat) (q_f19_aiirrzaiirrz:Int→Int→(List Int)→(List T28)→Int→Int→(List Int)→(List T28)→Option R19d) (hq_f19_aiirrzaiirrz:∀ (a0 i:Int) (j:List Int) (l:List T28) (a1 m:Int) (o:List Int) (p:List T28) (r:R19d),q_f19_aiirrzaiirrz a0 i j l a1 m o p=some r→CV k 19 [.agg [jI a0,.p (.int .u64 i),.sl 1 (rowsOf (encI .u8) j),.sl 4 (rowsOf encT28 l)],.agg [jI a1,.p (.int .u64 m),.sl 1 (rowsOf (encI .u8) o),.sl 4 (rowsOf encT28 p)]] []=some r.st) (x:Int) (u:Bool) (q a:Int) (b:List Int) (c:List T28) (s d:Int) (e:List Int) (f:List T28) (r:R19d_l2) (g:f19d_l2_j1 k q_f19_aiirrzaiirrz x u q a b c s d e f=some r):EX 19 k (nav B19 [2,1,2,2,1,2,2]) (⟨54,[(2,.ptr 30000 0),(3,.ptr 30001 0),(5,jI x),(39,.p (.bool u))],[(30000,.box 28 [jI q,.p (.int .u64 a),.sl 1 (rowsOf (encI .u8) b),.sl 4 (rowsOf encT28 c)]),(30001,.box 28 [jI s,.p (.int .u64 d),.sl 1 (rowsOf (encI .u8) e),.sl 4 (rowsOf encT28 f)])]⟩:St)=some r.st:=by
 unfold f19d_l2_j1 at g
 obtain ⟨y,g⟩:=ifE_some.1 g
 obtain ⟨v,z,g⟩:=bs g
 obtain ⟨w,n,g⟩:=bs g
 obtain ⟨o6,h7,g⟩:=bs g
 have h:=hq_f19_aiirrzaiirrz v.Kind v.Num v.Bytes v.Items w.Kind w.Num w.Bytes w.Items _ h7
 cases o6 with
 | o0 v9 =>
  (try dsimp only at g)
  (try simp only [NM,EE,R19d.st] at h)
  simp (disch:=first|apply D;decide|apply K;kernel_rfl) only [E,EE,↓reduceIte,simprocAttr,xk B19 [2,1,2,2,1,2,2] .sq rfl,xk B19 [1,2,1,2,2,1,2,2] (.bk 1) rfl,xk B19 [2,1,2,1,2,2,1,2,2] .sq rfl,rg B19 [1,2,1,2,1,2,2,1,2,2] 6 true rfl,hr 19 6 rfl,fieldAddrV,t_28,t_26,indexAddrV,encT28_eq,callStep,CL,gv,List.contains,xk B19 [2,2,1,2,1,2,2,1,2,2] (.cd 53) rfl,y,z,n,h]
  rcases cond_some g with ⟨t,g⟩ | ⟨t,g⟩
  ·cases g
   simp (disch:=first|apply D;decide|apply K;kernel_rfl) only [E,EE,↓reduceIte,simprocAttr,xk B19 [2,2,2,1,2,1,2,2,1,2,2] .sq rfl,rg B19 [1,2,2,2,1,2,1,2,2,1,2,2] 7 false rfl,hr 19 7 rfl,xk B19 [2,2,2,2,1,2,1,2,2,1,2,2] .rt rfl,R19d_l2.st,y,z,n,h,t]
  ·have hJ:=f19d_l2_j2_ok k q_f19_aiirrzaiirrz hq_f19_aiirrzaiirrz x false q a b c s d e f _ g
   simp (disch:=first|apply D;decide|apply K;kernel_rfl) only [E,EE,↓reduceIte,simprocAttr,xk B19 [3,2,2,1,2,1,2,2,1,2,2] .sk rfl,y,z,n,h,t]
   try simp only [NM,EE] at hJ
   exact hJ
noncomputable def f19d_l2_b (k:Nat) (q_f19_aiirrzaiirrz:Int→Int→(List Int)→(List T28)→Int→Int→(List Int)→(List T28)→Option R19d) (i g b:Int) (c:List Int) (a:List T28) (h d:Int) (e:List Int) (f:List T28):Option R19d_l2 :=
 cond ((decide (i<((List.length a):Int))))
  (f19d_l2_j1 k q_f19_aiirrzaiirrz i true g b c a h d e f)
  (some (.o2 i false g b c a h d e f))
theorem f19d_l2_b_ok (k:Nat) (q_f19_aiirrzaiirrz:Int→Int→(List Int)→(List T28)→Int→Int→(List Int)→(List T28)→Option R19d) (hq_f19_aiirrzaiirrz:∀ (u g:Int) (h:List Int) (i:List T28) (v j:Int) (l:List Int) (m:List T28) (r:R19d),q_f19_aiirrzaiirrz u g h i v j l m=some r→CV k 19 [.agg [jI u,.p (.int .u64 g),.sl 1 (rowsOf (encI .u8) h),.sl 4 (rowsOf encT28 i)],.agg [jI v,.p (.int .u64 j),.sl 1 (rowsOf (encI .u8) l),.sl 4 (rowsOf encT28 m)]] []=some r.st) (s o a:Int) (b:List Int) (c:List T28) (p d:Int) (e:List Int) (f:List T28) (r:R19d_l2) (q:f19d_l2_b k q_f19_aiirrzaiirrz s o a b c p d e f=some r):EX 19 k (nav B19 [1,2,2,1,2,2]) (⟨54,[(2,.ptr 30000 0),(3,.ptr 30001 0),(5,jI s)],[(30000,.box 28 [jI o,.p (.int .u64 a),.sl 1 (rowsOf (encI .u8) b),.sl 4 (rowsOf encT28 c)]),(30001,.box 28 [jI p,.p (.int .u64 d),.sl 1 (rowsOf (encI .u8) e),.sl 4 (rowsOf encT28 f)])]⟩:St)=some r.st:=by
 unfold f19d_l2_b at q
 simp (disch:=first|apply D;decide|apply K;kernel_rfl) only [E,EE,↓reduceIte,simprocAttr,xk B19 [1,2,2,1,2,2] .sq rfl,xk B19 [1,1,2,2,1,2,2] .sq rfl,rg B19 [1,1,1,2,2,1,2,2] 4 false rfl,hr 19 4 rfl,fieldAddrV,t_28,t_26,xk B19 [2,1,1,2,2,1,2,2] (.cd 39) rfl]
 rcases cond_some q with ⟨t,q⟩ | ⟨t,q⟩
 ·have hJ:=f19d_l2_j1_ok k q_f19_aiirrzaiirrz hq_f19_aiirrzaiirrz s true o a b c p d e f _ q
  simp (disch:=first|apply D;decide|apply K;kernel_rfl) only [E,EE,↓reduceIte,simprocAttr,xk B19 [2,2,1,1,2,2,1,2,2] .sk rfl,t]
  try simp only [NM,EE] at hJ
  exact hJ
 ·cases q
  simp (disch:=first|apply D;decide|apply K;kernel_rfl) only [E,EE,↓reduceIte,simprocAttr,xk B19 [3,2,1,1,2,2,1,2,2] (.ex 0) rfl,R19d_l2.st,t]
noncomputable def f19d_l2 (k:Nat) (q_f19_aiirrzaiirrz:Int→Int→(List Int)→(List T28)→Int→Int→(List Int)→(List T28)→Option R19d):Nat→Int→Int→Int→(List Int)→(List T28)→Int→Int→(List Int)→(List T28)→Option R19d_l2
 | 0,_,_,_,_,_,_,_,_,_=>none
 | n+1,v,s,a,b,c,t,d,e,f=>Option.bind (f19d_l2_b k q_f19_aiirrzaiirrz v s a b c t d e f) fun o =>
  match o with
  | .o0 y=>some (.o0 y)
  | .o1 y g h i j l m p q=>f19d_l2 k q_f19_aiirrzaiirrz n y g h i j l m p q
  | .o2 y g h i j l m p q u=>some (.o2 y g h i j l m p q u)
theorem f19d_l2_ok (k:Nat) (q_f19_aiirrzaiirrz:Int→Int→(List Int)→(List T28)→Int→Int→(List Int)→(List T28)→Option R19d) (hq_f19_aiirrzaiirrz:∀ (a0 l:Int) (m:List Int) (p:List T28) (a1 q:Int) (s:List Int) (t:List T28) (r:R19d),q_f19_aiirrzaiirrz a0 l m p a1 q s t=some r→CV k 19 [.agg [jI a0,.p (.int .u64 l),.sl 1 (rowsOf (encI .u8) m),.sl 4 (rowsOf encT28 p)],.agg [jI a1,.p (.int .u64 q),.sl 1 (rowsOf (encI .u8) s),.sl 4 (rowsOf encT28 t)]] []=some r.st) (n:Nat):∀ (u g a:Int) (b:List Int) (c:List T28) (i d:Int) (e:List Int) (f:List T28) (r:R19d_l2) (j:f19d_l2 k q_f19_aiirrzaiirrz n u g a b c i d e f=some r) (σ:St) (hσ:headR (hints.head 19 4) (hints.canon 19 4) σ=some (⟨54,[(2,.ptr 30000 0),(3,.ptr 30001 0),(5,jI u)],[(30000,.box 28 [jI g,.p (.int .u64 a),.sl 1 (rowsOf (encI .u8) b),.sl 4 (rowsOf encT28 c)]),(30001,.box 28 [jI i,.p (.int .u64 d),.sl 1 (rowsOf (encI .u8) e),.sl 4 (rowsOf encT28 f)])]⟩:St)),LP 19 k (nav B19 [1,2,2,1,2,2]) n σ=some r.st:=by
 induction n with
 | zero=>intro u g a b c i d e f r j;cases j
 | succ n ih =>
  intro u g a b c i d e f r j σ hσ
  rw [f19d_l2] at j
  obtain ⟨o,h,j⟩:=Option.bind_eq_some_iff.1 j
  have hB:=f19d_l2_b_ok k q_f19_aiirrzaiirrz hq_f19_aiirrzaiirrz u g a b c i d e f o h
  unfold LP at ih ⊢
  unfold EX at hB
  rw [loopK_succ,show firstReg (nav B19 [1,2,2,1,2,2])=4 from rfl,hσ,headK_some,hB]
  cases o with
  | o0 y=>cases j;rfl
  | o1 y v w x z aa ab ac ad =>
   refine ih y v w x z aa ab ac ad r j _ ?_
   simp (disch:=first|apply D;decide|apply K;kernel_rfl) only [E,EE,↓reduceIte,simprocAttr,hh_19_4,hc_19_4]
  | o2 y v w x z aa ab ac ad ah=>cases j;rfl
noncomputable def f19d_j3 (k:Nat) (q_f19_aiirrzaiirrz:Int→Int→(List Int)→(List T28)→Int→Int→(List Int)→(List T28)→Option R19d) (j:Int) (g:Bool) (h a:Int) (b:List Int) (c:List T28) (i d:Int) (e:List Int) (f:List T28):Option R19d :=
 some (.o0 true)
theorem f19d_j3_ok (k:Nat) (q_f19_aiirrzaiirrz:Int→Int→(List Int)→(List T28)→Int→Int→(List Int)→(List T28)→Option R19d) (hq_f19_aiirrzaiirrz:∀ (s g:Int) (h:List Int) (i:List T28) (t j:Int) (l:List Int) (m:List T28) (r:R19d),q_f19_aiirrzaiirrz s g h i t j l m=some r→CV k 19 [.agg [jI s,.p (.int .u64 g),.sl 1 (rowsOf (encI .u8) h),.sl 4 (rowsOf encT28 i)],.agg [jI t,.p (.int .u64 j),.sl 1 (rowsOf (encI .u8) l),.sl 4 (rowsOf encT28 m)]] []=some r.st) (u:Int) (o:Bool) (p a:Int) (b:List Int) (c:List T28) (q d:Int) (e:List Int) (f:List T28) (r:R19d) (v:f19d_j3 k q_f19_aiirrzaiirrz u o p a b c q d e f=some r):finK Tryd.prog Tryd.f19 0 (EX 19 k (nav B19 [2,2,2]) (⟨54,[(2,.ptr 30000 0),(3,.ptr 30001 0),(5,jI u),(39,.p (.bool o))],[(30000,.box 28 [jI p,.p (.int .u64 a),.sl 1 (rowsOf (encI .u8) b),.sl 4 (rowsOf encT28 c)]),(30001,.box 28 [jI q,.p (.int .u64 d),.sl 1 (rowsOf (encI .u8) e),.sl 4 (rowsOf encT28 f)])]⟩:St))=some r.st:=by
 unfold f19d_j3 at v
 cases v
 simp (disch:=first|apply D;decide|apply K;kernel_rfl) only [E,EE,↓reduceIte,simprocAttr,xk B19 [2,2,2] .sq rfl,rg B19 [1,2,2,2] 8 false rfl,hr 19 8 rfl,xk B19 [2,2,2,2] .rt rfl,fin19,R19d.st]
noncomputable def f19d_j1 (k:Nat) (q_f19_aiirrzaiirrz:Int→Int→(List Int)→(List T28)→Int→Int→(List Int)→(List T28)→Option R19d) (m:Bool) (o a:Int) (b:List Int) (c:List T28) (p d:Int) (e:List Int) (f:List T28):Option R19d :=
 Option.bind (f19d_l2 k q_f19_aiirrzaiirrz k 0 o a b c p d e f) fun o1 =>
  match o1 with
  | .o0 q =>
   some (.o0 q)
  | .o1 _ _ _ _ _ _ _ _ _ =>
   none
  | .o2 s t u v w g h i j l =>
   f19d_j3 k q_f19_aiirrzaiirrz s t u v w g h i j l
theorem f19d_j1_ok (k:Nat) (q_f19_aiirrzaiirrz:Int→Int→(List Int)→(List T28)→Int→Int→(List Int)→(List T28)→Option R19d) (hq_f19_aiirrzaiirrz:∀ (z h:Int) (i:List Int) (j:List T28) (n l:Int) (m:List Int) (o:List T28) (r:R19d),q_f19_aiirrzaiirrz z h i j n l m o=some r→CV k 19 [.agg [jI z,.p (.int .u64 h),.sl 1 (rowsOf (encI .u8) i),.sl 4 (rowsOf encT28 j)],.agg [jI n,.p (.int .u64 l),.sl 1 (rowsOf (encI .u8) m),.sl 4 (rowsOf encT28 o)]] []=some r.st) (q:Bool) (s a:Int) (b:List Int) (c:List T28) (t d:Int) (e:List Int) (f:List T28) (r:R19d) (g:f19d_j1 k q_f19_aiirrzaiirrz q s a b c t d e f=some r):finK Tryd.prog Tryd.f19 0 (EX 19 k (nav B19 [2,2]) (⟨54,[(2,.ptr 2 0),(3,.ptr 3 0),(34,.p (.bool q))],[(2,.box 28 [jI s,.p (.int .u64 a),.sl 1 (rowsOf (encI .u8) b),.sl 4 (rowsOf encT28 c)]),(3,.box 28 [jI t,.p (.int .u64 d),.sl 1 (rowsOf (encI .u8) e),.sl 4 (rowsOf encT28 f)])]⟩:St))=some r.st:=by
 unfold f19d_j1 at g
 obtain ⟨o1,h2,g⟩:=bs g
 have p:=f19d_l2_ok k q_f19_aiirrzaiirrz hq_f19_aiirrzaiirrz k 0 s a b c t d e f _ h2
 simp (disch:=first|apply D;decide|apply K;kernel_rfl) only [E,EE,↓reduceIte,simprocAttr,xk B19 [2,2] .sq rfl,xk B19 [1,2,2] .sq rfl,rg B19 [1,1,2,2] 3 false rfl,hr 19 3 rfl,xk B19 [2,1,2,2] (.bk 0) rfl,xk B19 [2,2,1,2,2] .lp rfl,hh_19_4,hc_19_4]
 (try simp only [NM,EE] at p)
 rw [p _ (by simp (disch:=first|apply D;decide|apply K;kernel_rfl) only [E,EE,↓reduceIte,simprocAttr,hh_19_4,hc_19_4])]
 clear p
 cases o1 with
 | o0 v4 =>
  (try dsimp only at g)
  cases g
  simp (disch:=first|apply D;decide|apply K;kernel_rfl) only [E,EE,↓reduceIte,simprocAttr,R19d_l2.st,fin19,R19d.st]
 | o1 _ _ _ _ _ _ _ _ _ =>
  (try dsimp only at g)
  cases g
 | o2 v5 v6 v7 v8 v9 u v w x y =>
  (try dsimp only at g)
  have hJ:=f19d_j3_ok k q_f19_aiirrzaiirrz hq_f19_aiirrzaiirrz v5 v6 v7 v8 v9 u v w x y _ g
  simp (disch:=first|apply D;decide|apply K;kernel_rfl) only [E,EE,↓reduceIte,simprocAttr,R19d_l2.st]
  try simp only [NM,EE] at hJ
  exact hJ
noncomputable def f19d_e (k:Nat) (q_f19_aiirrzaiirrz:Int→Int→(List Int)→(List T28)→Int→Int→(List Int)→(List T28)→Option R19d) (g a:Int) (b:List Int) (c:List T28) (h d:Int) (e:List Int) (f:List T28):Option R19d :=
 cond ((g != h))
  (some (.o0 false))
  (
   cond ((a != d))
    (some (.o0 false))
    (
     Option.bind (f14 k b e) fun o3 =>
      match o3 with
      | .o0 i =>
       cond ((!i))
        (some (.o0 false))
        (
         cond ((((List.length c):Int) != ((List.length f):Int)))
          (some (.o0 false))
          (f19d_j1 k q_f19_aiirrzaiirrz false g a b c h d e f))))
theorem f19d_e_ok (k:Nat) (q_f19_aiirrzaiirrz:Int→Int→(List Int)→(List T28)→Int→Int→(List Int)→(List T28)→Option R19d) (hq_f19_aiirrzaiirrz:∀ (l d:Int) (a:List Int) (e:List T28) (m f:Int) (b:List Int) (g:List T28) (r:R19d),q_f19_aiirrzaiirrz l d a e m f b g=some r→CV k 19 [.agg [jI l,.p (.int .u64 d),.sl 1 (rowsOf (encI .u8) a),.sl 4 (rowsOf encT28 e)],.agg [jI m,.p (.int .u64 f),.sl 1 (rowsOf (encI .u8) b),.sl 4 (rowsOf encT28 g)]] []=some r.st) (l d:Int) (a:List Int) (e:List T28) (m f:Int) (b:List Int) (g:List T28) (r:R19d) (c:f19d_e k q_f19_aiirrzaiirrz l d a e m f b g=some r):finK Tryd.prog Tryd.f19 0 (EX 19 k (nav B19 []) (⟨54,[(0,.agg [jI l,.p (.int .u64 d),.sl 1 (rowsOf (encI .u8) a),.sl 4 (rowsOf encT28 e)]),(1,.agg [jI m,.p (.int .u64 f),.sl 1 (rowsOf (encI .u8) b),.sl 4 (rowsOf encT28 g)])],[]⟩:St))=some r.st:=by
 unfold f19d_e at c
 simp (disch:=first|apply D;decide|apply K;kernel_rfl) only [E,EE,↓reduceIte,simprocAttr,xk B19 [] .sq rfl,rg B19 [1] 0 false rfl,hr_19_0,xk B19 [2] .sq rfl,xk B19 [1,2] .sq rfl,rg B19 [1,1,2] 1 false rfl,hr 19 1 rfl,fieldAddrV,t_28,t_3]
 rcases cond_some c with ⟨i,c⟩ | ⟨i,c⟩
 ·cases c
  simp (disch:=first|apply D;decide|apply K;kernel_rfl) only [E,EE,↓reduceIte,simprocAttr,xk B19 [2,1,2] (.cd 34) rfl,xk B19 [2,2,1,2] .sq rfl,rg B19 [1,2,2,1,2] 2 false rfl,hr 19 2 rfl,xk B19 [2,2,2,1,2] .rt rfl,fin19,R19d.st,i]
 ·simp (disch:=first|apply D;decide|apply K;kernel_rfl) only [E,EE,↓reduceIte,simprocAttr,fieldAddrV,t_28,t_24,i]
  rcases cond_some c with ⟨j,c⟩ | ⟨j,c⟩
  ·cases c
   simp (disch:=first|apply D;decide|apply K;kernel_rfl) only [E,EE,↓reduceIte,simprocAttr,xk B19 [2,1,2] (.cd 34) rfl,xk B19 [2,2,1,2] .sq rfl,rg B19 [1,2,2,1,2] 2 false rfl,hr 19 2 rfl,xk B19 [2,2,2,1,2] .rt rfl,fin19,R19d.st,i,j]
  ·obtain ⟨o3,q,c⟩:=bs c
   have h:=f14_ok k a b _ q
   cases o3 with
   | o0 s =>
    (try dsimp only at c)
    (try simp only [NM,EE,R14.st] at h)
    simp (disch:=first|apply D;decide|apply K;kernel_rfl) only [E,EE,↓reduceIte,simprocAttr,fieldAddrV,t_28,t_25,callStep,CL,gv,List.contains,i,j,h]
    rcases cond_some c with ⟨o,c⟩ | ⟨o,c⟩
    ·cases c
     simp (disch:=first|apply D;decide|apply K;kernel_rfl) only [E,EE,↓reduceIte,simprocAttr,xk B19 [2,1,2] (.cd 34) rfl,xk B19 [2,2,1,2] .sq rfl,rg B19 [1,2,2,1,2] 2 false rfl,hr 19 2 rfl,xk B19 [2,2,2,1,2] .rt rfl,fin19,R19d.st,i,j,h,o]
    ·simp (disch:=first|apply D;decide|apply K;kernel_rfl) only [E,EE,↓reduceIte,simprocAttr,fieldAddrV,t_28,t_26,xk B19 [2,1,2] (.cd 34) rfl,i,j,h,o]
     rcases cond_some c with ⟨p,c⟩ | ⟨p,c⟩
     ·cases c
      simp (disch:=first|apply D;decide|apply K;kernel_rfl) only [E,EE,↓reduceIte,simprocAttr,xk B19 [2,2,1,2] .sq rfl,rg B19 [1,2,2,1,2] 2 false rfl,hr 19 2 rfl,xk B19 [2,2,2,1,2] .rt rfl,fin19,R19d.st,i,j,h,o,p]
     ·have hJ:=f19d_j1_ok k q_f19_aiirrzaiirrz hq_f19_aiirrzaiirrz false l d a e m f b g _ c
      simp (disch:=first|apply D;decide|apply K;kernel_rfl) only [E,EE,↓reduceIte,simprocAttr,xk B19 [3,2,1,2] .sk rfl,i,j,h,o,p]
      try simp only [NM,EE] at hJ
      exact hJ
noncomputable def f19d:Nat→Int→Int→(List Int)→(List T28)→Int→Int→(List Int)→(List T28)→Option R19d
 | 0,_,_,_,_,_,_,_,_=>none
 | k+1,g,a,b,c,h,d,e,f=>f19d_e k (f19d k) g a b c h d e f
theorem f19d_all (k:Nat):(∀ (h a:Int) (b:List Int) (d:List T28) (i e:Int) (f:List Int) (g:List T28) (r:R19d),f19d k h a b d i e f g=some r→CV k 19 [.agg [jI h,.p (.int .u64 a),.sl 1 (rowsOf (encI .u8) b),.sl 4 (rowsOf encT28 d)],.agg [jI i,.p (.int .u64 e),.sl 1 (rowsOf (encI .u8) f),.sl 4 (rowsOf encT28 g)]] []=some r.st):=by
 induction k with
 | zero=>exact (by intro h a b d i e f g r j;rw [f19d] at j;cases j)
 | succ k l =>
  have ih_f19_aiirrzaiirrz:=l
  exact (by intro h a b d i e f g r j;rw [f19d] at j;unfold CV;rw [ev_call (F:=Tryd.f19) (c:=(nav B19 [])) rfl Tryd.func19 rfl rfl rfl rfl];exact f19d_e_ok k (f19d k) ih_f19_aiirrzaiirrz h a b d i e f g r j)
theorem f19d_ok (k g a b c h d e f r) (i:f19d k g a b c h d e f=some r):CV k 19 [.agg [jI g,.p (.int .u64 a),.sl 1 (rowsOf (encI .u8) b),.sl 4 (rowsOf encT28 c)],.agg [jI h,.p (.int .u64 d),.sl 1 (rowsOf (encI .u8) e),.sl 4 (rowsOf encT28 f)]] []=some r.st:=f19d_all k g a b c h d e f r i
-- f19a: f19 heliograph/heliographref07.Same
inductive R19a where
 | o0 (y:Bool)
noncomputable def R19a.st:R19a→V×List O×List O
 | .o0 y=>(.p (.bool y),[],[])
inductive R19a_l2 where
 | o0 (y:Bool)
 | o1 (y a b:Int) (c:List Int) (d:List T28) (e f:Int) (g:List Int) (h:List T28)
 | o2 (y:Int) (a:Bool) (b c:Int) (d:List Int) (e:List T28) (f g:Int) (h:List Int) (i:List T28)
noncomputable def R19a_l2.st:R19a_l2→Out×St
 | .o0 y=>(.ret,(⟨54,[(4,.p (.bool y))],[]⟩:St))
 | .o1 y a b c d e f g h=>(.norm,(⟨54,[(2,.ptr 30000 0),(3,.ptr 30001 0),(5,jI y)],[(30000,.box 28 [jI a,.p (.int .u64 b),.sl 1 (rowsOf (encI .u8) c),.sl 4 (rowsOf encT28 d)]),(30001,.box 28 [jI e,.p (.int .u64 f),.sl 1 (rowsOf (encI .u8) g),.sl 4 (rowsOf encT28 h)])]⟩:St))
 | .o2 y a b c d e f g h i=>(.exit 0,(⟨54,[(2,.ptr 30000 0),(3,.ptr 30001 0),(5,jI y),(39,.p (.bool a))],[(30000,.box 28 [jI b,.p (.int .u64 c),.sl 1 (rowsOf (encI .u8) d),.sl 4 (rowsOf encT28 e)]),(30001,.box 28 [jI f,.p (.int .u64 g),.sl 1 (rowsOf (encI .u8) h),.sl 4 (rowsOf encT28 i)])]⟩:St))
noncomputable def f19a_l2_j2 (k:Nat) (i:Int) (j:Bool) (g a:Int) (b:List Int) (c:List T28) (h d:Int) (e:List Int) (f:List T28):Option R19a_l2 :=
 some (.o1 (IntKind.i64.wrap (i+(1:Int))) g a b c h d e f)
theorem f19a_l2_j2_ok (k j g h a b c i d e f r) (l:f19a_l2_j2 k j g h a b c i d e f=some r):EX 19 k (nav B19 [2,2,1,2,2,1,2,2]) (⟨54,[(2,.ptr 30000 0),(3,.ptr 30001 0),(5,jI j),(53,.p (.bool g))],[(30000,.box 28 [jI h,.p (.int .u64 a),.sl 1 (rowsOf (encI .u8) b),.sl 4 (rowsOf encT28 c)]),(30001,.box 28 [jI i,.p (.int .u64 d),.sl 1 (rowsOf (encI .u8) e),.sl 4 (rowsOf encT28 f)])]⟩:St)=some r.st:=by
 unfold f19a_l2_j2 at l
 cases l
 simp (disch:=first|apply D;decide|apply K;kernel_rfl) only [E,EE,↓reduceIte,simprocAttr,rg B19 [2,2,1,2,2,1,2,2] 5 false rfl,hr 19 5 rfl,R19a_l2.st]
noncomputable def f19a_l2_j1 (k:Nat) (g:Int) (m:Bool) (j c:Int) (d:List Int) (a:List T28) (l e:Int) (f:List Int) (b:List T28):Option R19a_l2 :=
 ifE ((0:Int)≤g) (
  Option.bind (a[(Int.toNat g)]?) fun h =>
   Option.bind (b[(Int.toNat g)]?) fun i =>
    Option.bind (f19d k h.Kind h.Num h.Bytes h.Items i.Kind i.Num i.Bytes i.Items) fun o6 =>
     match o6 with
     | .o0 o =>
      cond ((!o))
       (some (.o0 false))
       (f19a_l2_j2 k g false j c d a l e f b))
theorem f19a_l2_j1_ok (k q m i a b c j d e f r) (g:f19a_l2_j1 k q m i a b c j d e f=some r):EX 19 k (nav B19 [2,1,2,2,1,2,2]) (⟨54,[(2,.ptr 30000 0),(3,.ptr 30001 0),(5,jI q),(39,.p (.bool m))],[(30000,.box 28 [jI i,.p (.int .u64 a),.sl 1 (rowsOf (encI .u8) b),.sl 4 (rowsOf encT28 c)]),(30001,.box 28 [jI j,.p (.int .u64 d),.sl 1 (rowsOf (encI .u8) e),.sl 4 (rowsOf encT28 f)])]⟩:St)=some r.st:=by
 unfold f19a_l2_j1 at g
 obtain ⟨s,g⟩:=ifE_some.1 g
 obtain ⟨o,t,g⟩:=bs g
 obtain ⟨p,u,g⟩:=bs g
 obtain ⟨o6,v,g⟩:=bs g
 have h:=f19d_ok k o.Kind o.Num o.Bytes o.Items p.Kind p.Num p.Bytes p.Items _ v
 cases o6 with
 | o0 w =>
  (try dsimp only at g)
  (try simp only [NM,EE,R19d.st] at h)
  simp (disch:=first|apply D;decide|apply K;kernel_rfl) only [E,EE,↓reduceIte,simprocAttr,xk B19 [2,1,2,2,1,2,2] .sq rfl,xk B19 [1,2,1,2,2,1,2,2] (.bk 1) rfl,xk B19 [2,1,2,1,2,2,1,2,2] .sq rfl,rg B19 [1,2,1,2,1,2,2,1,2,2] 6 true rfl,hr 19 6 rfl,fieldAddrV,t_28,t_26,indexAddrV,encT28_eq,callStep,CL,gv,List.contains,xk B19 [2,2,1,2,1,2,2,1,2,2] (.cd 53) rfl,s,t,u,h]
  rcases cond_some g with ⟨l,g⟩ | ⟨l,g⟩
  ·cases g
   simp (disch:=first|apply D;decide|apply K;kernel_rfl) only [E,EE,↓reduceIte,simprocAttr,xk B19 [2,2,2,1,2,1,2,2,1,2,2] .sq rfl,rg B19 [1,2,2,2,1,2,1,2,2,1,2,2] 7 false rfl,hr 19 7 rfl,xk B19 [2,2,2,2,1,2,1,2,2,1,2,2] .rt rfl,R19a_l2.st,s,t,u,h,l]
  ·have hJ:=f19a_l2_j2_ok k q false i a b c j d e f _ g
   simp (disch:=first|apply D;decide|apply K;kernel_rfl) only [E,EE,↓reduceIte,simprocAttr,xk B19 [3,2,2,1,2,1,2,2,1,2,2] .sk rfl,s,t,u,h,l]
   try simp only [NM,EE] at hJ
   exact hJ
noncomputable def f19a_l2_b (k:Nat) (i g b:Int) (c:List Int) (a:List T28) (h d:Int) (e:List Int) (f:List T28):Option R19a_l2 :=
 cond ((decide (i<((List.length a):Int))))
  (f19a_l2_j1 k i true g b c a h d e f)
  (some (.o2 i false g b c a h d e f))
theorem f19a_l2_b_ok (k j g a b c h d e f r) (i:f19a_l2_b k j g a b c h d e f=some r):EX 19 k (nav B19 [1,2,2,1,2,2]) (⟨54,[(2,.ptr 30000 0),(3,.ptr 30001 0),(5,jI j)],[(30000,.box 28 [jI g,.p (.int .u64 a),.sl 1 (rowsOf (encI .u8) b),.sl 4 (rowsOf encT28 c)]),(30001,.box 28 [jI h,.p (.int .u64 d),.sl 1 (rowsOf (encI .u8) e),.sl 4 (rowsOf encT28 f)])]⟩:St)=some r.st:=by
 unfold f19a_l2_b at i
 simp (disch:=first|apply D;decide|apply K;kernel_rfl) only [E,EE,↓reduceIte,simprocAttr,xk B19 [1,2,2,1,2,2] .sq rfl,xk B19 [1,1,2,2,1,2,2] .sq rfl,rg B19 [1,1,1,2,2,1,2,2] 4 false rfl,hr 19 4 rfl,fieldAddrV,t_28,t_26,xk B19 [2,1,1,2,2,1,2,2] (.cd 39) rfl]
 rcases cond_some i with ⟨l,i⟩ | ⟨l,i⟩
 ·have hJ:=f19a_l2_j1_ok k j true g a b c h d e f _ i
  simp (disch:=first|apply D;decide|apply K;kernel_rfl) only [E,EE,↓reduceIte,simprocAttr,xk B19 [2,2,1,1,2,2,1,2,2] .sk rfl,l]
  try simp only [NM,EE] at hJ
  exact hJ
 ·cases i
  simp (disch:=first|apply D;decide|apply K;kernel_rfl) only [E,EE,↓reduceIte,simprocAttr,xk B19 [3,2,1,1,2,2,1,2,2] (.ex 0) rfl,R19a_l2.st,l]
noncomputable def f19a_l2 (k:Nat):Nat→Int→Int→Int→(List Int)→(List T28)→Int→Int→(List Int)→(List T28)→Option R19a_l2
 | 0,_,_,_,_,_,_,_,_,_=>none
 | n+1,v,s,a,b,c,t,d,e,f=>Option.bind (f19a_l2_b k v s a b c t d e f) fun o =>
  match o with
  | .o0 y=>some (.o0 y)
  | .o1 y g h i j l m p q=>f19a_l2 k n y g h i j l m p q
  | .o2 y g h i j l m p q u=>some (.o2 y g h i j l m p q u)
theorem f19a_l2_ok (k n:Nat):∀ (l g a:Int) (b:List Int) (c:List T28) (i d:Int) (e:List Int) (f:List T28) (r:R19a_l2) (j:f19a_l2 k n l g a b c i d e f=some r) (σ:St) (hσ:headR (hints.head 19 4) (hints.canon 19 4) σ=some (⟨54,[(2,.ptr 30000 0),(3,.ptr 30001 0),(5,jI l)],[(30000,.box 28 [jI g,.p (.int .u64 a),.sl 1 (rowsOf (encI .u8) b),.sl 4 (rowsOf encT28 c)]),(30001,.box 28 [jI i,.p (.int .u64 d),.sl 1 (rowsOf (encI .u8) e),.sl 4 (rowsOf encT28 f)])]⟩:St)),LP 19 k (nav B19 [1,2,2,1,2,2]) n σ=some r.st:=by
 induction n with
 | zero=>intro l g a b c i d e f r j;cases j
 | succ n x =>
  intro l g a b c i d e f r j σ hσ
  rw [f19a_l2] at j
  obtain ⟨o,h,j⟩:=Option.bind_eq_some_iff.1 j
  have hB:=f19a_l2_b_ok k l g a b c i d e f o h
  unfold LP at x ⊢
  unfold EX at hB
  rw [loopK_succ,show firstReg (nav B19 [1,2,2,1,2,2])=4 from rfl,hσ,headK_some,hB]
  cases o with
  | o0 y=>cases j;rfl
  | o1 y m p q s t u v w =>
   refine x y m p q s t u v w r j _ ?_
   simp (disch:=first|apply D;decide|apply K;kernel_rfl) only [E,EE,↓reduceIte,simprocAttr,hh_19_4,hc_19_4]
  | o2 y m p q s t u v w z=>cases j;rfl
noncomputable def f19a_j3 (k:Nat) (j:Int) (g:Bool) (h a:Int) (b:List Int) (c:List T28) (i d:Int) (e:List Int) (f:List T28):Option R19a :=
 some (.o0 true)
theorem f19a_j3_ok (k j g h a b c i d e f r) (l:f19a_j3 k j g h a b c i d e f=some r):finK Tryd.prog Tryd.f19 0 (EX 19 k (nav B19 [2,2,2]) (⟨54,[(2,.ptr 30000 0),(3,.ptr 30001 0),(5,jI j),(39,.p (.bool g))],[(30000,.box 28 [jI h,.p (.int .u64 a),.sl 1 (rowsOf (encI .u8) b),.sl 4 (rowsOf encT28 c)]),(30001,.box 28 [jI i,.p (.int .u64 d),.sl 1 (rowsOf (encI .u8) e),.sl 4 (rowsOf encT28 f)])]⟩:St))=some r.st:=by
 unfold f19a_j3 at l
 cases l
 simp (disch:=first|apply D;decide|apply K;kernel_rfl) only [E,EE,↓reduceIte,simprocAttr,xk B19 [2,2,2] .sq rfl,rg B19 [1,2,2,2] 8 false rfl,hr 19 8 rfl,xk B19 [2,2,2,2] .rt rfl,fin19,R19a.st]
noncomputable def f19a_j1 (k:Nat) (m:Bool) (o a:Int) (b:List Int) (c:List T28) (p d:Int) (e:List Int) (f:List T28):Option R19a :=
 Option.bind (f19a_l2 k k 0 o a b c p d e f) fun o1 =>
  match o1 with
  | .o0 q =>
   some (.o0 q)
  | .o1 _ _ _ _ _ _ _ _ _ =>
   none
  | .o2 s t u v w g h i j l =>
   f19a_j3 k s t u v w g h i j l
theorem f19a_j1_ok (k i j a b c l d e f r) (g:f19a_j1 k i j a b c l d e f=some r):finK Tryd.prog Tryd.f19 0 (EX 19 k (nav B19 [2,2]) (⟨54,[(2,.ptr 2 0),(3,.ptr 3 0),(34,.p (.bool i))],[(2,.box 28 [jI j,.p (.int .u64 a),.sl 1 (rowsOf (encI .u8) b),.sl 4 (rowsOf encT28 c)]),(3,.box 28 [jI l,.p (.int .u64 d),.sl 1 (rowsOf (encI .u8) e),.sl 4 (rowsOf encT28 f)])]⟩:St))=some r.st:=by
 unfold f19a_j1 at g
 obtain ⟨o1,t,g⟩:=bs g
 have h:=f19a_l2_ok k k 0 j a b c l d e f _ t
 simp (disch:=first|apply D;decide|apply K;kernel_rfl) only [E,EE,↓reduceIte,simprocAttr,xk B19 [2,2] .sq rfl,xk B19 [1,2,2] .sq rfl,rg B19 [1,1,2,2] 3 false rfl,hr 19 3 rfl,xk B19 [2,1,2,2] (.bk 0) rfl,xk B19 [2,2,1,2,2] .lp rfl,hh_19_4,hc_19_4]
 (try simp only [NM,EE] at h)
 rw [h _ (by simp (disch:=first|apply D;decide|apply K;kernel_rfl) only [E,EE,↓reduceIte,simprocAttr,hh_19_4,hc_19_4])]
 clear h
 cases o1 with
 | o0 z =>
  (try dsimp only at g)
  cases g
  simp (disch:=first|apply D;decide|apply K;kernel_rfl) only [E,EE,↓reduceIte,simprocAttr,R19a_l2.st,fin19,R19a.st]
 | o1 _ _ _ _ _ _ _ _ _ =>
  (try dsimp only at g)
  cases g
 | o2 u v w x y m o p q s =>
  (try dsimp only at g)
  have hJ:=f19a_j3_ok k u v w x y m o p q s _ g
  simp (disch:=first|apply D;decide|apply K;kernel_rfl) only [E,EE,↓reduceIte,simprocAttr,R19a_l2.st]
  try simp only [NM,EE] at hJ
  exact hJ
noncomputable def f19a_e (k:Nat) (e a:Int) (b:List Int) (c:List T28) (f d:Int):Option R19a :=
 cond ((e != f))
  (some (.o0 false))
  (
   cond ((a != d))
    (some (.o0 false))
    (
     Option.bind (f14 k b []) fun o3 =>
      match o3 with
      | .o0 g =>
       cond ((!g))
        (some (.o0 false))
        (
         cond ((((List.length c):Int) != 0))
          (some (.o0 false))
          (f19a_j1 k false e a b c f d [] []))))
theorem f19a_e_ok (k j d b e l f r) (a:f19a_e k j d b e l f=some r):finK Tryd.prog Tryd.f19 0 (EX 19 k (nav B19 []) (⟨54,[(0,.agg [jI j,.p (.int .u64 d),.sl 1 (rowsOf (encI .u8) b),.sl 4 (rowsOf encT28 e)]),(1,.agg [jI l,.p (.int .u64 f),V.nil,V.nil])],[]⟩:St))=some r.st:=by
 unfold f19a_e at a
 simp (disch:=first|apply D;decide|apply K;kernel_rfl) only [E,EE,↓reduceIte,simprocAttr,xk B19 [] .sq rfl,rg B19 [1] 0 false rfl,hr_19_0,xk B19 [2] .sq rfl,xk B19 [1,2] .sq rfl,rg B19 [1,1,2] 1 false rfl,hr 19 1 rfl,fieldAddrV,t_28,t_3]
 rcases cond_some a with ⟨g,a⟩ | ⟨g,a⟩
 ·cases a
  simp (disch:=first|apply D;decide|apply K;kernel_rfl) only [E,EE,↓reduceIte,simprocAttr,xk B19 [2,1,2] (.cd 34) rfl,xk B19 [2,2,1,2] .sq rfl,rg B19 [1,2,2,1,2] 2 false rfl,hr 19 2 rfl,xk B19 [2,2,2,1,2] .rt rfl,fin19,R19a.st,g]
 ·simp (disch:=first|apply D;decide|apply K;kernel_rfl) only [E,EE,↓reduceIte,simprocAttr,fieldAddrV,t_28,t_24,g]
  rcases cond_some a with ⟨h,a⟩ | ⟨h,a⟩
  ·cases a
   simp (disch:=first|apply D;decide|apply K;kernel_rfl) only [E,EE,↓reduceIte,simprocAttr,xk B19 [2,1,2] (.cd 34) rfl,xk B19 [2,2,1,2] .sq rfl,rg B19 [1,2,2,1,2] 2 false rfl,hr 19 2 rfl,xk B19 [2,2,2,1,2] .rt rfl,fin19,R19a.st,g,h]
  ·obtain ⟨o3,o,a⟩:=bs a
   have c:=f14_ok k b [] _ o
   cases o3 with
   | o0 p =>
    (try dsimp only at a)
    (try simp only [NM,EE,R14.st] at c)
    simp (disch:=first|apply D;decide|apply K;kernel_rfl) only [E,EE,↓reduceIte,simprocAttr,fieldAddrV,t_28,t_25,callStep,CL,gv,List.contains,g,h,c]
    rcases cond_some a with ⟨i,a⟩ | ⟨i,a⟩
    ·cases a
     simp (disch:=first|apply D;decide|apply K;kernel_rfl) only [E,EE,↓reduceIte,simprocAttr,xk B19 [2,1,2] (.cd 34) rfl,xk B19 [2,2,1,2] .sq rfl,rg B19 [1,2,2,1,2] 2 false rfl,hr 19 2 rfl,xk B19 [2,2,2,1,2] .rt rfl,fin19,R19a.st,g,h,c,i]
    ·simp (disch:=first|apply D;decide|apply K;kernel_rfl) only [E,EE,↓reduceIte,simprocAttr,fieldAddrV,t_28,t_26,xk B19 [2,1,2] (.cd 34) rfl,g,h,c,i]
     rcases cond_some a with ⟨m,a⟩ | ⟨m,a⟩
     ·cases a
      simp (disch:=first|apply D;decide|apply K;kernel_rfl) only [E,EE,↓reduceIte,simprocAttr,xk B19 [2,2,1,2] .sq rfl,rg B19 [1,2,2,1,2] 2 false rfl,hr 19 2 rfl,xk B19 [2,2,2,1,2] .rt rfl,fin19,R19a.st,g,h,c,i,m]
     ·have hJ:=f19a_j1_ok k false j d b e l f [] [] _ a
      simp (disch:=first|apply D;decide|apply K;kernel_rfl) only [E,EE,↓reduceIte,simprocAttr,xk B19 [3,2,1,2] .sk rfl,g,h,c,i,m]
      try simp only [NM,EE] at hJ
      exact hJ
noncomputable def f19a (k:Nat) (e a:Int) (b:List Int) (c:List T28) (f d:Int):Option R19a:=match k with | 0=>none | k+1=>f19a_e k e a b c f d
theorem f19a_ok (k f a b d g e r) (h:f19a k f a b d g e=some r):CV k 19 [.agg [jI f,.p (.int .u64 a),.sl 1 (rowsOf (encI .u8) b),.sl 4 (rowsOf encT28 d)],.agg [jI g,.p (.int .u64 e),V.nil,V.nil]] []=some r.st:=by
 cases k with
 | zero=>cases h
 | succ k =>
  unfold CV
  rw [ev_call (F:=Tryd.f19) (c:=(nav B19 [])) rfl Tryd.func19 rfl rfl rfl rfl]
  exact f19a_e_ok k f a b d g e r h
-- f19c: f19 heliograph/heliographref07.Same
inductive R19c where
 | o0 (y:Bool)
noncomputable def R19c.st:R19c→V×List O×List O
 | .o0 y=>(.p (.bool y),[],[])
inductive R19c_l2 where
 | o0 (y:Bool)
 | o1 (y a b:Int) (c:List Int) (d:List T28) (e f:Int) (g:List Int) (h:List T28)
 | o2 (y:Int) (a:Bool) (b c:Int) (d:List Int) (e:List T28) (f g:Int) (h:List Int) (i:List T28)
noncomputable def R19c_l2.st:R19c_l2→Out×St
 | .o0 y=>(.ret,(⟨54,[(4,.p (.bool y))],[]⟩:St))
 | .o1 y a b c d e f g h=>(.norm,(⟨54,[(2,.ptr 30000 0),(3,.ptr 30001 0),(5,jI y)],[(30000,.box 28 [jI a,.p (.int .u64 b),.sl 1 (rowsOf (encI .u8) c),.sl 4 (rowsOf encT28 d)]),(30001,.box 28 [jI e,.p (.int .u64 f),.sl 1 (rowsOf (encI .u8) g),.sl 4 (rowsOf encT28 h)])]⟩:St))
 | .o2 y a b c d e f g h i=>(.exit 0,(⟨54,[(2,.ptr 30000 0),(3,.ptr 30001 0),(5,jI y),(39,.p (.bool a))],[(30000,.box 28 [jI b,.p (.int .u64 c),.sl 1 (rowsOf (encI .u8) d),.sl 4 (rowsOf encT28 e)]),(30001,.box 28 [jI f,.p (.int .u64 g),.sl 1 (rowsOf (encI .u8) h),.sl 4 (rowsOf encT28 i)])]⟩:St))
noncomputable def f19c_l2_j2 (k:Nat) (i:Int) (j:Bool) (g a:Int) (b:List Int) (c:List T28) (h d:Int) (e:List Int) (f:List T28):Option R19c_l2 :=
 some (.o1 (IntKind.i64.wrap (i+(1:Int))) g a b c h d e f)
theorem f19c_l2_j2_ok (k j g h a b c i d e f r) (l:f19c_l2_j2 k j g h a b c i d e f=some r):EX 19 k (nav B19 [2,2,1,2,2,1,2,2]) (⟨54,[(2,.ptr 30000 0),(3,.ptr 30001 0),(5,jI j),(53,.p (.bool g))],[(30000,.box 28 [jI h,.p (.int .u64 a),.sl 1 (rowsOf (encI .u8) b),.sl 4 (rowsOf encT28 c)]),(30001,.box 28 [jI i,.p (.int .u64 d),.sl 1 (rowsOf (encI .u8) e),.sl 4 (rowsOf encT28 f)])]⟩:St)=some r.st:=by
 unfold f19c_l2_j2 at l
 cases l
 simp (disch:=first|apply D;decide|apply K;kernel_rfl) only [E,EE,↓reduceIte,simprocAttr,rg B19 [2,2,1,2,2,1,2,2] 5 false rfl,hr 19 5 rfl,R19c_l2.st]
noncomputable def f19c_l2_j1 (k:Nat) (g:Int) (m:Bool) (j c:Int) (d:List Int) (a:List T28) (l e:Int) (f:List Int) (b:List T28):Option R19c_l2 :=
 ifE ((0:Int)≤g) (
  Option.bind (a[(Int.toNat g)]?) fun h =>
   Option.bind (b[(Int.toNat g)]?) fun i =>
    Option.bind (f19d k h.Kind h.Num h.Bytes h.Items i.Kind i.Num i.Bytes i.Items) fun o6 =>
     match o6 with
     | .o0 o =>
      cond ((!o))
       (some (.o0 false))
       (f19c_l2_j2 k g false j c d a l e f b))
theorem f19c_l2_j1_ok (k q m i a b c j d e f r) (g:f19c_l2_j1 k q m i a b c j d e f=some r):EX 19 k (nav B19 [2,1,2,2,1,2,2]) (⟨54,[(2,.ptr 30000 0),(3,.ptr 30001 0),(5,jI q),(39,.p (.bool m))],[(30000,.box 28 [jI i,.p (.int .u64 a),.sl 1 (rowsOf (encI .u8) b),.sl 4 (rowsOf encT28 c)]),(30001,.box 28 [jI j,.p (.int .u64 d),.sl 1 (rowsOf (encI .u8) e),.sl 4 (rowsOf encT28 f)])]⟩:St)=some r.st:=by
 unfold f19c_l2_j1 at g
 obtain ⟨s,g⟩:=ifE_some.1 g
 obtain ⟨o,t,g⟩:=bs g
 obtain ⟨p,u,g⟩:=bs g
 obtain ⟨o6,v,g⟩:=bs g
 have h:=f19d_ok k o.Kind o.Num o.Bytes o.Items p.Kind p.Num p.Bytes p.Items _ v
 cases o6 with
 | o0 w =>
  (try dsimp only at g)
  (try simp only [NM,EE,R19d.st] at h)
  simp (disch:=first|apply D;decide|apply K;kernel_rfl) only [E,EE,↓reduceIte,simprocAttr,xk B19 [2,1,2,2,1,2,2] .sq rfl,xk B19 [1,2,1,2,2,1,2,2] (.bk 1) rfl,xk B19 [2,1,2,1,2,2,1,2,2] .sq rfl,rg B19 [1,2,1,2,1,2,2,1,2,2] 6 true rfl,hr 19 6 rfl,fieldAddrV,t_28,t_26,indexAddrV,encT28_eq,callStep,CL,gv,List.contains,xk B19 [2,2,1,2,1,2,2,1,2,2] (.cd 53) rfl,s,t,u,h]
  rcases cond_some g with ⟨l,g⟩ | ⟨l,g⟩
  ·cases g
   simp (disch:=first|apply D;decide|apply K;kernel_rfl) only [E,EE,↓reduceIte,simprocAttr,xk B19 [2,2,2,1,2,1,2,2,1,2,2] .sq rfl,rg B19 [1,2,2,2,1,2,1,2,2,1,2,2] 7 false rfl,hr 19 7 rfl,xk B19 [2,2,2,2,1,2,1,2,2,1,2,2] .rt rfl,R19c_l2.st,s,t,u,h,l]
  ·have hJ:=f19c_l2_j2_ok k q false i a b c j d e f _ g
   simp (disch:=first|apply D;decide|apply K;kernel_rfl) only [E,EE,↓reduceIte,simprocAttr,xk B19 [3,2,2,1,2,1,2,2,1,2,2] .sk rfl,s,t,u,h,l]
   try simp only [NM,EE] at hJ
   exact hJ
noncomputable def f19c_l2_b (k:Nat) (i g b:Int) (c:List Int) (a:List T28) (h d:Int) (e:List Int) (f:List T28):Option R19c_l2 :=
 cond ((decide (i<((List.length a):Int))))
  (f19c_l2_j1 k i true g b c a h d e f)
  (some (.o2 i false g b c a h d e f))
theorem f19c_l2_b_ok (k j g a b c h d e f r) (i:f19c_l2_b k j g a b c h d e f=some r):EX 19 k (nav B19 [1,2,2,1,2,2]) (⟨54,[(2,.ptr 30000 0),(3,.ptr 30001 0),(5,jI j)],[(30000,.box 28 [jI g,.p (.int .u64 a),.sl 1 (rowsOf (encI .u8) b),.sl 4 (rowsOf encT28 c)]),(30001,.box 28 [jI h,.p (.int .u64 d),.sl 1 (rowsOf (encI .u8) e),.sl 4 (rowsOf encT28 f)])]⟩:St)=some r.st:=by
 unfold f19c_l2_b at i
 simp (disch:=first|apply D;decide|apply K;kernel_rfl) only [E,EE,↓reduceIte,simprocAttr,xk B19 [1,2,2,1,2,2] .sq rfl,xk B19 [1,1,2,2,1,2,2] .sq rfl,rg B19 [1,1,1,2,2,1,2,2] 4 false rfl,hr 19 4 rfl,fieldAddrV,t_28,t_26,xk B19 [2,1,1,2,2,1,2,2] (.cd 39) rfl]
 rcases cond_some i with ⟨l,i⟩ | ⟨l,i⟩
 ·have hJ:=f19c_l2_j1_ok k j true g a b c h d e f _ i
  simp (disch:=first|apply D;decide|apply K;kernel_rfl) only [E,EE,↓reduceIte,simprocAttr,xk B19 [2,2,1,1,2,2,1,2,2] .sk rfl,l]
  try simp only [NM,EE] at hJ
  exact hJ
 ·cases i
  simp (disch:=first|apply D;decide|apply K;kernel_rfl) only [E,EE,↓reduceIte,simprocAttr,xk B19 [3,2,1,1,2,2,1,2,2] (.ex 0) rfl,R19c_l2.st,l]
noncomputable def f19c_l2 (k:Nat):Nat→Int→Int→Int→(List Int)→(List T28)→Int→Int→(List Int)→(List T28)→Option R19c_l2
 | 0,_,_,_,_,_,_,_,_,_=>none
 | n+1,v,s,a,b,c,t,d,e,f=>Option.bind (f19c_l2_b k v s a b c t d e f) fun o =>
  match o with
  | .o0 y=>some (.o0 y)
  | .o1 y g h i j l m p q=>f19c_l2 k n y g h i j l m p q
  | .o2 y g h i j l m p q u=>some (.o2 y g h i j l m p q u)
theorem f19c_l2_ok (k n:Nat):∀ (l g a:Int) (b:List Int) (c:List T28) (i d:Int) (e:List Int) (f:List T28) (r:R19c_l2) (j:f19c_l2 k n l g a b c i d e f=some r) (σ:St) (hσ:headR (hints.head 19 4) (hints.canon 19 4) σ=some (⟨54,[(2,.ptr 30000 0),(3,.ptr 30001 0),(5,jI l)],[(30000,.box 28 [jI g,.p (.int .u64 a),.sl 1 (rowsOf (encI .u8) b),.sl 4 (rowsOf encT28 c)]),(30001,.box 28 [jI i,.p (.int .u64 d),.sl 1 (rowsOf (encI .u8) e),.sl 4 (rowsOf encT28 f)])]⟩:St)),LP 19 k (nav B19 [1,2,2,1,2,2]) n σ=some r.st:=by
 induction n with
 | zero=>intro l g a b c i d e f r j;cases j
 | succ n x =>
  intro l g a b c i d e f r j σ hσ
  rw [f19c_l2] at j
  obtain ⟨o,h,j⟩:=Option.bind_eq_some_iff.1 j
  have hB:=f19c_l2_b_ok k l g a b c i d e f o h
  unfold LP at x ⊢
  unfold EX at hB
  rw [loopK_succ,show firstReg (nav B19 [1,2,2,1,2,2])=4 from rfl,hσ,headK_some,hB]
  cases o with
  | o0 y=>cases j;rfl
  | o1 y m p q s t u v w =>
   refine x y m p q s t u v w r j _ ?_
   simp (disch:=first|apply D;decide|apply K;kernel_rfl) only [E,EE,↓reduceIte,simprocAttr,hh_19_4,hc_19_4]
  | o2 y m p q s t u v w z=>cases j;rfl
noncomputable def f19c_j3 (k:Nat) (j:Int) (g:Bool) (h a:Int) (b:List Int) (c:List T28) (i d:Int) (e:List Int) (f:List T28):Option R19c :=
 some (.o0 true)
theorem f19c_j3_ok (k j g h a b c i d e f r) (l:f19c_j3 k j g h a b c i d e f=some r):finK Tryd.prog Tryd.f19 0 (EX 19 k (nav B19 [2,2,2]) (⟨54,[(2,.ptr 30000 0),(3,.ptr 30001 0),(5,jI j),(39,.p (.bool g))],[(30000,.box 28 [jI h,.p (.int .u64 a),.sl 1 (rowsOf (encI .u8) b),.sl 4 (rowsOf encT28 c)]),(30001,.box 28 [jI i,.p (.int .u64 d),.sl 1 (rowsOf (encI .u8) e),.sl 4 (rowsOf encT28 f)])]⟩:St))=some r.st:=by
 unfold f19c_j3 at l
 cases l
 simp (disch:=first|apply D;decide|apply K;kernel_rfl) only [E,EE,↓reduceIte,simprocAttr,xk B19 [2,2,2] .sq rfl,rg B19 [1,2,2,2] 8 false rfl,hr 19 8 rfl,xk B19 [2,2,2,2] .rt rfl,fin19,R19c.st]
noncomputable def f19c_j1 (k:Nat) (m:Bool) (o a:Int) (b:List Int) (c:List T28) (p d:Int) (e:List Int) (f:List T28):Option R19c :=
 Option.bind (f19c_l2 k k 0 o a b c p d e f) fun o1 =>
  match o1 with
  | .o0 q =>
   some (.o0 q)
  | .o1 _ _ _ _ _ _ _ _ _ =>
   none
  | .o2 s t u v w g h i j l =>
   f19c_j3 k s t u v w g h i j l
theorem f19c_j1_ok (k i j a b c l d e f r) (g:f19c_j1 k i j a b c l d e f=some r):finK Tryd.prog Tryd.f19 0 (EX 19 k (nav B19 [2,2]) (⟨54,[(2,.ptr 2 0),(3,.ptr 3 0),(34,.p (.bool i))],[(2,.box 28 [jI j,.p (.int .u64 a),.sl 1 (rowsOf (encI .u8) b),.sl 4 (rowsOf encT28 c)]),(3,.box 28 [jI l,.p (.int .u64 d),.sl 1 (rowsOf (encI .u8) e),.sl 4 (rowsOf encT28 f)])]⟩:St))=some r.st:=by
 unfold f19c_j1 at g
 obtain ⟨o1,t,g⟩:=bs g
 have h:=f19c_l2_ok k k 0 j a b c l d e f _ t
 simp (disch:=first|apply D;decide|apply K;kernel_rfl) only [E,EE,↓reduceIte,simprocAttr,xk B19 [2,2] .sq rfl,xk B19 [1,2,2] .sq rfl,rg B19 [1,1,2,2] 3 false rfl,hr 19 3 rfl,xk B19 [2,1,2,2] (.bk 0) rfl,xk B19 [2,2,1,2,2] .lp rfl,hh_19_4,hc_19_4]
 (try simp only [NM,EE] at h)
 rw [h _ (by simp (disch:=first|apply D;decide|apply K;kernel_rfl) only [E,EE,↓reduceIte,simprocAttr,hh_19_4,hc_19_4])]
 clear h
 cases o1 with
 | o0 z =>
  (try dsimp only at g)
  cases g
  simp (disch:=first|apply D;decide|apply K;kernel_rfl) only [E,EE,↓reduceIte,simprocAttr,R19c_l2.st,fin19,R19c.st]
 | o1 _ _ _ _ _ _ _ _ _ =>
  (try dsimp only at g)
  cases g
 | o2 u v w x y m o p q s =>
  (try dsimp only at g)
  have hJ:=f19c_j3_ok k u v w x y m o p q s _ g
  simp (disch:=first|apply D;decide|apply K;kernel_rfl) only [E,EE,↓reduceIte,simprocAttr,R19c_l2.st]
  try simp only [NM,EE] at hJ
  exact hJ
noncomputable def f19c_e (k:Nat) (f a:Int) (b:List Int) (c:List T28) (g d:Int) (e:List Int):Option R19c :=
 cond ((f != g))
  (some (.o0 false))
  (
   cond ((a != d))
    (some (.o0 false))
    (
     Option.bind (f14 k b e) fun o3 =>
      match o3 with
      | .o0 h =>
       cond ((!h))
        (some (.o0 false))
        (
         cond ((((List.length c):Int) != 0))
          (some (.o0 false))
          (f19c_j1 k false f a b c g d e []))))
theorem f19c_e_ok (k l e b f m g c r) (a:f19c_e k l e b f m g c=some r):finK Tryd.prog Tryd.f19 0 (EX 19 k (nav B19 []) (⟨54,[(0,.agg [jI l,.p (.int .u64 e),.sl 1 (rowsOf (encI .u8) b),.sl 4 (rowsOf encT28 f)]),(1,.agg [jI m,.p (.int .u64 g),.sl 1 (rowsOf (encI .u8) c),V.nil])],[]⟩:St))=some r.st:=by
 unfold f19c_e at a
 simp (disch:=first|apply D;decide|apply K;kernel_rfl) only [E,EE,↓reduceIte,simprocAttr,xk B19 [] .sq rfl,rg B19 [1] 0 false rfl,hr_19_0,xk B19 [2] .sq rfl,xk B19 [1,2] .sq rfl,rg B19 [1,1,2] 1 false rfl,hr 19 1 rfl,fieldAddrV,t_28,t_3]
 rcases cond_some a with ⟨h,a⟩ | ⟨h,a⟩
 ·cases a
  simp (disch:=first|apply D;decide|apply K;kernel_rfl) only [E,EE,↓reduceIte,simprocAttr,xk B19 [2,1,2] (.cd 34) rfl,xk B19 [2,2,1,2] .sq rfl,rg B19 [1,2,2,1,2] 2 false rfl,hr 19 2 rfl,xk B19 [2,2,2,1,2] .rt rfl,fin19,R19c.st,h]
 ·simp (disch:=first|apply D;decide|apply K;kernel_rfl) only [E,EE,↓reduceIte,simprocAttr,fieldAddrV,t_28,t_24,h]
  rcases cond_some a with ⟨i,a⟩ | ⟨i,a⟩
  ·cases a
   simp (disch:=first|apply D;decide|apply K;kernel_rfl) only [E,EE,↓reduceIte,simprocAttr,xk B19 [2,1,2] (.cd 34) rfl,xk B19 [2,2,1,2] .sq rfl,rg B19 [1,2,2,1,2] 2 false rfl,hr 19 2 rfl,xk B19 [2,2,2,1,2] .rt rfl,fin19,R19c.st,h,i]
  ·obtain ⟨o3,p,a⟩:=bs a
   have d:=f14_ok k b c _ p
   cases o3 with
   | o0 q =>
    (try dsimp only at a)
    (try simp only [NM,EE,R14.st] at d)
    simp (disch:=first|apply D;decide|apply K;kernel_rfl) only [E,EE,↓reduceIte,simprocAttr,fieldAddrV,t_28,t_25,callStep,CL,gv,List.contains,h,i,d]
    rcases cond_some a with ⟨j,a⟩ | ⟨j,a⟩
    ·cases a
     simp (disch:=first|apply D;decide|apply K;kernel_rfl) only [E,EE,↓reduceIte,simprocAttr,xk B19 [2,1,2] (.cd 34) rfl,xk B19 [2,2,1,2] .sq rfl,rg B19 [1,2,2,1,2] 2 false rfl,hr 19 2 rfl,xk B19 [2,2,2,1,2] .rt rfl,fin19,R19c.st,h,i,d,j]
    ·simp (disch:=first|apply D;decide|apply K;kernel_rfl) only [E,EE,↓reduceIte,simprocAttr,fieldAddrV,t_28,t_26,xk B19 [2,1,2] (.cd 34) rfl,h,i,d,j]
     rcases cond_some a with ⟨o,a⟩ | ⟨o,a⟩
     ·cases a
      simp (disch:=first|apply D;decide|apply K;kernel_rfl) only [E,EE,↓reduceIte,simprocAttr,xk B19 [2,2,1,2] .sq rfl,rg B19 [1,2,2,1,2] 2 false rfl,hr 19 2 rfl,xk B19 [2,2,2,1,2] .rt rfl,fin19,R19c.st,h,i,d,j,o]
     ·have hJ:=f19c_j1_ok k false l e b f m g c [] _ a
      simp (disch:=first|apply D;decide|apply K;kernel_rfl) only [E,EE,↓reduceIte,simprocAttr,xk B19 [3,2,1,2] .sk rfl,h,i,d,j,o]
      try simp only [NM,EE] at hJ
      exact hJ
noncomputable def f19c (k:Nat) (f a:Int) (b:List Int) (c:List T28) (g d:Int) (e:List Int):Option R19c:=match k with | 0=>none | k+1=>f19c_e k f a b c g d e
theorem f19c_ok (k g a b d h e f r) (i:f19c k g a b d h e f=some r):CV k 19 [.agg [jI g,.p (.int .u64 a),.sl 1 (rowsOf (encI .u8) b),.sl 4 (rowsOf encT28 d)],.agg [jI h,.p (.int .u64 e),.sl 1 (rowsOf (encI .u8) f),V.nil]] []=some r.st:=by
 cases k with
 | zero=>cases i
 | succ k =>
  unfold CV
  rw [ev_call (F:=Tryd.f19) (c:=(nav B19 [])) rfl Tryd.func19 rfl rfl rfl rfl]
  exact f19c_e_ok k g a b d h e f r i
end Go.Proofs.YtlelaenalbkbmaaDoorV