/- What the program's functions answer: plain functions,and that the interpreter answers what they do. Written by a program of this session,out of the translation. -/
import Derived.Test.YtlelaenalbkbmaaDoorVP2
namespace Go.Proofs.YtlelaenalbkbmaaDoorV
open Go
set_option linter.unusedVariables false
set_option linter.unusedSimpArgs false
set_option maxRecDepth 8000
set_option maxHeartbeats 4000000
-- f19b: f19 heliograph/heliographref07.Same
inductive R19b where
 | o0 (y:Bool)
noncomputable def R19b.st:R19b→V×List O×List O
 | .o0 y=>(.p (.bool y),[],[])
inductive R19b_l2 where
 | o0 (y:Bool)
 | o1 (y a b:Int) (c:List Int) (d:List T28) (e f:Int) (g:List Int) (h:List T28)
 | o2 (y:Int) (a:Bool) (b c:Int) (d:List Int) (e:List T28) (f g:Int) (h:List Int) (i:List T28)
noncomputable def R19b_l2.st:R19b_l2→Out×St
 | .o0 y=>(.ret,(⟨54,[(4,.p (.bool y))],[]⟩:St))
 | .o1 y a b c d e f g h=>(.norm,(⟨54,[(2,.ptr 30000 0),(3,.ptr 30001 0),(5,jI y)],[(30000,.box 28 [jI a,.p (.int .u64 b),.sl 1 (rowsOf (encI .u8) c),.sl 4 (rowsOf encT28 d)]),(30001,.box 28 [jI e,.p (.int .u64 f),.sl 1 (rowsOf (encI .u8) g),.sl 4 (rowsOf encT28 h)])]⟩:St))
 | .o2 y a b c d e f g h i=>(.exit 0,(⟨54,[(2,.ptr 30000 0),(3,.ptr 30001 0),(5,jI y),(39,.p (.bool a))],[(30000,.box 28 [jI b,.p (.int .u64 c),.sl 1 (rowsOf (encI .u8) d),.sl 4 (rowsOf encT28 e)]),(30001,.box 28 [jI f,.p (.int .u64 g),.sl 1 (rowsOf (encI .u8) h),.sl 4 (rowsOf encT28 i)])]⟩:St))
noncomputable def f19b_l2_j2 (k:Nat) (i:Int) (j:Bool) (g a:Int) (b:List Int) (c:List T28) (h d:Int) (e:List Int) (f:List T28):Option R19b_l2 :=
 some (.o1 (IntKind.i64.wrap (i+(1:Int))) g a b c h d e f)
theorem f19b_l2_j2_ok (k j g h a b c i d e f r) (l:f19b_l2_j2 k j g h a b c i d e f=some r):EX 19 k (nav B19 [2,2,1,2,2,1,2,2]) (⟨54,[(2,.ptr 30000 0),(3,.ptr 30001 0),(5,jI j),(53,.p (.bool g))],[(30000,.box 28 [jI h,.p (.int .u64 a),.sl 1 (rowsOf (encI .u8) b),.sl 4 (rowsOf encT28 c)]),(30001,.box 28 [jI i,.p (.int .u64 d),.sl 1 (rowsOf (encI .u8) e),.sl 4 (rowsOf encT28 f)])]⟩:St)=some r.st:=by
 unfold f19b_l2_j2 at l
 cases l
 simp (disch:=first|apply D;decide|apply K;kernel_rfl) only [E,EE,↓reduceIte,simprocAttr,rg B19 [2,2,1,2,2,1,2,2] 5 false rfl,hr 19 5 rfl,R19b_l2.st]
noncomputable def f19b_l2_j1 (k:Nat) (g:Int) (m:Bool) (j c:Int) (d:List Int) (a:List T28) (l e:Int) (f:List Int) (b:List T28):Option R19b_l2 :=
 ifE ((0:Int)≤g) (
  Option.bind (a[(Int.toNat g)]?) fun h =>
   Option.bind (b[(Int.toNat g)]?) fun i =>
    Option.bind (f19d k h.Kind h.Num h.Bytes h.Items i.Kind i.Num i.Bytes i.Items) fun o6 =>
     match o6 with
     | .o0 o =>
      cond ((!o))
       (some (.o0 false))
       (f19b_l2_j2 k g false j c d a l e f b))
theorem f19b_l2_j1_ok (k q m i a b c j d e f r) (g:f19b_l2_j1 k q m i a b c j d e f=some r):EX 19 k (nav B19 [2,1,2,2,1,2,2]) (⟨54,[(2,.ptr 30000 0),(3,.ptr 30001 0),(5,jI q),(39,.p (.bool m))],[(30000,.box 28 [jI i,.p (.int .u64 a),.sl 1 (rowsOf (encI .u8) b),.sl 4 (rowsOf encT28 c)]),(30001,.box 28 [jI j,.p (.int .u64 d),.sl 1 (rowsOf (encI .u8) e),.sl 4 (rowsOf encT28 f)])]⟩:St)=some r.st:=by
 unfold f19b_l2_j1 at g
 obtain ⟨s,g⟩:=ifE_some.1 g
 obtain ⟨o,t,g⟩:=bs g
 obtain ⟨p,u,g⟩:=bs g
 obtain ⟨o6,v,g⟩:=bs g
 have h:=f19d_ok k o.Kind o.Num o.Bytes o.Items p.Kind p.Num p.Bytes p.Items _ v
 cases o6 with
 | o0 w =>
  (try dsimp only at g)
  (try simp only [NM,EE,R19d.st] at h)
  simp (disch:=first|apply D;decide|apply K;kernel_rfl) only [E,EE,↓reduceIte,simprocAttr,xk B19 [2,1,2,2,1,2,2] .sq rfl,xk B19 [1,2,1,2,2,1,2,2] (.bk 1) rfl,xk B19 [2,1,2,1,2,2,1,2,2] .sq rfl,rg B19 [1,2,1,2,1,2,2,1,2,2] 6 true rfl,hr 19 6 rfl,fieldAddrV,t_28,t_26,indexAddrV,encT28_eq,callStep,CL,gv,List.contains,xk B19 [2,2,1,2,1,2,2,1,2,2] (.cd 53) rfl,s,t,u,h]
  rcases cond_some g with ⟨l,g⟩ | ⟨l,g⟩
  ·cases g
   simp (disch:=first|apply D;decide|apply K;kernel_rfl) only [E,EE,↓reduceIte,simprocAttr,xk B19 [2,2,2,1,2,1,2,2,1,2,2] .sq rfl,rg B19 [1,2,2,2,1,2,1,2,2,1,2,2] 7 false rfl,hr 19 7 rfl,xk B19 [2,2,2,2,1,2,1,2,2,1,2,2] .rt rfl,R19b_l2.st,s,t,u,h,l]
  ·have hJ:=f19b_l2_j2_ok k q false i a b c j d e f _ g
   simp (disch:=first|apply D;decide|apply K;kernel_rfl) only [E,EE,↓reduceIte,simprocAttr,xk B19 [3,2,2,1,2,1,2,2,1,2,2] .sk rfl,s,t,u,h,l]
   try simp only [NM,EE] at hJ
   exact hJ
noncomputable def f19b_l2_b (k:Nat) (i g b:Int) (c:List Int) (a:List T28) (h d:Int) (e:List Int) (f:List T28):Option R19b_l2 :=
 cond ((decide (i<((List.length a):Int))))
  (f19b_l2_j1 k i true g b c a h d e f)
  (some (.o2 i false g b c a h d e f))
theorem f19b_l2_b_ok (k j g a b c h d e f r) (i:f19b_l2_b k j g a b c h d e f=some r):EX 19 k (nav B19 [1,2,2,1,2,2]) (⟨54,[(2,.ptr 30000 0),(3,.ptr 30001 0),(5,jI j)],[(30000,.box 28 [jI g,.p (.int .u64 a),.sl 1 (rowsOf (encI .u8) b),.sl 4 (rowsOf encT28 c)]),(30001,.box 28 [jI h,.p (.int .u64 d),.sl 1 (rowsOf (encI .u8) e),.sl 4 (rowsOf encT28 f)])]⟩:St)=some r.st:=by
 unfold f19b_l2_b at i
 simp (disch:=first|apply D;decide|apply K;kernel_rfl) only [E,EE,↓reduceIte,simprocAttr,xk B19 [1,2,2,1,2,2] .sq rfl,xk B19 [1,1,2,2,1,2,2] .sq rfl,rg B19 [1,1,1,2,2,1,2,2] 4 false rfl,hr 19 4 rfl,fieldAddrV,t_28,t_26,xk B19 [2,1,1,2,2,1,2,2] (.cd 39) rfl]
 rcases cond_some i with ⟨l,i⟩ | ⟨l,i⟩
 ·have hJ:=f19b_l2_j1_ok k j true g a b c h d e f _ i
  simp (disch:=first|apply D;decide|apply K;kernel_rfl) only [E,EE,↓reduceIte,simprocAttr,xk B19 [2,2,1,1,2,2,1,2,2] .sk rfl,l]
  try simp only [NM,EE] at hJ
  exact hJ
 ·cases i
  simp (disch:=first|apply D;decide|apply K;kernel_rfl) only [E,EE,↓reduceIte,simprocAttr,xk B19 [3,2,1,1,2,2,1,2,2] (.ex 0) rfl,R19b_l2.st,l]
noncomputable def f19b_l2 (k:Nat):Nat→Int→Int→Int→(List Int)→(List T28)→Int→Int→(List Int)→(List T28)→Option R19b_l2
 | 0,_,_,_,_,_,_,_,_,_=>none
 | n+1,v,s,a,b,c,t,d,e,f=>Option.bind (f19b_l2_b k v s a b c t d e f) fun o =>
  match o with
  | .o0 y=>some (.o0 y)
  | .o1 y g h i j l m p q=>f19b_l2 k n y g h i j l m p q
  | .o2 y g h i j l m p q u=>some (.o2 y g h i j l m p q u)
theorem f19b_l2_ok (k n:Nat):∀ (l g a:Int) (b:List Int) (c:List T28) (i d:Int) (e:List Int) (f:List T28) (r:R19b_l2) (j:f19b_l2 k n l g a b c i d e f=some r) (σ:St) (hσ:headR (hints.head 19 4) (hints.canon 19 4) σ=some (⟨54,[(2,.ptr 30000 0),(3,.ptr 30001 0),(5,jI l)],[(30000,.box 28 [jI g,.p (.int .u64 a),.sl 1 (rowsOf (encI .u8) b),.sl 4 (rowsOf encT28 c)]),(30001,.box 28 [jI i,.p (.int .u64 d),.sl 1 (rowsOf (encI .u8) e),.sl 4 (rowsOf encT28 f)])]⟩:St)),LP 19 k (nav B19 [1,2,2,1,2,2]) n σ=some r.st:=by
 induction n with
 | zero=>intro l g a b c i d e f r j;cases j
 | succ n x =>
  intro l g a b c i d e f r j σ hσ
  rw [f19b_l2] at j
  obtain ⟨o,h,j⟩:=Option.bind_eq_some_iff.1 j
  have hB:=f19b_l2_b_ok k l g a b c i d e f o h
  unfold LP at x ⊢
  unfold EX at hB
  rw [loopK_succ,show firstReg (nav B19 [1,2,2,1,2,2])=4 from rfl,hσ,headK_some,hB]
  cases o with
  | o0 y=>cases j;rfl
  | o1 y m p q s t u v w =>
   refine x y m p q s t u v w r j _ ?_
   simp (disch:=first|apply D;decide|apply K;kernel_rfl) only [E,EE,↓reduceIte,simprocAttr,hh_19_4,hc_19_4]
  | o2 y m p q s t u v w z=>cases j;rfl
noncomputable def f19b_j3 (k:Nat) (j:Int) (g:Bool) (h a:Int) (b:List Int) (c:List T28) (i d:Int) (e:List Int) (f:List T28):Option R19b :=
 some (.o0 true)
theorem f19b_j3_ok (k j g h a b c i d e f r) (l:f19b_j3 k j g h a b c i d e f=some r):finK Tryd.prog Tryd.f19 0 (EX 19 k (nav B19 [2,2,2]) (⟨54,[(2,.ptr 30000 0),(3,.ptr 30001 0),(5,jI j),(39,.p (.bool g))],[(30000,.box 28 [jI h,.p (.int .u64 a),.sl 1 (rowsOf (encI .u8) b),.sl 4 (rowsOf encT28 c)]),(30001,.box 28 [jI i,.p (.int .u64 d),.sl 1 (rowsOf (encI .u8) e),.sl 4 (rowsOf encT28 f)])]⟩:St))=some r.st:=by
 unfold f19b_j3 at l
 cases l
 simp (disch:=first|apply D;decide|apply K;kernel_rfl) only [E,EE,↓reduceIte,simprocAttr,xk B19 [2,2,2] .sq rfl,rg B19 [1,2,2,2] 8 false rfl,hr 19 8 rfl,xk B19 [2,2,2,2] .rt rfl,fin19,R19b.st]
noncomputable def f19b_j1 (k:Nat) (m:Bool) (o a:Int) (b:List Int) (c:List T28) (p d:Int) (e:List Int) (f:List T28):Option R19b :=
 Option.bind (f19b_l2 k k 0 o a b c p d e f) fun o1 =>
  match o1 with
  | .o0 q =>
   some (.o0 q)
  | .o1 _ _ _ _ _ _ _ _ _ =>
   none
  | .o2 s t u v w g h i j l =>
   f19b_j3 k s t u v w g h i j l
theorem f19b_j1_ok (k i j a b c l d e f r) (g:f19b_j1 k i j a b c l d e f=some r):finK Tryd.prog Tryd.f19 0 (EX 19 k (nav B19 [2,2]) (⟨54,[(2,.ptr 2 0),(3,.ptr 3 0),(34,.p (.bool i))],[(2,.box 28 [jI j,.p (.int .u64 a),.sl 1 (rowsOf (encI .u8) b),.sl 4 (rowsOf encT28 c)]),(3,.box 28 [jI l,.p (.int .u64 d),.sl 1 (rowsOf (encI .u8) e),.sl 4 (rowsOf encT28 f)])]⟩:St))=some r.st:=by
 unfold f19b_j1 at g
 obtain ⟨o1,t,g⟩:=bs g
 have h:=f19b_l2_ok k k 0 j a b c l d e f _ t
 simp (disch:=first|apply D;decide|apply K;kernel_rfl) only [E,EE,↓reduceIte,simprocAttr,xk B19 [2,2] .sq rfl,xk B19 [1,2,2] .sq rfl,rg B19 [1,1,2,2] 3 false rfl,hr 19 3 rfl,xk B19 [2,1,2,2] (.bk 0) rfl,xk B19 [2,2,1,2,2] .lp rfl,hh_19_4,hc_19_4]
 (try simp only [NM,EE] at h)
 rw [h _ (by simp (disch:=first|apply D;decide|apply K;kernel_rfl) only [E,EE,↓reduceIte,simprocAttr,hh_19_4,hc_19_4])]
 clear h
 cases o1 with
 | o0 z =>
  (try dsimp only at g)
  cases g
  simp (disch:=first|apply D;decide|apply K;kernel_rfl) only [E,EE,↓reduceIte,simprocAttr,R19b_l2.st,fin19,R19b.st]
 | o1 _ _ _ _ _ _ _ _ _ =>
  (try dsimp only at g)
  cases g
 | o2 u v w x y m o p q s =>
  (try dsimp only at g)
  have hJ:=f19b_j3_ok k u v w x y m o p q s _ g
  simp (disch:=first|apply D;decide|apply K;kernel_rfl) only [E,EE,↓reduceIte,simprocAttr,R19b_l2.st]
  try simp only [NM,EE] at hJ
  exact hJ
noncomputable def f19b_e (k:Nat) (f a:Int) (b:List Int) (c:List T28) (g d:Int) (e:List T28):Option R19b :=
 cond ((f != g))
  (some (.o0 false))
  (
   cond ((a != d))
    (some (.o0 false))
    (
     Option.bind (f14 k b []) fun o3 =>
      match o3 with
      | .o0 h =>
       cond ((!h))
        (some (.o0 false))
        (
         cond ((((List.length c):Int) != ((List.length e):Int)))
          (some (.o0 false))
          (f19b_j1 k false f a b c g d [] e))))
theorem f19b_e_ok (k l d b e m f g r) (a:f19b_e k l d b e m f g=some r):finK Tryd.prog Tryd.f19 0 (EX 19 k (nav B19 []) (⟨54,[(0,.agg [jI l,.p (.int .u64 d),.sl 1 (rowsOf (encI .u8) b),.sl 4 (rowsOf encT28 e)]),(1,.agg [jI m,.p (.int .u64 f),V.nil,.sl 4 (rowsOf encT28 g)])],[]⟩:St))=some r.st:=by
 unfold f19b_e at a
 simp (disch:=first|apply D;decide|apply K;kernel_rfl) only [E,EE,↓reduceIte,simprocAttr,xk B19 [] .sq rfl,rg B19 [1] 0 false rfl,hr_19_0,xk B19 [2] .sq rfl,xk B19 [1,2] .sq rfl,rg B19 [1,1,2] 1 false rfl,hr 19 1 rfl,fieldAddrV,t_28,t_3]
 rcases cond_some a with ⟨h,a⟩ | ⟨h,a⟩
 ·cases a
  simp (disch:=first|apply D;decide|apply K;kernel_rfl) only [E,EE,↓reduceIte,simprocAttr,xk B19 [2,1,2] (.cd 34) rfl,xk B19 [2,2,1,2] .sq rfl,rg B19 [1,2,2,1,2] 2 false rfl,hr 19 2 rfl,xk B19 [2,2,2,1,2] .rt rfl,fin19,R19b.st,h]
 ·simp (disch:=first|apply D;decide|apply K;kernel_rfl) only [E,EE,↓reduceIte,simprocAttr,fieldAddrV,t_28,t_24,h]
  rcases cond_some a with ⟨i,a⟩ | ⟨i,a⟩
  ·cases a
   simp (disch:=first|apply D;decide|apply K;kernel_rfl) only [E,EE,↓reduceIte,simprocAttr,xk B19 [2,1,2] (.cd 34) rfl,xk B19 [2,2,1,2] .sq rfl,rg B19 [1,2,2,1,2] 2 false rfl,hr 19 2 rfl,xk B19 [2,2,2,1,2] .rt rfl,fin19,R19b.st,h,i]
  ·obtain ⟨o3,p,a⟩:=bs a
   have c:=f14_ok k b [] _ p
   cases o3 with
   | o0 q =>
    (try dsimp only at a)
    (try simp only [NM,EE,R14.st] at c)
    simp (disch:=first|apply D;decide|apply K;kernel_rfl) only [E,EE,↓reduceIte,simprocAttr,fieldAddrV,t_28,t_25,callStep,CL,gv,List.contains,h,i,c]
    rcases cond_some a with ⟨j,a⟩ | ⟨j,a⟩
    ·cases a
     simp (disch:=first|apply D;decide|apply K;kernel_rfl) only [E,EE,↓reduceIte,simprocAttr,xk B19 [2,1,2] (.cd 34) rfl,xk B19 [2,2,1,2] .sq rfl,rg B19 [1,2,2,1,2] 2 false rfl,hr 19 2 rfl,xk B19 [2,2,2,1,2] .rt rfl,fin19,R19b.st,h,i,c,j]
    ·simp (disch:=first|apply D;decide|apply K;kernel_rfl) only [E,EE,↓reduceIte,simprocAttr,fieldAddrV,t_28,t_26,xk B19 [2,1,2] (.cd 34) rfl,h,i,c,j]
     rcases cond_some a with ⟨o,a⟩ | ⟨o,a⟩
     ·cases a
      simp (disch:=first|apply D;decide|apply K;kernel_rfl) only [E,EE,↓reduceIte,simprocAttr,xk B19 [2,2,1,2] .sq rfl,rg B19 [1,2,2,1,2] 2 false rfl,hr 19 2 rfl,xk B19 [2,2,2,1,2] .rt rfl,fin19,R19b.st,h,i,c,j,o]
     ·have hJ:=f19b_j1_ok k false l d b e m f [] g _ a
      simp (disch:=first|apply D;decide|apply K;kernel_rfl) only [E,EE,↓reduceIte,simprocAttr,xk B19 [3,2,1,2] .sk rfl,h,i,c,j,o]
      try simp only [NM,EE] at hJ
      exact hJ
noncomputable def f19b (k:Nat) (f a:Int) (b:List Int) (c:List T28) (g d:Int) (e:List T28):Option R19b:=match k with | 0=>none | k+1=>f19b_e k f a b c g d e
theorem f19b_ok (k g a b d h e f r) (i:f19b k g a b d h e f=some r):CV k 19 [.agg [jI g,.p (.int .u64 a),.sl 1 (rowsOf (encI .u8) b),.sl 4 (rowsOf encT28 d)],.agg [jI h,.p (.int .u64 e),V.nil,.sl 4 (rowsOf encT28 f)]] []=some r.st:=by
 cases k with
 | zero=>cases i
 | succ k =>
  unfold CV
  rw [ev_call (F:=Tryd.f19) (c:=(nav B19 [])) rfl Tryd.func19 rfl rfl rfl rfl]
  exact f19b_e_ok k g a b d h e f r i
-- f33: f33 slices.Equal[[]byte,byte]
inductive R33 where
 | o0 (y:Bool)
noncomputable def R33.st:R33→V×List O×List O
 | .o0 y=>(.p (.bool y),[],[])
inductive R33_l2 where
 | o0 (y:Bool)
 | o1 (y a:List Int) (b c:Int)
 | o2 (y a:List Int) (b c:Int) (d:Bool)
noncomputable def R33_l2.st:R33_l2→Out×St
 | .o0 y=>(.ret,(⟨26,[(4,.p (.bool y))],[]⟩:St))
 | .o1 y a b c=>(.norm,(⟨26,[(0,.sl 1 (rowsOf (encI .u8) y)),(1,.sl 1 (rowsOf (encI .u8) a)),(12,jI b),(13,jI c)],[]⟩:St))
 | .o2 y a b c d=>(.exit 0,(⟨26,[(0,.sl 1 (rowsOf (encI .u8) y)),(1,.sl 1 (rowsOf (encI .u8) a)),(12,jI b),(13,jI c),(14,.p (.bool d))],[]⟩:St))
noncomputable def f33_l2_j2 (k:Nat) (c d:List Int) (a b:Int) (e:Bool):Option R33_l2 :=
 some (.o1 c d a (IntKind.i64.wrap (b+(1:Int))))
theorem f33_l2_j2_ok (k d e a b c r) (f:f33_l2_j2 k d e a b c=some r):EX 33 k (nav B33 [2,2,2,1,2,2,1,2,2]) (⟨26,[(0,.sl 1 (rowsOf (encI .u8) d)),(1,.sl 1 (rowsOf (encI .u8) e)),(12,jI a),(13,jI b),(24,.p (.bool c))],[]⟩:St)=some r.st:=by
 unfold f33_l2_j2 at f
 cases f
 simp (disch:=first|apply D;decide|apply K;kernel_rfl) only [E,EE,↓reduceIte,simprocAttr,rg B33 [2,2,2,1,2,2,1,2,2] 8 false rfl,hr 33 8 rfl,R33_l2.st]
noncomputable def f33_l2_j1 (k:Nat) (c d:List Int) (b a:Int) (e:Bool):Option R33_l2 :=
 ifE ((0:Int)≤a) (
  Option.bind (c[(Int.toNat a)]?) fun f =>
   Option.bind (d[(Int.toNat a)]?) fun g =>
    cond ((f != g))
     (some (.o0 false))
     (f33_l2_j2 k c d b a false))
theorem f33_l2_j1_ok (k e f b c d r) (a:f33_l2_j1 k e f b c d=some r):EX 33 k (nav B33 [2,2,1,2,2,1,2,2]) (⟨26,[(0,.sl 1 (rowsOf (encI .u8) e)),(1,.sl 1 (rowsOf (encI .u8) f)),(12,jI b),(13,jI c),(14,.p (.bool d))],[]⟩:St)=some r.st:=by
 unfold f33_l2_j1 at a
 obtain ⟨g,a⟩:=ifE_some.1 a
 obtain ⟨l,h,a⟩:=bs a
 obtain ⟨m,i,a⟩:=bs a
 simp (disch:=first|apply D;decide|apply K;kernel_rfl) only [E,EE,↓reduceIte,simprocAttr,xk B33 [2,2,1,2,2,1,2,2] .sq rfl,xk B33 [1,2,2,1,2,2,1,2,2] (.bk 1) rfl,xk B33 [2,1,2,2,1,2,2,1,2,2] .sq rfl,rg B33 [1,2,1,2,2,1,2,2,1,2,2] 5 false rfl,hr 33 5 rfl,xk B33 [2,2,1,2,2,1,2,2,1,2,2] .sq rfl,rg B33 [1,2,2,1,2,2,1,2,2,1,2,2] 6 true rfl,hr 33 6 rfl,indexAddrV,t_25,t_5,encI_eq,xk B33 [2,2,2,1,2,2,1,2,2,1,2,2] (.cd 24) rfl,g,h,i]
 rcases cond_some a with ⟨j,a⟩ | ⟨j,a⟩
 ·cases a
  simp (disch:=first|apply D;decide|apply K;kernel_rfl) only [E,EE,↓reduceIte,simprocAttr,xk B33 [2,2,2,2,1,2,2,1,2,2,1,2,2] .sq rfl,rg B33 [1,2,2,2,2,1,2,2,1,2,2,1,2,2] 7 false rfl,hr 33 7 rfl,xk B33 [2,2,2,2,2,1,2,2,1,2,2,1,2,2] .rt rfl,R33_l2.st,g,h,i,j]
 ·have hJ:=f33_l2_j2_ok k e f b c false _ a
  simp (disch:=first|apply D;decide|apply K;kernel_rfl) only [E,EE,↓reduceIte,simprocAttr,xk B33 [3,2,2,2,1,2,2,1,2,2,1,2,2] .sk rfl,g,h,i,j]
  try simp only [NM,EE] at hJ
  exact hJ
noncomputable def f33_l2_b (k:Nat) (c d:List Int) (a b:Int):Option R33_l2 :=
 cond ((decide (b<a)))
  (f33_l2_j1 k c d a b true)
  (some (.o2 c d a b false))
theorem f33_l2_b_ok (k d e a b r) (c:f33_l2_b k d e a b=some r):EX 33 k (nav B33 [1,2,2,1,2,2]) (⟨26,[(0,.sl 1 (rowsOf (encI .u8) d)),(1,.sl 1 (rowsOf (encI .u8) e)),(12,jI a),(13,jI b)],[]⟩:St)=some r.st:=by
 unfold f33_l2_b at c
 simp (disch:=first|apply D;decide|apply K;kernel_rfl) only [E,EE,↓reduceIte,simprocAttr,xk B33 [1,2,2,1,2,2] .sq rfl,rg B33 [1,1,2,2,1,2,2] 4 false rfl,hr 33 4 rfl,xk B33 [2,1,2,2,1,2,2] .sq rfl,xk B33 [1,2,1,2,2,1,2,2] (.cd 14) rfl]
 rcases cond_some c with ⟨f,c⟩ | ⟨f,c⟩
 ·have hJ:=f33_l2_j1_ok k d e a b true _ c
  simp (disch:=first|apply D;decide|apply K;kernel_rfl) only [E,EE,↓reduceIte,simprocAttr,xk B33 [2,1,2,1,2,2,1,2,2] .sk rfl,f]
  try simp only [NM,EE] at hJ
  exact hJ
 ·cases c
  simp (disch:=first|apply D;decide|apply K;kernel_rfl) only [E,EE,↓reduceIte,simprocAttr,xk B33 [3,1,2,1,2,2,1,2,2] (.ex 0) rfl,R33_l2.st,f]
noncomputable def f33_l2 (k:Nat):Nat→(List Int)→(List Int)→Int→Int→Option R33_l2
 | 0,_,_,_,_=>none
 | n+1,g,h,d,e=>Option.bind (f33_l2_b k g h d e) fun o =>
  match o with
  | .o0 y=>some (.o0 y)
  | .o1 y a b c=>f33_l2 k n y a b c
  | .o2 y a b c f=>some (.o2 y a b c f)
theorem f33_l2_ok (k n:Nat):∀ (d e:List Int) (a b:Int) (r:R33_l2) (c:f33_l2 k n d e a b=some r) (σ:St) (hσ:headR (hints.head 33 4) (hints.canon 33 4) σ=some (⟨26,[(0,.sl 1 (rowsOf (encI .u8) d)),(1,.sl 1 (rowsOf (encI .u8) e)),(12,jI a),(13,jI b)],[]⟩:St)),LP 33 k (nav B33 [1,2,2,1,2,2]) n σ=some r.st:=by
 induction n with
 | zero=>intro d e a b r c;cases c
 | succ n j =>
  intro d e a b r c σ hσ
  rw [f33_l2] at c
  obtain ⟨o,h,c⟩:=Option.bind_eq_some_iff.1 c
  have hB:=f33_l2_b_ok k d e a b o h
  unfold LP at j ⊢
  unfold EX at hB
  rw [loopK_succ,show firstReg (nav B33 [1,2,2,1,2,2])=4 from rfl,hσ,headK_some,hB]
  cases o with
  | o0 y=>cases c;rfl
  | o1 y f g i =>
   refine j y f g i r c _ ?_
   simp (disch:=first|apply D;decide|apply K;kernel_rfl) only [E,EE,↓reduceIte,simprocAttr,hh_33_4,hc_33_4]
  | o2 y f g i l=>cases c;rfl
noncomputable def f33_j3 (k:Nat) (d e:List Int) (a b:Int) (c:Bool):Option R33 :=
 some (.o0 true)
theorem f33_j3_ok (k d e a b c r) (f:f33_j3 k d e a b c=some r):finK Tryd.prog Tryd.f33 0 (EX 33 k (nav B33 [2,2,2]) (⟨26,[(0,.sl 1 (rowsOf (encI .u8) d)),(1,.sl 1 (rowsOf (encI .u8) e)),(12,jI a),(13,jI b),(14,.p (.bool c))],[]⟩:St))=some r.st:=by
 unfold f33_j3 at f
 cases f
 simp (disch:=first|apply D;decide|apply K;kernel_rfl) only [E,EE,↓reduceIte,simprocAttr,xk B33 [2,2,2] .sq rfl,rg B33 [1,2,2,2] 9 false rfl,hr 33 9 rfl,xk B33 [2,2,2,2] .rt rfl,fin33,R33.st]
noncomputable def f33_j1 (k:Nat) (a b:List Int) (c:Bool):Option R33 :=
 Option.bind (f33_l2 k k a b ((List.length a):Int) 0) fun o1 =>
  match o1 with
  | .o0 d =>
   some (.o0 d)
  | .o1 _ _ _ _ =>
   none
  | .o2 e f g h i =>
   f33_j3 k e f g h i
theorem f33_j1_ok (k d e c r) (a:f33_j1 k d e c=some r):finK Tryd.prog Tryd.f33 0 (EX 33 k (nav B33 [2,2]) (⟨26,[(0,.sl 1 (rowsOf (encI .u8) d)),(1,.sl 1 (rowsOf (encI .u8) e)),(10,.p (.bool c))],[]⟩:St))=some r.st:=by
 unfold f33_j1 at a
 obtain ⟨o1,f,a⟩:=bs a
 have b:=f33_l2_ok k k d e ((List.length d):Int) 0 _ f
 simp (disch:=first|apply D;decide|apply K;kernel_rfl) only [E,EE,↓reduceIte,simprocAttr,xk B33 [2,2] .sq rfl,xk B33 [1,2,2] .sq rfl,rg B33 [1,1,2,2] 3 false rfl,hr 33 3 rfl,t_25,xk B33 [2,1,2,2] (.bk 0) rfl,xk B33 [2,2,1,2,2] .lp rfl,hh_33_4,hc_33_4]
 (try simp only [NM,EE] at b)
 rw [b _ (by simp (disch:=first|apply D;decide|apply K;kernel_rfl) only [E,EE,↓reduceIte,simprocAttr,hh_33_4,hc_33_4])]
 clear b
 cases o1 with
 | o0 m =>
  (try dsimp only at a)
  cases a
  simp (disch:=first|apply D;decide|apply K;kernel_rfl) only [E,EE,↓reduceIte,simprocAttr,R33_l2.st,fin33,R33.st]
 | o1 _ _ _ _ =>
  (try dsimp only at a)
  cases a
 | o2 g h i j l =>
  (try dsimp only at a)
  have hJ:=f33_j3_ok k g h i j l _ a
  simp (disch:=first|apply D;decide|apply K;kernel_rfl) only [E,EE,↓reduceIte,simprocAttr,R33_l2.st]
  try simp only [NM,EE] at hJ
  exact hJ
noncomputable def f33_e (k:Nat) (a b:List Int):Option R33 :=
 cond ((((List.length a):Int) != ((List.length b):Int)))
  (some (.o0 false))
  (f33_j1 k a b false)
theorem f33_e_ok (k b c r) (a:f33_e k b c=some r):finK Tryd.prog Tryd.f33 0 (EX 33 k (nav B33 []) (⟨26,[(0,.sl 1 (rowsOf (encI .u8) b)),(1,.sl 1 (rowsOf (encI .u8) c))],[]⟩:St))=some r.st:=by
 unfold f33_e at a
 simp (disch:=first|apply D;decide|apply K;kernel_rfl) only [E,EE,↓reduceIte,simprocAttr,xk B33 [] .sq rfl,rg B33 [1] 0 false rfl,hr 33 0 rfl,xk B33 [2] .sq rfl,xk B33 [1,2] .sq rfl,rg B33 [1,1,2] 1 false rfl,hr 33 1 rfl,t_25,xk B33 [2,1,2] (.cd 10) rfl]
 rcases cond_some a with ⟨d,a⟩ | ⟨d,a⟩
 ·cases a
  simp (disch:=first|apply D;decide|apply K;kernel_rfl) only [E,EE,↓reduceIte,simprocAttr,xk B33 [2,2,1,2] .sq rfl,rg B33 [1,2,2,1,2] 2 false rfl,hr 33 2 rfl,xk B33 [2,2,2,1,2] .rt rfl,fin33,R33.st,d]
 ·have hJ:=f33_j1_ok k b c false _ a
  simp (disch:=first|apply D;decide|apply K;kernel_rfl) only [E,EE,↓reduceIte,simprocAttr,xk B33 [3,2,1,2] .sk rfl,d]
  try simp only [NM,EE] at hJ
  exact hJ
noncomputable def f33 (k:Nat) (a b:List Int):Option R33:=match k with | 0=>none | k+1=>f33_e k a b
theorem f33_ok (k a b r) (d:f33 k a b=some r):CV k 33 [.sl 1 (rowsOf (encI .u8) a),.sl 1 (rowsOf (encI .u8) b)] []=some r.st:=by
 cases k with
 | zero=>cases d
 | succ k =>
  unfold CV
  rw [ev_call (F:=Tryd.f33) (c:=(nav B33 [])) rfl Tryd.func33 rfl rfl rfl rfl]
  exact f33_e_ok k a b r d
-- f21: f21 heliograph/octet.Equal
inductive R21 where
 | o0 (y:Bool)
noncomputable def R21.st:R21→V×List O×List O
 | .o0 y=>(.p (.bool y),[],[])
noncomputable def f21_e (k:Nat) (a b:List Int):Option R21 :=
 Option.bind (f33 k a b) fun o1 =>
  match o1 with
  | .o0 c =>
   some (.o0 c)
theorem f21_e_ok (k c d r) (a:f21_e k c d=some r):finK Tryd.prog Tryd.f21 0 (EX 21 k (nav B21 []) (⟨8,[(0,.sl 1 (rowsOf (encI .u8) c)),(1,.sl 1 (rowsOf (encI .u8) d))],[]⟩:St))=some r.st:=by
 unfold f21_e at a
 obtain ⟨o1,e,a⟩:=bs a
 have b:=f33_ok k c d _ e
 cases o1 with
 | o0 f =>
  (try dsimp only at a)
  (try simp only [NM,EE,R33.st] at b)
  cases a
  simp (disch:=first|apply D;decide|apply K;kernel_rfl) only [E,EE,↓reduceIte,simprocAttr,xk B21 [] .sq rfl,rg B21 [1] 0 false rfl,hr 21 0 rfl,xk B21 [2] .sq rfl,rg B21 [1,2] 1 false rfl,hr 21 1 rfl,callStep,CL,gv,List.contains,xk B21 [2,2] .rt rfl,fin21,R21.st,b]
noncomputable def f21 (k:Nat) (a b:List Int):Option R21:=match k with | 0=>none | k+1=>f21_e k a b
theorem f21_ok (k a b r) (d:f21 k a b=some r):CV k 21 [.sl 1 (rowsOf (encI .u8) a),.sl 1 (rowsOf (encI .u8) b)] []=some r.st:=by
 cases k with
 | zero=>cases d
 | succ k =>
  unfold CV
  rw [ev_call (F:=Tryd.f21) (c:=(nav B21 [])) rfl Tryd.func21 rfl rfl rfl rfl]
  exact f21_e_ok k a b r d
-- f11: f11 heliograph/cbor.Same
inductive R11 where
 | o0 (y:Bool)
noncomputable def R11.st:R11→V×List O×List O
 | .o0 y=>(.p (.bool y),[],[])
inductive R23_rrf11 where
 | o0 (y:Bool)
noncomputable def R23_rrf11.st:R23_rrf11→V×List O×List O
 | .o0 y=>(.p (.bool y),[],[])
inductive R23_rrf11_l2 where
 | o0 (y:Bool)
 | o1 (y a:List T28) (b c:Int)
 | o2 (y a:List T28) (b c:Int) (d:Bool)
noncomputable def R23_rrf11_l2.st:R23_rrf11_l2→Out×St
 | .o0 y=>(.ret,(⟨32,[(6,.p (.bool y))],[]⟩:St))
 | .o1 y a b c=>(.norm,(⟨32,[(1,.sl 4 (rowsOf encT28 y)),(2,V.p (Value.func (Fn.func 11) #[] #[])),(15,.sl 4 (rowsOf encT28 a)),(16,jI b),(17,jI c)],[]⟩:St))
 | .o2 y a b c d=>(.exit 0,(⟨32,[(1,.sl 4 (rowsOf encT28 y)),(2,V.p (Value.func (Fn.func 11) #[] #[])),(15,.sl 4 (rowsOf encT28 a)),(16,jI b),(17,jI c),(18,.p (.bool d))],[]⟩:St))
noncomputable def f23_rrf11_l2_j2 (k:Nat) (q_f11_aiirrzaiirrz:Int→Int→(List Int)→(List T28)→Int→Int→(List Int)→(List T28)→Option R11) (q_f23_rrf11:(List T28)→(List T28)→Option R23_rrf11) (d a:List T28) (b c:Int) (e:Bool):Option R23_rrf11_l2 :=
 some (R23_rrf11_l2.o1 d a b (IntKind.i64.wrap (c+(1:Int))))
theorem f23_rrf11_l2_j2_ok (k:Nat) (q_f11_aiirrzaiirrz:Int→Int→(List Int)→(List T28)→Int→Int→(List Int)→(List T28)→Option R11) (q_f23_rrf11:(List T28)→(List T28)→Option R23_rrf11) (hq_f11_aiirrzaiirrz:∀ (g a:Int) (b:List Int) (c:List T28) (h d:Int) (e:List Int) (f:List T28) (r:R11),q_f11_aiirrzaiirrz g a b c h d e f=some r→CV k 11 [.agg [jI g,.p (.int .u64 a),.sl 1 (rowsOf (encI .u8) b),.sl 4 (rowsOf encT28 c)],.agg [jI h,.p (.int .u64 d),.sl 1 (rowsOf (encI .u8) e),.sl 4 (rowsOf encT28 f)]] []=some r.st) (hq_f23_rrf11:∀ (g h:List T28) (r:R23_rrf11),q_f23_rrf11 g h=some r→CV k 23 [.sl 4 (rowsOf encT28 g),.sl 4 (rowsOf encT28 h),V.p (Value.func (Fn.func 11) #[] #[])] []=some r.st) (o i:List T28) (j l:Int) (m:Bool) (r:R23_rrf11_l2) (p:f23_rrf11_l2_j2 k q_f11_aiirrzaiirrz q_f23_rrf11 o i j l m=some r):EX 23 k (nav B23 [2,2,2,1,2,2,1,2,2]) (⟨32,[(1,.sl 4 (rowsOf encT28 o)),(2,V.p (Value.func (Fn.func 11) #[] #[])),(15,.sl 4 (rowsOf encT28 i)),(16,jI j),(17,jI l),(30,.p (.bool m))],[]⟩:St)=some r.st:=by
 unfold f23_rrf11_l2_j2 at p
 cases p
 simp (disch:=first|apply D;decide|apply K;kernel_rfl) only [E,EE,↓reduceIte,simprocAttr,rg B23 [2,2,2,1,2,2,1,2,2] 9 false rfl,hr 23 9 rfl,R23_rrf11_l2.st]
noncomputable def f23_rrf11_l2_j1 (k:Nat) (q_f11_aiirrzaiirrz:Int→Int→(List Int)→(List T28)→Int→Int→(List Int)→(List T28)→Option R11) (q_f23_rrf11:(List T28)→(List T28)→Option R23_rrf11) (f b:List T28) (e a:Int) (g:Bool):Option R23_rrf11_l2 :=
 ifE ((0:Int)≤a) (
  Option.bind (b[(Int.toNat a)]?) fun c =>
   Option.bind (f[(Int.toNat a)]?) fun d =>
    Option.bind (q_f11_aiirrzaiirrz c.Kind c.Num c.Bytes c.Items d.Kind d.Num d.Bytes d.Items) fun o6 =>
     match o6 with
     | .o0 h =>
      cond ((!h))
       (some (R23_rrf11_l2.o0 false))
       (f23_rrf11_l2_j2 k q_f11_aiirrzaiirrz q_f23_rrf11 f b e a false))
theorem f23_rrf11_l2_j1_ok (k:Nat) (q_f11_aiirrzaiirrz:Int→Int→(List Int)→(List T28)→Int→Int→(List Int)→(List T28)→Option R11) (q_f23_rrf11:(List T28)→(List T28)→Option R23_rrf11) (hq_f11_aiirrzaiirrz:∀ (o c:Int) (d:List Int) (e:List T28) (p f:Int) (g:List Int) (h:List T28) (r:R11),q_f11_aiirrzaiirrz o c d e p f g h=some r→CV k 11 [.agg [jI o,.p (.int .u64 c),.sl 1 (rowsOf (encI .u8) d),.sl 4 (rowsOf encT28 e)],.agg [jI p,.p (.int .u64 f),.sl 1 (rowsOf (encI .u8) g),.sl 4 (rowsOf encT28 h)]] []=some r.st) (hq_f23_rrf11:∀ (o p:List T28) (r:R23_rrf11),q_f23_rrf11 o p=some r→CV k 23 [.sl 4 (rowsOf encT28 o),.sl 4 (rowsOf encT28 p),V.p (Value.func (Fn.func 11) #[] #[])] []=some r.st) (u i:List T28) (j l:Int) (q:Bool) (r:R23_rrf11_l2) (a:f23_rrf11_l2_j1 k q_f11_aiirrzaiirrz q_f23_rrf11 u i j l q=some r):EX 23 k (nav B23 [2,2,1,2,2,1,2,2]) (⟨32,[(1,.sl 4 (rowsOf encT28 u)),(2,V.p (Value.func (Fn.func 11) #[] #[])),(15,.sl 4 (rowsOf encT28 i)),(16,jI j),(17,jI l),(18,.p (.bool q))],[]⟩:St)=some r.st:=by
 unfold f23_rrf11_l2_j1 at a
 obtain ⟨v,a⟩:=ifE_some.1 a
 obtain ⟨s,w,a⟩:=bs a
 obtain ⟨t,x,a⟩:=bs a
 obtain ⟨o6,y,a⟩:=bs a
 have b:=hq_f11_aiirrzaiirrz s.Kind s.Num s.Bytes s.Items t.Kind t.Num t.Bytes t.Items _ y
 cases o6 with
 | o0 z =>
  (try dsimp only at a)
  (try simp only [NM,EE,R11.st] at b)
  simp (disch:=first|apply D;decide|apply K;kernel_rfl) only [E,EE,↓reduceIte,simprocAttr,xk B23 [2,2,1,2,2,1,2,2] .sq rfl,xk B23 [1,2,2,1,2,2,1,2,2] (.bk 1) rfl,xk B23 [2,1,2,2,1,2,2,1,2,2] .sq rfl,rg B23 [1,2,1,2,2,1,2,2,1,2,2] 5 false rfl,hr 23 5 rfl,indexAddrV,t_26,t_28,encT28_eq,xk B23 [2,2,1,2,2,1,2,2,1,2,2] .sq rfl,rg B23 [1,2,2,1,2,2,1,2,2,1,2,2] 6 false rfl,hr 23 6 rfl,xk B23 [2,2,2,1,2,2,1,2,2,1,2,2] .sq rfl,rg B23 [1,2,2,2,1,2,2,1,2,2,1,2,2] 7 false rfl,hr 23 7 rfl,callStep,CL,gv,List.contains,xk B23 [2,2,2,2,1,2,2,1,2,2,1,2,2] (.cd 30) rfl,v,w,x,b]
  rcases cond_some a with ⟨m,a⟩ | ⟨m,a⟩
  ·cases a
   simp (disch:=first|apply D;decide|apply K;kernel_rfl) only [E,EE,↓reduceIte,simprocAttr,xk B23 [2,2,2,2,2,1,2,2,1,2,2,1,2,2] .sq rfl,rg B23 [1,2,2,2,2,2,1,2,2,1,2,2,1,2,2] 8 false rfl,hr 23 8 rfl,xk B23 [2,2,2,2,2,2,1,2,2,1,2,2,1,2,2] .rt rfl,R23_rrf11_l2.st,v,w,x,b,m]
  ·have hJ:=f23_rrf11_l2_j2_ok k q_f11_aiirrzaiirrz q_f23_rrf11 hq_f11_aiirrzaiirrz hq_f23_rrf11 u i j l false _ a
   simp (disch:=first|apply D;decide|apply K;kernel_rfl) only [E,EE,↓reduceIte,simprocAttr,xk B23 [3,2,2,2,2,1,2,2,1,2,2,1,2,2] .sk rfl,v,w,x,b,m]
   try simp only [NM,EE] at hJ
   exact hJ
noncomputable def f23_rrf11_l2_b (k:Nat) (q_f11_aiirrzaiirrz:Int→Int→(List Int)→(List T28)→Int→Int→(List Int)→(List T28)→Option R11) (q_f23_rrf11:(List T28)→(List T28)→Option R23_rrf11) (d c:List T28) (a b:Int):Option R23_rrf11_l2 :=
 cond ((decide (b<a)))
  (f23_rrf11_l2_j1 k q_f11_aiirrzaiirrz q_f23_rrf11 d c a b true)
  (some (R23_rrf11_l2.o2 d c a b false))
theorem f23_rrf11_l2_b_ok (k:Nat) (q_f11_aiirrzaiirrz:Int→Int→(List Int)→(List T28)→Int→Int→(List Int)→(List T28)→Option R11) (q_f23_rrf11:(List T28)→(List T28)→Option R23_rrf11) (hq_f11_aiirrzaiirrz:∀ (l a:Int) (b:List Int) (c:List T28) (m d:Int) (e:List Int) (f:List T28) (r:R11),q_f11_aiirrzaiirrz l a b c m d e f=some r→CV k 11 [.agg [jI l,.p (.int .u64 a),.sl 1 (rowsOf (encI .u8) b),.sl 4 (rowsOf encT28 c)],.agg [jI m,.p (.int .u64 d),.sl 1 (rowsOf (encI .u8) e),.sl 4 (rowsOf encT28 f)]] []=some r.st) (hq_f23_rrf11:∀ (l m:List T28) (r:R23_rrf11),q_f23_rrf11 l m=some r→CV k 23 [.sl 4 (rowsOf encT28 l),.sl 4 (rowsOf encT28 m),V.p (Value.func (Fn.func 11) #[] #[])] []=some r.st) (o g:List T28) (h i:Int) (r:R23_rrf11_l2) (j:f23_rrf11_l2_b k q_f11_aiirrzaiirrz q_f23_rrf11 o g h i=some r):EX 23 k (nav B23 [1,2,2,1,2,2]) (⟨32,[(1,.sl 4 (rowsOf encT28 o)),(2,V.p (Value.func (Fn.func 11) #[] #[])),(15,.sl 4 (rowsOf encT28 g)),(16,jI h),(17,jI i)],[]⟩:St)=some r.st:=by
 unfold f23_rrf11_l2_b at j
 simp (disch:=first|apply D;decide|apply K;kernel_rfl) only [E,EE,↓reduceIte,simprocAttr,xk B23 [1,2,2,1,2,2] .sq rfl,rg B23 [1,1,2,2,1,2,2] 4 false rfl,hr 23 4 rfl,xk B23 [2,1,2,2,1,2,2] .sq rfl,xk B23 [1,2,1,2,2,1,2,2] (.cd 18) rfl]
 rcases cond_some j with ⟨p,j⟩ | ⟨p,j⟩
 ·have hJ:=f23_rrf11_l2_j1_ok k q_f11_aiirrzaiirrz q_f23_rrf11 hq_f11_aiirrzaiirrz hq_f23_rrf11 o g h i true _ j
  simp (disch:=first|apply D;decide|apply K;kernel_rfl) only [E,EE,↓reduceIte,simprocAttr,xk B23 [2,1,2,1,2,2,1,2,2] .sk rfl,p]
  try simp only [NM,EE] at hJ
  exact hJ
 ·cases j
  simp (disch:=first|apply D;decide|apply K;kernel_rfl) only [E,EE,↓reduceIte,simprocAttr,xk B23 [3,1,2,1,2,2,1,2,2] (.ex 0) rfl,R23_rrf11_l2.st,p]
noncomputable def f23_rrf11_l2 (k:Nat) (q_f11_aiirrzaiirrz:Int→Int→(List Int)→(List T28)→Int→Int→(List Int)→(List T28)→Option R11) (q_f23_rrf11:(List T28)→(List T28)→Option R23_rrf11):Nat→(List T28)→(List T28)→Int→Int→Option R23_rrf11_l2
 | 0,_,_,_,_=>none
 | n+1,h,d,e,f=>Option.bind (f23_rrf11_l2_b k q_f11_aiirrzaiirrz q_f23_rrf11 h d e f) fun o =>
  match o with
  | .o0 y=>some (.o0 y)
  | .o1 y a b c=>f23_rrf11_l2 k q_f11_aiirrzaiirrz q_f23_rrf11 n y a b c
  | .o2 y a b c g=>some (.o2 y a b c g)
theorem f23_rrf11_l2_ok (k:Nat) (q_f11_aiirrzaiirrz:Int→Int→(List Int)→(List T28)→Int→Int→(List Int)→(List T28)→Option R11) (q_f23_rrf11:(List T28)→(List T28)→Option R23_rrf11) (hq_f11_aiirrzaiirrz:∀ (m e:Int) (f:List Int) (g:List T28) (p i:Int) (j:List Int) (l:List T28) (r:R11),q_f11_aiirrzaiirrz m e f g p i j l=some r→CV k 11 [.agg [jI m,.p (.int .u64 e),.sl 1 (rowsOf (encI .u8) f),.sl 4 (rowsOf encT28 g)],.agg [jI p,.p (.int .u64 i),.sl 1 (rowsOf (encI .u8) j),.sl 4 (rowsOf encT28 l)]] []=some r.st) (hq_f23_rrf11:∀ (m p:List T28) (r:R23_rrf11),q_f23_rrf11 m p=some r→CV k 23 [.sl 4 (rowsOf encT28 m),.sl 4 (rowsOf encT28 p),V.p (Value.func (Fn.func 11) #[] #[])] []=some r.st) (n:Nat):∀ (q a:List T28) (b c:Int) (r:R23_rrf11_l2) (d:f23_rrf11_l2 k q_f11_aiirrzaiirrz q_f23_rrf11 n q a b c=some r) (σ:St) (hσ:headR (hints.head 23 4) (hints.canon 23 4) σ=some (⟨32,[(1,.sl 4 (rowsOf encT28 q)),(2,V.p (Value.func (Fn.func 11) #[] #[])),(15,.sl 4 (rowsOf encT28 a)),(16,jI b),(17,jI c)],[]⟩:St)),LP 23 k (nav B23 [1,2,2,1,2,2]) n σ=some r.st:=by
 induction n with
 | zero=>intro q a b c r d;cases d
 | succ n v =>
  intro q a b c r d σ hσ
  rw [f23_rrf11_l2] at d
  obtain ⟨o,h,d⟩:=Option.bind_eq_some_iff.1 d
  have hB:=f23_rrf11_l2_b_ok k q_f11_aiirrzaiirrz q_f23_rrf11 hq_f11_aiirrzaiirrz hq_f23_rrf11 q a b c o h
  unfold LP at v ⊢
  unfold EX at hB
  rw [loopK_succ,show firstReg (nav B23 [1,2,2,1,2,2])=4 from rfl,hσ,headK_some,hB]
  cases o with
  | o0 y=>cases d;rfl
  | o1 y s t u =>
   refine v y s t u r d _ ?_
   simp (disch:=first|apply D;decide|apply K;kernel_rfl) only [E,EE,↓reduceIte,simprocAttr,hh_23_4,hc_23_4]
  | o2 y s t u w=>cases d;rfl
noncomputable def f23_rrf11_j3 (k:Nat) (q_f11_aiirrzaiirrz:Int→Int→(List Int)→(List T28)→Int→Int→(List Int)→(List T28)→Option R11) (q_f23_rrf11:(List T28)→(List T28)→Option R23_rrf11) (e a:List T28) (b c:Int) (d:Bool):Option R23_rrf11 :=
 some (R23_rrf11.o0 true)
theorem f23_rrf11_j3_ok (k:Nat) (q_f11_aiirrzaiirrz:Int→Int→(List Int)→(List T28)→Int→Int→(List Int)→(List T28)→Option R11) (q_f23_rrf11:(List T28)→(List T28)→Option R23_rrf11) (hq_f11_aiirrzaiirrz:∀ (g a:Int) (b:List Int) (c:List T28) (h d:Int) (e:List Int) (f:List T28) (r:R11),q_f11_aiirrzaiirrz g a b c h d e f=some r→CV k 11 [.agg [jI g,.p (.int .u64 a),.sl 1 (rowsOf (encI .u8) b),.sl 4 (rowsOf encT28 c)],.agg [jI h,.p (.int .u64 d),.sl 1 (rowsOf (encI .u8) e),.sl 4 (rowsOf encT28 f)]] []=some r.st) (hq_f23_rrf11:∀ (g h:List T28) (r:R23_rrf11),q_f23_rrf11 g h=some r→CV k 23 [.sl 4 (rowsOf encT28 g),.sl 4 (rowsOf encT28 h),V.p (Value.func (Fn.func 11) #[] #[])] []=some r.st) (o i:List T28) (j l:Int) (m:Bool) (r:R23_rrf11) (p:f23_rrf11_j3 k q_f11_aiirrzaiirrz q_f23_rrf11 o i j l m=some r):finK Tryd.prog Tryd.f23 0 (EX 23 k (nav B23 [2,2,2]) (⟨32,[(1,.sl 4 (rowsOf encT28 o)),(2,V.p (Value.func (Fn.func 11) #[] #[])),(15,.sl 4 (rowsOf encT28 i)),(16,jI j),(17,jI l),(18,.p (.bool m))],[]⟩:St))=some r.st:=by
 unfold f23_rrf11_j3 at p
 cases p
 simp (disch:=first|apply D;decide|apply K;kernel_rfl) only [E,EE,↓reduceIte,simprocAttr,xk B23 [2,2,2] .sq rfl,rg B23 [1,2,2,2] 10 false rfl,hr 23 10 rfl,xk B23 [2,2,2,2] .rt rfl,fin23,R23_rrf11.st]
noncomputable def f23_rrf11_j1 (k:Nat) (q_f11_aiirrzaiirrz:Int→Int→(List Int)→(List T28)→Int→Int→(List Int)→(List T28)→Option R11) (q_f23_rrf11:(List T28)→(List T28)→Option R23_rrf11) (a b:List T28) (c:Bool):Option R23_rrf11 :=
 Option.bind (f23_rrf11_l2 k q_f11_aiirrzaiirrz q_f23_rrf11 k b a ((List.length a):Int) 0) fun o1 =>
  match o1 with
  | .o0 d =>
   some (R23_rrf11.o0 d)
  | .o1 _ _ _ _ =>
   none
  | .o2 e f g h i =>
   f23_rrf11_j3 k q_f11_aiirrzaiirrz q_f23_rrf11 e f g h i
theorem f23_rrf11_j1_ok (k:Nat) (q_f11_aiirrzaiirrz:Int→Int→(List Int)→(List T28)→Int→Int→(List Int)→(List T28)→Option R11) (q_f23_rrf11:(List T28)→(List T28)→Option R23_rrf11) (hq_f11_aiirrzaiirrz:∀ (i b:Int) (c:List Int) (d:List T28) (j e:Int) (f:List Int) (g:List T28) (r:R11),q_f11_aiirrzaiirrz i b c d j e f g=some r→CV k 11 [.agg [jI i,.p (.int .u64 b),.sl 1 (rowsOf (encI .u8) c),.sl 4 (rowsOf encT28 d)],.agg [jI j,.p (.int .u64 e),.sl 1 (rowsOf (encI .u8) f),.sl 4 (rowsOf encT28 g)]] []=some r.st) (hq_f23_rrf11:∀ (i j:List T28) (r:R23_rrf11),q_f23_rrf11 i j=some r→CV k 23 [.sl 4 (rowsOf encT28 i),.sl 4 (rowsOf encT28 j),V.p (Value.func (Fn.func 11) #[] #[])] []=some r.st) (m o:List T28) (l:Bool) (r:R23_rrf11) (a:f23_rrf11_j1 k q_f11_aiirrzaiirrz q_f23_rrf11 m o l=some r):finK Tryd.prog Tryd.f23 0 (EX 23 k (nav B23 [2,2]) (⟨32,[(0,.sl 4 (rowsOf encT28 m)),(1,.sl 4 (rowsOf encT28 o)),(2,V.p (Value.func (Fn.func 11) #[] #[])),(14,.p (.bool l))],[]⟩:St))=some r.st:=by
 unfold f23_rrf11_j1 at a
 obtain ⟨o1,p,a⟩:=bs a
 have h:=f23_rrf11_l2_ok k q_f11_aiirrzaiirrz q_f23_rrf11 hq_f11_aiirrzaiirrz hq_f23_rrf11 k o m ((List.length m):Int) 0 _ p
 simp (disch:=first|apply D;decide|apply K;kernel_rfl) only [E,EE,↓reduceIte,simprocAttr,xk B23 [2,2] .sq rfl,xk B23 [1,2,2] .sq rfl,rg B23 [1,1,2,2] 3 false rfl,hr 23 3 rfl,t_26,xk B23 [2,1,2,2] (.bk 0) rfl,xk B23 [2,2,1,2,2] .lp rfl,hh_23_4,hc_23_4]
 (try simp only [NM,EE] at h)
 rw [h _ (by simp (disch:=first|apply D;decide|apply K;kernel_rfl) only [E,EE,↓reduceIte,simprocAttr,hh_23_4,hc_23_4])]
 clear h
 cases o1 with
 | o0 w =>
  (try dsimp only at a)
  cases a
  simp (disch:=first|apply D;decide|apply K;kernel_rfl) only [E,EE,↓reduceIte,simprocAttr,R23_rrf11_l2.st,fin23,R23_rrf11.st]
 | o1 _ _ _ _ =>
  (try dsimp only at a)
  cases a
 | o2 q s t u v =>
  (try dsimp only at a)
  have hJ:=f23_rrf11_j3_ok k q_f11_aiirrzaiirrz q_f23_rrf11 hq_f11_aiirrzaiirrz hq_f23_rrf11 q s t u v _ a
  simp (disch:=first|apply D;decide|apply K;kernel_rfl) only [E,EE,↓reduceIte,simprocAttr,R23_rrf11_l2.st]
  try simp only [NM,EE] at hJ
  exact hJ
noncomputable def f23_rrf11_e (k:Nat) (q_f11_aiirrzaiirrz:Int→Int→(List Int)→(List T28)→Int→Int→(List Int)→(List T28)→Option R11) (q_f23_rrf11:(List T28)→(List T28)→Option R23_rrf11) (a b:List T28):Option R23_rrf11 :=
 cond ((((List.length a):Int) != ((List.length b):Int)))
  (some (R23_rrf11.o0 false))
  (f23_rrf11_j1 k q_f11_aiirrzaiirrz q_f23_rrf11 a b false)
theorem f23_rrf11_e_ok (k:Nat) (q_f11_aiirrzaiirrz:Int→Int→(List Int)→(List T28)→Int→Int→(List Int)→(List T28)→Option R11) (q_f23_rrf11:(List T28)→(List T28)→Option R23_rrf11) (hq_f11_aiirrzaiirrz:∀ (a c:Int) (d:List Int) (e:List T28) (b f:Int) (g:List Int) (h:List T28) (r:R11),q_f11_aiirrzaiirrz a c d e b f g h=some r→CV k 11 [.agg [jI a,.p (.int .u64 c),.sl 1 (rowsOf (encI .u8) d),.sl 4 (rowsOf encT28 e)],.agg [jI b,.p (.int .u64 f),.sl 1 (rowsOf (encI .u8) g),.sl 4 (rowsOf encT28 h)]] []=some r.st) (hq_f23_rrf11:∀ (a b:List T28) (r:R23_rrf11),q_f23_rrf11 a b=some r→CV k 23 [.sl 4 (rowsOf encT28 a),.sl 4 (rowsOf encT28 b),V.p (Value.func (Fn.func 11) #[] #[])] []=some r.st) (a b:List T28) (r:R23_rrf11) (i:f23_rrf11_e k q_f11_aiirrzaiirrz q_f23_rrf11 a b=some r):finK Tryd.prog Tryd.f23 0 (EX 23 k (nav B23 []) (⟨32,[(0,.sl 4 (rowsOf encT28 a)),(1,.sl 4 (rowsOf encT28 b)),(2,V.p (Value.func (Fn.func 11) #[] #[]))],[]⟩:St))=some r.st:=by
 unfold f23_rrf11_e at i
 simp (disch:=first|apply D;decide|apply K;kernel_rfl) only [E,EE,↓reduceIte,simprocAttr,xk B23 [] .sq rfl,rg B23 [1] 0 false rfl,hr 23 0 rfl,xk B23 [2] .sq rfl,xk B23 [1,2] .sq rfl,rg B23 [1,1,2] 1 false rfl,hr 23 1 rfl,t_26,xk B23 [2,1,2] (.cd 14) rfl]
 rcases cond_some i with ⟨j,i⟩ | ⟨j,i⟩
 ·cases i
  simp (disch:=first|apply D;decide|apply K;kernel_rfl) only [E,EE,↓reduceIte,simprocAttr,xk B23 [2,2,1,2] .sq rfl,rg B23 [1,2,2,1,2] 2 false rfl,hr 23 2 rfl,xk B23 [2,2,2,1,2] .rt rfl,fin23,R23_rrf11.st,j]
 ·have hJ:=f23_rrf11_j1_ok k q_f11_aiirrzaiirrz q_f23_rrf11 hq_f11_aiirrzaiirrz hq_f23_rrf11 a b false _ i
  simp (disch:=first|apply D;decide|apply K;kernel_rfl) only [E,EE,↓reduceIte,simprocAttr,xk B23 [3,2,1,2] .sk rfl,j]
  try simp only [NM,EE] at hJ
  exact hJ
noncomputable def f11_e (k:Nat) (q_f11_aiirrzaiirrz:Int→Int→(List Int)→(List T28)→Int→Int→(List Int)→(List T28)→Option R11) (q_f23_rrf11:(List T28)→(List T28)→Option R23_rrf11) (h a:Int) (b:List Int) (c:List T28) (i d:Int) (e:List Int) (f:List T28):Option R11 :=
 cond ((h==i))
  (
   cond ((a==d))
    (
     Option.bind (f21 k b e) fun o3 =>
      match o3 with
      | .o0 j =>
       cond (j)
        (
         Option.bind (q_f23_rrf11 c f) fun o8 =>
          match o8 with
          | .o0 g =>
           some (.o0 g))
        (some (.o0 false)))
    (some (.o0 false)))
  (some (.o0 false))
theorem f11_e_ok (k:Nat) (q_f11_aiirrzaiirrz:Int→Int→(List Int)→(List T28)→Int→Int→(List Int)→(List T28)→Option R11) (q_f23_rrf11:(List T28)→(List T28)→Option R23_rrf11) (hq_f11_aiirrzaiirrz:∀ (i f:Int) (a:List Int) (b:List T28) (j g:Int) (c:List Int) (d:List T28) (r:R11),q_f11_aiirrzaiirrz i f a b j g c d=some r→CV k 11 [.agg [jI i,.p (.int .u64 f),.sl 1 (rowsOf (encI .u8) a),.sl 4 (rowsOf encT28 b)],.agg [jI j,.p (.int .u64 g),.sl 1 (rowsOf (encI .u8) c),.sl 4 (rowsOf encT28 d)]] []=some r.st) (hq_f23_rrf11:∀ (i j:List T28) (r:R23_rrf11),q_f23_rrf11 i j=some r→CV k 23 [.sl 4 (rowsOf encT28 i),.sl 4 (rowsOf encT28 j),V.p (Value.func (Fn.func 11) #[] #[])] []=some r.st) (i f:Int) (a:List Int) (b:List T28) (j g:Int) (c:List Int) (d:List T28) (r:R11) (e:f11_e k q_f11_aiirrzaiirrz q_f23_rrf11 i f a b j g c d=some r):finK Tryd.prog Tryd.f11 0 (EX 11 k (nav B11 []) (⟨31,[(0,.agg [jI i,.p (.int .u64 f),.sl 1 (rowsOf (encI .u8) a),.sl 4 (rowsOf encT28 b)]),(1,.agg [jI j,.p (.int .u64 g),.sl 1 (rowsOf (encI .u8) c),.sl 4 (rowsOf encT28 d)])],[]⟩:St))=some r.st:=by
 unfold f11_e at e
 simp (disch:=first|apply D;decide|apply K;kernel_rfl) only [E,EE,↓reduceIte,simprocAttr,xk B11 [] .sq rfl,rg B11 [1] 0 false rfl,hr 11 0 rfl,xk B11 [2] .sq rfl,rg B11 [1,2] 1 false rfl,hr 11 1 rfl,fieldAddrV,t_28,t_3]
 rcases cond_some e with ⟨m,e⟩ | ⟨m,e⟩
 ·simp (disch:=first|apply D;decide|apply K;kernel_rfl) only [E,EE,↓reduceIte,simprocAttr,fieldAddrV,t_28,t_24,m]
  rcases cond_some e with ⟨o,e⟩ | ⟨o,e⟩
  ·obtain ⟨o3,q,e⟩:=bs e
   have h:=f21_ok k a c _ q
   cases o3 with
   | o0 u =>
    (try dsimp only at e)
    (try simp only [NM,EE,R21.st] at h)
    simp (disch:=first|apply D;decide|apply K;kernel_rfl) only [E,EE,↓reduceIte,simprocAttr,fieldAddrV,t_28,t_25,callStep,CL,gv,List.contains,m,o,h]
    rcases cond_some e with ⟨p,e⟩ | ⟨p,e⟩
    ·obtain ⟨o8,s,e⟩:=bs e
     have l:=hq_f23_rrf11 b d _ s
     cases o8 with
     | o0 t =>
      (try dsimp only at e)
      (try simp only [NM,EE,R23_rrf11.st] at l)
      cases e
      simp (disch:=first|apply D;decide|apply K;kernel_rfl) only [E,EE,↓reduceIte,simprocAttr,fieldAddrV,t_28,t_26,callStep,CL,gv,List.contains,xk B11 [2,2] .rt rfl,fin11,R11.st,m,o,h,p,l]
    ·cases e
     simp (disch:=first|apply D;decide|apply K;kernel_rfl) only [E,EE,↓reduceIte,simprocAttr,xk B11 [2,2] .rt rfl,fin11,R11.st,m,o,h,p]
  ·cases e
   simp (disch:=first|apply D;decide|apply K;kernel_rfl) only [E,EE,↓reduceIte,simprocAttr,xk B11 [2,2] .rt rfl,fin11,R11.st,m,o]
 ·cases e
  simp (disch:=first|apply D;decide|apply K;kernel_rfl) only [E,EE,↓reduceIte,simprocAttr,xk B11 [2,2] .rt rfl,fin11,R11.st,m]
mutual
noncomputable def f11:Nat→Int→Int→(List Int)→(List T28)→Int→Int→(List Int)→(List T28)→Option R11
 | 0,_,_,_,_,_,_,_,_=>none
 | k+1,g,a,b,c,h,d,e,f=>f11_e k (f11 k) (f23_rrf11 k) g a b c h d e f
noncomputable def f23_rrf11:Nat→(List T28)→(List T28)→Option R23_rrf11
 | 0,_,_=>none
 | k+1,a,b=>f23_rrf11_e k (f11 k) (f23_rrf11 k) a b
end
theorem f11_all (k:Nat):(∀ (h a:Int) (b:List Int) (d:List T28) (i e:Int) (f:List Int) (g:List T28) (r:R11),f11 k h a b d i e f g=some r→CV k 11 [.agg [jI h,.p (.int .u64 a),.sl 1 (rowsOf (encI .u8) b),.sl 4 (rowsOf encT28 d)],.agg [jI i,.p (.int .u64 e),.sl 1 (rowsOf (encI .u8) f),.sl 4 (rowsOf encT28 g)]] []=some r.st)∧(∀ (h i:List T28) (r:R23_rrf11),f23_rrf11 k h i=some r→CV k 23 [.sl 4 (rowsOf encT28 h),.sl 4 (rowsOf encT28 i),V.p (Value.func (Fn.func 11) #[] #[])] []=some r.st):=by
 induction k with
 | zero=>exact ⟨(by intro h a b d i e f g r j;rw [f11] at j;cases j),(by intro h i r j;rw [f23_rrf11] at j;cases j)⟩
 | succ k l =>
  obtain ⟨ih_f11_aiirrzaiirrz,ih_f23_rrf11⟩:=l
  exact ⟨(by intro h a b d i e f g r j;rw [f11] at j;unfold CV;rw [ev_call (F:=Tryd.f11) (c:=(nav B11 [])) rfl Tryd.func11 rfl rfl rfl rfl];exact f11_e_ok k (f11 k) (f23_rrf11 k) ih_f11_aiirrzaiirrz ih_f23_rrf11 h a b d i e f g r j),(by intro h i r j;rw [f23_rrf11] at j;unfold CV;rw [ev_call (F:=Tryd.f23) (c:=(nav B23 [])) rfl Tryd.func23 rfl rfl rfl rfl];exact f23_rrf11_e_ok k (f11 k) (f23_rrf11 k) ih_f11_aiirrzaiirrz ih_f23_rrf11 h i r j)⟩
theorem f11_ok (k g a b c h d e f r) (i:f11 k g a b c h d e f=some r):CV k 11 [.agg [jI g,.p (.int .u64 a),.sl 1 (rowsOf (encI .u8) b),.sl 4 (rowsOf encT28 c)],.agg [jI h,.p (.int .u64 d),.sl 1 (rowsOf (encI .u8) e),.sl 4 (rowsOf encT28 f)]] []=some r.st:=(f11_all k).1 g a b c h d e f r i
theorem f23_rrf11_ok (k a b r) (c:f23_rrf11 k a b=some r):CV k 23 [.sl 4 (rowsOf encT28 a),.sl 4 (rowsOf encT28 b),V.p (Value.func (Fn.func 11) #[] #[])] []=some r.st:=(f11_all k).2 a b r c
end Go.Proofs.YtlelaenalbkbmaaDoorV