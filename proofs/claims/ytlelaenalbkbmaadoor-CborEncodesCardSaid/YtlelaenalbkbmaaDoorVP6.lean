/- What the program's functions answer: plain functions,and that the interpreter answers what they do. Written by a program of this session,out of the translation. -/
import Derived.Test.YtlelaenalbkbmaaDoorVP5
namespace Go.Proofs.YtlelaenalbkbmaaDoorV
open Go
set_option linter.unusedVariables false
set_option linter.unusedSimpArgs false
set_option maxRecDepth 8000
set_option maxHeartbeats 4000000
-- f24: f24 heliograph/heliographref07.right
inductive R24 where
 | o0 (y:Bool)
noncomputable def R24.st:R24→V×List O×List O
 | .o0 y=>(.p (.bool y),[],[])
inductive R24_l2 where
 | o0 (y:Bool)
 | o1 (y a b c:Int) (d:List Int) (e:List T28)
 | o2 (y a:Int) (b:Bool) (c d:Int) (e:List Int) (f:List T28)
noncomputable def R24_l2.st:R24_l2→Out×St
 | .o0 y=>(.ret,(⟨29,[(4,.p (.bool y))],[]⟩:St))
 | .o1 y a b c d e=>(.norm,(⟨29,[(1,jI y),(2,.ptr 30000 0),(5,jI a)],[(30000,.box 28 [jI b,.p (.int .u64 c),.sl 1 (rowsOf (encI .u8) d),.sl 4 (rowsOf encT28 e)])]⟩:St))
 | .o2 y a b c d e f=>(.exit 0,(⟨29,[(1,jI y),(2,.ptr 30000 0),(5,jI a),(17,.p (.bool b))],[(30000,.box 28 [jI c,.p (.int .u64 d),.sl 1 (rowsOf (encI .u8) e),.sl 4 (rowsOf encT28 f)])]⟩:St))
noncomputable def f24_l2_j2 (k:Nat) (q_f24_aiirrzi:Int→Int→(List Int)→(List T28)→Int→Option R24) (e f:Int) (g:Bool) (d a:Int) (b:List Int) (c:List T28):Option R24_l2 :=
 some (.o1 e (IntKind.i64.wrap (f+(1:Int))) d a b c)
theorem f24_l2_j2_ok (k:Nat) (q_f24_aiirrzi:Int→Int→(List Int)→(List T28)→Int→Option R24) (hq_f24_aiirrzi:∀ (i d:Int) (e:List Int) (f:List T28) (j:Int) (r:R24),q_f24_aiirrzi i d e f j=some r→CV k 24 [.agg [jI i,.p (.int .u64 d),.sl 1 (rowsOf (encI .u8) e),.sl 4 (rowsOf encT28 f)],jI j] []=some r.st) (l m:Int) (g:Bool) (h a:Int) (b:List Int) (c:List T28) (r:R24_l2) (o:f24_l2_j2 k q_f24_aiirrzi l m g h a b c=some r):EX 24 k (nav B24 [2,2,1,2,2,1,2,2]) (⟨29,[(1,jI l),(2,.ptr 30000 0),(5,jI m),(28,.p (.bool g))],[(30000,.box 28 [jI h,.p (.int .u64 a),.sl 1 (rowsOf (encI .u8) b),.sl 4 (rowsOf encT28 c)])]⟩:St)=some r.st:=by
 unfold f24_l2_j2 at o
 cases o
 simp (disch:=first|apply D;decide|apply K;kernel_rfl) only [E,EE,↓reduceIte,simprocAttr,rg B24 [2,2,1,2,2,1,2,2] 5 false rfl,hr 24 5 rfl,R24_l2.st]
noncomputable def f24_l2_j1 (k:Nat) (q_f24_aiirrzi:Int→Int→(List Int)→(List T28)→Int→Option R24) (g e:Int) (h:Bool) (f b:Int) (c:List Int) (a:List T28):Option R24_l2 :=
 ifE ((0:Int)≤e) (
  Option.bind (a[(Int.toNat e)]?) fun d =>
   Option.bind (q_f24_aiirrzi d.Kind d.Num d.Bytes d.Items (IntKind.i64.wrap (g - (1:Int)))) fun o4 =>
    match o4 with
    | .o0 i =>
     cond ((!i))
      (some (.o0 false))
      (f24_l2_j2 k q_f24_aiirrzi g e false f b c a))
theorem f24_l2_j1_ok (k:Nat) (q_f24_aiirrzi:Int→Int→(List Int)→(List T28)→Int→Option R24) (hq_f24_aiirrzi:∀ (t f:Int) (g:List Int) (h:List T28) (u:Int) (r:R24),q_f24_aiirrzi t f g h u=some r→CV k 24 [.agg [jI t,.p (.int .u64 f),.sl 1 (rowsOf (encI .u8) g),.sl 4 (rowsOf encT28 h)],jI u] []=some r.st) (l o:Int) (j:Bool) (i a:Int) (b:List Int) (c:List T28) (r:R24_l2) (d:f24_l2_j1 k q_f24_aiirrzi l o j i a b c=some r):EX 24 k (nav B24 [2,1,2,2,1,2,2]) (⟨29,[(1,jI l),(2,.ptr 30000 0),(5,jI o),(17,.p (.bool j))],[(30000,.box 28 [jI i,.p (.int .u64 a),.sl 1 (rowsOf (encI .u8) b),.sl 4 (rowsOf encT28 c)])]⟩:St)=some r.st:=by
 unfold f24_l2_j1 at d
 obtain ⟨p,d⟩:=ifE_some.1 d
 obtain ⟨m,q,d⟩:=bs d
 obtain ⟨o4,v,d⟩:=bs d
 have e:=hq_f24_aiirrzi m.Kind m.Num m.Bytes m.Items (IntKind.i64.wrap (l - (1:Int))) _ v
 cases o4 with
 | o0 w =>
  (try dsimp only at d)
  (try simp only [NM,EE,R24.st] at e)
  simp (disch:=first|apply D;decide|apply K;kernel_rfl) only [E,EE,↓reduceIte,simprocAttr,xk B24 [2,1,2,2,1,2,2] .sq rfl,xk B24 [1,2,1,2,2,1,2,2] (.bk 1) rfl,xk B24 [2,1,2,1,2,2,1,2,2] .sq rfl,rg B24 [1,2,1,2,1,2,2,1,2,2] 6 false rfl,hr 24 6 rfl,fieldAddrV,t_28,t_26,indexAddrV,encT28_eq,callStep,CL,gv,List.contains,xk B24 [2,2,1,2,1,2,2,1,2,2] (.cd 28) rfl,p,q,e]
  rcases cond_some d with ⟨s,d⟩ | ⟨s,d⟩
  ·cases d
   simp (disch:=first|apply D;decide|apply K;kernel_rfl) only [E,EE,↓reduceIte,simprocAttr,xk B24 [2,2,2,1,2,1,2,2,1,2,2] .sq rfl,rg B24 [1,2,2,2,1,2,1,2,2,1,2,2] 7 false rfl,hr 24 7 rfl,xk B24 [2,2,2,2,1,2,1,2,2,1,2,2] .rt rfl,R24_l2.st,p,q,e,s]
  ·have hJ:=f24_l2_j2_ok k q_f24_aiirrzi hq_f24_aiirrzi l o false i a b c _ d
   simp (disch:=first|apply D;decide|apply K;kernel_rfl) only [E,EE,↓reduceIte,simprocAttr,xk B24 [3,2,2,1,2,1,2,2,1,2,2] .sk rfl,p,q,e,s]
   try simp only [NM,EE] at hJ
   exact hJ
noncomputable def f24_l2_b (k:Nat) (q_f24_aiirrzi:Int→Int→(List Int)→(List T28)→Int→Option R24) (f e d b:Int) (c:List Int) (a:List T28):Option R24_l2 :=
 cond ((decide (e<((List.length a):Int))))
  (f24_l2_j1 k q_f24_aiirrzi f e true d b c a)
  (some (.o2 f e false d b c a))
theorem f24_l2_b_ok (k:Nat) (q_f24_aiirrzi:Int→Int→(List Int)→(List T28)→Int→Option R24) (hq_f24_aiirrzi:∀ (m d:Int) (e:List Int) (f:List T28) (o:Int) (r:R24),q_f24_aiirrzi m d e f o=some r→CV k 24 [.agg [jI m,.p (.int .u64 d),.sl 1 (rowsOf (encI .u8) e),.sl 4 (rowsOf encT28 f)],jI o] []=some r.st) (i j g a:Int) (b:List Int) (c:List T28) (r:R24_l2) (h:f24_l2_b k q_f24_aiirrzi i j g a b c=some r):EX 24 k (nav B24 [1,2,2,1,2,2]) (⟨29,[(1,jI i),(2,.ptr 30000 0),(5,jI j)],[(30000,.box 28 [jI g,.p (.int .u64 a),.sl 1 (rowsOf (encI .u8) b),.sl 4 (rowsOf encT28 c)])]⟩:St)=some r.st:=by
 unfold f24_l2_b at h
 simp (disch:=first|apply D;decide|apply K;kernel_rfl) only [E,EE,↓reduceIte,simprocAttr,xk B24 [1,2,2,1,2,2] .sq rfl,xk B24 [1,1,2,2,1,2,2] .sq rfl,rg B24 [1,1,1,2,2,1,2,2] 4 false rfl,hr 24 4 rfl,fieldAddrV,t_28,t_26,xk B24 [2,1,1,2,2,1,2,2] (.cd 17) rfl]
 rcases cond_some h with ⟨l,h⟩ | ⟨l,h⟩
 ·have hJ:=f24_l2_j1_ok k q_f24_aiirrzi hq_f24_aiirrzi i j true g a b c _ h
  simp (disch:=first|apply D;decide|apply K;kernel_rfl) only [E,EE,↓reduceIte,simprocAttr,xk B24 [2,2,1,1,2,2,1,2,2] .sk rfl,l]
  try simp only [NM,EE] at hJ
  exact hJ
 ·cases h
  simp (disch:=first|apply D;decide|apply K;kernel_rfl) only [E,EE,↓reduceIte,simprocAttr,xk B24 [3,2,1,1,2,2,1,2,2] (.ex 0) rfl,R24_l2.st,l]
noncomputable def f24_l2 (k:Nat) (q_f24_aiirrzi:Int→Int→(List Int)→(List T28)→Int→Option R24):Nat→Int→Int→Int→Int→(List Int)→(List T28)→Option R24_l2
 | 0,_,_,_,_,_,_=>none
 | n+1,l,m,i,a,b,c=>Option.bind (f24_l2_b k q_f24_aiirrzi l m i a b c) fun o =>
  match o with
  | .o0 y=>some (.o0 y)
  | .o1 y d e f g h=>f24_l2 k q_f24_aiirrzi n y d e f g h
  | .o2 y d e f g h j=>some (.o2 y d e f g h j)
theorem f24_l2_ok (k:Nat) (q_f24_aiirrzi:Int→Int→(List Int)→(List T28)→Int→Option R24) (hq_f24_aiirrzi:∀ (u f:Int) (g:List Int) (i:List T28) (v:Int) (r:R24),q_f24_aiirrzi u f g i v=some r→CV k 24 [.agg [jI u,.p (.int .u64 f),.sl 1 (rowsOf (encI .u8) g),.sl 4 (rowsOf encT28 i)],jI v] []=some r.st) (n:Nat):∀ (j l d a:Int) (b:List Int) (c:List T28) (r:R24_l2) (e:f24_l2 k q_f24_aiirrzi n j l d a b c=some r) (σ:St) (hσ:headR (hints.head 24 4) (hints.canon 24 4) σ=some (⟨29,[(1,jI j),(2,.ptr 30000 0),(5,jI l)],[(30000,.box 28 [jI d,.p (.int .u64 a),.sl 1 (rowsOf (encI .u8) b),.sl 4 (rowsOf encT28 c)])]⟩:St)),LP 24 k (nav B24 [1,2,2,1,2,2]) n σ=some r.st:=by
 induction n with
 | zero=>intro j l d a b c r e;cases e
 | succ n w =>
  intro j l d a b c r e σ hσ
  rw [f24_l2] at e
  obtain ⟨o,h,e⟩:=Option.bind_eq_some_iff.1 e
  have hB:=f24_l2_b_ok k q_f24_aiirrzi hq_f24_aiirrzi j l d a b c o h
  unfold LP at w ⊢
  unfold EX at hB
  rw [loopK_succ,show firstReg (nav B24 [1,2,2,1,2,2])=4 from rfl,hσ,headK_some,hB]
  cases o with
  | o0 y=>cases e;rfl
  | o1 y m p q s t =>
   refine w y m p q s t r e _ ?_
   simp (disch:=first|apply D;decide|apply K;kernel_rfl) only [E,EE,↓reduceIte,simprocAttr,hh_24_4,hc_24_4]
  | o2 y m p q s t x=>cases e;rfl
noncomputable def f24_j3 (k:Nat) (q_f24_aiirrzi:Int→Int→(List Int)→(List T28)→Int→Option R24) (f g:Int) (d:Bool) (e a:Int) (b:List Int) (c:List T28):Option R24 :=
 some (.o0 true)
theorem f24_j3_ok (k:Nat) (q_f24_aiirrzi:Int→Int→(List Int)→(List T28)→Int→Option R24) (hq_f24_aiirrzi:∀ (i d:Int) (e:List Int) (f:List T28) (j:Int) (r:R24),q_f24_aiirrzi i d e f j=some r→CV k 24 [.agg [jI i,.p (.int .u64 d),.sl 1 (rowsOf (encI .u8) e),.sl 4 (rowsOf encT28 f)],jI j] []=some r.st) (l m:Int) (g:Bool) (h a:Int) (b:List Int) (c:List T28) (r:R24) (o:f24_j3 k q_f24_aiirrzi l m g h a b c=some r):finK Tryd.prog Tryd.f24 0 (EX 24 k (nav B24 [2,2,2]) (⟨29,[(1,jI l),(2,.ptr 30000 0),(5,jI m),(17,.p (.bool g))],[(30000,.box 28 [jI h,.p (.int .u64 a),.sl 1 (rowsOf (encI .u8) b),.sl 4 (rowsOf encT28 c)])]⟩:St))=some r.st:=by
 unfold f24_j3 at o
 cases o
 simp (disch:=first|apply D;decide|apply K;kernel_rfl) only [E,EE,↓reduceIte,simprocAttr,xk B24 [2,2,2] .sq rfl,rg B24 [1,2,2,2] 8 false rfl,hr 24 8 rfl,xk B24 [2,2,2,2] .rt rfl,fin24,R24.st]
noncomputable def f24_j1 (k:Nat) (q_f24_aiirrzi:Int→Int→(List Int)→(List T28)→Int→Option R24) (f:Int) (g:Bool) (h a:Int) (b:List Int) (c:List T28):Option R24 :=
 Option.bind (f24_l2 k q_f24_aiirrzi k f 0 h a b c) fun o1 =>
  match o1 with
  | .o0 i =>
   some (.o0 i)
  | .o1 _ _ _ _ _ _ =>
   none
  | .o2 j l m o p d e =>
   f24_j3 k q_f24_aiirrzi j l m o p d e
theorem f24_j1_ok (k:Nat) (q_f24_aiirrzi:Int→Int→(List Int)→(List T28)→Int→Option R24) (hq_f24_aiirrzi:∀ (p e:Int) (f:List Int) (g:List T28) (q:Int) (r:R24),q_f24_aiirrzi p e f g q=some r→CV k 24 [.agg [jI p,.p (.int .u64 e),.sl 1 (rowsOf (encI .u8) f),.sl 4 (rowsOf encT28 g)],jI q] []=some r.st) (j:Int) (i:Bool) (l a:Int) (b:List Int) (c:List T28) (r:R24) (d:f24_j1 k q_f24_aiirrzi j i l a b c=some r):finK Tryd.prog Tryd.f24 0 (EX 24 k (nav B24 [2,2]) (⟨29,[(1,jI j),(2,.ptr 2 0),(12,.p (.bool i))],[(2,.box 28 [jI l,.p (.int .u64 a),.sl 1 (rowsOf (encI .u8) b),.sl 4 (rowsOf encT28 c)])]⟩:St))=some r.st:=by
 unfold f24_j1 at d
 obtain ⟨o1,s,d⟩:=bs d
 have h:=f24_l2_ok k q_f24_aiirrzi hq_f24_aiirrzi k j 0 l a b c _ s
 simp (disch:=first|apply D;decide|apply K;kernel_rfl) only [E,EE,↓reduceIte,simprocAttr,xk B24 [2,2] .sq rfl,xk B24 [1,2,2] .sq rfl,rg B24 [1,1,2,2] 3 false rfl,hr 24 3 rfl,xk B24 [2,1,2,2] (.bk 0) rfl,xk B24 [2,2,1,2,2] .lp rfl,hh_24_4,hc_24_4]
 (try simp only [NM,EE] at h)
 rw [h _ (by simp (disch:=first|apply D;decide|apply K;kernel_rfl) only [E,EE,↓reduceIte,simprocAttr,hh_24_4,hc_24_4])]
 clear h
 cases o1 with
 | o0 y =>
  (try dsimp only at d)
  cases d
  simp (disch:=first|apply D;decide|apply K;kernel_rfl) only [E,EE,↓reduceIte,simprocAttr,R24_l2.st,fin24,R24.st]
 | o1 _ _ _ _ _ _ =>
  (try dsimp only at d)
  cases d
 | o2 t u v w x m o =>
  (try dsimp only at d)
  have hJ:=f24_j3_ok k q_f24_aiirrzi hq_f24_aiirrzi t u v w x m o _ d
  simp (disch:=first|apply D;decide|apply K;kernel_rfl) only [E,EE,↓reduceIte,simprocAttr,R24_l2.st]
  try simp only [NM,EE] at hJ
  exact hJ
noncomputable def f24_e (k:Nat) (q_f24_aiirrzi:Int→Int→(List Int)→(List T28)→Int→Option R24) (d a:Int) (b:List Int) (c:List T28) (e:Int):Option R24 :=
 cond ((e==0))
  (some (.o0 false))
  (
   Option.bind (f36 k d a b c) fun o2 =>
    match o2 with
    | .o0 f =>
     cond ((!f))
      (some (.o0 false))
      (f24_j1 k q_f24_aiirrzi e false d a b c))
theorem f24_e_ok (k:Nat) (q_f24_aiirrzi:Int→Int→(List Int)→(List T28)→Int→Option R24) (hq_f24_aiirrzi:∀ (f a:Int) (b:List Int) (c:List T28) (g:Int) (r:R24),q_f24_aiirrzi f a b c g=some r→CV k 24 [.agg [jI f,.p (.int .u64 a),.sl 1 (rowsOf (encI .u8) b),.sl 4 (rowsOf encT28 c)],jI g] []=some r.st) (f a:Int) (b:List Int) (c:List T28) (g:Int) (r:R24) (d:f24_e k q_f24_aiirrzi f a b c g=some r):finK Tryd.prog Tryd.f24 0 (EX 24 k (nav B24 []) (⟨29,[(0,.agg [jI f,.p (.int .u64 a),.sl 1 (rowsOf (encI .u8) b),.sl 4 (rowsOf encT28 c)]),(1,jI g)],[]⟩:St))=some r.st:=by
 unfold f24_e at d
 simp (disch:=first|apply D;decide|apply K;kernel_rfl) only [E,EE,↓reduceIte,simprocAttr,xk B24 [] .sq rfl,rg B24 [1] 0 false rfl,hr 24 0 rfl,xk B24 [2] .sq rfl,xk B24 [1,2] .sq rfl,rg B24 [1,1,2] 1 false rfl,hr 24 1 rfl]
 rcases cond_some d with ⟨h,d⟩ | ⟨h,d⟩
 ·cases d
  simp (disch:=first|apply D;decide|apply K;kernel_rfl) only [E,EE,↓reduceIte,simprocAttr,xk B24 [2,1,2] (.cd 12) rfl,xk B24 [2,2,1,2] .sq rfl,rg B24 [1,2,2,1,2] 2 false rfl,hr 24 2 rfl,xk B24 [2,2,2,1,2] .rt rfl,fin24,R24.st,h]
 ·obtain ⟨o2,j,d⟩:=bs d
  have e:=f36_ok k f a b c _ j
  cases o2 with
  | o0 l =>
   (try dsimp only at d)
   (try simp only [NM,EE,R36.st] at e)
   simp (disch:=first|apply D;decide|apply K;kernel_rfl) only [E,EE,↓reduceIte,simprocAttr,t_28,callStep,CL,gv,List.contains,xk B24 [2,1,2] (.cd 12) rfl,h,e]
   rcases cond_some d with ⟨i,d⟩ | ⟨i,d⟩
   ·cases d
    simp (disch:=first|apply D;decide|apply K;kernel_rfl) only [E,EE,↓reduceIte,simprocAttr,xk B24 [2,2,1,2] .sq rfl,rg B24 [1,2,2,1,2] 2 false rfl,hr 24 2 rfl,xk B24 [2,2,2,1,2] .rt rfl,fin24,R24.st,h,e,i]
   ·have hJ:=f24_j1_ok k q_f24_aiirrzi hq_f24_aiirrzi g false f a b c _ d
    simp (disch:=first|apply D;decide|apply K;kernel_rfl) only [E,EE,↓reduceIte,simprocAttr,xk B24 [3,2,1,2] .sk rfl,h,e,i]
    try simp only [NM,EE] at hJ
    exact hJ
noncomputable def f24:Nat→Int→Int→(List Int)→(List T28)→Int→Option R24
 | 0,_,_,_,_,_=>none
 | k+1,d,a,b,c,e=>f24_e k (f24 k) d a b c e
theorem f24_all (k:Nat):(∀ (e a:Int) (b:List Int) (d:List T28) (f:Int) (r:R24),f24 k e a b d f=some r→CV k 24 [.agg [jI e,.p (.int .u64 a),.sl 1 (rowsOf (encI .u8) b),.sl 4 (rowsOf encT28 d)],jI f] []=some r.st):=by
 induction k with
 | zero=>exact (by intro e a b d f r g;rw [f24] at g;cases g)
 | succ k h =>
  have ih_f24_aiirrzi:=h
  exact (by intro e a b d f r g;rw [f24] at g;unfold CV;rw [ev_call (F:=Tryd.f24) (c:=(nav B24 [])) rfl Tryd.func24 rfl rfl rfl rfl];exact f24_e_ok k (f24 k) ih_f24_aiirrzi e a b d f r g)
theorem f24_ok (k d a b c e r) (f:f24 k d a b c e=some r):CV k 24 [.agg [jI d,.p (.int .u64 a),.sl 1 (rowsOf (encI .u8) b),.sl 4 (rowsOf encT28 c)],jI e] []=some r.st:=f24_all k d a b c e r f
-- f12: f12 heliograph/heliographref07.Right
inductive R12 where
 | o0 (y:Bool)
noncomputable def R12.st:R12→V×List O×List O
 | .o0 y=>(.p (.bool y),[],[])
noncomputable def f12_e (k:Nat) (d a:Int) (b:List Int) (c:List T28):Option R12 :=
 Option.bind (f24 k d a b c 4) fun o1 =>
  match o1 with
  | .o0 e =>
   some (.o0 e)
theorem f12_e_ok (k f a b c r) (d:f12_e k f a b c=some r):finK Tryd.prog Tryd.f12 0 (EX 12 k (nav B12 []) (⟨5,[(0,.agg [jI f,.p (.int .u64 a),.sl 1 (rowsOf (encI .u8) b),.sl 4 (rowsOf encT28 c)])],[]⟩:St))=some r.st:=by
 unfold f12_e at d
 obtain ⟨o1,g,d⟩:=bs d
 have e:=f24_ok k f a b c 4 _ g
 cases o1 with
 | o0 h =>
  (try dsimp only at d)
  (try simp only [NM,EE,R24.st] at e)
  cases d
  simp (disch:=first|apply D;decide|apply K;kernel_rfl) only [E,EE,↓reduceIte,simprocAttr,xk B12 [] .sq rfl,rg B12 [1] 0 false rfl,hr 12 0 rfl,xk B12 [2] .sq rfl,rg B12 [1,2] 1 false rfl,hr 12 1 rfl,t_28,callStep,CL,gv,List.contains,xk B12 [2,2] .rt rfl,fin12,R12.st,e]
noncomputable def f12 (k:Nat) (d a:Int) (b:List Int) (c:List T28):Option R12:=match k with | 0=>none | k+1=>f12_e k d a b c
theorem f12_ok (k e a b d r) (f:f12 k e a b d=some r):CV k 12 [.agg [jI e,.p (.int .u64 a),.sl 1 (rowsOf (encI .u8) b),.sl 4 (rowsOf encT28 d)]] []=some r.st:=by
 cases k with
 | zero=>cases f
 | succ k =>
  unfold CV
  rw [ev_call (F:=Tryd.f12) (c:=(nav B12 [])) rfl Tryd.func12 rfl rfl rfl rfl]
  exact f12_e_ok k e a b d r f
-- f39: f39 heliograph/heliographref01.High
inductive R39 where
 | o0 (y:List Int)
noncomputable def R39.st:R39→V×List O×List O
 | .o0 y=>(.own 2000000,[],[.row true 1 5 (rowsOf (encI .u8) y)])
inductive R39_l1 where
 | o0 (y a:Int) (b:List Int)
 | o1 (y a:Int) (b:Bool) (c:List Int)
noncomputable def R39_l1.st:R39_l1→Out×St
 | .o0 y a b=>(.norm,(⟨24,[(0,.p (.int .u64 y)),(5,.own 30000),(6,jI a)],[(30000,.row true 1 5 (rowsOf (encI .u8) b))]⟩:St))
 | .o1 y a b c=>(.exit 0,(⟨24,[(0,.p (.int .u64 y)),(5,.own 30000),(6,jI a),(12,.p (.bool b))],[(30000,.row true 1 5 (rowsOf (encI .u8) c))]⟩:St))
noncomputable def f39_l1_j2 (k:Nat) (b c:Int) (a:List Int):Option R39_l1 :=
 some (.o0 b (IntKind.i64.wrap (c - (1:Int))) a)
theorem f39_l1_j2_ok (k b c a r) (d:f39_l1_j2 k b c a=some r):EX 39 k (nav B39 [2,2,1,2,2,1,2,2]) (⟨24,[(0,.p (.int .u64 b)),(5,.own 30000),(6,jI c)],[(30000,.row true 1 5 (rowsOf (encI .u8) a))]⟩:St)=some r.st:=by
 unfold f39_l1_j2 at d
 cases d
 simp (disch:=first|apply D;decide|apply K;kernel_rfl) only [E,EE,↓reduceIte,simprocAttr,rg B39 [2,2,1,2,2,1,2,2] 4 false rfl,hr 39 4 rfl,R39_l1.st]
noncomputable def f39_l1_j1 (k:Nat) (c b:Int) (d:Bool) (a:List Int):Option R39_l1 :=
 ifE ((0:Int)≤b) (
  ifE (b<((List.length a):Int)) (
   Option.bind (a[(Int.toNat b)]?) fun e =>
    f39_l1_j2 k (IntKind.u64.wrap (Int.tdiv c (256:Int))) b ((List.set a (Int.toNat b) (IntKind.u8.wrap (Int.tmod c (256:Int)))))))
theorem f39_l1_j1_ok (k c d e a r) (b:f39_l1_j1 k c d e a=some r):EX 39 k (nav B39 [2,1,2,2,1,2,2]) (⟨24,[(0,.p (.int .u64 c)),(5,.own 30000),(6,jI d),(12,.p (.bool e))],[(30000,.row true 1 5 (rowsOf (encI .u8) a))]⟩:St)=some r.st:=by
 unfold f39_l1_j1 at b
 obtain ⟨f,b⟩:=ifE_some.1 b
 obtain ⟨g,b⟩:=ifE_some.1 b
 obtain ⟨m,h,b⟩:=bs b
 have j:List.set (rowsOf (encI .u8) a) (Int.toNat d) [.p (.int .u8 (IntKind.u8.wrap (Int.tmod c (256:Int))))]=rowsOf (encI .u8) (List.set a (Int.toNat d) (IntKind.u8.wrap (Int.tmod c (256:Int)))):=(rowsOf_set (enc:=(encI .u8)) (l:=a) (i:=(Int.toNat d)) (x:=(IntKind.u8.wrap (Int.tmod c (256:Int))))).symm
 have hJ:=f39_l1_j2_ok k (IntKind.u64.wrap (Int.tdiv c (256:Int))) d ((List.set a (Int.toNat d) (IntKind.u8.wrap (Int.tmod c (256:Int))))) _ b
 simp (disch:=first|apply D;decide|apply K;kernel_rfl) only [E,EE,↓reduceIte,simprocAttr,xk B39 [2,1,2,2,1,2,2] .sq rfl,xk B39 [1,2,1,2,2,1,2,2] (.bk 1) rfl,xk B39 [2,1,2,1,2,2,1,2,2] .sq rfl,rg B39 [1,2,1,2,1,2,2,1,2,2] 5 false rfl,hr 39 5 rfl,t_24,t_5,convV,indexAddrV,t_25,sm_5,encI_eq,rg B39 [2,2,1,2,1,2,2,1,2,2] 6 false rfl,hr 39 6 rfl,f,g,h,j]
 try simp only [NM,EE] at hJ
 exact hJ
noncomputable def f39_l1_b (k:Nat) (c b:Int) (a:List Int):Option R39_l1 :=
 cond ((decide (b≥0)))
  (f39_l1_j1 k c b true a)
  (some (.o1 c b false a))
theorem f39_l1_b_ok (k c d a r) (b:f39_l1_b k c d a=some r):EX 39 k (nav B39 [1,2,2,1,2,2]) (⟨24,[(0,.p (.int .u64 c)),(5,.own 30000),(6,jI d)],[(30000,.row true 1 5 (rowsOf (encI .u8) a))]⟩:St)=some r.st:=by
 unfold f39_l1_b at b
 simp (disch:=first|apply D;decide|apply K;kernel_rfl) only [E,EE,↓reduceIte,simprocAttr,xk B39 [1,2,2,1,2,2] .sq rfl,xk B39 [1,1,2,2,1,2,2] .sq rfl,rg B39 [1,1,1,2,2,1,2,2] 3 false rfl,hr 39 3 rfl,xk B39 [2,1,1,2,2,1,2,2] (.cd 12) rfl]
 rcases cond_some b with ⟨e,b⟩ | ⟨e,b⟩
 ·have hJ:=f39_l1_j1_ok k c d true a _ b
  simp (disch:=first|apply D;decide|apply K;kernel_rfl) only [E,EE,↓reduceIte,simprocAttr,xk B39 [2,2,1,1,2,2,1,2,2] .sk rfl,e]
  try simp only [NM,EE] at hJ
  exact hJ
 ·cases b
  simp (disch:=first|apply D;decide|apply K;kernel_rfl) only [E,EE,↓reduceIte,simprocAttr,xk B39 [3,2,1,1,2,2,1,2,2] (.ex 0) rfl,R39_l1.st,e]
noncomputable def f39_l1 (k:Nat):Nat→Int→Int→(List Int)→Option R39_l1
 | 0,_,_,_=>none
 | n+1,e,f,c=>Option.bind (f39_l1_b k e f c) fun o =>
  match o with
  | .o0 y a b=>f39_l1 k n y a b
  | .o1 y a b d=>some (.o1 y a b d)
theorem f39_l1_ok (k n:Nat):∀ (c d:Int) (a:List Int) (r:R39_l1) (b:f39_l1 k n c d a=some r) (σ:St) (hσ:headR (hints.head 39 3) (hints.canon 39 3) σ=some (⟨24,[(0,.p (.int .u64 c)),(5,.own 30000),(6,jI d)],[(30000,.row true 1 5 (rowsOf (encI .u8) a))]⟩:St)),LP 39 k (nav B39 [1,2,2,1,2,2]) n σ=some r.st:=by
 induction n with
 | zero=>intro c d a r b;cases b
 | succ n g =>
  intro c d a r b σ hσ
  rw [f39_l1] at b
  obtain ⟨o,h,b⟩:=Option.bind_eq_some_iff.1 b
  have hB:=f39_l1_b_ok k c d a o h
  unfold LP at g ⊢
  unfold EX at hB
  rw [loopK_succ,show firstReg (nav B39 [1,2,2,1,2,2])=3 from rfl,hσ,headK_some,hB]
  cases o with
  | o0 y e f =>
   refine g y e f r b _ ?_
   simp (disch:=first|apply D;decide|apply K;kernel_rfl) only [E,EE,↓reduceIte,simprocAttr,hh_39_3,hc_39_3]
  | o1 y e f i=>cases b;rfl
noncomputable def f39_j2 (k:Nat) (c d:Int) (b:Bool) (a:List Int):Option R39 :=
 some (.o0 a)
theorem f39_j2_ok (k c d a b r) (e:f39_j2 k c d a b=some r):finK Tryd.prog Tryd.f39 0 (EX 39 k (nav B39 [2,2,2]) (⟨24,[(0,.p (.int .u64 c)),(5,.own 30000),(6,jI d),(12,.p (.bool a))],[(30000,.row true 1 5 (rowsOf (encI .u8) b))]⟩:St))=some r.st:=by
 unfold f39_j2 at e
 cases e
 simp (disch:=first|apply D;decide|apply K;kernel_rfl) only [E,EE,↓reduceIte,simprocAttr,xk B39 [2,2,2] .sq rfl,rg B39 [1,2,2,2] 7 false rfl,hr 39 7 rfl,xk B39 [2,2,2,2] .rt rfl,fin39,R39.st]
noncomputable def f39_e (k:Nat) (d a:Int):Option R39 :=
 ifE ((0:Int)≤a) (
  ifE (a≤a) (
   ifE ((a:Int) * 1≤(roomy:Int)) (
    Option.bind (f39_l1 k k d (IntKind.i64.wrap (a - (1:Int))) ((List.replicate (Int.toNat a) (0:Int)))) fun o5 =>
     match o5 with
     | .o0 _ _ _ =>
      none
     | .o1 e f b c =>
      f39_j2 k e f b c)))
theorem f39_e_ok (k d b r) (a:f39_e k d b=some r):finK Tryd.prog Tryd.f39 0 (EX 39 k (nav B39 []) (⟨24,[(0,.p (.int .u64 d)),(1,jI b)],[]⟩:St))=some r.st:=by
 unfold f39_e at a
 obtain ⟨e,a⟩:=ifE_some.1 a
 obtain ⟨f,a⟩:=ifE_some.1 a
 obtain ⟨g,a⟩:=ifE_some.1 a
 have h:List.replicate (Int.toNat b) [.p (.int .u8 0)]=rowsOf (encI .u8) (List.replicate (Int.toNat b) (0:Int)):=(rowsOf_replicate (enc:=(encI .u8)) (n:=(Int.toNat b)) (x:=(0:Int))).symm
 obtain ⟨o5,l,a⟩:=bs a
 have c:=f39_l1_ok k k d (IntKind.i64.wrap (b - (1:Int))) ((List.replicate (Int.toNat b) (0:Int))) _ l
 simp (disch:=first|apply D;decide|apply K;kernel_rfl) only [E,EE,↓reduceIte,simprocAttr,xk B39 [] .sq rfl,rg B39 [1] 0 false rfl,hr 39 0 rfl,xk B39 [2] .sq rfl,rg B39 [1,2] 1 false rfl,hr 39 1 rfl,makeV,intArg,sm_5,t_25,t_5,xk B39 [2,2] .sq rfl,xk B39 [1,2,2] .sq rfl,rg B39 [1,1,2,2] 2 false rfl,hr 39 2 rfl,xk B39 [2,1,2,2] (.bk 0) rfl,xk B39 [2,2,1,2,2] .lp rfl,hh_39_3,hc_39_3,e,f,g,h]
 (try simp only [NM,EE] at c)
 rw [c _ (by simp (disch:=first|apply D;decide|apply K;kernel_rfl) only [E,EE,↓reduceIte,simprocAttr,hh_39_3,hc_39_3,e,f,g,h])]
 clear c
 cases o5 with
 | o0 _ _ _ =>
  (try dsimp only at a)
  cases a
 | o1 m o i j =>
  (try dsimp only at a)
  have hJ:=f39_j2_ok k m o i j _ a
  simp (disch:=first|apply D;decide|apply K;kernel_rfl) only [E,EE,↓reduceIte,simprocAttr,R39_l1.st,e,f,g,h]
  try simp only [NM,EE] at hJ
  exact hJ
noncomputable def f39 (k:Nat) (a b:Int):Option R39:=match k with | 0=>none | k+1=>f39_e k a b
theorem f39_ok (k a b r) (d:f39 k a b=some r):CV k 39 [.p (.int .u64 a),jI b] []=some r.st:=by
 cases k with
 | zero=>cases d
 | succ k =>
  unfold CV
  rw [ev_call (F:=Tryd.f39) (c:=(nav B39 [])) rfl Tryd.func39 rfl rfl rfl rfl]
  exact f39_e_ok k a b r d
-- f27: f27 heliograph/heliographref01.Both
inductive R27 where
 | o0 (y:List Int)
noncomputable def R27.st:R27→V×List O×List O
 | .o0 y=>(.own 2000000,[],[.row true 1 5 (rowsOf (encI .u8) y)])
inductive R27_l1 where
 | o0 (y a:List Int) (b:Int) (c:List Int)
 | o1 (y a:List Int) (b:Int) (c:Bool) (d:List Int)
noncomputable def R27_l1.st:R27_l1→Out×St
 | .o0 y a b c=>(.norm,(⟨41,[(0,.sl 1 (rowsOf (encI .u8) y)),(1,.sl 1 (rowsOf (encI .u8) a)),(5,.own 26),(6,jI b)],[(26,.row true 1 5 (rowsOf (encI .u8) c))]⟩:St))
 | .o1 y a b c d=>(.exit 0,(⟨41,[(0,.sl 1 (rowsOf (encI .u8) y)),(1,.sl 1 (rowsOf (encI .u8) a)),(5,.own 30000),(6,jI b),(17,.p (.bool c))],[(30000,.row true 1 5 (rowsOf (encI .u8) d))]⟩:St))
noncomputable def f27_l1_j2 (k:Nat) (b c:List Int) (d:Int) (a:List Int):Option R27_l1 :=
 some (.o0 b c (IntKind.i64.wrap (d+(1:Int))) a)
theorem f27_l1_j2_ok (k b c d a r) (e:f27_l1_j2 k b c d a=some r):EX 27 k (nav B27 [2,2,1,2,2,1,2,2]) (⟨41,[(0,.sl 1 (rowsOf (encI .u8) b)),(1,.sl 1 (rowsOf (encI .u8) c)),(5,.own 26),(6,jI d)],[(26,.row true 1 5 (rowsOf (encI .u8) a))]⟩:St)=some r.st:=by
 unfold f27_l1_j2 at e
 cases e
 simp (disch:=first|apply D;decide|apply K;kernel_rfl) only [E,EE,↓reduceIte,simprocAttr,rg B27 [2,2,1,2,2,1,2,2] 4 false rfl,hr 27 4 rfl,R27_l1.st]
noncomputable def f27_l1_j1 (k:Nat) (c d:List Int) (b:Int) (e:Bool) (a:List Int):Option R27_l1 :=
 ifE ((0:Int)≤b) (
  Option.bind (c[(Int.toNat b)]?) fun f =>
   ifE (((List.length a)+1)≤roomy) (
    f27_l1_j2 k c d b (a++([f]:List Int))))
theorem f27_l1_j1_ok (k e f g c b r) (a:f27_l1_j1 k e f g c b=some r):EX 27 k (nav B27 [2,1,2,2,1,2,2]) (⟨41,[(0,.sl 1 (rowsOf (encI .u8) e)),(1,.sl 1 (rowsOf (encI .u8) f)),(5,.own 30000),(6,jI g),(17,.p (.bool c))],[(30000,.row true 1 5 (rowsOf (encI .u8) b))]⟩:St)=some r.st:=by
 unfold f27_l1_j1 at a
 obtain ⟨h,a⟩:=ifE_some.1 a
 obtain ⟨d,i,a⟩:=bs a
 have j:[[.p (.int .u8 d)]]=rowsOf (encI .u8) ([d]:List Int):=rfl
 have l:List.map (tell [0]) (rowsOf (encI .u8) ([d]:List Int))=rowsOf (encI .u8) ([d]:List Int):=rfl
 obtain ⟨m,a⟩:=ifE_some.1 a
 have hJ:=f27_l1_j2_ok k e f g (b++([d]:List Int)) _ a
 simp (disch:=first|apply D;decide|apply K;kernel_rfl) only [E,EE,↓reduceIte,simprocAttr,xk B27 [2,1,2,2,1,2,2] .sq rfl,xk B27 [1,2,1,2,2,1,2,2] (.bk 1) rfl,rg B27 [2,1,2,1,2,2,1,2,2] 5 false rfl,hr 27 5 rfl,indexAddrV,t_25,t_5,encI_eq,buildSliceV,raw_,cond_false,cond_true,fillRows,sm_5,appendV,content,h,i,j,l,m]
 try simp only [NM,EE] at hJ
 exact hJ
noncomputable def f27_l1_b (k:Nat) (b d:List Int) (c:Int) (a:List Int):Option R27_l1 :=
 cond ((decide (c<((List.length b):Int))))
  (f27_l1_j1 k b d c true a)
  (some (.o1 b d c false a))
theorem f27_l1_b_ok (k c d e a r) (b:f27_l1_b k c d e a=some r):EX 27 k (nav B27 [1,2,2,1,2,2]) (⟨41,[(0,.sl 1 (rowsOf (encI .u8) c)),(1,.sl 1 (rowsOf (encI .u8) d)),(5,.own 30000),(6,jI e)],[(30000,.row true 1 5 (rowsOf (encI .u8) a))]⟩:St)=some r.st:=by
 unfold f27_l1_b at b
 simp (disch:=first|apply D;decide|apply K;kernel_rfl) only [E,EE,↓reduceIte,simprocAttr,xk B27 [1,2,2,1,2,2] .sq rfl,xk B27 [1,1,2,2,1,2,2] .sq rfl,rg B27 [1,1,1,2,2,1,2,2] 3 false rfl,hr 27 3 rfl,t_25,xk B27 [2,1,1,2,2,1,2,2] (.cd 17) rfl]
 rcases cond_some b with ⟨f,b⟩ | ⟨f,b⟩
 ·have hJ:=f27_l1_j1_ok k c d e true a _ b
  simp (disch:=first|apply D;decide|apply K;kernel_rfl) only [E,EE,↓reduceIte,simprocAttr,xk B27 [2,2,1,1,2,2,1,2,2] .sk rfl,f]
  try simp only [NM,EE] at hJ
  exact hJ
 ·cases b
  simp (disch:=first|apply D;decide|apply K;kernel_rfl) only [E,EE,↓reduceIte,simprocAttr,xk B27 [3,2,1,1,2,2,1,2,2] (.ex 0) rfl,R27_l1.st,f]
noncomputable def f27_l1 (k:Nat):Nat→(List Int)→(List Int)→Int→(List Int)→Option R27_l1
 | 0,_,_,_,_=>none
 | n+1,f,g,h,d=>Option.bind (f27_l1_b k f g h d) fun o =>
  match o with
  | .o0 y a b c=>f27_l1 k n y a b c
  | .o1 y a b c e=>some (.o1 y a b c e)
theorem f27_l1_ok (k n:Nat):∀ (c d:List Int) (e:Int) (a:List Int) (r:R27_l1) (b:f27_l1 k n c d e a=some r) (σ:St) (hσ:headR (hints.head 27 3) (hints.canon 27 3) σ=some (⟨41,[(0,.sl 1 (rowsOf (encI .u8) c)),(1,.sl 1 (rowsOf (encI .u8) d)),(5,.own 30000),(6,jI e)],[(30000,.row true 1 5 (rowsOf (encI .u8) a))]⟩:St)),LP 27 k (nav B27 [1,2,2,1,2,2]) n σ=some r.st:=by
 induction n with
 | zero=>intro c d e a r b;cases b
 | succ n j =>
  intro c d e a r b σ hσ
  rw [f27_l1] at b
  obtain ⟨o,h,b⟩:=Option.bind_eq_some_iff.1 b
  have hB:=f27_l1_b_ok k c d e a o h
  unfold LP at j ⊢
  unfold EX at hB
  rw [loopK_succ,show firstReg (nav B27 [1,2,2,1,2,2])=3 from rfl,hσ,headK_some,hB]
  cases o with
  | o0 y f g i =>
   refine j y f g i r b _ ?_
   simp (disch:=first|apply D;decide|apply K;kernel_rfl) only [E,EE,↓reduceIte,simprocAttr,hh_27_3,hc_27_3]
  | o1 y f g i l=>cases b;rfl
inductive R27_l3 where
 | o0 (y:List Int) (a:Int) (b:List Int)
 | o1 (y:List Int) (a:Int) (b:Bool) (c:List Int)
noncomputable def R27_l3.st:R27_l3→Out×St
 | .o0 y a b=>(.norm,(⟨41,[(1,.sl 1 (rowsOf (encI .u8) y)),(5,.own 39),(7,jI a)],[(39,.row true 1 5 (rowsOf (encI .u8) b))]⟩:St))
 | .o1 y a b c=>(.exit 2,(⟨41,[(1,.sl 1 (rowsOf (encI .u8) y)),(5,.own 30000),(7,jI a),(30,.p (.bool b))],[(30000,.row true 1 5 (rowsOf (encI .u8) c))]⟩:St))
noncomputable def f27_l3_j2 (k:Nat) (b:List Int) (c:Int) (a:List Int):Option R27_l3 :=
 some (.o0 b (IntKind.i64.wrap (c+(1:Int))) a)
theorem f27_l3_j2_ok (k b c a r) (d:f27_l3_j2 k b c a=some r):EX 27 k (nav B27 [2,2,1,2,2,1,2,2,2]) (⟨41,[(1,.sl 1 (rowsOf (encI .u8) b)),(5,.own 39),(7,jI c)],[(39,.row true 1 5 (rowsOf (encI .u8) a))]⟩:St)=some r.st:=by
 unfold f27_l3_j2 at d
 cases d
 simp (disch:=first|apply D;decide|apply K;kernel_rfl) only [E,EE,↓reduceIte,simprocAttr,rg B27 [2,2,1,2,2,1,2,2,2] 8 false rfl,hr 27 8 rfl,R27_l3.st]
noncomputable def f27_l3_j1 (k:Nat) (c:List Int) (b:Int) (d:Bool) (a:List Int):Option R27_l3 :=
 ifE ((0:Int)≤b) (
  Option.bind (c[(Int.toNat b)]?) fun e =>
   ifE (((List.length a)+1)≤roomy) (
    f27_l3_j2 k c b (a++([e]:List Int))))
theorem f27_l3_j1_ok (k e f c b r) (a:f27_l3_j1 k e f c b=some r):EX 27 k (nav B27 [2,1,2,2,1,2,2,2]) (⟨41,[(1,.sl 1 (rowsOf (encI .u8) e)),(5,.own 30000),(7,jI f),(30,.p (.bool c))],[(30000,.row true 1 5 (rowsOf (encI .u8) b))]⟩:St)=some r.st:=by
 unfold f27_l3_j1 at a
 obtain ⟨g,a⟩:=ifE_some.1 a
 obtain ⟨d,h,a⟩:=bs a
 have i:[[.p (.int .u8 d)]]=rowsOf (encI .u8) ([d]:List Int):=rfl
 have j:List.map (tell [0]) (rowsOf (encI .u8) ([d]:List Int))=rowsOf (encI .u8) ([d]:List Int):=rfl
 obtain ⟨l,a⟩:=ifE_some.1 a
 have hJ:=f27_l3_j2_ok k e f (b++([d]:List Int)) _ a
 simp (disch:=first|apply D;decide|apply K;kernel_rfl) only [E,EE,↓reduceIte,simprocAttr,xk B27 [2,1,2,2,1,2,2,2] .sq rfl,xk B27 [1,2,1,2,2,1,2,2,2] (.bk 3) rfl,rg B27 [2,1,2,1,2,2,1,2,2,2] 9 false rfl,hr 27 9 rfl,indexAddrV,t_25,t_5,encI_eq,buildSliceV,raw_,cond_false,cond_true,fillRows,sm_5,appendV,content,g,h,i,j,l]
 try simp only [NM,EE] at hJ
 exact hJ
noncomputable def f27_l3_b (k:Nat) (b:List Int) (c:Int) (a:List Int):Option R27_l3 :=
 cond ((decide (c<((List.length b):Int))))
  (f27_l3_j1 k b c true a)
  (some (.o1 b c false a))
theorem f27_l3_b_ok (k c d a r) (b:f27_l3_b k c d a=some r):EX 27 k (nav B27 [1,2,2,1,2,2,2]) (⟨41,[(1,.sl 1 (rowsOf (encI .u8) c)),(5,.own 30000),(7,jI d)],[(30000,.row true 1 5 (rowsOf (encI .u8) a))]⟩:St)=some r.st:=by
 unfold f27_l3_b at b
 simp (disch:=first|apply D;decide|apply K;kernel_rfl) only [E,EE,↓reduceIte,simprocAttr,xk B27 [1,2,2,1,2,2,2] .sq rfl,xk B27 [1,1,2,2,1,2,2,2] .sq rfl,rg B27 [1,1,1,2,2,1,2,2,2] 7 false rfl,hr 27 7 rfl,t_25,xk B27 [2,1,1,2,2,1,2,2,2] (.cd 30) rfl]
 rcases cond_some b with ⟨e,b⟩ | ⟨e,b⟩
 ·have hJ:=f27_l3_j1_ok k c d true a _ b
  simp (disch:=first|apply D;decide|apply K;kernel_rfl) only [E,EE,↓reduceIte,simprocAttr,xk B27 [2,2,1,1,2,2,1,2,2,2] .sk rfl,e]
  try simp only [NM,EE] at hJ
  exact hJ
 ·cases b
  simp (disch:=first|apply D;decide|apply K;kernel_rfl) only [E,EE,↓reduceIte,simprocAttr,xk B27 [3,2,1,1,2,2,1,2,2,2] (.ex 2) rfl,R27_l3.st,e]
noncomputable def f27_l3 (k:Nat):Nat→(List Int)→Int→(List Int)→Option R27_l3
 | 0,_,_,_=>none
 | n+1,e,f,c=>Option.bind (f27_l3_b k e f c) fun o =>
  match o with
  | .o0 y a b=>f27_l3 k n y a b
  | .o1 y a b d=>some (.o1 y a b d)
theorem f27_l3_ok (k n:Nat):∀ (c:List Int) (d:Int) (a:List Int) (r:R27_l3) (b:f27_l3 k n c d a=some r) (σ:St) (hσ:headR (hints.head 27 7) (hints.canon 27 7) σ=some (⟨41,[(1,.sl 1 (rowsOf (encI .u8) c)),(5,.own 30000),(7,jI d)],[(30000,.row true 1 5 (rowsOf (encI .u8) a))]⟩:St)),LP 27 k (nav B27 [1,2,2,1,2,2,2]) n σ=some r.st:=by
 induction n with
 | zero=>intro c d a r b;cases b
 | succ n g =>
  intro c d a r b σ hσ
  rw [f27_l3] at b
  obtain ⟨o,h,b⟩:=Option.bind_eq_some_iff.1 b
  have hB:=f27_l3_b_ok k c d a o h
  unfold LP at g ⊢
  unfold EX at hB
  rw [loopK_succ,show firstReg (nav B27 [1,2,2,1,2,2,2])=7 from rfl,hσ,headK_some,hB]
  cases o with
  | o0 y e f =>
   refine g y e f r b _ ?_
   simp (disch:=first|apply D;decide|apply K;kernel_rfl) only [E,EE,↓reduceIte,simprocAttr,hh_27_7,hc_27_7]
  | o1 y e f i=>cases b;rfl
noncomputable def f27_j4 (k:Nat) (c:List Int) (d:Int) (b:Bool) (a:List Int):Option R27 :=
 some (.o0 a)
theorem f27_j4_ok (k c d a b r) (e:f27_j4 k c d a b=some r):finK Tryd.prog Tryd.f27 0 (EX 27 k (nav B27 [2,2,2,2]) (⟨41,[(1,.sl 1 (rowsOf (encI .u8) c)),(5,.own 30000),(7,jI d),(30,.p (.bool a))],[(30000,.row true 1 5 (rowsOf (encI .u8) b))]⟩:St))=some r.st:=by
 unfold f27_j4 at e
 cases e
 simp (disch:=first|apply D;decide|apply K;kernel_rfl) only [E,EE,↓reduceIte,simprocAttr,xk B27 [2,2,2,2] .sq rfl,rg B27 [1,2,2,2,2] 10 false rfl,hr 27 10 rfl,xk B27 [2,2,2,2,2] .rt rfl,fin27,R27.st]
noncomputable def f27_j2 (k:Nat) (h b:List Int) (i:Int) (c:Bool) (a:List Int):Option R27 :=
 Option.bind (f27_l3 k k b 0 a) fun o1 =>
  match o1 with
  | .o0 _ _ _ =>
   none
  | .o1 d e f g =>
   f27_j4 k d e f g
theorem f27_j2_ok (k f e g d a r) (b:f27_j2 k f e g d a=some r):finK Tryd.prog Tryd.f27 0 (EX 27 k (nav B27 [2,2,2]) (⟨41,[(0,.sl 1 (rowsOf (encI .u8) f)),(1,.sl 1 (rowsOf (encI .u8) e)),(5,.own 30000),(6,jI g),(17,.p (.bool d))],[(30000,.row true 1 5 (rowsOf (encI .u8) a))]⟩:St))=some r.st:=by
 unfold f27_j2 at b
 obtain ⟨o1,h,b⟩:=bs b
 have c:=f27_l3_ok k k e 0 a _ h
 simp (disch:=first|apply D;decide|apply K;kernel_rfl) only [E,EE,↓reduceIte,simprocAttr,xk B27 [2,2,2] .sq rfl,xk B27 [1,2,2,2] .sq rfl,rg B27 [1,1,2,2,2] 6 false rfl,hr 27 6 rfl,xk B27 [2,1,2,2,2] (.bk 2) rfl,xk B27 [2,2,1,2,2,2] .lp rfl,hh_27_7,hc_27_7]
 (try simp only [NM,EE] at c)
 rw [c _ (by simp (disch:=first|apply D;decide|apply K;kernel_rfl) only [E,EE,↓reduceIte,simprocAttr,hh_27_7,hc_27_7])]
 clear c
 cases o1 with
 | o0 _ _ _ =>
  (try dsimp only at b)
  cases b
 | o1 i j l m =>
  (try dsimp only at b)
  have hJ:=f27_j4_ok k i j l m _ b
  simp (disch:=first|apply D;decide|apply K;kernel_rfl) only [E,EE,↓reduceIte,simprocAttr,R27_l3.st]
  try simp only [NM,EE] at hJ
  exact hJ
noncomputable def f27_e (k:Nat) (a b:List Int):Option R27 :=
 ifE ((0:Int)≤(IntKind.i64.wrap (((List.length a):Int)+((List.length b):Int)))) (
  ifE (((IntKind.i64.wrap (((List.length a):Int)+((List.length b):Int))):Int) * 1≤(roomy:Int)) (
   Option.bind (f27_l1 k k a b 0 []) fun o3 =>
    match o3 with
    | .o0 _ _ _ _ =>
     none
    | .o1 d e f g c =>
     f27_j2 k d e f g c))
theorem f27_e_ok (k c d r) (a:f27_e k c d=some r):finK Tryd.prog Tryd.f27 0 (EX 27 k (nav B27 []) (⟨41,[(0,.sl 1 (rowsOf (encI .u8) c)),(1,.sl 1 (rowsOf (encI .u8) d))],[]⟩:St))=some r.st:=by
 unfold f27_e at a
 obtain ⟨e,a⟩:=ifE_some.1 a
 obtain ⟨f,a⟩:=ifE_some.1 a
 obtain ⟨o3,h,a⟩:=bs a
 have b:=f27_l1_ok k k c d 0 [] _ h
 simp (disch:=first|apply D;decide|apply K;kernel_rfl) only [E,EE,↓reduceIte,simprocAttr,xk B27 [] .sq rfl,rg B27 [1] 0 false rfl,hr 27 0 rfl,xk B27 [2] .sq rfl,rg B27 [1,2] 1 false rfl,hr 27 1 rfl,t_25,makeV,intArg,sm_5,t_5,List.replicate_zero,xk B27 [2,2] .sq rfl,xk B27 [1,2,2] .sq rfl,rg B27 [1,1,2,2] 2 false rfl,hr 27 2 rfl,xk B27 [2,1,2,2] (.bk 0) rfl,xk B27 [2,2,1,2,2] .lp rfl,hh_27_3,hc_27_3,e,f]
 (try simp only [NM,EE] at b)
 rw [b _ (by simp (disch:=first|apply D;decide|apply K;kernel_rfl) only [E,EE,↓reduceIte,simprocAttr,hh_27_3,hc_27_3,e,f])]
 clear b
 cases o3 with
 | o0 _ _ _ _ =>
  (try dsimp only at a)
  cases a
 | o1 i j l m g =>
  (try dsimp only at a)
  have hJ:=f27_j2_ok k i j l m g _ a
  simp (disch:=first|apply D;decide|apply K;kernel_rfl) only [E,EE,↓reduceIte,simprocAttr,R27_l1.st,e,f]
  try simp only [NM,EE] at hJ
  exact hJ
noncomputable def f27 (k:Nat) (a b:List Int):Option R27:=match k with | 0=>none | k+1=>f27_e k a b
theorem f27_ok (k a b r) (d:f27 k a b=some r):CV k 27 [.sl 1 (rowsOf (encI .u8) a),.sl 1 (rowsOf (encI .u8) b)] []=some r.st:=by
 cases k with
 | zero=>cases d
 | succ k =>
  unfold CV
  rw [ev_call (F:=Tryd.f27) (c:=(nav B27 [])) rfl Tryd.func27 rfl rfl rfl rfl]
  exact f27_e_ok k a b r d
-- f26: f26 heliograph/heliographref07.Head
inductive R26 where
 | o0 (y:List Int)
noncomputable def R26.st:R26→V×List O×List O
 | .o0 y=>(.own 2000000,[],[.row true 1 5 (rowsOf (encI .u8) y)])
noncomputable def f26_j4 (k:Nat) (b c:Int) (d:Bool):Option R26 :=
 Option.bind (f39 k c 8) fun o3 =>
  match o3 with
  | .o0 e =>
   Option.bind (f27 k (([(IntKind.u8.wrap (IntKind.i64.wrap ((IntKind.i64.wrap ((32:Int) * b))+(27:Int))))]:List Int)) e) fun o7 =>
    match o7 with
    | .o0 a =>
     some (.o0 a)
theorem f26_j4_ok (k b f c r) (a:f26_j4 k b f c=some r):finK Tryd.prog Tryd.f26 0 (EX 26 k (nav B26 [2,2,2,2,2]) (⟨51,[(0,jI b),(1,.p (.int .u64 f)),(34,.p (.bool c))],[]⟩:St))=some r.st:=by
 unfold f26_j4 at a
 have g:[[.p (.int .u8 (IntKind.u8.wrap (IntKind.i64.wrap ((IntKind.i64.wrap ((32:Int) * b))+(27:Int)))))]]=rowsOf (encI .u8) ([(IntKind.u8.wrap (IntKind.i64.wrap ((IntKind.i64.wrap ((32:Int) * b))+(27:Int))))]:List Int):=rfl
 have h:List.map (tell [0]) (rowsOf (encI .u8) ([(IntKind.u8.wrap (IntKind.i64.wrap ((IntKind.i64.wrap ((32:Int) * b))+(27:Int))))]:List Int))=rowsOf (encI .u8) ([(IntKind.u8.wrap (IntKind.i64.wrap ((IntKind.i64.wrap ((32:Int) * b))+(27:Int))))]:List Int):=rfl
 obtain ⟨o3,i,a⟩:=bs a
 have d:=f39_ok k f 8 _ i
 cases o3 with
 | o0 j =>
  (try dsimp only at a)
  (try simp only [NM,EE,R39.st] at d)
  obtain ⟨o7,l,a⟩:=bs a
  have e:=f27_ok k (([(IntKind.u8.wrap (IntKind.i64.wrap ((IntKind.i64.wrap ((32:Int) * b))+(27:Int))))]:List Int)) j _ l
  cases o7 with
  | o0 m =>
   (try dsimp only at a)
   (try simp only [NM,EE,R27.st] at e)
   cases a
   simp (disch:=first|apply D;decide|apply K;kernel_rfl) only [E,EE,↓reduceIte,simprocAttr,xk B26 [2,2,2,2,2] .sq rfl,rg B26 [1,2,2,2,2,2] 9 false rfl,hr 26 9 rfl,t_3,t_5,convV,buildSliceV,raw_,cond_false,cond_true,fillRows,sm_5,t_25,callStep,CL,gv,List.contains,xk B26 [2,2,2,2,2,2] .rt rfl,fin26,R26.st,g,h,d,e]
noncomputable def f26_j3 (k:Nat) (c a:Int) (d:Bool):Option R26 :=
 cond ((decide (a<4294967296)))
  (
   Option.bind (f39 k a 4) fun o4 =>
    match o4 with
    | .o0 e =>
     Option.bind (f27 k (([(IntKind.u8.wrap (IntKind.i64.wrap ((IntKind.i64.wrap ((32:Int) * c))+(26:Int))))]:List Int)) e) fun o8 =>
      match o8 with
      | .o0 b =>
       some (.o0 b))
  (f26_j4 k c a false)
theorem f26_j3_ok (k b f d r) (a:f26_j3 k b f d=some r):finK Tryd.prog Tryd.f26 0 (EX 26 k (nav B26 [2,2,2,2]) (⟨51,[(0,jI b),(1,.p (.int .u64 f)),(24,.p (.bool d))],[]⟩:St))=some r.st:=by
 unfold f26_j3 at a
 simp (disch:=first|apply D;decide|apply K;kernel_rfl) only [E,EE,↓reduceIte,simprocAttr,xk B26 [2,2,2,2] .sq rfl,xk B26 [1,2,2,2,2] .sq rfl,rg B26 [1,1,2,2,2,2] 7 false rfl,hr 26 7 rfl,xk B26 [2,1,2,2,2,2] (.cd 34) rfl]
 rcases cond_some a with ⟨g,a⟩ | ⟨g,a⟩
 ·have h:[[.p (.int .u8 (IntKind.u8.wrap (IntKind.i64.wrap ((IntKind.i64.wrap ((32:Int) * b))+(26:Int)))))]]=rowsOf (encI .u8) ([(IntKind.u8.wrap (IntKind.i64.wrap ((IntKind.i64.wrap ((32:Int) * b))+(26:Int))))]:List Int):=rfl
  have i:List.map (tell [0]) (rowsOf (encI .u8) ([(IntKind.u8.wrap (IntKind.i64.wrap ((IntKind.i64.wrap ((32:Int) * b))+(26:Int))))]:List Int))=rowsOf (encI .u8) ([(IntKind.u8.wrap (IntKind.i64.wrap ((IntKind.i64.wrap ((32:Int) * b))+(26:Int))))]:List Int):=rfl
  obtain ⟨o4,j,a⟩:=bs a
  have e:=f39_ok k f 4 _ j
  cases o4 with
  | o0 l =>
   (try dsimp only at a)
   (try simp only [NM,EE,R39.st] at e)
   obtain ⟨o8,m,a⟩:=bs a
   have c:=f27_ok k (([(IntKind.u8.wrap (IntKind.i64.wrap ((IntKind.i64.wrap ((32:Int) * b))+(26:Int))))]:List Int)) l _ m
   cases o8 with
   | o0 o =>
    (try dsimp only at a)
    (try simp only [NM,EE,R27.st] at c)
    cases a
    simp (disch:=first|apply D;decide|apply K;kernel_rfl) only [E,EE,↓reduceIte,simprocAttr,xk B26 [2,2,1,2,2,2,2] .sq rfl,rg B26 [1,2,2,1,2,2,2,2] 8 false rfl,hr 26 8 rfl,t_3,t_5,convV,buildSliceV,raw_,cond_false,cond_true,fillRows,sm_5,t_25,callStep,CL,gv,List.contains,xk B26 [2,2,2,1,2,2,2,2] .rt rfl,fin26,R26.st,g,h,i,e,c]
 ·have hJ:=f26_j4_ok k b f false _ a
  simp (disch:=first|apply D;decide|apply K;kernel_rfl) only [E,EE,↓reduceIte,simprocAttr,xk B26 [3,2,1,2,2,2,2] .sk rfl,g]
  try simp only [NM,EE] at hJ
  exact hJ
noncomputable def f26_j2 (k:Nat) (c a:Int) (d:Bool):Option R26 :=
 cond ((decide (a<65536)))
  (
   Option.bind (f39 k a 2) fun o4 =>
    match o4 with
    | .o0 e =>
     Option.bind (f27 k (([(IntKind.u8.wrap (IntKind.i64.wrap ((IntKind.i64.wrap ((32:Int) * c))+(25:Int))))]:List Int)) e) fun o8 =>
      match o8 with
      | .o0 b =>
       some (.o0 b))
  (f26_j3 k c a false)
theorem f26_j2_ok (k b f d r) (a:f26_j2 k b f d=some r):finK Tryd.prog Tryd.f26 0 (EX 26 k (nav B26 [2,2,2]) (⟨51,[(0,jI b),(1,.p (.int .u64 f)),(15,.p (.bool d))],[]⟩:St))=some r.st:=by
 unfold f26_j2 at a
 simp (disch:=first|apply D;decide|apply K;kernel_rfl) only [E,EE,↓reduceIte,simprocAttr,xk B26 [2,2,2] .sq rfl,xk B26 [1,2,2,2] .sq rfl,rg B26 [1,1,2,2,2] 5 false rfl,hr 26 5 rfl,xk B26 [2,1,2,2,2] (.cd 24) rfl]
 rcases cond_some a with ⟨g,a⟩ | ⟨g,a⟩
 ·have h:[[.p (.int .u8 (IntKind.u8.wrap (IntKind.i64.wrap ((IntKind.i64.wrap ((32:Int) * b))+(25:Int)))))]]=rowsOf (encI .u8) ([(IntKind.u8.wrap (IntKind.i64.wrap ((IntKind.i64.wrap ((32:Int) * b))+(25:Int))))]:List Int):=rfl
  have i:List.map (tell [0]) (rowsOf (encI .u8) ([(IntKind.u8.wrap (IntKind.i64.wrap ((IntKind.i64.wrap ((32:Int) * b))+(25:Int))))]:List Int))=rowsOf (encI .u8) ([(IntKind.u8.wrap (IntKind.i64.wrap ((IntKind.i64.wrap ((32:Int) * b))+(25:Int))))]:List Int):=rfl
  obtain ⟨o4,j,a⟩:=bs a
  have e:=f39_ok k f 2 _ j
  cases o4 with
  | o0 l =>
   (try dsimp only at a)
   (try simp only [NM,EE,R39.st] at e)
   obtain ⟨o8,m,a⟩:=bs a
   have c:=f27_ok k (([(IntKind.u8.wrap (IntKind.i64.wrap ((IntKind.i64.wrap ((32:Int) * b))+(25:Int))))]:List Int)) l _ m
   cases o8 with
   | o0 o =>
    (try dsimp only at a)
    (try simp only [NM,EE,R27.st] at c)
    cases a
    simp (disch:=first|apply D;decide|apply K;kernel_rfl) only [E,EE,↓reduceIte,simprocAttr,xk B26 [2,2,1,2,2,2] .sq rfl,rg B26 [1,2,2,1,2,2,2] 6 false rfl,hr 26 6 rfl,t_3,t_5,convV,buildSliceV,raw_,cond_false,cond_true,fillRows,sm_5,t_25,callStep,CL,gv,List.contains,xk B26 [2,2,2,1,2,2,2] .rt rfl,fin26,R26.st,g,h,i,e,c]
 ·have hJ:=f26_j3_ok k b f false _ a
  simp (disch:=first|apply D;decide|apply K;kernel_rfl) only [E,EE,↓reduceIte,simprocAttr,xk B26 [3,2,1,2,2,2] .sk rfl,g]
  try simp only [NM,EE] at hJ
  exact hJ
noncomputable def f26_j1 (k:Nat) (b a:Int) (c:Bool):Option R26 :=
 cond ((decide (a<256)))
  (some (.o0 (([(IntKind.u8.wrap (IntKind.i64.wrap ((IntKind.i64.wrap ((32:Int) * b))+(24:Int)))),(IntKind.u8.wrap a)]:List Int))))
  (f26_j2 k b a false)
theorem f26_j1_ok (k a b e r) (c:f26_j1 k a b e=some r):finK Tryd.prog Tryd.f26 0 (EX 26 k (nav B26 [2,2]) (⟨51,[(0,jI a),(1,.p (.int .u64 b)),(6,.p (.bool e))],[]⟩:St))=some r.st:=by
 unfold f26_j1 at c
 simp (disch:=first|apply D;decide|apply K;kernel_rfl) only [E,EE,↓reduceIte,simprocAttr,xk B26 [2,2] .sq rfl,xk B26 [1,2,2] .sq rfl,rg B26 [1,1,2,2] 3 false rfl,hr 26 3 rfl,xk B26 [2,1,2,2] (.cd 15) rfl]
 rcases cond_some c with ⟨d,c⟩ | ⟨d,c⟩
 ·have f:[[.p (.int .u8 (IntKind.u8.wrap (IntKind.i64.wrap ((IntKind.i64.wrap ((32:Int) * a))+(24:Int)))))],[.p (.int .u8 (IntKind.u8.wrap b))]]=rowsOf (encI .u8) ([(IntKind.u8.wrap (IntKind.i64.wrap ((IntKind.i64.wrap ((32:Int) * a))+(24:Int)))),(IntKind.u8.wrap b)]:List Int):=rfl
  have g:List.map (tell [0]) (rowsOf (encI .u8) ([(IntKind.u8.wrap (IntKind.i64.wrap ((IntKind.i64.wrap ((32:Int) * a))+(24:Int)))),(IntKind.u8.wrap b)]:List Int))=rowsOf (encI .u8) ([(IntKind.u8.wrap (IntKind.i64.wrap ((IntKind.i64.wrap ((32:Int) * a))+(24:Int)))),(IntKind.u8.wrap b)]:List Int):=rfl
  cases c
  simp (disch:=first|apply D;decide|apply K;kernel_rfl) only [E,EE,↓reduceIte,simprocAttr,xk B26 [2,2,1,2,2] .sq rfl,rg B26 [1,2,2,1,2,2] 4 false rfl,hr 26 4 rfl,t_3,t_5,convV,t_24,buildSliceV,raw_,cond_false,cond_true,fillRows,sm_5,t_25,xk B26 [2,2,2,1,2,2] .rt rfl,fin26,R26.st,d,f,g]
 ·have hJ:=f26_j2_ok k a b false _ c
  simp (disch:=first|apply D;decide|apply K;kernel_rfl) only [E,EE,↓reduceIte,simprocAttr,xk B26 [3,2,1,2,2] .sk rfl,d]
  try simp only [NM,EE] at hJ
  exact hJ
noncomputable def f26_e (k:Nat) (b a:Int):Option R26 :=
 cond ((decide (a<24)))
  (some (.o0 (([(IntKind.u8.wrap (IntKind.i64.wrap ((IntKind.i64.wrap ((32:Int) * b))+(IntKind.i64.wrap a))))]:List Int))))
  (f26_j1 k b a false)
theorem f26_e_ok (k a b r) (c:f26_e k a b=some r):finK Tryd.prog Tryd.f26 0 (EX 26 k (nav B26 []) (⟨51,[(0,jI a),(1,.p (.int .u64 b))],[]⟩:St))=some r.st:=by
 unfold f26_e at c
 simp (disch:=first|apply D;decide|apply K;kernel_rfl) only [E,EE,↓reduceIte,simprocAttr,xk B26 [] .sq rfl,rg B26 [1] 0 false rfl,hr 26 0 rfl,xk B26 [2] .sq rfl,xk B26 [1,2] .sq rfl,rg B26 [1,1,2] 1 false rfl,hr 26 1 rfl,xk B26 [2,1,2] (.cd 6) rfl]
 rcases cond_some c with ⟨d,c⟩ | ⟨d,c⟩
 ·have e:[[.p (.int .u8 (IntKind.u8.wrap (IntKind.i64.wrap ((IntKind.i64.wrap ((32:Int) * a))+(IntKind.i64.wrap b)))))]]=rowsOf (encI .u8) ([(IntKind.u8.wrap (IntKind.i64.wrap ((IntKind.i64.wrap ((32:Int) * a))+(IntKind.i64.wrap b))))]:List Int):=rfl
  have f:List.map (tell [0]) (rowsOf (encI .u8) ([(IntKind.u8.wrap (IntKind.i64.wrap ((IntKind.i64.wrap ((32:Int) * a))+(IntKind.i64.wrap b))))]:List Int))=rowsOf (encI .u8) ([(IntKind.u8.wrap (IntKind.i64.wrap ((IntKind.i64.wrap ((32:Int) * a))+(IntKind.i64.wrap b))))]:List Int):=rfl
  cases c
  simp (disch:=first|apply D;decide|apply K;kernel_rfl) only [E,EE,↓reduceIte,simprocAttr,xk B26 [2,2,1,2] .sq rfl,rg B26 [1,2,2,1,2] 2 false rfl,hr 26 2 rfl,t_24,t_3,convV,t_5,buildSliceV,raw_,cond_false,cond_true,fillRows,sm_5,t_25,xk B26 [2,2,2,1,2] .rt rfl,fin26,R26.st,d,e,f]
 ·have hJ:=f26_j1_ok k a b false _ c
  simp (disch:=first|apply D;decide|apply K;kernel_rfl) only [E,EE,↓reduceIte,simprocAttr,xk B26 [3,2,1,2] .sk rfl,d]
  try simp only [NM,EE] at hJ
  exact hJ
noncomputable def f26 (k:Nat) (a b:Int):Option R26:=match k with | 0=>none | k+1=>f26_e k a b
theorem f26_ok (k a b r) (d:f26 k a b=some r):CV k 26 [jI a,.p (.int .u64 b)] []=some r.st:=by
 cases k with
 | zero=>cases d
 | succ k =>
  unfold CV
  rw [ev_call (F:=Tryd.f26) (c:=(nav B26 [])) rfl Tryd.func26 rfl rfl rfl rfl]
  exact f26_e_ok k a b r d
end Go.Proofs.YtlelaenalbkbmaaDoorV