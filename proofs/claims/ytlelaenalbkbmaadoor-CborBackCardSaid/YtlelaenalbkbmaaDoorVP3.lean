/- What the program's functions answer: plain functions,and that the interpreter answers what they do. Written by a program of this session,out of the translation. -/
import Derived.Test.YtlelaenalbkbmaaDoorVP2
namespace Go.Proofs.YtlelaenalbkbmaaDoorV
open Go
set_option linter.unusedVariables false
set_option linter.unusedSimpArgs false
set_option maxRecDepth 8000
set_option maxHeartbeats 4000000
-- f25: f25 heliograph/cbor.may
inductive R25 where
 | o0 (y:Bool)
noncomputable def R25.st:R25→V×List O×List O
 | .o0 y=>(.p (.bool y),[],[])
inductive R25_l2 where
 | o0 (y:Bool)
 | o1 (y:Int) (a:List T28) (b c:Int)
 | o2 (y:Int) (a:List T28) (b c:Int) (d:Bool)
noncomputable def R25_l2.st:R25_l2→Out×St
 | .o0 y=>(.ret,(⟨50,[(4,.p (.bool y))],[]⟩:St))
 | .o1 y a b c=>(.norm,(⟨50,[(1,jI y),(38,.sl 4 (rowsOf encT28 a)),(39,jI b),(40,jI c)],[]⟩:St))
 | .o2 y a b c d=>(.exit 0,(⟨50,[(1,jI y),(38,.sl 4 (rowsOf encT28 a)),(39,jI b),(40,jI c),(41,.p (.bool d))],[]⟩:St))
noncomputable def f25_l2_j2 (k:Nat) (q_f25_aiirrzi:Int→Int→(List Int)→(List T28)→Int→Option R25) (d:Int) (a:List T28) (b c:Int) (e:Bool):Option R25_l2 :=
 some (.o1 d a b (IntKind.i64.wrap (c+(1:Int))))
theorem f25_l2_j2_ok (k:Nat) (q_f25_aiirrzi:Int→Int→(List Int)→(List T28)→Int→Option R25) (hq_f25_aiirrzi:∀ (h a:Int) (b:List Int) (c:List T28) (i:Int) (r:R25),q_f25_aiirrzi h a b c i=some r→CV k 25 [.agg [jI h,.p (.int .u64 a),.sl 1 (rowsOf (encI .u8) b),.sl 4 (rowsOf encT28 c)],jI i] []=some r.st) (j:Int) (d:List T28) (e f:Int) (g:Bool) (r:R25_l2) (l:f25_l2_j2 k q_f25_aiirrzi j d e f g=some r):EX 25 k (nav B25 [2,2,2,1,2,2,1,2,2]) (⟨50,[(1,jI j),(38,.sl 4 (rowsOf encT28 d)),(39,jI e),(40,jI f),(48,.p (.bool g))],[]⟩:St)=some r.st:=by
 unfold f25_l2_j2 at l
 cases l
 simp (disch:=first|apply D;decide|apply K;kernel_rfl) only [E,EE,↓reduceIte,simprocAttr,rg B25 [2,2,2,1,2,2,1,2,2] 8 false rfl,hr 25 8 rfl,R25_l2.st]
noncomputable def f25_l2_j1 (k:Nat) (q_f25_aiirrzi:Int→Int→(List Int)→(List T28)→Int→Option R25) (e:Int) (b:List T28) (d a:Int) (f:Bool):Option R25_l2 :=
 ifE ((0:Int)≤a) (
  Option.bind (b[(Int.toNat a)]?) fun c =>
   Option.bind (q_f25_aiirrzi c.Kind c.Num c.Bytes c.Items (IntKind.i64.wrap (e - (1:Int)))) fun o4 =>
    match o4 with
    | .o0 g =>
     cond ((!g))
      (some (.o0 false))
      (f25_l2_j2 k q_f25_aiirrzi e b d a false))
theorem f25_l2_j1_ok (k:Nat) (q_f25_aiirrzi:Int→Int→(List Int)→(List T28)→Int→Option R25) (hq_f25_aiirrzi:∀ (q c:Int) (d:List Int) (e:List T28) (s:Int) (r:R25),q_f25_aiirrzi q c d e s=some r→CV k 25 [.agg [jI q,.p (.int .u64 c),.sl 1 (rowsOf (encI .u8) d),.sl 4 (rowsOf encT28 e)],jI s] []=some r.st) (j:Int) (f:List T28) (g h:Int) (i:Bool) (r:R25_l2) (a:f25_l2_j1 k q_f25_aiirrzi j f g h i=some r):EX 25 k (nav B25 [2,2,1,2,2,1,2,2]) (⟨50,[(1,jI j),(38,.sl 4 (rowsOf encT28 f)),(39,jI g),(40,jI h),(41,.p (.bool i))],[]⟩:St)=some r.st:=by
 unfold f25_l2_j1 at a
 obtain ⟨m,a⟩:=ifE_some.1 a
 obtain ⟨l,o,a⟩:=bs a
 obtain ⟨o4,t,a⟩:=bs a
 have b:=hq_f25_aiirrzi l.Kind l.Num l.Bytes l.Items (IntKind.i64.wrap (j - (1:Int))) _ t
 cases o4 with
 | o0 u =>
  (try dsimp only at a)
  (try simp only [NM,EE,R25.st] at b)
  simp (disch:=first|apply D;decide|apply K;kernel_rfl) only [E,EE,↓reduceIte,simprocAttr,xk B25 [2,2,1,2,2,1,2,2] .sq rfl,xk B25 [1,2,2,1,2,2,1,2,2] (.bk 1) rfl,xk B25 [2,1,2,2,1,2,2,1,2,2] .sq rfl,rg B25 [1,2,1,2,2,1,2,2,1,2,2] 5 false rfl,hr 25 5 rfl,indexAddrV,t_26,t_28,encT28_eq,xk B25 [2,2,1,2,2,1,2,2,1,2,2] .sq rfl,rg B25 [1,2,2,1,2,2,1,2,2,1,2,2] 6 false rfl,hr 25 6 rfl,callStep,CL,gv,List.contains,xk B25 [2,2,2,1,2,2,1,2,2,1,2,2] (.cd 48) rfl,m,o,b]
  rcases cond_some a with ⟨p,a⟩ | ⟨p,a⟩
  ·cases a
   simp (disch:=first|apply D;decide|apply K;kernel_rfl) only [E,EE,↓reduceIte,simprocAttr,xk B25 [2,2,2,2,1,2,2,1,2,2,1,2,2] .sq rfl,rg B25 [1,2,2,2,2,1,2,2,1,2,2,1,2,2] 7 false rfl,hr 25 7 rfl,xk B25 [2,2,2,2,2,1,2,2,1,2,2,1,2,2] .rt rfl,R25_l2.st,m,o,b,p]
  ·have hJ:=f25_l2_j2_ok k q_f25_aiirrzi hq_f25_aiirrzi j f g h false _ a
   simp (disch:=first|apply D;decide|apply K;kernel_rfl) only [E,EE,↓reduceIte,simprocAttr,xk B25 [3,2,2,2,1,2,2,1,2,2,1,2,2] .sk rfl,m,o,b,p]
   try simp only [NM,EE] at hJ
   exact hJ
noncomputable def f25_l2_b (k:Nat) (q_f25_aiirrzi:Int→Int→(List Int)→(List T28)→Int→Option R25) (d:Int) (c:List T28) (a b:Int):Option R25_l2 :=
 cond ((decide (b<a)))
  (f25_l2_j1 k q_f25_aiirrzi d c a b true)
  (some (.o2 d c a b false))
theorem f25_l2_b_ok (k:Nat) (q_f25_aiirrzi:Int→Int→(List Int)→(List T28)→Int→Option R25) (hq_f25_aiirrzi:∀ (j a:Int) (b:List Int) (c:List T28) (l:Int) (r:R25),q_f25_aiirrzi j a b c l=some r→CV k 25 [.agg [jI j,.p (.int .u64 a),.sl 1 (rowsOf (encI .u8) b),.sl 4 (rowsOf encT28 c)],jI l] []=some r.st) (h:Int) (d:List T28) (e f:Int) (r:R25_l2) (g:f25_l2_b k q_f25_aiirrzi h d e f=some r):EX 25 k (nav B25 [1,2,2,1,2,2]) (⟨50,[(1,jI h),(38,.sl 4 (rowsOf encT28 d)),(39,jI e),(40,jI f)],[]⟩:St)=some r.st:=by
 unfold f25_l2_b at g
 simp (disch:=first|apply D;decide|apply K;kernel_rfl) only [E,EE,↓reduceIte,simprocAttr,xk B25 [1,2,2,1,2,2] .sq rfl,rg B25 [1,1,2,2,1,2,2] 4 false rfl,hr 25 4 rfl,xk B25 [2,1,2,2,1,2,2] .sq rfl,xk B25 [1,2,1,2,2,1,2,2] (.cd 41) rfl]
 rcases cond_some g with ⟨i,g⟩ | ⟨i,g⟩
 ·have hJ:=f25_l2_j1_ok k q_f25_aiirrzi hq_f25_aiirrzi h d e f true _ g
  simp (disch:=first|apply D;decide|apply K;kernel_rfl) only [E,EE,↓reduceIte,simprocAttr,xk B25 [2,1,2,1,2,2,1,2,2] .sk rfl,i]
  try simp only [NM,EE] at hJ
  exact hJ
 ·cases g
  simp (disch:=first|apply D;decide|apply K;kernel_rfl) only [E,EE,↓reduceIte,simprocAttr,xk B25 [3,1,2,1,2,2,1,2,2] (.ex 0) rfl,R25_l2.st,i]
noncomputable def f25_l2 (k:Nat) (q_f25_aiirrzi:Int→Int→(List Int)→(List T28)→Int→Option R25):Nat→Int→(List T28)→Int→Int→Option R25_l2
 | 0,_,_,_,_=>none
 | n+1,h,d,e,f=>Option.bind (f25_l2_b k q_f25_aiirrzi h d e f) fun o =>
  match o with
  | .o0 y=>some (.o0 y)
  | .o1 y a b c=>f25_l2 k q_f25_aiirrzi n y a b c
  | .o2 y a b c g=>some (.o2 y a b c g)
theorem f25_l2_ok (k:Nat) (q_f25_aiirrzi:Int→Int→(List Int)→(List T28)→Int→Option R25) (hq_f25_aiirrzi:∀ (p e:Int) (f:List Int) (g:List T28) (q:Int) (r:R25),q_f25_aiirrzi p e f g q=some r→CV k 25 [.agg [jI p,.p (.int .u64 e),.sl 1 (rowsOf (encI .u8) f),.sl 4 (rowsOf encT28 g)],jI q] []=some r.st) (n:Nat):∀ (i:Int) (a:List T28) (b c:Int) (r:R25_l2) (d:f25_l2 k q_f25_aiirrzi n i a b c=some r) (σ:St) (hσ:headR (hints.head 25 4) (hints.canon 25 4) σ=some (⟨50,[(1,jI i),(38,.sl 4 (rowsOf encT28 a)),(39,jI b),(40,jI c)],[]⟩:St)),LP 25 k (nav B25 [1,2,2,1,2,2]) n σ=some r.st:=by
 induction n with
 | zero=>intro i a b c r d;cases d
 | succ n s =>
  intro i a b c r d σ hσ
  rw [f25_l2] at d
  obtain ⟨o,h,d⟩:=Option.bind_eq_some_iff.1 d
  have hB:=f25_l2_b_ok k q_f25_aiirrzi hq_f25_aiirrzi i a b c o h
  unfold LP at s ⊢
  unfold EX at hB
  rw [loopK_succ,show firstReg (nav B25 [1,2,2,1,2,2])=4 from rfl,hσ,headK_some,hB]
  cases o with
  | o0 y=>cases d;rfl
  | o1 y j l m =>
   refine s y j l m r d _ ?_
   simp (disch:=first|apply D;decide|apply K;kernel_rfl) only [E,EE,↓reduceIte,simprocAttr,hh_25_4,hc_25_4]
  | o2 y j l m t=>cases d;rfl
noncomputable def f25_j3 (k:Nat) (q_f25_aiirrzi:Int→Int→(List Int)→(List T28)→Int→Option R25) (e:Int) (a:List T28) (b c:Int) (d:Bool):Option R25 :=
 some (.o0 true)
theorem f25_j3_ok (k:Nat) (q_f25_aiirrzi:Int→Int→(List Int)→(List T28)→Int→Option R25) (hq_f25_aiirrzi:∀ (h a:Int) (b:List Int) (c:List T28) (i:Int) (r:R25),q_f25_aiirrzi h a b c i=some r→CV k 25 [.agg [jI h,.p (.int .u64 a),.sl 1 (rowsOf (encI .u8) b),.sl 4 (rowsOf encT28 c)],jI i] []=some r.st) (j:Int) (d:List T28) (e f:Int) (g:Bool) (r:R25) (l:f25_j3 k q_f25_aiirrzi j d e f g=some r):finK Tryd.prog Tryd.f25 0 (EX 25 k (nav B25 [2,2,2]) (⟨50,[(1,jI j),(38,.sl 4 (rowsOf encT28 d)),(39,jI e),(40,jI f),(41,.p (.bool g))],[]⟩:St))=some r.st:=by
 unfold f25_j3 at l
 cases l
 simp (disch:=first|apply D;decide|apply K;kernel_rfl) only [E,EE,↓reduceIte,simprocAttr,xk B25 [2,2,2] .sq rfl,rg B25 [1,2,2,2] 9 false rfl,hr 25 9 rfl,xk B25 [2,2,2,2] .rt rfl,fin25,R25.st]
noncomputable def f25_j1 (k:Nat) (q_f25_aiirrzi:Int→Int→(List Int)→(List T28)→Int→Option R25) (d:Int) (e:Bool) (m b:Int) (c:List Int) (a:List T28):Option R25 :=
 Option.bind (f25_l2 k q_f25_aiirrzi k d a ((List.length a):Int) 0) fun o1 =>
  match o1 with
  | .o0 f =>
   some (.o0 f)
  | .o1 _ _ _ _ =>
   none
  | .o2 g h i j l =>
   f25_j3 k q_f25_aiirrzi g h i j l
theorem f25_j1_ok (k:Nat) (q_f25_aiirrzi:Int→Int→(List Int)→(List T28)→Int→Option R25) (hq_f25_aiirrzi:∀ (l c:Int) (d:List Int) (e:List T28) (m:Int) (r:R25),q_f25_aiirrzi l c d e m=some r→CV k 25 [.agg [jI l,.p (.int .u64 c),.sl 1 (rowsOf (encI .u8) d),.sl 4 (rowsOf encT28 e)],jI m] []=some r.st) (j:Int) (i:Bool) (o f:Int) (g:List Int) (a:List T28) (r:R25) (b:f25_j1 k q_f25_aiirrzi j i o f g a=some r):finK Tryd.prog Tryd.f25 0 (EX 25 k (nav B25 [2,2]) (⟨50,[(1,jI j),(2,.ptr 2 0),(36,.p (.bool i))],[(2,.box 28 [jI o,.p (.int .u64 f),.sl 1 (rowsOf (encI .u8) g),.sl 4 (rowsOf encT28 a)])]⟩:St))=some r.st:=by
 unfold f25_j1 at b
 obtain ⟨o1,p,b⟩:=bs b
 have h:=f25_l2_ok k q_f25_aiirrzi hq_f25_aiirrzi k j a ((List.length a):Int) 0 _ p
 simp (disch:=first|apply D;decide|apply K;kernel_rfl) only [E,EE,↓reduceIte,simprocAttr,xk B25 [2,2] .sq rfl,xk B25 [1,2,2] .sq rfl,rg B25 [1,1,2,2] 3 false rfl,hr 25 3 rfl,fieldAddrV,t_28,t_26,xk B25 [2,1,2,2] (.bk 0) rfl,xk B25 [2,2,1,2,2] .lp rfl,hh_25_4,hc_25_4]
 (try simp only [NM,EE] at h)
 rw [h _ (by simp (disch:=first|apply D;decide|apply K;kernel_rfl) only [E,EE,↓reduceIte,simprocAttr,hh_25_4,hc_25_4])]
 clear h
 cases o1 with
 | o0 w =>
  (try dsimp only at b)
  cases b
  simp (disch:=first|apply D;decide|apply K;kernel_rfl) only [E,EE,↓reduceIte,simprocAttr,R25_l2.st,fin25,R25.st]
 | o1 _ _ _ _ =>
  (try dsimp only at b)
  cases b
 | o2 q s t u v =>
  (try dsimp only at b)
  have hJ:=f25_j3_ok k q_f25_aiirrzi hq_f25_aiirrzi q s t u v _ b
  simp (disch:=first|apply D;decide|apply K;kernel_rfl) only [E,EE,↓reduceIte,simprocAttr,R25_l2.st]
  try simp only [NM,EE] at hJ
  exact hJ
noncomputable def f25_e (k:Nat) (q_f25_aiirrzi:Int→Int→(List Int)→(List T28)→Int→Option R25) (d c:Int) (a:List Int) (b:List T28) (e:Int):Option R25 :=
 cond ((e==0))
  (some (.o0 false))
  (
   Option.bind (f37 k d c a b) fun o2 =>
    match o2 with
    | .o0 g =>
     cond ((!g))
      (some (.o0 false))
      (
       cond ((decide (((List.length a):Int)>512)))
        (some (.o0 false))
        (
         cond ((decide (((List.length b):Int)>64)))
          (some (.o0 false))
          (
           cond ((d==3))
            (
             Option.bind (f38 k a) fun o10 =>
              match o10 with
              | .o0 f =>
               cond ((!f))
                (some (.o0 false))
                (f25_j1 k q_f25_aiirrzi e false d c a b))
            (f25_j1 k q_f25_aiirrzi e false d c a b)))))
theorem f25_e_ok (k:Nat) (q_f25_aiirrzi:Int→Int→(List Int)→(List T28)→Int→Option R25) (hq_f25_aiirrzi:∀ (j c:Int) (b:List Int) (d:List T28) (l:Int) (r:R25),q_f25_aiirrzi j c b d l=some r→CV k 25 [.agg [jI j,.p (.int .u64 c),.sl 1 (rowsOf (encI .u8) b),.sl 4 (rowsOf encT28 d)],jI l] []=some r.st) (j c:Int) (b:List Int) (d:List T28) (l:Int) (r:R25) (a:f25_e k q_f25_aiirrzi j c b d l=some r):finK Tryd.prog Tryd.f25 0 (EX 25 k (nav B25 []) (⟨50,[(0,.agg [jI j,.p (.int .u64 c),.sl 1 (rowsOf (encI .u8) b),.sl 4 (rowsOf encT28 d)]),(1,jI l)],[]⟩:St))=some r.st:=by
 unfold f25_e at a
 simp (disch:=first|apply D;decide|apply K;kernel_rfl) only [E,EE,↓reduceIte,simprocAttr,xk B25 [] .sq rfl,rg B25 [1] 0 false rfl,hr 25 0 rfl,xk B25 [2] .sq rfl,xk B25 [1,2] .sq rfl,rg B25 [1,1,2] 1 false rfl,hr 25 1 rfl]
 rcases cond_some a with ⟨g,a⟩ | ⟨g,a⟩
 ·cases a
  simp (disch:=first|apply D;decide|apply K;kernel_rfl) only [E,EE,↓reduceIte,simprocAttr,xk B25 [2,1,2] (.cd 36) rfl,xk B25 [2,2,1,2] .sq rfl,rg B25 [1,2,2,1,2] 2 false rfl,hr 25 2 rfl,xk B25 [2,2,2,1,2] .rt rfl,fin25,R25.st,g]
 ·obtain ⟨o2,s,a⟩:=bs a
  have e:=f37_ok k j c b d _ s
  cases o2 with
  | o0 u =>
   (try dsimp only at a)
   (try simp only [NM,EE,R37.st] at e)
   simp (disch:=first|apply D;decide|apply K;kernel_rfl) only [E,EE,↓reduceIte,simprocAttr,t_28,callStep,CL,gv,List.contains,g,e]
   rcases cond_some a with ⟨h,a⟩ | ⟨h,a⟩
   ·cases a
    simp (disch:=first|apply D;decide|apply K;kernel_rfl) only [E,EE,↓reduceIte,simprocAttr,xk B25 [2,1,2] (.cd 36) rfl,xk B25 [2,2,1,2] .sq rfl,rg B25 [1,2,2,1,2] 2 false rfl,hr 25 2 rfl,xk B25 [2,2,2,1,2] .rt rfl,fin25,R25.st,g,e,h]
   ·simp (disch:=first|apply D;decide|apply K;kernel_rfl) only [E,EE,↓reduceIte,simprocAttr,fieldAddrV,t_28,t_25,g,e,h]
    rcases cond_some a with ⟨i,a⟩ | ⟨i,a⟩
    ·cases a
     simp (disch:=first|apply D;decide|apply K;kernel_rfl) only [E,EE,↓reduceIte,simprocAttr,xk B25 [2,1,2] (.cd 36) rfl,xk B25 [2,2,1,2] .sq rfl,rg B25 [1,2,2,1,2] 2 false rfl,hr 25 2 rfl,xk B25 [2,2,2,1,2] .rt rfl,fin25,R25.st,g,e,h,i]
    ·simp (disch:=first|apply D;decide|apply K;kernel_rfl) only [E,EE,↓reduceIte,simprocAttr,fieldAddrV,t_28,t_26,g,e,h,i]
     rcases cond_some a with ⟨m,a⟩ | ⟨m,a⟩
     ·cases a
      simp (disch:=first|apply D;decide|apply K;kernel_rfl) only [E,EE,↓reduceIte,simprocAttr,xk B25 [2,1,2] (.cd 36) rfl,xk B25 [2,2,1,2] .sq rfl,rg B25 [1,2,2,1,2] 2 false rfl,hr 25 2 rfl,xk B25 [2,2,2,1,2] .rt rfl,fin25,R25.st,g,e,h,i,m]
     ·simp (disch:=first|apply D;decide|apply K;kernel_rfl) only [E,EE,↓reduceIte,simprocAttr,fieldAddrV,t_28,t_3,g,e,h,i,m]
      rcases cond_some a with ⟨p,a⟩ | ⟨p,a⟩
      ·obtain ⟨o10,q,a⟩:=bs a
       have f:=f38_ok k b _ q
       cases o10 with
       | o0 t =>
        (try dsimp only at a)
        (try simp only [NM,EE,R38.st] at f)
        simp (disch:=first|apply D;decide|apply K;kernel_rfl) only [E,EE,↓reduceIte,simprocAttr,fieldAddrV,t_28,t_25,callStep,CL,gv,List.contains,xk B25 [2,1,2] (.cd 36) rfl,g,e,h,i,m,p,f]
        rcases cond_some a with ⟨o,a⟩ | ⟨o,a⟩
        ·cases a
         simp (disch:=first|apply D;decide|apply K;kernel_rfl) only [E,EE,↓reduceIte,simprocAttr,xk B25 [2,2,1,2] .sq rfl,rg B25 [1,2,2,1,2] 2 false rfl,hr 25 2 rfl,xk B25 [2,2,2,1,2] .rt rfl,fin25,R25.st,g,e,h,i,m,p,f,o]
        ·have hJ:=f25_j1_ok k q_f25_aiirrzi hq_f25_aiirrzi l false j c b d _ a
         simp (disch:=first|apply D;decide|apply K;kernel_rfl) only [E,EE,↓reduceIte,simprocAttr,xk B25 [3,2,1,2] .sk rfl,g,e,h,i,m,p,f,o]
         try simp only [NM,EE] at hJ
         exact hJ
      ·have hJ:=f25_j1_ok k q_f25_aiirrzi hq_f25_aiirrzi l false j c b d _ a
       simp (disch:=first|apply D;decide|apply K;kernel_rfl) only [E,EE,↓reduceIte,simprocAttr,xk B25 [2,1,2] (.cd 36) rfl,xk B25 [3,2,1,2] .sk rfl,g,e,h,i,m,p]
       try simp only [NM,EE] at hJ
       exact hJ
noncomputable def f25:Nat→Int→Int→(List Int)→(List T28)→Int→Option R25
 | 0,_,_,_,_,_=>none
 | k+1,d,a,b,c,e=>f25_e k (f25 k) d a b c e
theorem f25_all (k:Nat):(∀ (e a:Int) (b:List Int) (d:List T28) (f:Int) (r:R25),f25 k e a b d f=some r→CV k 25 [.agg [jI e,.p (.int .u64 a),.sl 1 (rowsOf (encI .u8) b),.sl 4 (rowsOf encT28 d)],jI f] []=some r.st):=by
 induction k with
 | zero=>exact (by intro e a b d f r g;rw [f25] at g;cases g)
 | succ k h =>
  have ih_f25_aiirrzi:=h
  exact (by intro e a b d f r g;rw [f25] at g;unfold CV;rw [ev_call (F:=Tryd.f25) (c:=(nav B25 [])) rfl Tryd.func25 rfl rfl rfl rfl];exact f25_e_ok k (f25 k) ih_f25_aiirrzi e a b d f r g)
theorem f25_ok (k d a b c e r) (f:f25 k d a b c e=some r):CV k 25 [.agg [jI d,.p (.int .u64 a),.sl 1 (rowsOf (encI .u8) b),.sl 4 (rowsOf encT28 c)],jI e] []=some r.st:=f25_all k d a b c e r f
-- f13: f13 heliograph/cbor.Check
inductive R13 where
 | o0 (y:Int)
noncomputable def R13.st:R13→V×List O×List O
 | .o0 y=>((jI y),[],[])
noncomputable def f13_j1 (k:Nat) (a:Bool):Option R13 :=
 some (.o0 0)
theorem f13_j1_ok (k a r) (b:f13_j1 k a=some r):finK Tryd.prog Tryd.f13 0 (EX 13 k (nav B13 [2,2]) (⟨6,[(5,.p (.bool a))],[]⟩:St))=some r.st:=by
 unfold f13_j1 at b
 cases b
 simp (disch:=first|apply D;decide|apply K;kernel_rfl) only [E,EE,↓reduceIte,simprocAttr,xk B13 [2,2] .sq rfl,rg B13 [1,2,2] 3 false rfl,hr 13 3 rfl,xk B13 [2,2,2] .rt rfl,fin13,R13.st]
noncomputable def f13_e (k:Nat) (d a:Int) (b:List Int) (c:List T28):Option R13 :=
 Option.bind (f25 k d a b c 4) fun o1 =>
  match o1 with
  | .o0 e =>
   cond ((!e))
    (some (.o0 170))
    (f13_j1 k false)
theorem f13_e_ok (k f a b c r) (d:f13_e k f a b c=some r):finK Tryd.prog Tryd.f13 0 (EX 13 k (nav B13 []) (⟨6,[(0,.agg [jI f,.p (.int .u64 a),.sl 1 (rowsOf (encI .u8) b),.sl 4 (rowsOf encT28 c)])],[]⟩:St))=some r.st:=by
 unfold f13_e at d
 obtain ⟨o1,h,d⟩:=bs d
 have e:=f25_ok k f a b c 4 _ h
 cases o1 with
 | o0 i =>
  (try dsimp only at d)
  (try simp only [NM,EE,R25.st] at e)
  simp (disch:=first|apply D;decide|apply K;kernel_rfl) only [E,EE,↓reduceIte,simprocAttr,xk B13 [] .sq rfl,rg B13 [1] 0 false rfl,hr 13 0 rfl,xk B13 [2] .sq rfl,xk B13 [1,2] .sq rfl,rg B13 [1,1,2] 1 false rfl,hr 13 1 rfl,t_28,callStep,CL,gv,List.contains,xk B13 [2,1,2] (.cd 5) rfl,e]
  rcases cond_some d with ⟨g,d⟩ | ⟨g,d⟩
  ·cases d
   simp (disch:=first|apply D;decide|apply K;kernel_rfl) only [E,EE,↓reduceIte,simprocAttr,xk B13 [2,2,1,2] .sq rfl,rg B13 [1,2,2,1,2] 2 false rfl,hr 13 2 rfl,xk B13 [2,2,2,1,2] .rt rfl,fin13,R13.st,e,g]
  ·have hJ:=f13_j1_ok k false _ d
   simp (disch:=first|apply D;decide|apply K;kernel_rfl) only [E,EE,↓reduceIte,simprocAttr,xk B13 [3,2,1,2] .sk rfl,e,g]
   try simp only [NM,EE] at hJ
   exact hJ
noncomputable def f13 (k:Nat) (d a:Int) (b:List Int) (c:List T28):Option R13:=match k with | 0=>none | k+1=>f13_e k d a b c
theorem f13_ok (k e a b d r) (f:f13 k e a b d=some r):CV k 13 [.agg [jI e,.p (.int .u64 a),.sl 1 (rowsOf (encI .u8) b),.sl 4 (rowsOf encT28 d)]] []=some r.st:=by
 cases k with
 | zero=>cases f
 | succ k =>
  unfold CV
  rw [ev_call (F:=Tryd.f13) (c:=(nav B13 [])) rfl Tryd.func13 rfl rfl rfl rfl]
  exact f13_e_ok k e a b d r f
-- f34: f34 heliograph/cbor.types
inductive R34 where
 | o0 (y:Int)
noncomputable def R34.st:R34→V×List O×List O
 | .o0 y=>(.p (.int .u8 y),[],[])
noncomputable def f34_e (k:Nat) (a:Int):Option R34 :=
 ifE ((0:Int)≤a) (
  ifE (a<5) (
   Option.bind (([0,0,2,3,4]:List Int)[(Int.toNat a)]?) fun b =>
    some (.o0 b)))
theorem f34_e_ok (k b r) (a:f34_e k b=some r):finK Tryd.prog Tryd.f34 0 (EX 34 k (nav B34 []) (⟨6,[(0,jI b)],[]⟩:St))=some r.st:=by
 unfold f34_e at a
 have c:[.p (.int .u8 0),.p (.int .u8 0),.p (.int .u8 2),.p (.int .u8 3),.p (.int .u8 4)]=arrC (cI .u8) ([0,0,2,3,4]:List Int):=rfl
 have d:overlay (arrC (cI .u8) ([0,0,2,3,4]:List Int)) 0 [.p (.int .u8 0)]=arrC (cI .u8) ([0,0,2,3,4]:List Int):=rfl
 have e:overlay (arrC (cI .u8) ([0,0,2,3,4]:List Int)) 1 [.p (.int .u8 0)]=arrC (cI .u8) ([0,0,2,3,4]:List Int):=rfl
 obtain ⟨f,a⟩:=ifE_some.1 a
 obtain ⟨g,a⟩:=ifE_some.1 a
 obtain ⟨i,h,a⟩:=bs a
 cases a
 simp (disch:=first|apply D;decide|apply K;kernel_rfl) only [E,EE,↓reduceIte,simprocAttr,xk B34 [] .sq rfl,rg B34 [1] 0 false rfl,hr 34 0 rfl,xk B34 [2] .sq rfl,rg B34 [1,2] 1 false rfl,hr 34 1 rfl,bl_74,t_74,arrIdxV,t_5,xk B34 [2,2] .rt rfl,fin34,R34.st,c,d,e,f,g,h]
noncomputable def f34 (k:Nat) (a:Int):Option R34:=match k with | 0=>none | k+1=>f34_e k a
theorem f34_ok (k a r) (b:f34 k a=some r):CV k 34 [jI a] []=some r.st:=by
 cases k with
 | zero=>cases b
 | succ k =>
  unfold CV
  rw [ev_call (F:=Tryd.f34) (c:=(nav B34 [])) rfl Tryd.func34 rfl rfl rfl rfl]
  exact f34_e_ok k a r b
-- f28: f28 slices.Clone[[]byte,byte]
inductive R28 where
 | o0 (y:List Int)
noncomputable def R28.st:R28→V×List O×List O
 | .o0 y=>(.own 2000000,[],[.row true 1 5 (rowsOf (encI .u8) y)])
noncomputable def f28 (k:Nat) (a:List Int):Option R28:=match k with | 0=>none | _+1=>ifE (a.length * 1≤roomy) (some (.o0 a))
theorem f28_ok (k b r) (a:f28 k b=some r):CV k 28 [.sl 1 (rowsOf (encI .u8) b)] []=some r.st:=by
 cases k with
 | zero=>cases a
 | succ k =>
  obtain ⟨h,a⟩:=ifE_some.1 a
  cases a
  have h':((rowsOf (encI .u8) b)).length * 1≤roomy:=by rw [rowsOf_length];exact h
  unfold CV
  rw [ev_ctx (show ctx 28=some (cloneS 1 5 1) from rfl) rfl]
  simp only [cloneS,h',and_self,if_true];rfl
-- f50: f50 heliograph/octet.put
inductive R50 where
 | o0 (y a:List Int)
noncomputable def R50.st:R50→V×List O×List O
 | .o0 y a=>(.own 2000000,[.row false 1 5 (rowsOf (encI .u8) y)],[.row true 1 5 (rowsOf (encI .u8) a)])
inductive R50_l1 where
 | o0 (y a:Int) (b c:List Int)
 | o1 (y a:Int) (b:Bool) (c d:List Int)
noncomputable def R50_l1.st:R50_l1→Out×St
 | .o0 y a b c=>(.norm,(⟨25,[(0,.own 23),(1,.p (.int .u64 y)),(7,jI a)],[(23,.row true 1 5 (rowsOf (encI .u8) b)),(1000000,.row false 1 5 (rowsOf (encI .u8) c))]⟩:St))
 | .o1 y a b c d=>(.exit 0,(⟨25,[(0,.own 30000),(1,.p (.int .u64 y)),(7,jI a),(13,.p (.bool b))],[(30000,.row true 1 5 (rowsOf (encI .u8) c)),(1000000,.row false 1 5 (rowsOf (encI .u8) d))]⟩:St))
noncomputable def f50_l1_j2 (k:Nat) (b c:Int) (a d:List Int):Option R50_l1 :=
 some (.o0 b (IntKind.i64.wrap (c - (1:Int))) a d)
theorem f50_l1_j2_ok (k b c a d r) (e:f50_l1_j2 k b c a d=some r):EX 50 k (nav B50 [2,2,1,2,2,1,2,2]) (⟨25,[(0,.own 23),(1,.p (.int .u64 b)),(7,jI c)],[(23,.row true 1 5 (rowsOf (encI .u8) a)),(1000000,.row false 1 5 (rowsOf (encI .u8) d))]⟩:St)=some r.st:=by
 unfold f50_l1_j2 at e
 cases e
 simp (disch:=first|apply D;decide|apply K;kernel_rfl) only [E,EE,↓reduceIte,simprocAttr,rg B50 [2,2,1,2,2,1,2,2] 4 false rfl,hr 50 4 rfl,R50_l1.st]
noncomputable def f50_l1_j1 (k:Nat) (c b:Int) (d:Bool) (a e:List Int):Option R50_l1 :=
 ifE (¬(IntKind.i64.wrap ((8:Int) * b))<0) (
  ifE (((List.length a)+1)≤roomy) (
   f50_l1_j2 k c b ((a++([(IntKind.u8.wrap (Int.fdiv c (2 ^ (min (Int.toNat (IntKind.i64.wrap ((8:Int) * b))) (IntKind.bits .u64)))))]:List Int))) e))
theorem f50_l1_j1_ok (k a b e c f r) (d:f50_l1_j1 k a b e c f=some r):EX 50 k (nav B50 [2,1,2,2,1,2,2]) (⟨25,[(0,.own 30000),(1,.p (.int .u64 a)),(7,jI b),(13,.p (.bool e))],[(30000,.row true 1 5 (rowsOf (encI .u8) c)),(1000000,.row false 1 5 (rowsOf (encI .u8) f))]⟩:St)=some r.st:=by
 unfold f50_l1_j1 at d
 obtain ⟨g,d⟩:=ifE_some.1 d
 have h:[[.p (.int .u8 (IntKind.u8.wrap (Int.fdiv a (2 ^ (min (Int.toNat (IntKind.i64.wrap ((8:Int) * b))) (IntKind.bits .u64))))))]]=rowsOf (encI .u8) ([(IntKind.u8.wrap (Int.fdiv a (2 ^ (min (Int.toNat (IntKind.i64.wrap ((8:Int) * b))) (IntKind.bits .u64)))))]:List Int):=rfl
 have i:List.map (tell [0]) (rowsOf (encI .u8) ([(IntKind.u8.wrap (Int.fdiv a (2 ^ (min (Int.toNat (IntKind.i64.wrap ((8:Int) * b))) (IntKind.bits .u64)))))]:List Int))=rowsOf (encI .u8) ([(IntKind.u8.wrap (Int.fdiv a (2 ^ (min (Int.toNat (IntKind.i64.wrap ((8:Int) * b))) (IntKind.bits .u64)))))]:List Int):=rfl
 obtain ⟨j,d⟩:=ifE_some.1 d
 have hJ:=f50_l1_j2_ok k a b ((c++([(IntKind.u8.wrap (Int.fdiv a (2 ^ (min (Int.toNat (IntKind.i64.wrap ((8:Int) * b))) (IntKind.bits .u64)))))]:List Int))) f _ d
 simp (disch:=first|apply D;decide|apply K;kernel_rfl) only [E,EE,↓reduceIte,simprocAttr,xk B50 [2,1,2,2,1,2,2] .sq rfl,xk B50 [1,2,1,2,2,1,2,2] (.bk 1) rfl,rg B50 [2,1,2,1,2,2,1,2,2] 5 false rfl,hr 50 5 rfl,shiftV,t_24,t_5,convV,buildSliceV,raw_,cond_false,cond_true,fillRows,sm_5,t_25,appendV,content,g,h,i,j]
 try simp only [NM,EE] at hJ
 exact hJ
noncomputable def f50_l1_b (k:Nat) (c b:Int) (a d:List Int):Option R50_l1 :=
 cond ((decide (b≥0)))
  (f50_l1_j1 k c b true a d)
  (some (.o1 c b false a d))
theorem f50_l1_b_ok (k c d a e r) (b:f50_l1_b k c d a e=some r):EX 50 k (nav B50 [1,2,2,1,2,2]) (⟨25,[(0,.own 30000),(1,.p (.int .u64 c)),(7,jI d)],[(30000,.row true 1 5 (rowsOf (encI .u8) a)),(1000000,.row false 1 5 (rowsOf (encI .u8) e))]⟩:St)=some r.st:=by
 unfold f50_l1_b at b
 simp (disch:=first|apply D;decide|apply K;kernel_rfl) only [E,EE,↓reduceIte,simprocAttr,xk B50 [1,2,2,1,2,2] .sq rfl,xk B50 [1,1,2,2,1,2,2] .sq rfl,rg B50 [1,1,1,2,2,1,2,2] 3 false rfl,hr 50 3 rfl,xk B50 [2,1,1,2,2,1,2,2] (.cd 13) rfl]
 rcases cond_some b with ⟨f,b⟩ | ⟨f,b⟩
 ·have hJ:=f50_l1_j1_ok k c d true a e _ b
  simp (disch:=first|apply D;decide|apply K;kernel_rfl) only [E,EE,↓reduceIte,simprocAttr,xk B50 [2,2,1,1,2,2,1,2,2] .sk rfl,f]
  try simp only [NM,EE] at hJ
  exact hJ
 ·cases b
  simp (disch:=first|apply D;decide|apply K;kernel_rfl) only [E,EE,↓reduceIte,simprocAttr,xk B50 [3,2,1,1,2,2,1,2,2] (.ex 0) rfl,R50_l1.st,f]
noncomputable def f50_l1 (k:Nat):Nat→Int→Int→(List Int)→(List Int)→Option R50_l1
 | 0,_,_,_,_=>none
 | n+1,f,g,d,h=>Option.bind (f50_l1_b k f g d h) fun o =>
  match o with
  | .o0 y a b c=>f50_l1 k n y a b c
  | .o1 y a b c e=>some (.o1 y a b c e)
theorem f50_l1_ok (k n:Nat):∀ (c d:Int) (a e:List Int) (r:R50_l1) (b:f50_l1 k n c d a e=some r) (σ:St) (hσ:headR (hints.head 50 3) (hints.canon 50 3) σ=some (⟨25,[(0,.own 30000),(1,.p (.int .u64 c)),(7,jI d)],[(30000,.row true 1 5 (rowsOf (encI .u8) a)),(1000000,.row false 1 5 (rowsOf (encI .u8) e))]⟩:St)),LP 50 k (nav B50 [1,2,2,1,2,2]) n σ=some r.st:=by
 induction n with
 | zero=>intro c d a e r b;cases b
 | succ n j =>
  intro c d a e r b σ hσ
  rw [f50_l1] at b
  obtain ⟨o,h,b⟩:=Option.bind_eq_some_iff.1 b
  have hB:=f50_l1_b_ok k c d a e o h
  unfold LP at j ⊢
  unfold EX at hB
  rw [loopK_succ,show firstReg (nav B50 [1,2,2,1,2,2])=3 from rfl,hσ,headK_some,hB]
  cases o with
  | o0 y f g i =>
   refine j y f g i r b _ ?_
   simp (disch:=first|apply D;decide|apply K;kernel_rfl) only [E,EE,↓reduceIte,simprocAttr,hh_50_3,hc_50_3]
  | o1 y f g i l=>cases b;rfl
noncomputable def f50_j2 (k:Nat) (d e:Int) (b:Bool) (a c:List Int):Option R50 :=
 some (.o0 c a)
theorem f50_j2_ok (k c d a b e r) (f:f50_j2 k c d a b e=some r):finK Tryd.prog Tryd.f50 1 (EX 50 k (nav B50 [2,2,2]) (⟨25,[(0,.own 30000),(1,.p (.int .u64 c)),(7,jI d),(13,.p (.bool a))],[(30000,.row true 1 5 (rowsOf (encI .u8) b)),(1000000,.row false 1 5 (rowsOf (encI .u8) e))]⟩:St))=some r.st:=by
 unfold f50_j2 at f
 cases f
 simp (disch:=first|apply D;decide|apply K;kernel_rfl) only [E,EE,↓reduceIte,simprocAttr,xk B50 [2,2,2] .sq rfl,rg B50 [1,2,2,2] 6 false rfl,hr 50 6 rfl,xk B50 [2,2,2,2] .rt rfl,fin50,R50.st]
noncomputable def f50_e (k:Nat) (e f:Int) (d:List Int):Option R50 :=
 Option.bind (f28 k d) fun o1 =>
  match o1 with
  | .o0 g =>
   Option.bind (f50_l1 k k e (IntKind.i64.wrap (f - (1:Int))) g d) fun o5 =>
    match o5 with
    | .o0 _ _ _ _ =>
     none
    | .o1 h i a b c =>
     f50_j2 k h i a b c
theorem f50_e_ok (k e f d r) (a:f50_e k e f d=some r):finK Tryd.prog Tryd.f50 1 (EX 50 k (nav B50 []) (⟨25,[(0,.own 1000000),(1,.p (.int .u64 e)),(2,jI f)],[(1000000,.row true 1 5 (rowsOf (encI .u8) d))]⟩:St))=some r.st:=by
 unfold f50_e at a
 obtain ⟨o1,j,a⟩:=bs a
 have b:=f28_ok k d _ j
 cases o1 with
 | o0 l =>
  (try dsimp only at a)
  (try simp only [NM,EE,R28.st] at b)
  obtain ⟨o5,m,a⟩:=bs a
  have c:=f50_l1_ok k k e (IntKind.i64.wrap (f - (1:Int))) l d _ m
  simp (disch:=first|apply D;decide|apply K;kernel_rfl) only [E,EE,↓reduceIte,simprocAttr,xk B50 [] .sq rfl,rg B50 [1] 0 false rfl,hr 50 0 rfl,xk B50 [2] .sq rfl,rg B50 [1,2] 1 false rfl,hr 50 1 rfl,callStep,CL,gv,List.contains,xk B50 [2,2] .sq rfl,xk B50 [1,2,2] .sq rfl,rg B50 [1,1,2,2] 2 false rfl,hr 50 2 rfl,xk B50 [2,1,2,2] (.bk 0) rfl,xk B50 [2,2,1,2,2] .lp rfl,hh_50_3,hc_50_3,b]
  (try simp only [NM,EE] at c)
  rw [c _ (by simp (disch:=first|apply D;decide|apply K;kernel_rfl) only [E,EE,↓reduceIte,simprocAttr,hh_50_3,hc_50_3,b])]
  clear c
  cases o5 with
  | o0 _ _ _ _ =>
   (try dsimp only at a)
   cases a
  | o1 o p g h i =>
   (try dsimp only at a)
   have hJ:=f50_j2_ok k o p g h i _ a
   simp (disch:=first|apply D;decide|apply K;kernel_rfl) only [E,EE,↓reduceIte,simprocAttr,R50_l1.st,b]
   try simp only [NM,EE] at hJ
   exact hJ
noncomputable def f50 (k:Nat) (a b:Int) (c:List Int):Option R50:=match k with | 0=>none | k+1=>f50_e k a b c
theorem f50_ok (k a b d r) (e:f50 k a b d=some r):CV k 50 [.own 1000000,.p (.int .u64 a),jI b] [.row true 1 5 (rowsOf (encI .u8) d)]=some r.st:=by
 cases k with
 | zero=>cases e
 | succ k =>
  unfold CV
  rw [ev_call (F:=Tryd.f50) (c:=(nav B50 [])) rfl Tryd.func50 rfl rfl rfl rfl]
  exact f50_e_ok k a b d r e
-- f44: f44 heliograph/octet.Put16
inductive R44 where
 | o0 (y a:List Int)
noncomputable def R44.st:R44→V×List O×List O
 | .o0 y a=>(.own 2000000,[.row false 1 5 (rowsOf (encI .u8) y)],[.row true 1 5 (rowsOf (encI .u8) a)])
noncomputable def f44_e (k:Nat) (a:Int) (b:List Int):Option R44 :=
 Option.bind (f50 k (IntKind.u64.wrap a) 2 b) fun o1 =>
  match o1 with
  | .o0 c d =>
   some (.o0 c d)
theorem f44_e_ok (k c d r) (a:f44_e k c d=some r):finK Tryd.prog Tryd.f44 1 (EX 44 k (nav B44 []) (⟨9,[(0,.own 1000000),(1,.p (.int .u16 c))],[(1000000,.row true 1 5 (rowsOf (encI .u8) d))]⟩:St))=some r.st:=by
 unfold f44_e at a
 obtain ⟨o1,e,a⟩:=bs a
 have b:=f50_ok k (IntKind.u64.wrap c) 2 d _ e
 cases o1 with
 | o0 f g =>
  (try dsimp only at a)
  (try simp only [NM,EE,R50.st] at b)
  cases a
  simp (disch:=first|apply D;decide|apply K;kernel_rfl) only [E,EE,↓reduceIte,simprocAttr,xk B44 [] .sq rfl,rg B44 [1] 0 false rfl,hr 44 0 rfl,xk B44 [2] .sq rfl,rg B44 [1,2] 1 false rfl,hr 44 1 rfl,t_76,t_24,convV,callStep,CL,gv,List.contains,xk B44 [2,2] .rt rfl,fin44,R44.st,b]
noncomputable def f44 (k:Nat) (a:Int) (b:List Int):Option R44:=match k with | 0=>none | k+1=>f44_e k a b
theorem f44_ok (k a b r) (d:f44 k a b=some r):CV k 44 [.own 1000000,.p (.int .u16 a)] [.row true 1 5 (rowsOf (encI .u8) b)]=some r.st:=by
 cases k with
 | zero=>cases d
 | succ k =>
  unfold CV
  rw [ev_call (F:=Tryd.f44) (c:=(nav B44 [])) rfl Tryd.func44 rfl rfl rfl rfl]
  exact f44_e_ok k a b r d
-- f45: f45 heliograph/octet.Put32
inductive R45 where
 | o0 (y a:List Int)
noncomputable def R45.st:R45→V×List O×List O
 | .o0 y a=>(.own 2000000,[.row false 1 5 (rowsOf (encI .u8) y)],[.row true 1 5 (rowsOf (encI .u8) a)])
noncomputable def f45_e (k:Nat) (a:Int) (b:List Int):Option R45 :=
 Option.bind (f50 k (IntKind.u64.wrap a) 4 b) fun o1 =>
  match o1 with
  | .o0 c d =>
   some (.o0 c d)
theorem f45_e_ok (k c d r) (a:f45_e k c d=some r):finK Tryd.prog Tryd.f45 1 (EX 45 k (nav B45 []) (⟨9,[(0,.own 1000000),(1,jU c)],[(1000000,.row true 1 5 (rowsOf (encI .u8) d))]⟩:St))=some r.st:=by
 unfold f45_e at a
 obtain ⟨o1,e,a⟩:=bs a
 have b:=f50_ok k (IntKind.u64.wrap c) 4 d _ e
 cases o1 with
 | o0 f g =>
  (try dsimp only at a)
  (try simp only [NM,EE,R50.st] at b)
  cases a
  simp (disch:=first|apply D;decide|apply K;kernel_rfl) only [E,EE,↓reduceIte,simprocAttr,xk B45 [] .sq rfl,rg B45 [1] 0 false rfl,hr 45 0 rfl,xk B45 [2] .sq rfl,rg B45 [1,2] 1 false rfl,hr 45 1 rfl,t_78,t_24,convV,callStep,CL,gv,List.contains,xk B45 [2,2] .rt rfl,fin45,R45.st,b]
noncomputable def f45 (k:Nat) (a:Int) (b:List Int):Option R45:=match k with | 0=>none | k+1=>f45_e k a b
theorem f45_ok (k a b r) (d:f45 k a b=some r):CV k 45 [.own 1000000,jU a] [.row true 1 5 (rowsOf (encI .u8) b)]=some r.st:=by
 cases k with
 | zero=>cases d
 | succ k =>
  unfold CV
  rw [ev_call (F:=Tryd.f45) (c:=(nav B45 [])) rfl Tryd.func45 rfl rfl rfl rfl]
  exact f45_e_ok k a b r d
-- f46: f46 heliograph/octet.Put64
inductive R46 where
 | o0 (y a:List Int)
noncomputable def R46.st:R46→V×List O×List O
 | .o0 y a=>(.own 2000000,[.row false 1 5 (rowsOf (encI .u8) y)],[.row true 1 5 (rowsOf (encI .u8) a)])
noncomputable def f46_e (k:Nat) (a:Int) (b:List Int):Option R46 :=
 Option.bind (f50 k a 8 b) fun o1 =>
  match o1 with
  | .o0 c d =>
   some (.o0 c d)
theorem f46_e_ok (k c d r) (a:f46_e k c d=some r):finK Tryd.prog Tryd.f46 1 (EX 46 k (nav B46 []) (⟨8,[(0,.own 1000000),(1,.p (.int .u64 c))],[(1000000,.row true 1 5 (rowsOf (encI .u8) d))]⟩:St))=some r.st:=by
 unfold f46_e at a
 obtain ⟨o1,e,a⟩:=bs a
 have b:=f50_ok k c 8 d _ e
 cases o1 with
 | o0 f g =>
  (try dsimp only at a)
  (try simp only [NM,EE,R50.st] at b)
  cases a
  simp (disch:=first|apply D;decide|apply K;kernel_rfl) only [E,EE,↓reduceIte,simprocAttr,xk B46 [] .sq rfl,rg B46 [1] 0 false rfl,hr 46 0 rfl,xk B46 [2] .sq rfl,rg B46 [1,2] 1 false rfl,hr 46 1 rfl,callStep,CL,gv,List.contains,xk B46 [2,2] .rt rfl,fin46,R46.st,b]
noncomputable def f46 (k:Nat) (a:Int) (b:List Int):Option R46:=match k with | 0=>none | k+1=>f46_e k a b
theorem f46_ok (k a b r) (d:f46 k a b=some r):CV k 46 [.own 1000000,.p (.int .u64 a)] [.row true 1 5 (rowsOf (encI .u8) b)]=some r.st:=by
 cases k with
 | zero=>cases d
 | succ k =>
  unfold CV
  rw [ev_call (F:=Tryd.f46) (c:=(nav B46 [])) rfl Tryd.func46 rfl rfl rfl rfl]
  exact f46_e_ok k a b r d
-- f35: f35 heliograph/cbor.head
inductive R35 where
 | o0 (y:List Int)
noncomputable def R35.st:R35→V×List O×List O
 | .o0 y=>(.own 2000000,[.dead],[.row true 1 5 (rowsOf (encI .u8) y)])
noncomputable def f35_j1 (k:Nat) (b c:Int) (d:Bool) (a:List Int):Option R35 :=
 ifE (((List.length a)+1)≤roomy) (
  Option.bind (f46 k c ((a++([(IntKind.u8.wrap ((BitVec.ofInt (IntKind.bits .u8) b ||| BitVec.ofInt (IntKind.bits .u8) (27:Int)).toNat:Nat))]:List Int)))) fun o4 =>
   match o4 with
   | .o0 f e =>
    some (.o0 e))
theorem f35_j1_ok (k a e c f r) (b:f35_j1 k a e c f=some r):finK Tryd.prog Tryd.f35 1 (EX 35 k (nav B35 [2,2,2]) (⟨58,[(0,.own 1000000),(1,.p (.int .u8 a)),(2,.p (.int .u64 e)),(40,.p (.bool c))],[(1000000,.row true 1 5 (rowsOf (encI .u8) f))]⟩:St))=some r.st:=by
 unfold f35_j1 at b
 have g:[[.p (.int .u8 (IntKind.u8.wrap ((BitVec.ofInt (IntKind.bits .u8) a ||| BitVec.ofInt (IntKind.bits .u8) (27:Int)).toNat:Nat)))]]=rowsOf (encI .u8) ([(IntKind.u8.wrap ((BitVec.ofInt (IntKind.bits .u8) a ||| BitVec.ofInt (IntKind.bits .u8) (27:Int)).toNat:Nat))]:List Int):=rfl
 have h:List.map (tell [0]) (rowsOf (encI .u8) ([(IntKind.u8.wrap ((BitVec.ofInt (IntKind.bits .u8) a ||| BitVec.ofInt (IntKind.bits .u8) (27:Int)).toNat:Nat))]:List Int))=rowsOf (encI .u8) ([(IntKind.u8.wrap ((BitVec.ofInt (IntKind.bits .u8) a ||| BitVec.ofInt (IntKind.bits .u8) (27:Int)).toNat:Nat))]:List Int):=rfl
 obtain ⟨i,b⟩:=ifE_some.1 b
 obtain ⟨o4,j,b⟩:=bs b
 have d:=f46_ok k e ((f++([(IntKind.u8.wrap ((BitVec.ofInt (IntKind.bits .u8) a ||| BitVec.ofInt (IntKind.bits .u8) (27:Int)).toNat:Nat))]:List Int))) _ j
 cases o4 with
 | o0 l m =>
  (try dsimp only at b)
  (try simp only [NM,EE,R46.st] at d)
  cases b
  simp (disch:=first|apply D;decide|apply K;kernel_rfl) only [E,EE,↓reduceIte,simprocAttr,xk B35 [2,2,2] .sq rfl,rg B35 [1,2,2,2] 10 false rfl,hr 35 10 rfl,buildSliceV,raw_,cond_false,cond_true,fillRows,sm_5,t_25,t_5,appendV,content,callStep,CL,gv,List.contains,xk B35 [2,2,2,2] .rt rfl,fin35,R35.st,g,h,i,d]
noncomputable def f35_e (k:Nat) (c a:Int) (b:List Int):Option R35 :=
 cond ((decide (a<24)))
  (
   ifE (((List.length b)+1)≤roomy) (
    some (.o0 ((b++([(IntKind.u8.wrap ((BitVec.ofInt (IntKind.bits .u8) (IntKind.u8.wrap (c * 2 ^ (min 5 (IntKind.bits .u8)))) ||| BitVec.ofInt (IntKind.bits .u8) (IntKind.u8.wrap a)).toNat:Nat))]:List Int))))))
  (
   cond ((decide (a<256)))
    (
     ifE (((List.length b)+2)≤roomy) (
      some (.o0 ((b++([(IntKind.u8.wrap ((BitVec.ofInt (IntKind.bits .u8) (IntKind.u8.wrap (c * 2 ^ (min 5 (IntKind.bits .u8)))) ||| BitVec.ofInt (IntKind.bits .u8) (24:Int)).toNat:Nat)),(IntKind.u8.wrap a)]:List Int))))))
    (
     cond ((decide (a<65536)))
      (
       ifE (((List.length b)+1)≤roomy) (
        Option.bind (f44 k (IntKind.u16.wrap a) ((b++([(IntKind.u8.wrap ((BitVec.ofInt (IntKind.bits .u8) (IntKind.u8.wrap (c * 2 ^ (min 5 (IntKind.bits .u8)))) ||| BitVec.ofInt (IntKind.bits .u8) (25:Int)).toNat:Nat))]:List Int)))) fun o13 =>
         match o13 with
         | .o0 f d =>
          some (.o0 d)))
      (
       cond ((decide (a<4294967296)))
        (
         ifE (((List.length b)+1)≤roomy) (
          Option.bind (f45 k (IntKind.u32.wrap a) ((b++([(IntKind.u8.wrap ((BitVec.ofInt (IntKind.bits .u8) (IntKind.u8.wrap (c * 2 ^ (min 5 (IntKind.bits .u8)))) ||| BitVec.ofInt (IntKind.bits .u8) (26:Int)).toNat:Nat))]:List Int)))) fun o22 =>
           match o22 with
           | .o0 g e =>
            some (.o0 e)))
        (f35_j1 k (IntKind.u8.wrap (c * 2 ^ (min 5 (IntKind.bits .u8)))) a false b))))
theorem f35_e_ok (k b c i r) (a:f35_e k b c i=some r):finK Tryd.prog Tryd.f35 1 (EX 35 k (nav B35 []) (⟨58,[(0,.own 1000000),(1,.p (.int .u8 b)),(2,.p (.int .u64 c))],[(1000000,.row true 1 5 (rowsOf (encI .u8) i))]⟩:St))=some r.st:=by
 unfold f35_e at a
 simp (disch:=first|apply D;decide|apply K;kernel_rfl) only [E,EE,↓reduceIte,simprocAttr,xk B35 [] .sq rfl,rg B35 [1] 0 false rfl,hr 35 0 rfl,xk B35 [2] .sq rfl,rg B35 [1,2] 1 false rfl,hr 35 1 rfl,shiftV,xk B35 [2,2] .sq rfl,xk B35 [1,2,2] (.bk 0) rfl,xk B35 [2,1,2,2] .sq rfl,rg B35 [1,2,1,2,2] 2 false rfl,hr 35 2 rfl,xk B35 [2,2,1,2,2] (.cd 9) rfl]
 rcases cond_some a with ⟨d,a⟩ | ⟨d,a⟩
 ·have v:[[.p (.int .u8 (IntKind.u8.wrap ((BitVec.ofInt (IntKind.bits .u8) (IntKind.u8.wrap (b * 2 ^ (min 5 (IntKind.bits .u8)))) ||| BitVec.ofInt (IntKind.bits .u8) (IntKind.u8.wrap c)).toNat:Nat)))]]=rowsOf (encI .u8) ([(IntKind.u8.wrap ((BitVec.ofInt (IntKind.bits .u8) (IntKind.u8.wrap (b * 2 ^ (min 5 (IntKind.bits .u8)))) ||| BitVec.ofInt (IntKind.bits .u8) (IntKind.u8.wrap c)).toNat:Nat))]:List Int):=rfl
  have w:List.map (tell [0]) (rowsOf (encI .u8) ([(IntKind.u8.wrap ((BitVec.ofInt (IntKind.bits .u8) (IntKind.u8.wrap (b * 2 ^ (min 5 (IntKind.bits .u8)))) ||| BitVec.ofInt (IntKind.bits .u8) (IntKind.u8.wrap c)).toNat:Nat))]:List Int))=rowsOf (encI .u8) ([(IntKind.u8.wrap ((BitVec.ofInt (IntKind.bits .u8) (IntKind.u8.wrap (b * 2 ^ (min 5 (IntKind.bits .u8)))) ||| BitVec.ofInt (IntKind.bits .u8) (IntKind.u8.wrap c)).toNat:Nat))]:List Int):=rfl
  obtain ⟨x,a⟩:=ifE_some.1 a
  cases a
  simp (disch:=first|apply D;decide|apply K;kernel_rfl) only [E,EE,↓reduceIte,simprocAttr,xk B35 [2,2,2,1,2,2] .sq rfl,rg B35 [1,2,2,2,1,2,2] 3 false rfl,hr 35 3 rfl,t_24,t_5,convV,buildSliceV,raw_,cond_false,cond_true,fillRows,sm_5,t_25,appendV,content,xk B35 [2,2,2,2,1,2,2] .rt rfl,fin35,R35.st,d,v,w,x]
 ·simp (disch:=first|apply D;decide|apply K;kernel_rfl) only [E,EE,↓reduceIte,simprocAttr,xk B35 [3,2,2,1,2,2] .sq rfl,rg B35 [1,3,2,2,1,2,2] 4 false rfl,hr 35 4 rfl,xk B35 [2,3,2,2,1,2,2] (.cd 19) rfl,d]
  rcases cond_some a with ⟨g,a⟩ | ⟨g,a⟩
  ·have y:[[.p (.int .u8 (IntKind.u8.wrap ((BitVec.ofInt (IntKind.bits .u8) (IntKind.u8.wrap (b * 2 ^ (min 5 (IntKind.bits .u8)))) ||| BitVec.ofInt (IntKind.bits .u8) (24:Int)).toNat:Nat)))],[.p (.int .u8 (IntKind.u8.wrap c))]]=rowsOf (encI .u8) ([(IntKind.u8.wrap ((BitVec.ofInt (IntKind.bits .u8) (IntKind.u8.wrap (b * 2 ^ (min 5 (IntKind.bits .u8)))) ||| BitVec.ofInt (IntKind.bits .u8) (24:Int)).toNat:Nat)),(IntKind.u8.wrap c)]:List Int):=rfl
   have z:List.map (tell [0]) (rowsOf (encI .u8) ([(IntKind.u8.wrap ((BitVec.ofInt (IntKind.bits .u8) (IntKind.u8.wrap (b * 2 ^ (min 5 (IntKind.bits .u8)))) ||| BitVec.ofInt (IntKind.bits .u8) (24:Int)).toNat:Nat)),(IntKind.u8.wrap c)]:List Int))=rowsOf (encI .u8) ([(IntKind.u8.wrap ((BitVec.ofInt (IntKind.bits .u8) (IntKind.u8.wrap (b * 2 ^ (min 5 (IntKind.bits .u8)))) ||| BitVec.ofInt (IntKind.bits .u8) (24:Int)).toNat:Nat)),(IntKind.u8.wrap c)]:List Int):=rfl
   obtain ⟨n,a⟩:=ifE_some.1 a
   cases a
   simp (disch:=first|apply D;decide|apply K;kernel_rfl) only [E,EE,↓reduceIte,simprocAttr,xk B35 [2,2,3,2,2,1,2,2] .sq rfl,rg B35 [1,2,2,3,2,2,1,2,2] 5 false rfl,hr 35 5 rfl,t_24,t_5,convV,buildSliceV,raw_,cond_false,cond_true,fillRows,sm_5,t_25,appendV,content,xk B35 [2,2,2,3,2,2,1,2,2] .rt rfl,fin35,R35.st,d,g,y,z,n]
  ·simp (disch:=first|apply D;decide|apply K;kernel_rfl) only [E,EE,↓reduceIte,simprocAttr,xk B35 [3,2,3,2,2,1,2,2] .sq rfl,rg B35 [1,3,2,3,2,2,1,2,2] 6 false rfl,hr 35 6 rfl,xk B35 [2,3,2,3,2,2,1,2,2] (.cd 29) rfl,d,g]
   rcases cond_some a with ⟨j,a⟩ | ⟨j,a⟩
   ·have l:[[.p (.int .u8 (IntKind.u8.wrap ((BitVec.ofInt (IntKind.bits .u8) (IntKind.u8.wrap (b * 2 ^ (min 5 (IntKind.bits .u8)))) ||| BitVec.ofInt (IntKind.bits .u8) (25:Int)).toNat:Nat)))]]=rowsOf (encI .u8) ([(IntKind.u8.wrap ((BitVec.ofInt (IntKind.bits .u8) (IntKind.u8.wrap (b * 2 ^ (min 5 (IntKind.bits .u8)))) ||| BitVec.ofInt (IntKind.bits .u8) (25:Int)).toNat:Nat))]:List Int):=rfl
    have m:List.map (tell [0]) (rowsOf (encI .u8) ([(IntKind.u8.wrap ((BitVec.ofInt (IntKind.bits .u8) (IntKind.u8.wrap (b * 2 ^ (min 5 (IntKind.bits .u8)))) ||| BitVec.ofInt (IntKind.bits .u8) (25:Int)).toNat:Nat))]:List Int))=rowsOf (encI .u8) ([(IntKind.u8.wrap ((BitVec.ofInt (IntKind.bits .u8) (IntKind.u8.wrap (b * 2 ^ (min 5 (IntKind.bits .u8)))) ||| BitVec.ofInt (IntKind.bits .u8) (25:Int)).toNat:Nat))]:List Int):=rfl
    obtain ⟨o,a⟩:=ifE_some.1 a
    obtain ⟨o13,p,a⟩:=bs a
    have e:=f44_ok k (IntKind.u16.wrap c) ((i++([(IntKind.u8.wrap ((BitVec.ofInt (IntKind.bits .u8) (IntKind.u8.wrap (b * 2 ^ (min 5 (IntKind.bits .u8)))) ||| BitVec.ofInt (IntKind.bits .u8) (25:Int)).toNat:Nat))]:List Int))) _ p
    cases o13 with
    | o0 aa ab =>
     (try dsimp only at a)
     (try simp only [NM,EE,R44.st] at e)
     cases a
     simp (disch:=first|apply D;decide|apply K;kernel_rfl) only [E,EE,↓reduceIte,simprocAttr,xk B35 [2,2,3,2,3,2,2,1,2,2] .sq rfl,rg B35 [1,2,2,3,2,3,2,2,1,2,2] 7 false rfl,hr 35 7 rfl,buildSliceV,raw_,cond_false,cond_true,fillRows,sm_5,t_25,t_5,appendV,content,t_24,t_76,convV,callStep,CL,gv,List.contains,xk B35 [2,2,2,3,2,3,2,2,1,2,2] .rt rfl,fin35,R35.st,d,g,j,l,m,o,e]
   ·simp (disch:=first|apply D;decide|apply K;kernel_rfl) only [E,EE,↓reduceIte,simprocAttr,xk B35 [3,2,3,2,3,2,2,1,2,2] .sq rfl,rg B35 [1,3,2,3,2,3,2,2,1,2,2] 8 false rfl,hr 35 8 rfl,xk B35 [2,3,2,3,2,3,2,2,1,2,2] (.cd 40) rfl,d,g,j]
    rcases cond_some a with ⟨h,a⟩ | ⟨h,a⟩
    ·have q:[[.p (.int .u8 (IntKind.u8.wrap ((BitVec.ofInt (IntKind.bits .u8) (IntKind.u8.wrap (b * 2 ^ (min 5 (IntKind.bits .u8)))) ||| BitVec.ofInt (IntKind.bits .u8) (26:Int)).toNat:Nat)))]]=rowsOf (encI .u8) ([(IntKind.u8.wrap ((BitVec.ofInt (IntKind.bits .u8) (IntKind.u8.wrap (b * 2 ^ (min 5 (IntKind.bits .u8)))) ||| BitVec.ofInt (IntKind.bits .u8) (26:Int)).toNat:Nat))]:List Int):=rfl
     have s:List.map (tell [0]) (rowsOf (encI .u8) ([(IntKind.u8.wrap ((BitVec.ofInt (IntKind.bits .u8) (IntKind.u8.wrap (b * 2 ^ (min 5 (IntKind.bits .u8)))) ||| BitVec.ofInt (IntKind.bits .u8) (26:Int)).toNat:Nat))]:List Int))=rowsOf (encI .u8) ([(IntKind.u8.wrap ((BitVec.ofInt (IntKind.bits .u8) (IntKind.u8.wrap (b * 2 ^ (min 5 (IntKind.bits .u8)))) ||| BitVec.ofInt (IntKind.bits .u8) (26:Int)).toNat:Nat))]:List Int):=rfl
     obtain ⟨t,a⟩:=ifE_some.1 a
     obtain ⟨o22,u,a⟩:=bs a
     have f:=f45_ok k (IntKind.u32.wrap c) ((i++([(IntKind.u8.wrap ((BitVec.ofInt (IntKind.bits .u8) (IntKind.u8.wrap (b * 2 ^ (min 5 (IntKind.bits .u8)))) ||| BitVec.ofInt (IntKind.bits .u8) (26:Int)).toNat:Nat))]:List Int))) _ u
     cases o22 with
     | o0 ac ad =>
      (try dsimp only at a)
      (try simp only [NM,EE,R45.st] at f)
      cases a
      simp (disch:=first|apply D;decide|apply K;kernel_rfl) only [E,EE,↓reduceIte,simprocAttr,xk B35 [2,2,3,2,3,2,3,2,2,1,2,2] .sq rfl,rg B35 [1,2,2,3,2,3,2,3,2,2,1,2,2] 9 false rfl,hr 35 9 rfl,buildSliceV,raw_,cond_false,cond_true,fillRows,sm_5,t_25,t_5,appendV,content,t_24,t_78,convV,callStep,CL,gv,List.contains,xk B35 [2,2,2,3,2,3,2,3,2,2,1,2,2] .rt rfl,fin35,R35.st,d,g,j,h,q,s,t,f]
    ·have hJ:=f35_j1_ok k (IntKind.u8.wrap (b * 2 ^ (min 5 (IntKind.bits .u8)))) c false i _ a
     simp (disch:=first|apply D;decide|apply K;kernel_rfl) only [E,EE,↓reduceIte,simprocAttr,xk B35 [3,2,3,2,3,2,3,2,2,1,2,2] .sk rfl,d,g,j,h]
     try simp only [NM,EE] at hJ
     exact hJ
noncomputable def f35 (k:Nat) (a b:Int) (c:List Int):Option R35:=match k with | 0=>none | k+1=>f35_e k a b c
theorem f35_ok (k a b d r) (e:f35 k a b d=some r):CV k 35 [.own 1000000,.p (.int .u8 a),.p (.int .u64 b)] [.row true 1 5 (rowsOf (encI .u8) d)]=some r.st:=by
 cases k with
 | zero=>cases e
 | succ k =>
  unfold CV
  rw [ev_call (F:=Tryd.f35) (c:=(nav B35 [])) rfl Tryd.func35 rfl rfl rfl rfl]
  exact f35_e_ok k a b d r e
end Go.Proofs.YtlelaenalbkbmaaDoorV