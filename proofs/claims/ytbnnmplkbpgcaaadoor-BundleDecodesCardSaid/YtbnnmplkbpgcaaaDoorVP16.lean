/- What the program's functions answer: plain functions,and that the interpreter answers what they do. Written by a program of this session,out of the translation. -/
import Derived.Test.YtbnnmplkbpgcaaaDoorVP15
namespace Go.Proofs.YtbnnmplkbpgcaaaDoorV
open Go
set_option linter.unusedVariables false
set_option linter.unusedSimpArgs false
set_option maxRecDepth 8000
set_option maxHeartbeats 4000000
-- f12: f12 heliograph/heliographref09.Same
inductive R12 where
 | o0 (y:Bool)
noncomputable def R12.st:R12→V×List O×List O
 | .o0 y=>(jT y,[],[])
noncomputable def f12_e (k:Nat) (y c d e f g h i j l:Int) (a:List Int) (z m o p q s t u v w:Int) (b:List Int):Option R12 :=
 cond ((y==z))
  (
   cond ((c==m))
    (
     cond ((d==o))
      (
       cond ((e==p))
        (
         cond ((f==q))
          (
           cond ((g==s))
            (
             cond ((h==t))
              (
               cond ((i==u))
                (
                 cond ((j==v))
                  (
                   cond ((l==w))
                    (
                     Option.bind (f19 k a b) fun o11 =>
                      match o11 with
                      | .o0 x =>
                       some (.o0 x))
                    (some (.o0 false)))
                  (some (.o0 false)))
                (some (.o0 false)))
              (some (.o0 false)))
            (some (.o0 false)))
          (some (.o0 false)))
        (some (.o0 false)))
      (some (.o0 false)))
    (some (.o0 false)))
  (some (.o0 false))
theorem f12_e_ok (k a0 l m o p q s t u v e a1 w x y z n aa ab ac ad f r) (a:f12_e k a0 l m o p q s t u v e a1 w x y z n aa ab ac ad f=some r):finK Tryd.prog Tryd.f12 0 (EX 12 k (nav B12 []) (⟨80,[(0,.agg [jI a0,jI l,jU m,jI o,jI p,jI q,jI s,jI t,jI u,jI v,jB e]),(1,.agg [jI a1,jI w,jU x,jI y,jI z,jI n,jI aa,jI ab,jI ac,jI ad,jB f])],[]⟩:St))=some r.st:=by
 unfold f12_e at a
 simp (disch:=first|apply D;decide|apply K;kernel_rfl) only [W,simprocAttr,xk B12 [] .sq rfl,rg B12 [1] 0 false rfl,hr 12 0 rfl,xk B12 [2] .sq rfl,rg B12 [1,2] 1 false rfl,hr 12 1 rfl,fieldAddrV,t_26,t_3]
 rcases cond_some a with ⟨b,a⟩ | ⟨b,a⟩
 ·simp (disch:=first|apply D;decide|apply K;kernel_rfl) only [W,simprocAttr,fieldAddrV,t_26,t_3,b]
  rcases cond_some a with ⟨c,a⟩ | ⟨c,a⟩
  ·simp (disch:=first|apply D;decide|apply K;kernel_rfl) only [W,simprocAttr,fieldAddrV,t_26,t_24,b,c]
   rcases cond_some a with ⟨d,a⟩ | ⟨d,a⟩
   ·simp (disch:=first|apply D;decide|apply K;kernel_rfl) only [W,simprocAttr,fieldAddrV,t_26,t_3,b,c,d]
    rcases cond_some a with ⟨g,a⟩ | ⟨g,a⟩
    ·simp (disch:=first|apply D;decide|apply K;kernel_rfl) only [W,simprocAttr,fieldAddrV,t_26,t_3,b,c,d,g]
     rcases cond_some a with ⟨h,a⟩ | ⟨h,a⟩
     ·simp (disch:=first|apply D;decide|apply K;kernel_rfl) only [W,simprocAttr,fieldAddrV,t_26,t_3,b,c,d,g,h]
      rcases cond_some a with ⟨i,a⟩ | ⟨i,a⟩
      ·simp (disch:=first|apply D;decide|apply K;kernel_rfl) only [W,simprocAttr,fieldAddrV,t_26,t_3,b,c,d,g,h,i]
       rcases cond_some a with ⟨j,a⟩ | ⟨j,a⟩
       ·simp (disch:=first|apply D;decide|apply K;kernel_rfl) only [W,simprocAttr,fieldAddrV,t_26,t_3,b,c,d,g,h,i,j]
        rcases cond_some a with ⟨h8,a⟩ | ⟨h8,a⟩
        ·simp (disch:=first|apply D;decide|apply K;kernel_rfl) only [W,simprocAttr,fieldAddrV,t_26,t_3,b,c,d,g,h,i,j,h8]
         rcases cond_some a with ⟨h9,a⟩ | ⟨h9,a⟩
         ·simp (disch:=first|apply D;decide|apply K;kernel_rfl) only [W,simprocAttr,fieldAddrV,t_26,t_3,b,c,d,g,h,i,j,h8,h9]
          rcases cond_some a with ⟨ag,a⟩ | ⟨ag,a⟩
          ·obtain ⟨o11,ai,a⟩:=bs a
           have ae:=f19_ok k e f _ ai
           cases o11 with
           | o0 al =>
            (try dsimp only at a)
            (try simp only [NM,EE,R19.st] at ae)
            cases a
            simp (disch:=first|apply D;decide|apply K;kernel_rfl) only [W,simprocAttr,fieldAddrV,t_26,t_22,callStep,CL,gv,List.contains,xk B12 [2,2] .rt rfl,fin12,R12.st,b,c,d,g,h,i,j,h8,h9,ag,ae]
          ·cases a
           simp (disch:=first|apply D;decide|apply K;kernel_rfl) only [W,simprocAttr,xk B12 [2,2] .rt rfl,fin12,R12.st,b,c,d,g,h,i,j,h8,h9,ag]
         ·cases a
          simp (disch:=first|apply D;decide|apply K;kernel_rfl) only [W,simprocAttr,xk B12 [2,2] .rt rfl,fin12,R12.st,b,c,d,g,h,i,j,h8,h9]
        ·cases a
         simp (disch:=first|apply D;decide|apply K;kernel_rfl) only [W,simprocAttr,xk B12 [2,2] .rt rfl,fin12,R12.st,b,c,d,g,h,i,j,h8]
       ·cases a
        simp (disch:=first|apply D;decide|apply K;kernel_rfl) only [W,simprocAttr,xk B12 [2,2] .rt rfl,fin12,R12.st,b,c,d,g,h,i,j]
      ·cases a
       simp (disch:=first|apply D;decide|apply K;kernel_rfl) only [W,simprocAttr,xk B12 [2,2] .rt rfl,fin12,R12.st,b,c,d,g,h,i]
     ·cases a
      simp (disch:=first|apply D;decide|apply K;kernel_rfl) only [W,simprocAttr,xk B12 [2,2] .rt rfl,fin12,R12.st,b,c,d,g,h]
    ·cases a
     simp (disch:=first|apply D;decide|apply K;kernel_rfl) only [W,simprocAttr,xk B12 [2,2] .rt rfl,fin12,R12.st,b,c,d,g]
   ·cases a
    simp (disch:=first|apply D;decide|apply K;kernel_rfl) only [W,simprocAttr,xk B12 [2,2] .rt rfl,fin12,R12.st,b,c,d]
  ·cases a
   simp (disch:=first|apply D;decide|apply K;kernel_rfl) only [W,simprocAttr,xk B12 [2,2] .rt rfl,fin12,R12.st,b,c]
 ·cases a
  simp (disch:=first|apply D;decide|apply K;kernel_rfl) only [W,simprocAttr,xk B12 [2,2] .rt rfl,fin12,R12.st,b]
noncomputable def f12 (k:Nat) (x c d e f g h i j l:Int) (a:List Int) (y m o p q s t u v w:Int) (b:List Int):Option R12:=match k with | 0=>none | k+1=>f12_e k x c d e f g h i j l a y m o p q s t u v w b
theorem f12_ok (k y d e f g h i j l m a z o p q s t u v w x b r) (n:f12 k y d e f g h i j l m a z o p q s t u v w x b=some r):CV k 12 [.agg [jI y,jI d,jU e,jI f,jI g,jI h,jI i,jI j,jI l,jI m,jB a],.agg [jI z,jI o,jU p,jI q,jI s,jI t,jI u,jI v,jI w,jI x,jB b]] []=some r.st:=by
 cases k with
 | zero=>cases n
 | succ k =>
  unfold CV
  rw [ev_call (F:=Tryd.f12) (c:=(nav B12 [])) rfl Tryd.func12 rfl rfl rfl rfl]
  exact f12_e_ok k y d e f g h i j l m a z o p q s t u v w x b r n
-- f3: f3 heliograph/heliographlaw09.BundleDecodes
inductive R3 where
 | o0 (y:Bool)
noncomputable def R3.st:R3→V×List O×List O
 | .o0 y=>(jT y,[],[])
noncomputable def f3_j2 (k:Nat) (a:List Int) (y:Bool):Option R3 :=
 ifE ((List.length a)≤roomy) (
  Option.bind (f10 k a) fun o2 =>
   match o2 with
   | .o0 z r n v8 v9 b c d e f g h =>
    Option.bind (f11 k a) fun o17 =>
     match o17 with
     | .o0 i j l m o p q s t u v w =>
      cond ((h==w))
       (
        Option.bind (f12 k z r n v8 v9 b c d e f g i j l m o p q s t u v) fun o33 =>
         match o33 with
         | .o0 x =>
          some (.o0 x))
       (some (.o0 false)))
theorem f3_j2_ok (k g f r) (a:f3_j2 k g f=some r):finK Tryd.prog Tryd.f3 0 (EX 3 k (nav B3 [2,2,2]) (⟨32,[(0,jB g),(11,jT f)],[]⟩:St))=some r.st:=by
 unfold f3_j2 at a
 obtain ⟨h,a⟩:=ifE_some.1 a
 obtain ⟨o2,h3,a⟩:=bs a
 have c:=f10_ok k g _ h3
 cases o2 with
 | o0 v5 v6 v7 v8 v9 i j l m o p aj =>
  (try dsimp only at a)
  (try simp only [NM,EE,R10.st] at c)
  obtain ⟨o17,q,a⟩:=bs a
  have b:=f11_ok k g _ q
  cases o17 with
  | o0 s t u v w x y z n aa ab ak =>
   (try dsimp only at a)
   (try simp only [NM,EE,R11.st] at b)
   simp (disch:=first|apply D;decide|apply K;kernel_rfl) only [W,simprocAttr,xk B3 [2,2,2] .sq rfl,rg B3 [1,2,2,2] 5 false rfl,hr 3 5 rfl,buildSliceV,fillRows,sm_5,t_22,t_5,appendV,content,callStep,CL,gv,List.contains,t_26,xk B3 [2,2,2,2] .sq rfl,rg B3 [1,2,2,2,2] 6 false rfl,hr 3 6 rfl,xk B3 [2,2,2,2,2] .sq rfl,rg B3 [1,2,2,2,2,2] 7 false rfl,hr 3 7 rfl,h,c,b]
   rcases cond_some a with ⟨e,a⟩ | ⟨e,a⟩
   ·obtain ⟨o33,ac,a⟩:=bs a
    have d:=f12_ok k v5 v6 v7 v8 v9 i j l m o p s t u v w x y z n aa ab _ ac
    cases o33 with
    | o0 al =>
     (try dsimp only at a)
     (try simp only [NM,EE,R12.st] at d)
     cases a
     simp (disch:=first|apply D;decide|apply K;kernel_rfl) only [W,simprocAttr,t_26,callStep,CL,gv,List.contains,xk B3 [2,2,2,2,2,2] .rt rfl,fin3,R3.st,h,c,b,e,d]
   ·cases a
    simp (disch:=first|apply D;decide|apply K;kernel_rfl) only [W,simprocAttr,xk B3 [2,2,2,2,2,2] .rt rfl,fin3,R3.st,h,c,b,e]
noncomputable def f3_j1 (k:Nat) (a:List Int) (b:Bool):Option R3 :=
 cond ((decide (((List.length a):Int)>5000)))
  (some (.o0 true))
  (f3_j2 k a false)
theorem f3_j1_ok (k b d r) (a:f3_j1 k b d=some r):finK Tryd.prog Tryd.f3 0 (EX 3 k (nav B3 [2,2]) (⟨32,[(0,jB b),(8,jT d)],[]⟩:St))=some r.st:=by
 unfold f3_j1 at a
 simp (disch:=first|apply D;decide|apply K;kernel_rfl) only [W,simprocAttr,xk B3 [2,2] .sq rfl,xk B3 [1,2,2] .sq rfl,rg B3 [1,1,2,2] 3 false rfl,hr 3 3 rfl,t_22,xk B3 [2,1,2,2] (.cd 11) rfl]
 rcases cond_some a with ⟨c,a⟩ | ⟨c,a⟩
 ·cases a
  simp (disch:=first|apply D;decide|apply K;kernel_rfl) only [W,simprocAttr,xk B3 [2,2,1,2,2] .sq rfl,rg B3 [1,2,2,1,2,2] 4 false rfl,hr 3 4 rfl,xk B3 [2,2,2,1,2,2] .rt rfl,fin3,R3.st,c]
 ·have hJ:=f3_j2_ok k b false _ a
  simp (disch:=first|apply D;decide|apply K;kernel_rfl) only [W,simprocAttr,xk B3 [3,2,1,2,2] .sk rfl,c]
  try simp only [NM,EE] at hJ
  exact hJ
noncomputable def f3_e (k:Nat) (a:List Int):Option R3 :=
 Option.bind (f9 k) fun o1 =>
  match o1 with
  | .o0 b =>
   cond ((!b))
    (some (.o0 false))
    (f3_j1 k a false)
theorem f3_e_ok (k c r) (a:f3_e k c=some r):finK Tryd.prog Tryd.f3 0 (EX 3 k (nav B3 []) (⟨32,[(0,jB c)],[]⟩:St))=some r.st:=by
 unfold f3_e at a
 obtain ⟨o1,e,a⟩:=bs a
 have b:=f9_ok k _ e
 cases o1 with
 | o0 f =>
  (try dsimp only at a)
  (try simp only [NM,EE,R9.st] at b)
  simp (disch:=first|apply D;decide|apply K;kernel_rfl) only [W,simprocAttr,xk B3 [] .sq rfl,rg B3 [1] 0 false rfl,hr 3 0 rfl,xk B3 [2] .sq rfl,xk B3 [1,2] .sq rfl,rg B3 [1,1,2] 1 false rfl,hr 3 1 rfl,callStep,CL,gv,List.contains,xk B3 [2,1,2] (.cd 8) rfl,b]
  rcases cond_some a with ⟨d,a⟩ | ⟨d,a⟩
  ·cases a
   simp (disch:=first|apply D;decide|apply K;kernel_rfl) only [W,simprocAttr,xk B3 [2,2,1,2] .sq rfl,rg B3 [1,2,2,1,2] 2 false rfl,hr 3 2 rfl,xk B3 [2,2,2,1,2] .rt rfl,fin3,R3.st,b,d]
  ·have hJ:=f3_j1_ok k c false _ a
   simp (disch:=first|apply D;decide|apply K;kernel_rfl) only [W,simprocAttr,xk B3 [3,2,1,2] .sk rfl,b,d]
   try simp only [NM,EE] at hJ
   exact hJ
noncomputable def f3 (k:Nat) (a:List Int):Option R3:=match k with | 0=>none | k+1=>f3_e k a
theorem f3_ok (k a r) (b:f3 k a=some r):CV k 3 [jB a] []=some r.st:=by
 cases k with
 | zero=>cases b
 | succ k =>
  unfold CV
  rw [ev_call (F:=Tryd.f3) (c:=(nav B3 [])) rfl Tryd.func3 rfl rfl rfl rfl]
  exact f3_e_ok k a r b
end Go.Proofs.YtbnnmplkbpgcaaaDoorV