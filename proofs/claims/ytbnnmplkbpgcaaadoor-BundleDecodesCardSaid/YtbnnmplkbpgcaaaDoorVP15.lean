/- What the program's functions answer: plain functions,and that the interpreter answers what they do. Written by a program of this session,out of the translation. -/
import Derived.Test.YtbnnmplkbpgcaaaDoorVP14
namespace Go.Proofs.YtbnnmplkbpgcaaaDoorV
open Go
set_option linter.unusedVariables false
set_option linter.unusedSimpArgs false
set_option maxRecDepth 8000
set_option maxHeartbeats 4000000
-- f11: f11 heliograph/heliographref09.Decode
inductive R11 where
 | o0 (y c d e f g h i j l:Int) (a:List Int) (b:Int)
noncomputable def R11.st:R11→V×List O×List O
 | .o0 y c d e f g h i j l a b=>(V.tup [.agg [jI y,jI c,jU d,jI e,jI f,jI g,jI h,jI i,jI j,jI l,jB a],jI b],[],[])
inductive R11_l5 where
 | o0 (y c d e f g h i j l a:Int) (b:List Int)
 | o1 (y:List Int) (c d e f g h i j l a b:Int) (m:List Int) (o p:Int) (q:List Int) (s:List T50) (t u:Int) (v:List Int) (w:List T50) (x z:Int) (k:List Int) (r:List T50)
 | o2 (y:List Int) (c:Int) (d:Bool) (e f g h i j l a b m:Int) (o:List Int) (p q:Int) (s:List Int) (t:List T50) (u v:Int) (w:List Int) (x:List T50) (z k:Int) (r:List Int) (n:List T50)
noncomputable def R11_l5.st:R11_l5→Out×St
 | .o0 y c d e f g h i j l a b=>(.ret,(⟨202,[(2,.ptr 30000 0),(3,jI y)],[(30000,.box 26 [jI c,jI d,jU e,jI f,jI g,jI h,jI i,jI j,jI l,jI a,jB b])]⟩:St))
 | .o1 y c d e f g h i j l a b m o p q s t u v w x z k r=>(.norm,(⟨202,[(0,jB y),(2,.ptr 30000 0),(8,.ptr 30001 0),(9,.ptr 30002 0),(10,.ptr 30003 0),(12,jI c)],[(30000,.box 26 [jI d,jI e,jU f,jI g,jI h,jI i,jI j,jI l,jI a,jI b,jB m]),(30001,.box 50 [jI o,jL p,jB q,.sl 4 (rowsOf encT50 s)]),(30002,.box 50 [jI t,jL u,jB v,.sl 4 (rowsOf encT50 w)]),(30003,.box 50 [jI x,jL z,jB k,.own 30004]),(30004,.row true 4 50 (rowsOf encT50 r))]⟩:St))
 | .o2 y c d e f g h i j l a b m o p q s t u v w x z k r n=>(.exit 0,(⟨202,[(0,jB y),(2,.ptr 30000 0),(8,.ptr 30001 0),(9,.ptr 30002 0),(10,.ptr 30003 0),(12,jI c),(105,jT d)],[(30000,.box 26 [jI e,jI f,jU g,jI h,jI i,jI j,jI l,jI a,jI b,jI m,jB o]),(30001,.box 50 [jI p,jL q,jB s,.sl 4 (rowsOf encT50 t)]),(30002,.box 50 [jI u,jL v,jB w,.sl 4 (rowsOf encT50 x)]),(30003,.box 50 [jI z,jL k,jB r,.own 30004]),(30004,.row true 4 50 (rowsOf encT50 n))]⟩:St))
noncomputable def f11_l5_j2 (k:Nat) (x0:List Int) (v:Int) (n:Bool) (w b c d e f g h i j:Int) (a:List Int) (x l:Int) (m:List Int) (o:List T50) (y p:Int) (q:List Int) (s:List T50) (z t:Int) (u:List Int) (r:List T50):Option R11_l5 :=
 some (.o1 x0 (IntKind.i64.wrap (v+(1:Int))) w b c d e f g h i j a x l m o y p q s z t u r)
theorem f11_l5_j2_ok (k x0 w v x b c d e f g h i j a y l m o z p q s n t u aa r) (hF:f11_l5_j2 k x0 w v x b c d e f g h i j a y l m o z p q s n t u aa=some r):EX 11 k (nav B11 [2,2,1,2,2,1,2,2,2,2,2,2,2,2]) (⟨202,[(0,jB x0),(2,.ptr 30000 0),(8,.ptr 30001 0),(9,.ptr 30002 0),(10,.ptr 30003 0),(12,jI w),(128,jT v)],[(30000,.box 26 [jI x,jI b,jU c,jI d,jI e,jI f,jI g,jI h,jI i,jI j,jB a]),(30001,.box 50 [jI y,jL l,jB m,.sl 4 (rowsOf encT50 o)]),(30002,.box 50 [jI z,jL p,jB q,.sl 4 (rowsOf encT50 s)]),(30003,.box 50 [jI n,jL t,jB u,.own 30004]),(30004,.row true 4 50 (rowsOf encT50 aa))]⟩:St)=some r.st:=by
 unfold f11_l5_j2 at hF
 cases hF
 simp (disch:=first|apply D;decide|apply K;kernel_rfl) only [W,simprocAttr,rg B11 [2,2,1,2,2,1,2,2,2,2,2,2,2,2] 14 false rfl,hr 11 14 rfl,R11_l5.st]
noncomputable def f11_l5_j1 (k:Nat) (x0:List Int) (b:Int) (n:Bool) (x d e f g h i j l m:Int) (c:List Int) (y a:Int) (o:List Int) (p:List T50) (z q:Int) (s:List Int) (t:List T50) (r u:Int) (v:List Int) (w:List T50):Option R11_l5 :=
 ifE ((0:Int)≤b) (
  ifE (b<((List.length w):Int)) (
   Option.bind (w[(Int.toNat b)]?) fun v3 =>
    cond ((v3.Kind != 1))
     (some (.o0 190 0 0 0 0 0 0 0 0 0 0 []))
     (
      cond ((decide (v3.Num>4294967295)))
       (some (.o0 190 0 0 0 0 0 0 0 0 0 0 []))
       (
        cond ((decide (a>16)))
         (some (.o0 190 0 0 0 0 0 0 0 0 0 0 []))
         (f11_l5_j2 k x0 b false x d e f g h i j l m c y a o p z q s t r u v w)))))
theorem f11_l5_j1_ok (k x0 x w y c d e f g h i j l b z m o p n q s t aa u v ab r) (a:f11_l5_j1 k x0 x w y c d e f g h i j l b z m o p n q s t aa u v ab=some r):EX 11 k (nav B11 [2,1,2,2,1,2,2,2,2,2,2,2,2]) (⟨202,[(0,jB x0),(2,.ptr 30000 0),(8,.ptr 30001 0),(9,.ptr 30002 0),(10,.ptr 30003 0),(12,jI x),(105,jT w)],[(30000,.box 26 [jI y,jI c,jU d,jI e,jI f,jI g,jI h,jI i,jI j,jI l,jB b]),(30001,.box 50 [jI z,jL m,jB o,.sl 4 (rowsOf encT50 p)]),(30002,.box 50 [jI n,jL q,jB s,.sl 4 (rowsOf encT50 t)]),(30003,.box 50 [jI aa,jL u,jB v,.own 30004]),(30004,.row true 4 50 (rowsOf encT50 ab))]⟩:St)=some r.st:=by
 unfold f11_l5_j1 at a
 obtain ⟨h1,a⟩:=ifE_some.1 a
 obtain ⟨h2,a⟩:=ifE_some.1 a
 obtain ⟨v3,h4,a⟩:=bs a
 simp (disch:=first|apply D;decide|apply K;kernel_rfl) only [W,simprocAttr,xk B11 [2,1,2,2,1,2,2,2,2,2,2,2,2] .sq rfl,xk B11 [1,2,1,2,2,1,2,2,2,2,2,2,2,2] (.bk 1) rfl,xk B11 [2,1,2,1,2,2,1,2,2,2,2,2,2,2,2] .sq rfl,rg B11 [1,2,1,2,1,2,2,1,2,2,2,2,2,2,2,2] 15 false rfl,hr 11 15 rfl,fieldAddrV,t_50,t_48,indexAddrV,t_3,encT50_eq,h1,h2,h4]
 rcases cond_some a with ⟨h5,a⟩ | ⟨h5,a⟩
 ·cases a
  simp (disch:=first|apply D;decide|apply K;kernel_rfl) only [W,simprocAttr,xk B11 [2,2,1,2,1,2,2,1,2,2,2,2,2,2,2,2] (.cd 128) rfl,xk B11 [2,2,2,1,2,1,2,2,1,2,2,2,2,2,2,2,2] .sq rfl,rg B11 [1,2,2,2,1,2,1,2,2,1,2,2,2,2,2,2,2,2] 16 false rfl,hr_11_16,bl_26,t_26,xk B11 [2,2,2,2,1,2,1,2,2,1,2,2,2,2,2,2,2,2] .rt rfl,R11_l5.st,h1,h2,h4,h5]
 ·simp (disch:=first|apply D;decide|apply K;kernel_rfl) only [W,simprocAttr,fieldAddrV,t_50,t_48,indexAddrV,t_47,encT50_eq,h1,h2,h4,h5]
  rcases cond_some a with ⟨h6,a⟩ | ⟨h6,a⟩
  ·cases a
   simp (disch:=first|apply D;decide|apply K;kernel_rfl) only [W,simprocAttr,xk B11 [2,2,1,2,1,2,2,1,2,2,2,2,2,2,2,2] (.cd 128) rfl,xk B11 [2,2,2,1,2,1,2,2,1,2,2,2,2,2,2,2,2] .sq rfl,rg B11 [1,2,2,2,1,2,1,2,2,1,2,2,2,2,2,2,2,2] 16 false rfl,hr_11_16,bl_26,t_26,xk B11 [2,2,2,2,1,2,1,2,2,1,2,2,2,2,2,2,2,2] .rt rfl,R11_l5.st,h1,h2,h4,h5,h6]
  ·simp (disch:=first|apply D;decide|apply K;kernel_rfl) only [W,simprocAttr,fieldAddrV,t_50,t_47,xk B11 [2,2,1,2,1,2,2,1,2,2,2,2,2,2,2,2] (.cd 128) rfl,h1,h2,h4,h5,h6]
   rcases cond_some a with ⟨h7,a⟩ | ⟨h7,a⟩
   ·cases a
    simp (disch:=first|apply D;decide|apply K;kernel_rfl) only [W,simprocAttr,xk B11 [2,2,2,1,2,1,2,2,1,2,2,2,2,2,2,2,2] .sq rfl,rg B11 [1,2,2,2,1,2,1,2,2,1,2,2,2,2,2,2,2,2] 16 false rfl,hr_11_16,bl_26,t_26,xk B11 [2,2,2,2,1,2,1,2,2,1,2,2,2,2,2,2,2,2] .rt rfl,R11_l5.st,h1,h2,h4,h5,h6,h7]
   ·have hJ:=f11_l5_j2_ok k x0 x false y c d e f g h i j l b z m o p n q s t aa u v ab _ a
    simp (disch:=first|apply D;decide|apply K;kernel_rfl) only [W,simprocAttr,xk B11 [3,2,2,1,2,1,2,2,1,2,2,2,2,2,2,2,2] .sk rfl,h1,h2,h4,h5,h6,h7]
    try simp only [NM,EE] at hJ
    exact hJ
noncomputable def f11_l5_b (k:Nat) (n:List Int) (v w b c d e f g h i j:Int) (a:List Int) (x l:Int) (m:List Int) (o:List T50) (y p:Int) (q:List Int) (s:List T50) (z t:Int) (u:List Int) (r:List T50):Option R11_l5 :=
 cond ((decide (v<10)))
  (f11_l5_j1 k n v true w b c d e f g h i j a x l m o y p q s z t u r)
  (some (.o2 n v false w b c d e f g h i j a x l m o y p q s z t u r))
theorem f11_l5_b_ok (k x0 v w b c d e f g h i j a x l m o y p q s z t u n r) (hF:f11_l5_b k x0 v w b c d e f g h i j a x l m o y p q s z t u n=some r):EX 11 k (nav B11 [1,2,2,1,2,2,2,2,2,2,2,2]) (⟨202,[(0,jB x0),(2,.ptr 30000 0),(8,.ptr 30001 0),(9,.ptr 30002 0),(10,.ptr 30003 0),(12,jI v)],[(30000,.box 26 [jI w,jI b,jU c,jI d,jI e,jI f,jI g,jI h,jI i,jI j,jB a]),(30001,.box 50 [jI x,jL l,jB m,.sl 4 (rowsOf encT50 o)]),(30002,.box 50 [jI y,jL p,jB q,.sl 4 (rowsOf encT50 s)]),(30003,.box 50 [jI z,jL t,jB u,.own 30004]),(30004,.row true 4 50 (rowsOf encT50 n))]⟩:St)=some r.st:=by
 unfold f11_l5_b at hF
 simp (disch:=first|apply D;decide|apply K;kernel_rfl) only [W,simprocAttr,xk B11 [1,2,2,1,2,2,2,2,2,2,2,2] .sq rfl,xk B11 [1,1,2,2,1,2,2,2,2,2,2,2,2] .sq rfl,rg B11 [1,1,1,2,2,1,2,2,2,2,2,2,2,2] 13 false rfl,hr 11 13 rfl,xk B11 [2,1,1,2,2,1,2,2,2,2,2,2,2,2] (.cd 105) rfl]
 rcases cond_some hF with ⟨h1,hF⟩ | ⟨h1,hF⟩
 ·have hJ:=f11_l5_j1_ok k x0 v true w b c d e f g h i j a x l m o y p q s z t u n _ hF
  simp (disch:=first|apply D;decide|apply K;kernel_rfl) only [W,simprocAttr,xk B11 [2,2,1,1,2,2,1,2,2,2,2,2,2,2,2] .sk rfl,h1]
  try simp only [NM,EE] at hJ
  exact hJ
 ·cases hF
  simp (disch:=first|apply D;decide|apply K;kernel_rfl) only [W,simprocAttr,xk B11 [3,2,1,1,2,2,1,2,2,2,2,2,2,2,2] (.ex 0) rfl,R11_l5.st,h1]
noncomputable def f11_l5 (k:Nat):Nat→(List Int)→Int→Int→Int→Int→Int→Int→Int→Int→Int→Int→Int→(List Int)→Int→Int→(List Int)→(List T50)→Int→Int→(List Int)→(List T50)→Int→Int→(List Int)→(List T50)→Option R11_l5
 | 0,_,_,_,_,_,_,_,_,_,_,_,_,_,_,_,_,_,_,_,_,_,_,_,_,_=>none
 | n+1,x0,ax,ay,ad,ae,af,ag,ah,ai,aj,ak,al,ac,az,am,an,ao,a0,ap,aq,ar,a1,au,av,a2=>Option.bind (f11_l5_b k x0 ax ay ad ae af ag ah ai aj ak al ac az am an ao a0 ap aq ar a1 au av a2) fun o =>
  match o with
  | .o0 y c d e f g h i j l a b=>some (.o0 y c d e f g h i j l a b)
  | .o1 y c d e f g h i j l a b m p q s t u v w x z r aa ab=>f11_l5 k n y c d e f g h i j l a b m p q s t u v w x z r aa ab
  | .o2 y c d e f g h i j l a b m p q s t u v w x z r aa ab aw=>some (.o2 y c d e f g h i j l a b m p q s t u v w x z r aa ab aw)
theorem f11_l5_ok (k n:Nat):∀ (x0:List Int) (x z b c d e f g i j l:Int) (a:List Int) (aa m:Int) (p:List Int) (q:List T50) (ab s:Int) (t:List Int) (u:List T50) (ac v:Int) (w:List Int) (ad:List T50) (r:R11_l5) (hF:f11_l5 k n x0 x z b c d e f g i j l a aa m p q ab s t u ac v w ad=some r) (σ:St) (hσ:headR (hints.head 11 13) (hints.canon 11 13) σ=some (⟨202,[(0,jB x0),(2,.ptr 30000 0),(8,.ptr 30001 0),(9,.ptr 30002 0),(10,.ptr 30003 0),(12,jI x)],[(30000,.box 26 [jI z,jI b,jU c,jI d,jI e,jI f,jI g,jI i,jI j,jI l,jB a]),(30001,.box 50 [jI aa,jL m,jB p,.sl 4 (rowsOf encT50 q)]),(30002,.box 50 [jI ab,jL s,jB t,.sl 4 (rowsOf encT50 u)]),(30003,.box 50 [jI ac,jL v,jB w,.own 30004]),(30004,.row true 4 50 (rowsOf encT50 ad))]⟩:St)),LP 11 k (nav B11 [1,2,2,1,2,2,2,2,2,2,2,2]) n σ=some r.st:=by
 induction n with
 | zero=>intro x0 x z b c d e f g i j l a aa m p q ab s t u ac v w ad r hF;cases hF
 | succ n ih =>
  intro x0 x z b c d e f g i j l a aa m p q ab s t u ac v w ad r hF σ hσ
  rw [f11_l5] at hF
  obtain ⟨o,h,hF⟩:=Option.bind_eq_some_iff.1 hF
  have hB:=f11_l5_b_ok k x0 x z b c d e f g i j l a aa m p q ab s t u ac v w ad o h
  unfold LP at ih ⊢
  unfold EX at hB
  rw [loopK_succ,show firstReg (nav B11 [1,2,2,1,2,2,2,2,2,2,2,2])=13 from rfl,hσ,headK_some,hB]
  cases o with
  | o0 y aw ax ay az a0 a1 a2 a3 a4 ae af=>cases hF;rfl
  | o1 y aw ax ay az a0 a1 a2 a3 a4 ae af ah ai aj ak al am an ao ap aq ar au av =>
   refine ih y aw ax ay az a0 a1 a2 a3 a4 ae af ah ai aj ak al am an ao ap aq ar au av r hF _ ?_
   simp (disch:=first|apply D;decide|apply K;kernel_rfl) only [W,simprocAttr,hh_11_13,hc_11_13]
  | o2 y aw ax ay az a0 a1 a2 a3 a4 ae af ah ai aj ak al am an ao ap aq ar au av a7=>cases hF;rfl
noncomputable def f11_j7 (k:Nat) (y:Bool) (z m o p q s t u v w:Int) (l:List Int) (x b c d e f g h i j:Int) (a:List Int):Option R11 :=
 some (.o0 x b c d e f g h i j a 0)
theorem f11_j7_ok (k x y c d e f g h i j l a z m o p q s t u v w b r) (n:f11_j7 k x y c d e f g h i j l a z m o p q s t u v w b=some r):finK Tryd.prog Tryd.f11 0 (EX 11 k (nav B11 [2,2,2,2,2,2,2,2,2,2,2,2,2,2]) (⟨202,[(2,.ptr 30000 0),(14,.ptr 14 0),(199,jT x)],[(30000,.box 26 [jI y,jI c,jU d,jI e,jI f,jI g,jI h,jI i,jI j,jI l,jB a]),(14,.box 26 [jI z,jI m,jU o,jI p,jI q,jI s,jI t,jI u,jI v,jI w,jB b])]⟩:St))=some r.st:=by
 unfold f11_j7 at n
 cases n
 simp (disch:=first|apply D;decide|apply K;kernel_rfl) only [W,simprocAttr,xk B11 [2,2,2,2,2,2,2,2,2,2,2,2,2,2] .sq rfl,rg B11 [1,2,2,2,2,2,2,2,2,2,2,2,2,2,2] 23 false rfl,hr 11 23 rfl,t_26,xk B11 [2,2,2,2,2,2,2,2,2,2,2,2,2,2,2] .rt rfl,fin11,R11.st]
noncomputable def f11_j6 (k:Nat) (x0:List Int) (aj:Int) (ah:Bool) (w e f g h i j l m o:Int) (d:List Int) (ak c:Int) (x:List Int) (y:List T50) (al z:Int) (a:List Int) (r:List T50) (am n:Int) (aa:List Int) (b:List T50):Option R11 :=
 ifE ((1:Int)<((List.length b):Int)) (
  Option.bind (b[1]?) fun v2 =>
   ifE ((2:Int)<((List.length b):Int)) (
    Option.bind (b[2]?) fun v5 =>
     ifE ((3:Int)<((List.length b):Int)) (
      Option.bind (b[3]?) fun v8 =>
       ifE ((4:Int)<((List.length b):Int)) (
        Option.bind (b[4]?) fun p =>
         ifE ((5:Int)<((List.length b):Int)) (
          Option.bind (b[5]?) fun q =>
           ifE ((6:Int)<((List.length b):Int)) (
            Option.bind (b[6]?) fun s =>
             ifE ((7:Int)<((List.length b):Int)) (
              Option.bind (b[7]?) fun t =>
               ifE ((8:Int)<((List.length b):Int)) (
                Option.bind (b[8]?) fun u =>
                 ifE ((9:Int)<((List.length b):Int)) (
                  Option.bind (b[9]?) fun v =>
                   ifE ((0:Int)≤(IntKind.i64.wrap (((List.length a):Int) - (4:Int)))) (
                    ifE ((Int.toNat ((IntKind.i64.wrap (((List.length a):Int) - (4:Int)))))≤(List.length a)) (
                     Option.bind (f15 k (IntKind.i64.wrap v5.Num) (IntKind.i64.wrap v2.Num) (IntKind.u32.wrap v8.Num) (IntKind.i64.wrap p.Num) (IntKind.i64.wrap q.Num) (IntKind.i64.wrap v.Num) (IntKind.i64.wrap c) (IntKind.i64.wrap u.Num) (IntKind.i64.wrap s.Num) (IntKind.i64.wrap t.Num) ((List.take ((Int.toNat ((IntKind.i64.wrap (((List.length a):Int) - (4:Int)))))) a))) fun o30 =>
                      match o30 with
                      | .o0 ae =>
                       cond ((!ae))
                        (some (.o0 0 0 0 0 0 0 0 0 0 0 [] 190))
                        (
                         Option.bind (f18 k (IntKind.i64.wrap v5.Num) (IntKind.i64.wrap v2.Num) (IntKind.u32.wrap v8.Num) (IntKind.i64.wrap p.Num) (IntKind.i64.wrap q.Num) (IntKind.i64.wrap v.Num) (IntKind.i64.wrap c) (IntKind.i64.wrap u.Num) (IntKind.i64.wrap s.Num) (IntKind.i64.wrap t.Num) ((List.take ((Int.toNat ((IntKind.i64.wrap (((List.length a):Int) - (4:Int)))))) a))) fun o35 =>
                          match o35 with
                          | .o0 af =>
                           Option.bind (f19 k af x0) fun o39 =>
                            match o39 with
                            | .o0 ag =>
                             cond ((!ag))
                              (some (.o0 0 0 0 0 0 0 0 0 0 0 [] 190))
                              (f11_j7 k false w e f g h i j l m o d (IntKind.i64.wrap v5.Num) (IntKind.i64.wrap v2.Num) (IntKind.u32.wrap v8.Num) (IntKind.i64.wrap p.Num) (IntKind.i64.wrap q.Num) (IntKind.i64.wrap v.Num) (IntKind.i64.wrap c) (IntKind.i64.wrap u.Num) (IntKind.i64.wrap s.Num) (IntKind.i64.wrap t.Num) ((List.take ((Int.toNat ((IntKind.i64.wrap (((List.length a):Int) - (4:Int)))))) a)))))))))))))))
theorem f11_j6_ok (k x0 ay an ao f g h i j l m o p e az c t u a0 v b w a1 x y a2 r) (a:f11_j6 k x0 ay an ao f g h i j l m o p e az c t u a0 v b w a1 x y a2=some r):finK Tryd.prog Tryd.f11 0 (EX 11 k (nav B11 [2,2,2,2,2,2,2,2,2]) (⟨202,[(0,jB x0),(2,.ptr 30000 0),(8,.ptr 30001 0),(9,.ptr 30002 0),(10,.ptr 30003 0),(12,jI ay),(105,jT an)],[(30000,.box 26 [jI ao,jI f,jU g,jI h,jI i,jI j,jI l,jI m,jI o,jI p,jB e]),(30001,.box 50 [jI az,jL c,jB t,.sl 4 (rowsOf encT50 u)]),(30002,.box 50 [jI a0,jL v,jB b,.sl 4 (rowsOf encT50 w)]),(30003,.box 50 [jI a1,jL x,jB y,.own 30004]),(30004,.row true 4 50 (rowsOf encT50 a2))]⟩:St))=some r.st:=by
 unfold f11_j6 at a
 obtain ⟨h1,a⟩:=ifE_some.1 a
 obtain ⟨v2,h3,a⟩:=bs a
 obtain ⟨h4,a⟩:=ifE_some.1 a
 obtain ⟨v5,h6,a⟩:=bs a
 obtain ⟨h7,a⟩:=ifE_some.1 a
 obtain ⟨v8,h9,a⟩:=bs a
 obtain ⟨z,a⟩:=ifE_some.1 a
 obtain ⟨ap,n,a⟩:=bs a
 obtain ⟨aa,a⟩:=ifE_some.1 a
 obtain ⟨aq,ab,a⟩:=bs a
 obtain ⟨ac,a⟩:=ifE_some.1 a
 obtain ⟨ar,ad,a⟩:=bs a
 obtain ⟨ae,a⟩:=ifE_some.1 a
 obtain ⟨au,af,a⟩:=bs a
 obtain ⟨ag,a⟩:=ifE_some.1 a
 obtain ⟨av,ah,a⟩:=bs a
 obtain ⟨ai,a⟩:=ifE_some.1 a
 obtain ⟨aw,aj,a⟩:=bs a
 obtain ⟨ak,a⟩:=ifE_some.1 a
 obtain ⟨al,a⟩:=ifE_some.1 a
 obtain ⟨o30,bd,a⟩:=bs a
 have d:=f15_ok k (IntKind.i64.wrap v5.Num) (IntKind.i64.wrap v2.Num) (IntKind.u32.wrap v8.Num) (IntKind.i64.wrap ap.Num) (IntKind.i64.wrap aq.Num) (IntKind.i64.wrap aw.Num) (IntKind.i64.wrap c) (IntKind.i64.wrap av.Num) (IntKind.i64.wrap ar.Num) (IntKind.i64.wrap au.Num) ((List.take ((Int.toNat ((IntKind.i64.wrap (((List.length b):Int) - (4:Int)))))) b)) _ bd
 cases o30 with
 | o0 bi =>
  (try dsimp only at a)
  (try simp only [NM,EE,R15.st] at d)
  simp (disch:=first|apply D;decide|apply K;kernel_rfl) only [W,simprocAttr,xk B11 [2,2,2,2,2,2,2,2,2] .sq rfl,rg B11 [1,2,2,2,2,2,2,2,2,2] 17 false rfl,hr 11 17 rfl,fieldAddrV,t_50,t_48,xk B11 [2,2,2,2,2,2,2,2,2,2] .sq rfl,rg B11 [1,2,2,2,2,2,2,2,2,2,2] 18 true rfl,hr_11_18,indexAddrV,t_47,encT50_eq,t_3,convV,t_24,bl_26,t_26,xk B11 [2,2,2,2,2,2,2,2,2,2,2] .sq rfl,rg B11 [1,2,2,2,2,2,2,2,2,2,2,2] 19 false rfl,hr 11 19 rfl,xk B11 [2,2,2,2,2,2,2,2,2,2,2,2] .sq rfl,rg B11 [1,2,2,2,2,2,2,2,2,2,2,2,2] 20 false rfl,hr 11 20 rfl,t_22,sliceV,bound,t_5,xk B11 [2,2,2,2,2,2,2,2,2,2,2,2,2] .sq rfl,xk B11 [1,2,2,2,2,2,2,2,2,2,2,2,2,2] .sq rfl,rg B11 [1,1,2,2,2,2,2,2,2,2,2,2,2,2,2] 21 false rfl,hr 11 21 rfl,callStep,CL,gv,List.contains,h1,h3,h4,h6,h7,h9,z,n,aa,ab,ac,ad,ae,af,ag,ah,ai,aj,ak,al,d]
  rcases cond_some a with ⟨am,a⟩ | ⟨am,a⟩
  ·cases a
   simp (disch:=first|apply D;decide|apply K;kernel_rfl) only [W,simprocAttr,xk B11 [2,1,2,2,2,2,2,2,2,2,2,2,2,2,2] (.cd 199) rfl,xk B11 [2,2,1,2,2,2,2,2,2,2,2,2,2,2,2,2] .sq rfl,rg B11 [1,2,2,1,2,2,2,2,2,2,2,2,2,2,2,2,2] 22 false rfl,hr_11_22,bl_26,t_26,xk B11 [2,2,2,1,2,2,2,2,2,2,2,2,2,2,2,2,2] .rt rfl,fin11,R11.st,h1,h3,h4,h6,h7,h9,z,n,aa,ab,ac,ad,ae,af,ag,ah,ai,aj,ak,al,d,am]
  ·obtain ⟨o35,bf,a⟩:=bs a
   have q:=f18_ok k (IntKind.i64.wrap v5.Num) (IntKind.i64.wrap v2.Num) (IntKind.u32.wrap v8.Num) (IntKind.i64.wrap ap.Num) (IntKind.i64.wrap aq.Num) (IntKind.i64.wrap aw.Num) (IntKind.i64.wrap c) (IntKind.i64.wrap av.Num) (IntKind.i64.wrap ar.Num) (IntKind.i64.wrap au.Num) ((List.take ((Int.toNat ((IntKind.i64.wrap (((List.length b):Int) - (4:Int)))))) b)) _ bf
   cases o35 with
   | o0 bg =>
    (try dsimp only at a)
    (try simp only [NM,EE,R18.st] at q)
    obtain ⟨o39,bh,a⟩:=bs a
    have s:=f19_ok k bg x0 _ bh
    cases o39 with
    | o0 bj =>
     (try dsimp only at a)
     (try simp only [NM,EE,R19.st] at s)
     simp (disch:=first|apply D;decide|apply K;kernel_rfl) only [W,simprocAttr,t_26,callStep,CL,gv,List.contains,xk B11 [2,1,2,2,2,2,2,2,2,2,2,2,2,2,2] (.cd 199) rfl,h1,h3,h4,h6,h7,h9,z,n,aa,ab,ac,ad,ae,af,ag,ah,ai,aj,ak,al,d,am,q,s]
     rcases cond_some a with ⟨ax,a⟩ | ⟨ax,a⟩
     ·cases a
      simp (disch:=first|apply D;decide|apply K;kernel_rfl) only [W,simprocAttr,xk B11 [2,2,1,2,2,2,2,2,2,2,2,2,2,2,2,2] .sq rfl,rg B11 [1,2,2,1,2,2,2,2,2,2,2,2,2,2,2,2,2] 22 false rfl,hr_11_22,bl_26,t_26,xk B11 [2,2,2,1,2,2,2,2,2,2,2,2,2,2,2,2,2] .rt rfl,fin11,R11.st,h1,h3,h4,h6,h7,h9,z,n,aa,ab,ac,ad,ae,af,ag,ah,ai,aj,ak,al,d,am,q,s,ax]
     ·have hJ:=f11_j7_ok k false ao f g h i j l m o p e (IntKind.i64.wrap v5.Num) (IntKind.i64.wrap v2.Num) (IntKind.u32.wrap v8.Num) (IntKind.i64.wrap ap.Num) (IntKind.i64.wrap aq.Num) (IntKind.i64.wrap aw.Num) (IntKind.i64.wrap c) (IntKind.i64.wrap av.Num) (IntKind.i64.wrap ar.Num) (IntKind.i64.wrap au.Num) ((List.take ((Int.toNat ((IntKind.i64.wrap (((List.length b):Int) - (4:Int)))))) b)) _ a
      simp (disch:=first|apply D;decide|apply K;kernel_rfl) only [W,simprocAttr,xk B11 [3,2,1,2,2,2,2,2,2,2,2,2,2,2,2,2] .sk rfl,h1,h3,h4,h6,h7,h9,z,n,aa,ab,ac,ad,ae,af,ag,ah,ai,aj,ak,al,d,am,q,s,ax]
      try simp only [NM,EE] at hJ
      exact hJ
noncomputable def f11_j4 (k:Nat) (x0:List Int) (a3:Bool) (m2 d e f g h i j l m:Int) (a:List Int) (m8 o:Int) (p:List Int) (q:List T50) (m9 s:Int) (t:List Int) (u:List T50) (v b:Int) (c:List Int) (w:List T50):Option R11 :=
 Option.bind (f11_l5 k k x0 0 m2 d e f g h i j l m a m8 o p q m9 s t u v b c w) fun o1 =>
  match o1 with
  | .o0 v4 v5 v6 v7 v8 v9 x y z r n aa =>
   some (.o0 v5 v6 v7 v8 v9 x y z r n aa v4)
  | .o1 _ _ _ _ _ _ _ _ _ _ _ _ _ _ _ _ _ _ _ _ _ _ _ _ _ =>
   none
  | .o2 ab ac ad ae af ag ah ai aj ak al am an ao ap aq ar au av aw ax ay az a0 a1 a2 =>
   f11_j6 k ab ac ad ae af ag ah ai aj ak al am an ao ap aq ar au av aw ax ay az a0 a1 a2
theorem f11_j4_ok (k n w m2 d e f g h i j l m a m8 o p q m9 s t u x b c y r) (v:f11_j4 k n w m2 d e f g h i j l m a m8 o p q m9 s t u x b c y=some r):finK Tryd.prog Tryd.f11 0 (EX 11 k (nav B11 [2,2,2,2,2,2,2,2]) (⟨202,[(0,jB n),(2,.ptr 2 0),(8,.ptr 8 0),(9,.ptr 9 0),(10,.ptr 10 0),(102,jT w)],[(2,.box 26 [jI m2,jI d,jU e,jI f,jI g,jI h,jI i,jI j,jI l,jI m,jB a]),(8,.box 50 [jI m8,jL o,jB p,.sl 4 (rowsOf encT50 q)]),(9,.box 50 [jI m9,jL s,jB t,.sl 4 (rowsOf encT50 u)]),(10,.box 50 [jI x,jL b,jB c,.own 86]),(86,.row true 4 50 (rowsOf encT50 y))]⟩:St))=some r.st:=by
 unfold f11_j4 at v
 obtain ⟨o1,h2,v⟩:=bs v
 have z:=f11_l5_ok k k n 0 m2 d e f g h i j l m a m8 o p q m9 s t u x b c y _ h2
 simp (disch:=first|apply D;decide|apply K;kernel_rfl) only [W,simprocAttr,xk B11 [2,2,2,2,2,2,2,2] .sq rfl,xk B11 [1,2,2,2,2,2,2,2,2] .sq rfl,rg B11 [1,1,2,2,2,2,2,2,2,2] 12 false rfl,hr 11 12 rfl,xk B11 [2,1,2,2,2,2,2,2,2,2] (.bk 0) rfl,xk B11 [2,2,1,2,2,2,2,2,2,2,2] .lp rfl,hh_11_13,hc_11_13]
 (try simp only [NM,EE] at z)
 rw [z _ (by simp (disch:=first|apply D;decide|apply K;kernel_rfl) only [W,simprocAttr,hh_11_13,hc_11_13])]
 clear z
 cases o1 with
 | o0 v4 v5 v6 v7 v8 v9 a6 a7 a8 a9 ba bb =>
  (try dsimp only at v)
  cases v
  simp (disch:=first|apply D;decide|apply K;kernel_rfl) only [W,simprocAttr,R11_l5.st,t_26,fin11,R11.st]
 | o1 _ _ _ _ _ _ _ _ _ _ _ _ _ _ _ _ _ _ _ _ _ _ _ _ _ =>
  (try dsimp only at v)
  cases v
 | o2 ad ae af ag ah ai aj ak al am an ao ap aq ar au av aw ax ay az a0 a1 a2 a3 a4 =>
  (try dsimp only at v)
  have hJ:=f11_j6_ok k ad ae af ag ah ai aj ak al am an ao ap aq ar au av aw ax ay az a0 a1 a2 a3 a4 _ v
  simp (disch:=first|apply D;decide|apply K;kernel_rfl) only [W,simprocAttr,R11_l5.st]
  try simp only [NM,EE] at hJ
  exact hJ
noncomputable def f11_j3 (k:Nat) (z:List Int) (r:Bool) (n c d e f g h i j l:Int) (b:List Int) (m7 w:Int) (a:List Int) (x:List T50) (m8 m:Int) (o:List Int) (p:List T50) (m9 q:Int) (s:List Int) (t:List T50):Option R11 :=
 ifE ((0:Int)≤(IntKind.i64.wrap (((List.length a):Int) - (2:Int)))) (
  ifE ((Int.toNat ((IntKind.i64.wrap (((List.length a):Int) - (2:Int)))))≤(List.length a)) (
   Option.bind (f29 k ((List.take ((Int.toNat ((IntKind.i64.wrap (((List.length a):Int) - (2:Int)))))) a)) 4) fun o3 =>
    match o3 with
    | .o0 y v7 v8 v9 v u =>
     cond ((v != 0))
      (some (.o0 0 0 0 0 0 0 0 0 0 0 [] 190))
      (
       cond ((y != 4))
        (some (.o0 0 0 0 0 0 0 0 0 0 0 [] 190))
        (
         cond ((((List.length u):Int) != 10))
          (some (.o0 0 0 0 0 0 0 0 0 0 0 [] 190))
          (f11_j4 k z false n c d e f g h i j l b m8 m o p m9 q s t y v7 v8 u)))))
theorem f11_j3_ok (k x0 ac m2 f g h i j l m o p c m7 y e z m8 q s t m9 u v w r) (a:f11_j3 k x0 ac m2 f g h i j l m o p c m7 y e z m8 q s t m9 u v w=some r):finK Tryd.prog Tryd.f11 0 (EX 11 k (nav B11 [2,2,2,2,2,2]) (⟨202,[(0,jB x0),(2,.ptr 2 0),(7,.ptr 7 0),(8,.ptr 8 0),(9,.ptr 9 0),(76,jT ac)],[(2,.box 26 [jI m2,jI f,jU g,jI h,jI i,jI j,jI l,jI m,jI o,jI p,jB c]),(7,.box 50 [jI m7,jL y,jB e,.sl 4 (rowsOf encT50 z)]),(8,.box 50 [jI m8,jL q,jB s,.sl 4 (rowsOf encT50 t)]),(9,.box 50 [jI m9,jL u,jB v,.sl 4 (rowsOf encT50 w)])]⟩:St))=some r.st:=by
 unfold f11_j3 at a
 obtain ⟨n,a⟩:=ifE_some.1 a
 obtain ⟨h2,a⟩:=ifE_some.1 a
 obtain ⟨o3,h4,a⟩:=bs a
 have b:=f29_ok k ((List.take ((Int.toNat ((IntKind.i64.wrap (((List.length e):Int) - (2:Int)))))) e)) 4 _ h4
 cases o3 with
 | o0 v6 v7 v8 v9 an ah =>
  (try dsimp only at a)
  (try simp only [NM,EE,R29.st] at b)
  simp (disch:=first|apply D;decide|apply K;kernel_rfl) only [W,simprocAttr,xk B11 [2,2,2,2,2,2] .sq rfl,rg B11 [1,2,2,2,2,2,2] 9 false rfl,hr 11 9 rfl,fieldAddrV,t_50,t_22,sliceV,bound,t_5,callStep,CL,gv,List.contains,xk B11 [2,2,2,2,2,2,2] .sq rfl,xk B11 [1,2,2,2,2,2,2,2] .sq rfl,rg B11 [1,1,2,2,2,2,2,2,2] 10 false rfl,hr 11 10 rfl,n,h2,b]
  rcases cond_some a with ⟨d,a⟩ | ⟨d,a⟩
  ·cases a
   simp (disch:=first|apply D;decide|apply K;kernel_rfl) only [W,simprocAttr,xk B11 [2,1,2,2,2,2,2,2,2] (.cd 102) rfl,xk B11 [2,2,1,2,2,2,2,2,2,2] .sq rfl,rg B11 [1,2,2,1,2,2,2,2,2,2,2] 11 false rfl,hr_11_11,bl_26,t_26,xk B11 [2,2,2,1,2,2,2,2,2,2,2] .rt rfl,fin11,R11.st,n,h2,b,d]
  ·simp (disch:=first|apply D;decide|apply K;kernel_rfl) only [W,simprocAttr,fieldAddrV,t_50,t_3,n,h2,b,d]
   rcases cond_some a with ⟨x,a⟩ | ⟨x,a⟩
   ·cases a
    simp (disch:=first|apply D;decide|apply K;kernel_rfl) only [W,simprocAttr,xk B11 [2,1,2,2,2,2,2,2,2] (.cd 102) rfl,xk B11 [2,2,1,2,2,2,2,2,2,2] .sq rfl,rg B11 [1,2,2,1,2,2,2,2,2,2,2] 11 false rfl,hr_11_11,bl_26,t_26,xk B11 [2,2,2,1,2,2,2,2,2,2,2] .rt rfl,fin11,R11.st,n,h2,b,d,x]
   ·simp (disch:=first|apply D;decide|apply K;kernel_rfl) only [W,simprocAttr,fieldAddrV,t_50,t_48,xk B11 [2,1,2,2,2,2,2,2,2] (.cd 102) rfl,n,h2,b,d,x]
    rcases cond_some a with ⟨ab,a⟩ | ⟨ab,a⟩
    ·cases a
     simp (disch:=first|apply D;decide|apply K;kernel_rfl) only [W,simprocAttr,xk B11 [2,2,1,2,2,2,2,2,2,2] .sq rfl,rg B11 [1,2,2,1,2,2,2,2,2,2,2] 11 false rfl,hr_11_11,bl_26,t_26,xk B11 [2,2,2,1,2,2,2,2,2,2,2] .rt rfl,fin11,R11.st,n,h2,b,d,x,ab]
    ·have hJ:=f11_j4_ok k x0 false m2 f g h i j l m o p c m8 q s t m9 u v w v6 v7 v8 ah _ a
     simp (disch:=first|apply D;decide|apply K;kernel_rfl) only [W,simprocAttr,xk B11 [3,2,1,2,2,2,2,2,2,2] .sk rfl,n,h2,b,d,x,ab]
     try simp only [NM,EE] at hJ
     exact hJ
noncomputable def f11_j2 (k:Nat) (w:List Int) (x:Bool) (y d e f g h i j l m:Int) (c:List Int) (z o:Int) (a:List Int) (p:List T50) (r q:Int) (s:List Int) (t:List T50) (n u:Int) (b:List Int) (v:List T50):Option R11 :=
 Option.bind (f30 k a 16) fun o1 =>
  match o1 with
  | .o0 v4 =>
   cond ((!v4))
    (some (.o0 0 0 0 0 0 0 0 0 0 0 [] 130))
    (
     Option.bind (f30 k b 32) fun o6 =>
      match o6 with
      | .o0 v9 =>
       cond ((!v9))
        (some (.o0 0 0 0 0 0 0 0 0 0 0 [] 130))
        (f11_j3 k w false y d e f g h i j l m c z o a p r q s t n u b v))
theorem f11_j2_ok (k x0 n m2 f g h i j l m o p b m7 q c s m8 t u v m9 w d x r) (a:f11_j2 k x0 n m2 f g h i j l m o p b m7 q c s m8 t u v m9 w d x=some r):finK Tryd.prog Tryd.f11 0 (EX 11 k (nav B11 [2,2,2,2,2]) (⟨202,[(0,jB x0),(2,.ptr 2 0),(7,.ptr 7 0),(8,.ptr 8 0),(9,.ptr 9 0),(65,jT n)],[(2,.box 26 [jI m2,jI f,jU g,jI h,jI i,jI j,jI l,jI m,jI o,jI p,jB b]),(7,.box 50 [jI m7,jL q,jB c,.sl 4 (rowsOf encT50 s)]),(8,.box 50 [jI m8,jL t,jB u,.sl 4 (rowsOf encT50 v)]),(9,.box 50 [jI m9,jL w,jB d,.sl 4 (rowsOf encT50 x)])]⟩:St))=some r.st:=by
 unfold f11_j2 at a
 obtain ⟨o1,h2,a⟩:=bs a
 have e:=f30_ok k c 16 _ h2
 cases o1 with
 | o0 v4 =>
  (try dsimp only at a)
  (try simp only [NM,EE,R30.st] at e)
  simp (disch:=first|apply D;decide|apply K;kernel_rfl) only [W,simprocAttr,xk B11 [2,2,2,2,2] .sq rfl,xk B11 [1,2,2,2,2,2] .sq rfl,rg B11 [1,1,2,2,2,2,2] 7 false rfl,hr 11 7 rfl,fieldAddrV,t_50,t_22,callStep,CL,gv,List.contains,e]
  rcases cond_some a with ⟨h5,a⟩ | ⟨h5,a⟩
  ·cases a
   simp (disch:=first|apply D;decide|apply K;kernel_rfl) only [W,simprocAttr,xk B11 [2,1,2,2,2,2,2] (.cd 76) rfl,xk B11 [2,2,1,2,2,2,2,2] .sq rfl,rg B11 [1,2,2,1,2,2,2,2,2] 8 false rfl,hr_11_8,bl_26,t_26,xk B11 [2,2,2,1,2,2,2,2,2] .rt rfl,fin11,R11.st,e,h5]
  ·obtain ⟨o6,h7,a⟩:=bs a
   have y:=f30_ok k d 32 _ h7
   cases o6 with
   | o0 v9 =>
    (try dsimp only at a)
    (try simp only [NM,EE,R30.st] at y)
    simp (disch:=first|apply D;decide|apply K;kernel_rfl) only [W,simprocAttr,fieldAddrV,t_50,t_22,callStep,CL,gv,List.contains,xk B11 [2,1,2,2,2,2,2] (.cd 76) rfl,e,h5,y]
    rcases cond_some a with ⟨z,a⟩ | ⟨z,a⟩
    ·cases a
     simp (disch:=first|apply D;decide|apply K;kernel_rfl) only [W,simprocAttr,xk B11 [2,2,1,2,2,2,2,2] .sq rfl,rg B11 [1,2,2,1,2,2,2,2,2] 8 false rfl,hr_11_8,bl_26,t_26,xk B11 [2,2,2,1,2,2,2,2,2] .rt rfl,fin11,R11.st,e,h5,y,z]
    ·have hJ:=f11_j3_ok k x0 false m2 f g h i j l m o p b m7 q c s m8 t u v m9 w d x _ a
     simp (disch:=first|apply D;decide|apply K;kernel_rfl) only [W,simprocAttr,xk B11 [3,2,1,2,2,2,2,2] .sk rfl,e,h5,y,z]
     try simp only [NM,EE] at hJ
     exact hJ
noncomputable def f11_j1 (k:Nat) (t:List Int) (u:Bool) (v c d e f g h i j l:Int) (b:List Int) (w q:Int) (s:List Int) (a:List T50):Option R11 :=
 ifE ((0:Int)<((List.length a):Int)) (
  Option.bind (a[0]?) fun m =>
   ifE ((1:Int)<((List.length a):Int)) (
    Option.bind (a[1]?) fun o =>
     ifE ((2:Int)<((List.length a):Int)) (
      Option.bind (a[2]?) fun p =>
       cond ((m.Kind != 2))
        (some (.o0 0 0 0 0 0 0 0 0 0 0 [] 190))
        (
         cond ((o.Kind != 1))
          (some (.o0 0 0 0 0 0 0 0 0 0 0 [] 190))
          (
           cond ((p.Kind != 2))
            (some (.o0 0 0 0 0 0 0 0 0 0 0 [] 190))
            (f11_j2 k t false v c d e f g h i j l b m.Kind m.Num m.Bytes m.Items o.Kind o.Num o.Bytes o.Items p.Kind p.Num p.Bytes p.Items))))))
theorem f11_j1_ok (k x0 z m2 d e f g h i j l m b m4 p q n r) (a:f11_j1 k x0 z m2 d e f g h i j l m b m4 p q n=some r):finK Tryd.prog Tryd.f11 0 (EX 11 k (nav B11 [2,2,2]) (⟨202,[(0,jB x0),(2,.ptr 2 0),(4,.ptr 4 0),(39,jT z)],[(2,.box 26 [jI m2,jI d,jU e,jI f,jI g,jI h,jI i,jI j,jI l,jI m,jB b]),(4,.box 50 [jI m4,jL p,jB q,.own 17]),(17,.row true 4 50 (rowsOf encT50 n))]⟩:St))=some r.st:=by
 unfold f11_j1 at a
 obtain ⟨s,a⟩:=ifE_some.1 a
 obtain ⟨v2,t,a⟩:=bs a
 obtain ⟨u,a⟩:=ifE_some.1 a
 obtain ⟨v5,v,a⟩:=bs a
 obtain ⟨w,a⟩:=ifE_some.1 a
 obtain ⟨v8,x,a⟩:=bs a
 simp (disch:=first|apply D;decide|apply K;kernel_rfl) only [W,simprocAttr,xk B11 [2,2,2] .sq rfl,rg B11 [1,2,2,2] 4 true rfl,hr 11 4 rfl,fieldAddrV,t_50,t_48,indexAddrV,encT50_eq,xk B11 [2,2,2,2] .sq rfl,xk B11 [1,2,2,2,2] .sq rfl,rg B11 [1,1,2,2,2,2] 5 false rfl,hr 11 5 rfl,t_3,s,t,u,v,w,x]
 rcases cond_some a with ⟨c,a⟩ | ⟨c,a⟩
 ·cases a
  simp (disch:=first|apply D;decide|apply K;kernel_rfl) only [W,simprocAttr,xk B11 [2,1,2,2,2,2] (.cd 65) rfl,xk B11 [2,2,1,2,2,2,2] .sq rfl,rg B11 [1,2,2,1,2,2,2,2] 6 false rfl,hr_11_6,bl_26,t_26,xk B11 [2,2,2,1,2,2,2,2] .rt rfl,fin11,R11.st,s,t,u,v,w,x,c]
 ·simp (disch:=first|apply D;decide|apply K;kernel_rfl) only [W,simprocAttr,fieldAddrV,t_50,t_3,s,t,u,v,w,x,c]
  rcases cond_some a with ⟨o,a⟩ | ⟨o,a⟩
  ·cases a
   simp (disch:=first|apply D;decide|apply K;kernel_rfl) only [W,simprocAttr,xk B11 [2,1,2,2,2,2] (.cd 65) rfl,xk B11 [2,2,1,2,2,2,2] .sq rfl,rg B11 [1,2,2,1,2,2,2,2] 6 false rfl,hr_11_6,bl_26,t_26,xk B11 [2,2,2,1,2,2,2,2] .rt rfl,fin11,R11.st,s,t,u,v,w,x,c,o]
  ·simp (disch:=first|apply D;decide|apply K;kernel_rfl) only [W,simprocAttr,fieldAddrV,t_50,t_3,xk B11 [2,1,2,2,2,2] (.cd 65) rfl,s,t,u,v,w,x,c,o]
   rcases cond_some a with ⟨y,a⟩ | ⟨y,a⟩
   ·cases a
    simp (disch:=first|apply D;decide|apply K;kernel_rfl) only [W,simprocAttr,xk B11 [2,2,1,2,2,2,2] .sq rfl,rg B11 [1,2,2,1,2,2,2,2] 6 false rfl,hr_11_6,bl_26,t_26,xk B11 [2,2,2,1,2,2,2,2] .rt rfl,fin11,R11.st,s,t,u,v,w,x,c,o,y]
   ·have hJ:=f11_j2_ok k x0 false m2 d e f g h i j l m b v2.Kind v2.Num v2.Bytes v2.Items v5.Kind v5.Num v5.Bytes v5.Items v8.Kind v8.Num v8.Bytes v8.Items _ a
    simp (disch:=first|apply D;decide|apply K;kernel_rfl) only [W,simprocAttr,xk B11 [3,2,1,2,2,2,2] .sk rfl,s,t,u,v,w,x,c,o,y]
    try simp only [NM,EE] at hJ
    exact hJ
noncomputable def f11_e (k:Nat) (a:List Int):Option R11 :=
 Option.bind (f29 k a 4) fun o1 =>
  match o1 with
  | .o0 b d e f g c =>
   cond ((g != 0))
    (some (.o0 0 0 0 0 0 0 0 0 0 0 [] 190))
    (
     cond ((f != ((List.length a):Int)))
      (some (.o0 0 0 0 0 0 0 0 0 0 0 [] 190))
      (
       cond ((b != 4))
        (some (.o0 0 0 0 0 0 0 0 0 0 0 [] 190))
        (
         cond ((((List.length c):Int) != 3))
          (some (.o0 0 0 0 0 0 0 0 0 0 0 [] 190))
          (f11_j1 k a false 0 0 0 0 0 0 0 0 0 0 [] b d e c))))
theorem f11_e_ok (k g r) (a:f11_e k g=some r):finK Tryd.prog Tryd.f11 0 (EX 11 k (nav B11 []) (⟨202,[(0,jB g)],[]⟩:St))=some r.st:=by
 unfold f11_e at a
 obtain ⟨o1,h,a⟩:=bs a
 have b:=f29_ok k g 4 _ h
 cases o1 with
 | o0 i j l o p m =>
  (try dsimp only at a)
  (try simp only [NM,EE,R29.st] at b)
  simp (disch:=first|apply D;decide|apply K;kernel_rfl) only [W,simprocAttr,xk B11 [] .sq rfl,rg B11 [1] 0 false rfl,hr_11_0,t_26,xk B11 [2] .sq rfl,rg B11 [1,2] 1 false rfl,hr 11 1 rfl,callStep,CL,gv,List.contains,t_50,xk B11 [2,2] .sq rfl,xk B11 [1,2,2] .sq rfl,rg B11 [1,1,2,2] 2 false rfl,hr 11 2 rfl,b]
  rcases cond_some a with ⟨c,a⟩ | ⟨c,a⟩
  ·cases a
   simp (disch:=first|apply D;decide|apply K;kernel_rfl) only [W,simprocAttr,xk B11 [2,1,2,2] (.cd 39) rfl,xk B11 [2,2,1,2,2] .sq rfl,rg B11 [1,2,2,1,2,2] 3 false rfl,hr_11_3,bl_26,t_26,xk B11 [2,2,2,1,2,2] .rt rfl,fin11,R11.st,b,c]
  ·simp (disch:=first|apply D;decide|apply K;kernel_rfl) only [W,simprocAttr,t_22,b,c]
   rcases cond_some a with ⟨d,a⟩ | ⟨d,a⟩
   ·cases a
    simp (disch:=first|apply D;decide|apply K;kernel_rfl) only [W,simprocAttr,xk B11 [2,1,2,2] (.cd 39) rfl,xk B11 [2,2,1,2,2] .sq rfl,rg B11 [1,2,2,1,2,2] 3 false rfl,hr_11_3,bl_26,t_26,xk B11 [2,2,2,1,2,2] .rt rfl,fin11,R11.st,b,c,d]
   ·simp (disch:=first|apply D;decide|apply K;kernel_rfl) only [W,simprocAttr,fieldAddrV,t_50,t_3,b,c,d]
    rcases cond_some a with ⟨e,a⟩ | ⟨e,a⟩
    ·cases a
     simp (disch:=first|apply D;decide|apply K;kernel_rfl) only [W,simprocAttr,xk B11 [2,1,2,2] (.cd 39) rfl,xk B11 [2,2,1,2,2] .sq rfl,rg B11 [1,2,2,1,2,2] 3 false rfl,hr_11_3,bl_26,t_26,xk B11 [2,2,2,1,2,2] .rt rfl,fin11,R11.st,b,c,d,e]
    ·simp (disch:=first|apply D;decide|apply K;kernel_rfl) only [W,simprocAttr,fieldAddrV,t_50,t_48,xk B11 [2,1,2,2] (.cd 39) rfl,b,c,d,e]
     rcases cond_some a with ⟨f,a⟩ | ⟨f,a⟩
     ·cases a
      simp (disch:=first|apply D;decide|apply K;kernel_rfl) only [W,simprocAttr,xk B11 [2,2,1,2,2] .sq rfl,rg B11 [1,2,2,1,2,2] 3 false rfl,hr_11_3,bl_26,t_26,xk B11 [2,2,2,1,2,2] .rt rfl,fin11,R11.st,b,c,d,e,f]
     ·have hJ:=f11_j1_ok k g false 0 0 0 0 0 0 0 0 0 0 [] i j l m _ a
      simp (disch:=first|apply D;decide|apply K;kernel_rfl) only [W,simprocAttr,xk B11 [3,2,1,2,2] .sk rfl,b,c,d,e,f]
      try simp only [NM,EE] at hJ
      exact hJ
noncomputable def f11 (k:Nat) (a:List Int):Option R11:=match k with | 0=>none | k+1=>f11_e k a
theorem f11_ok (k a r) (b:f11 k a=some r):CV k 11 [jB a] []=some r.st:=by
 cases k with
 | zero=>cases b
 | succ k =>
  unfold CV
  rw [ev_call (F:=Tryd.f11) (c:=(nav B11 [])) rfl Tryd.func11 rfl rfl rfl rfl]
  exact f11_e_ok k a r b
end Go.Proofs.YtbnnmplkbpgcaaaDoorV