/- What the program's functions answer: plain functions,and that the interpreter answers what they do. Written by a program of this session,out of the translation. -/
import Derived.Test.YticggdfaehneeaaVP2
namespace Go.Proofs.YticggdfaehneeaaV
open Go
set_option linter.unusedVariables false
set_option linter.unusedSimpArgs false
set_option maxRecDepth 8000
set_option maxHeartbeats 4000000
-- f65: f65 heliograph/pieces.Together
inductive R65 where
 | o0 (y:Bool)
noncomputable def R65.st:R65→V×List O×List O
 | .o0 y=>(.p (.bool y),[],[])
inductive R65_l2 where
 | o0 (y aa ab ac ad ae af ag ah ai a b:Int) (c:List Int) (d e f g h i j l m o:Int) (p:List Int) (q s t u v w x z k r:Int) (n:List Int)
 | o1 (y aa:Int) (ab:Bool) (ac ad ae af ag ah ai a b c:Int) (d:List Int) (e f g h i j l m o p:Int) (q:List Int) (s t u v w x z k r n:Int) (aj:List Int)
noncomputable def R65_l2.st:R65_l2→Out×St
 | .o0 y aa ab ac ad ae af ag ah ai a b c d e f g h i j l m o p q s t u v w x z k r n=>(.norm,(⟨92,[(2,.ptr 30000 0),(3,.ptr 30001 0),(5,.ptr 30002 0),(25,V.bsl 30003 2 2),(26,jI y),(27,jI aa)],[(30000,.box 39 [jI ab,jI ac,jU ad,jI ae,jI af,jI ag,jI ah,jI ai,jI a,jI b,.sl 1 (rowsOf (encI .u8) c)]),(30001,.box 39 [jI d,jI e,jU f,jI g,jI h,jI i,jI j,jI l,jI m,jI o,.sl 1 (rowsOf (encI .u8) p)]),(30002,.box 39 [jI q,jI s,jU t,jI u,jI v,jI w,jI x,jI z,jI k,jI r,.sl 1 (rowsOf (encI .u8) n)]),(30003,.box 109 [.ptr 30002 8,.ptr 30000 8,.ptr 30002 6,.ptr 30000 6])]⟩:St))
 | .o1 y aa ab ac ad ae af ag ah ai a b c d e f g h i j l m o p q s t u v w x z k r n aj=>(.exit 0,(⟨92,[(2,.ptr 30000 0),(3,.ptr 30001 0),(5,.ptr 30002 0),(25,V.bsl 30003 2 2),(26,jI y),(27,jI aa),(28,.p (.bool ab))],[(30000,.box 39 [jI ac,jI ad,jU ae,jI af,jI ag,jI ah,jI ai,jI a,jI b,jI c,.sl 1 (rowsOf (encI .u8) d)]),(30001,.box 39 [jI e,jI f,jU g,jI h,jI i,jI j,jI l,jI m,jI o,jI p,.sl 1 (rowsOf (encI .u8) q)]),(30002,.box 39 [jI s,jI t,jU u,jI v,jI w,jI x,jI z,jI k,jI r,jI n,.sl 1 (rowsOf (encI .u8) aj)]),(30003,.box 109 [.ptr 30002 8,.ptr 30000 8,.ptr 30002 6,.ptr 30000 6])]⟩:St))
noncomputable def f65_l2_j2 (k:Nat) (af ag ah d e f g h i j l m:Int) (a:List Int) (ai o p q s t u v w x:Int) (b:List Int) (aj y z r n aa ab ac ad ae:Int) (c:List Int):Option R65_l2 :=
 some (.o0 af (IntKind.i64.wrap (ag+(1:Int))) ah d e f g h i j l m a ai o p q s t u v w x b aj y z r n aa ab ac ad ae c)
theorem f65_l2_j2_ok (k ag ah ai d e f g h i j l m a aj o p q s t u v w x b ak y z n aa ab ac ad ae af c r) (hF:f65_l2_j2 k ag ah ai d e f g h i j l m a aj o p q s t u v w x b ak y z n aa ab ac ad ae af c=some r):EX 65 k (nav B65 [2,2,2,1,2,2,1,2,2,2]) (⟨92,[(2,.ptr 30000 0),(3,.ptr 30001 0),(5,.ptr 30002 0),(25,V.bsl 30003 2 2),(26,jI ag),(27,jI ah)],[(30000,.box 39 [jI ai,jI d,jU e,jI f,jI g,jI h,jI i,jI j,jI l,jI m,.sl 1 (rowsOf (encI .u8) a)]),(30001,.box 39 [jI aj,jI o,jU p,jI q,jI s,jI t,jI u,jI v,jI w,jI x,.sl 1 (rowsOf (encI .u8) b)]),(30002,.box 39 [jI ak,jI y,jU z,jI n,jI aa,jI ab,jI ac,jI ad,jI ae,jI af,.sl 1 (rowsOf (encI .u8) c)]),(30003,.box 109 [.ptr 30002 8,.ptr 30000 8,.ptr 30002 6,.ptr 30000 6])]⟩:St)=some r.st:=by
 unfold f65_l2_j2 at hF
 cases hF
 simp (disch:=first|apply D;decide|apply K;kernel_rfl) only [E,EE,↓reduceIte,simprocAttr,rg B65 [2,2,2,1,2,2,1,2,2,2] 8 false rfl,hr 65 8 rfl,R65_l2.st]
noncomputable def f65_l2_j1 (k:Nat) (ag f:Int) (ak:Bool) (ah g h i j l a m b o:Int) (c:List Int) (ai p q s t u v w x y:Int) (d:List Int) (aj z r n aa ab ae ac af ad:Int) (e:List Int):Option R65_l2 :=
 ifE ((0:Int)≤f) (
  cond ((f==0))
   (f65_l2_j2 k ag f ah g h i j l a m b o c ai p q s t u v w x y d aj z r n aa ab ae ac b ad e)
   (
    cond ((f==1))
     (f65_l2_j2 k ag f ah g h i j l a m b o c ai p q s t u v w x y d aj z r n aa ab a ac af ad e)
     (none)))
theorem f65_l2_j1_ok (k ai ae am aj f g h i j d l e m a ak o p q s t u v w x b al y z n aa ab af ac ag ad c r) (hF:f65_l2_j1 k ai ae am aj f g h i j d l e m a ak o p q s t u v w x b al y z n aa ab af ac ag ad c=some r):EX 65 k (nav B65 [2,2,1,2,2,1,2,2,2]) (⟨92,[(2,.ptr 30000 0),(3,.ptr 30001 0),(5,.ptr 30002 0),(25,V.bsl 30003 2 2),(26,jI ai),(27,jI ae),(28,.p (.bool am))],[(30000,.box 39 [jI aj,jI f,jU g,jI h,jI i,jI j,jI d,jI l,jI e,jI m,.sl 1 (rowsOf (encI .u8) a)]),(30001,.box 39 [jI ak,jI o,jU p,jI q,jI s,jI t,jI u,jI v,jI w,jI x,.sl 1 (rowsOf (encI .u8) b)]),(30002,.box 39 [jI al,jI y,jU z,jI n,jI aa,jI ab,jI af,jI ac,jI ag,jI ad,.sl 1 (rowsOf (encI .u8) c)]),(30003,.box 109 [.ptr 30002 8,.ptr 30000 8,.ptr 30002 6,.ptr 30000 6])]⟩:St)=some r.st:=by
 unfold f65_l2_j1 at hF
 obtain ⟨h1,hF⟩:=ifE_some.1 hF
 simp (disch:=first|apply D;decide|apply K;kernel_rfl) only [E,EE,↓reduceIte,simprocAttr,xk B65 [2,2,1,2,2,1,2,2,2] .sq rfl,xk B65 [1,2,2,1,2,2,1,2,2,2] (.bk 1) rfl,xk B65 [2,1,2,2,1,2,2,1,2,2,2] .sq rfl,rg B65 [1,2,1,2,2,1,2,2,1,2,2,2] 6 false rfl,hr 65 6 rfl,indexAddrV,t_110,t_109,h1]
 rcases cond_some hF with ⟨h2,hF⟩ | ⟨h2,hF⟩
 ·have q3:ae<(2:Int):=by have:=eq_of_beq h2;omega
  have q4:Int.toNat ae=0:=by have:=eq_of_beq h2;omega
  have hJ:=f65_l2_j2_ok k ai ae aj f g h i j d l e m a ak o p q s t u v w x b al y z n aa ab af ac e ad c _ hF
  simp (disch:=first|apply D;decide|apply K;kernel_rfl) only [E,EE,↓reduceIte,simprocAttr,t_109,rg B65 [2,2,1,2,2,1,2,2,1,2,2,2] 7 true rfl,hr 65 7 rfl,indexAddrV,t_108,t_3,h1,h2,q3,q4]
  try simp only [NM,EE] at hJ
  exact hJ
 ·rcases cond_some hF with ⟨h5,hF⟩ | ⟨h5,hF⟩
  ·have q6:ae<(2:Int):=by have:=eq_of_beq h5;omega
   have q7:Int.toNat ae=1:=by have:=eq_of_beq h5;omega
   have hJ:=f65_l2_j2_ok k ai ae aj f g h i j d l e m a ak o p q s t u v w x b al y z n aa ab d ac ag ad c _ hF
   simp (disch:=first|apply D;decide|apply K;kernel_rfl) only [E,EE,↓reduceIte,simprocAttr,t_109,rg B65 [2,2,1,2,2,1,2,2,1,2,2,2] 7 true rfl,hr 65 7 rfl,indexAddrV,t_108,t_3,h1,h2,h5,q6,q7]
   try simp only [NM,EE] at hJ
   exact hJ
  ·cases hF
noncomputable def f65_l2_b (k:Nat) (af ag ah d e f g h i j l m:Int) (a:List Int) (ai o p q s t u v w x:Int) (b:List Int) (aj y z r n aa ab ac ad ae:Int) (c:List Int):Option R65_l2 :=
 cond ((decide (ag<af)))
  (f65_l2_j1 k af ag true ah d e f g h i j l m a ai o p q s t u v w x b aj y z r n aa ab ac ad ae c)
  (some (.o1 af ag false ah d e f g h i j l m a ai o p q s t u v w x b aj y z r n aa ab ac ad ae c))
theorem f65_l2_b_ok (k ag ah ai d e f g h i j l m a aj o p q s t u v w x b ak y z n aa ab ac ad ae af c r) (hF:f65_l2_b k ag ah ai d e f g h i j l m a aj o p q s t u v w x b ak y z n aa ab ac ad ae af c=some r):EX 65 k (nav B65 [1,2,2,1,2,2,2]) (⟨92,[(2,.ptr 30000 0),(3,.ptr 30001 0),(5,.ptr 30002 0),(25,V.bsl 30003 2 2),(26,jI ag),(27,jI ah)],[(30000,.box 39 [jI ai,jI d,jU e,jI f,jI g,jI h,jI i,jI j,jI l,jI m,.sl 1 (rowsOf (encI .u8) a)]),(30001,.box 39 [jI aj,jI o,jU p,jI q,jI s,jI t,jI u,jI v,jI w,jI x,.sl 1 (rowsOf (encI .u8) b)]),(30002,.box 39 [jI ak,jI y,jU z,jI n,jI aa,jI ab,jI ac,jI ad,jI ae,jI af,.sl 1 (rowsOf (encI .u8) c)]),(30003,.box 109 [.ptr 30002 8,.ptr 30000 8,.ptr 30002 6,.ptr 30000 6])]⟩:St)=some r.st:=by
 unfold f65_l2_b at hF
 simp (disch:=first|apply D;decide|apply K;kernel_rfl) only [E,EE,↓reduceIte,simprocAttr,xk B65 [1,2,2,1,2,2,2] .sq rfl,rg B65 [1,1,2,2,1,2,2,2] 5 false rfl,hr 65 5 rfl,xk B65 [2,1,2,2,1,2,2,2] .sq rfl,xk B65 [1,2,1,2,2,1,2,2,2] (.cd 28) rfl]
 rcases cond_some hF with ⟨h1,hF⟩ | ⟨h1,hF⟩
 ·have hJ:=f65_l2_j1_ok k ag ah true ai d e f g h i j l m a aj o p q s t u v w x b ak y z n aa ab ac ad ae af c _ hF
  simp (disch:=first|apply D;decide|apply K;kernel_rfl) only [E,EE,↓reduceIte,simprocAttr,xk B65 [2,1,2,1,2,2,1,2,2,2] .sk rfl,h1]
  try simp only [NM,EE] at hJ
  exact hJ
 ·cases hF
  simp (disch:=first|apply D;decide|apply K;kernel_rfl) only [E,EE,↓reduceIte,simprocAttr,xk B65 [3,1,2,1,2,2,1,2,2,2] (.ex 0) rfl,R65_l2.st,h1]
noncomputable def f65_l2 (k:Nat):Nat→Int→Int→Int→Int→Int→Int→Int→Int→Int→Int→Int→Int→(List Int)→Int→Int→Int→Int→Int→Int→Int→Int→Int→Int→(List Int)→Int→Int→Int→Int→Int→Int→Int→Int→Int→Int→(List Int)→Option R65_l2
 | 0,_,_,_,_,_,_,_,_,_,_,_,_,_,_,_,_,_,_,_,_,_,_,_,_,_,_,_,_,_,_,_,_,_,_,_=>none
 | n+1,bk,bl,bm,ag,ah,ai,aj,ak,al,am,an,ao,ad,bn,ap,aq,ar,au,av,aw,ax,ay,az,ae,bo,a0,a1,a2,a3,a4,a5,a6,a7,a8,af=>Option.bind (f65_l2_b k bk bl bm ag ah ai aj ak al am an ao ad bn ap aq ar au av aw ax ay az ae bo a0 a1 a2 a3 a4 a5 a6 a7 a8 af) fun o =>
  match o with
  | .o0 y a9 ba bb bc bd bf bg bh bi a b c d e f g h i j l m p q s t u v w x z r aa ab ac=>f65_l2 k n y a9 ba bb bc bd bf bg bh bi a b c d e f g h i j l m p q s t u v w x z r aa ab ac
  | .o1 y a9 ba bb bc bd bf bg bh bi a b c d e f g h i j l m p q s t u v w x z r aa ab ac bj=>some (.o1 y a9 ba bb bc bd bf bg bh bi a b c d e f g h i j l m p q s t u v w x z r aa ab ac bj)
theorem f65_l2_ok (k n:Nat):∀ (ak al am d e f g i j l m p:Int) (a:List Int) (an q s t u v w x z aa:Int) (b:List Int) (ao ab ac ad ae af ag ah ai aj:Int) (c:List Int) (r:R65_l2) (hF:f65_l2 k n ak al am d e f g i j l m p a an q s t u v w x z aa b ao ab ac ad ae af ag ah ai aj c=some r) (σ:St) (hσ:headR (hints.head 65 5) (hints.canon 65 5) σ=some (⟨92,[(2,.ptr 30000 0),(3,.ptr 30001 0),(5,.ptr 30002 0),(25,V.bsl 30003 2 2),(26,jI ak),(27,jI al)],[(30000,.box 39 [jI am,jI d,jU e,jI f,jI g,jI i,jI j,jI l,jI m,jI p,.sl 1 (rowsOf (encI .u8) a)]),(30001,.box 39 [jI an,jI q,jU s,jI t,jI u,jI v,jI w,jI x,jI z,jI aa,.sl 1 (rowsOf (encI .u8) b)]),(30002,.box 39 [jI ao,jI ab,jU ac,jI ad,jI ae,jI af,jI ag,jI ah,jI ai,jI aj,.sl 1 (rowsOf (encI .u8) c)]),(30003,.box 109 [.ptr 30002 8,.ptr 30000 8,.ptr 30002 6,.ptr 30000 6])]⟩:St)),LP 65 k (nav B65 [1,2,2,1,2,2,2]) n σ=some r.st:=by
 induction n with
 | zero=>intro ak al am d e f g i j l m p a an q s t u v w x z aa b ao ab ac ad ae af ag ah ai aj c r hF;cases hF
 | succ n ih =>
  intro ak al am d e f g i j l m p a an q s t u v w x z aa b ao ab ac ad ae af ag ah ai aj c r hF σ hσ
  rw [f65_l2] at hF
  obtain ⟨o,h,hF⟩:=Option.bind_eq_some_iff.1 hF
  have hB:=f65_l2_b_ok k ak al am d e f g i j l m p a an q s t u v w x z aa b ao ab ac ad ae af ag ah ai aj c o h
  unfold LP at ih ⊢
  unfold EX at hB
  rw [loopK_succ,show firstReg (nav B65 [1,2,2,1,2,2,2])=5 from rfl,hσ,headK_some,hB]
  cases o with
  | o0 y bi bj bk bl bm bn bo bp bq aq ar au av aw ax ay az a0 a1 a2 a3 a4 a5 a6 a7 a8 a9 ba bb bc bd bf bg bh =>
   refine ih y bi bj bk bl bm bn bo bp bq aq ar au av aw ax ay az a0 a1 a2 a3 a4 a5 a6 a7 a8 a9 ba bb bc bd bf bg bh r hF _ ?_
   simp (disch:=first|apply D;decide|apply K;kernel_rfl) only [E,EE,↓reduceIte,simprocAttr,hh_65_5,hc_65_5]
  | o1 y bi bj bk bl bm bn bo bp bq aq ar au av aw ax ay az a0 a1 a2 a3 a4 a5 a6 a7 a8 a9 ba bb bc bd bf bg bh bt=>cases hF;rfl
noncomputable def f65_j4 (k:Nat) (y:Bool) (z e f g h i j l a m:Int) (c:List Int) (r o p q s t u v b w:Int) (d:List Int):Option R65 :=
 cond ((decide ((if b>a then b else a)≥(if (IntKind.i64.wrap (b+((List.length d):Int)))<(IntKind.i64.wrap (a+((List.length c):Int))) then (IntKind.i64.wrap (b+((List.length d):Int))) else (IntKind.i64.wrap (a+((List.length c):Int)))))))
  (some (.o0 true))
  (
   ifE ((0:Int)≤(IntKind.i64.wrap ((if b>a then b else a) - a))) (
    ifE ((0:Int)≤(IntKind.i64.wrap ((if (IntKind.i64.wrap (b+((List.length d):Int)))<(IntKind.i64.wrap (a+((List.length c):Int))) then (IntKind.i64.wrap (b+((List.length d):Int))) else (IntKind.i64.wrap (a+((List.length c):Int)))) - a))) (
     ifE ((Int.toNat (IntKind.i64.wrap ((if b>a then b else a) - a)))≤(Int.toNat ((IntKind.i64.wrap ((if (IntKind.i64.wrap (b+((List.length d):Int)))<(IntKind.i64.wrap (a+((List.length c):Int))) then (IntKind.i64.wrap (b+((List.length d):Int))) else (IntKind.i64.wrap (a+((List.length c):Int)))) - a))))) (
      ifE ((Int.toNat ((IntKind.i64.wrap ((if (IntKind.i64.wrap (b+((List.length d):Int)))<(IntKind.i64.wrap (a+((List.length c):Int))) then (IntKind.i64.wrap (b+((List.length d):Int))) else (IntKind.i64.wrap (a+((List.length c):Int)))) - a))))≤(List.length c)) (
       ifE ((0:Int)≤(IntKind.i64.wrap ((if b>a then b else a) - b))) (
        ifE ((0:Int)≤(IntKind.i64.wrap ((if (IntKind.i64.wrap (b+((List.length d):Int)))<(IntKind.i64.wrap (a+((List.length c):Int))) then (IntKind.i64.wrap (b+((List.length d):Int))) else (IntKind.i64.wrap (a+((List.length c):Int)))) - b))) (
         ifE ((Int.toNat (IntKind.i64.wrap ((if b>a then b else a) - b)))≤(Int.toNat ((IntKind.i64.wrap ((if (IntKind.i64.wrap (b+((List.length d):Int)))<(IntKind.i64.wrap (a+((List.length c):Int))) then (IntKind.i64.wrap (b+((List.length d):Int))) else (IntKind.i64.wrap (a+((List.length c):Int)))) - b))))) (
          ifE ((Int.toNat ((IntKind.i64.wrap ((if (IntKind.i64.wrap (b+((List.length d):Int)))<(IntKind.i64.wrap (a+((List.length c):Int))) then (IntKind.i64.wrap (b+((List.length d):Int))) else (IntKind.i64.wrap (a+((List.length c):Int)))) - b))))≤(List.length d)) (
           Option.bind (f67 k ((List.drop (Int.toNat (IntKind.i64.wrap ((if b>a then b else a) - a))) ((List.take ((Int.toNat ((IntKind.i64.wrap ((if (IntKind.i64.wrap (b+((List.length d):Int)))<(IntKind.i64.wrap (a+((List.length c):Int))) then (IntKind.i64.wrap (b+((List.length d):Int))) else (IntKind.i64.wrap (a+((List.length c):Int)))) - a))))) c)))) ((List.drop (Int.toNat (IntKind.i64.wrap ((if b>a then b else a) - b))) ((List.take ((Int.toNat ((IntKind.i64.wrap ((if (IntKind.i64.wrap (b+((List.length d):Int)))<(IntKind.i64.wrap (a+((List.length c):Int))) then (IntKind.i64.wrap (b+((List.length d):Int))) else (IntKind.i64.wrap (a+((List.length c):Int)))) - b))))) d))))) fun o10 =>
            match o10 with
            | .o0 x =>
             some (.o0 x))))))))))
theorem f65_j4_ok (k z n f g h i j l m a o c aa p q s t u v w b x d r) (e:f65_j4 k z n f g h i j l m a o c aa p q s t u v w b x d=some r):finK Try.prog Try.f65 0 (EX 65 k (nav B65 [2,2,2,2,2,2]) (⟨92,[(2,.ptr 30000 0),(3,.ptr 30001 0),(45,.p (.bool z))],[(30000,.box 39 [jI n,jI f,jU g,jI h,jI i,jI j,jI l,jI m,jI a,jI o,.sl 1 (rowsOf (encI .u8) c)]),(30001,.box 39 [jI aa,jI p,jU q,jI s,jI t,jI u,jI v,jI w,jI b,jI x,.sl 1 (rowsOf (encI .u8) d)])]⟩:St))=some r.st:=by
 unfold f65_j4 at e
 simp (disch:=first|apply D;decide|apply K;kernel_rfl) only [E,EE,↓reduceIte,simprocAttr,xk B65 [2,2,2,2,2,2] .sq rfl,rg B65 [1,2,2,2,2,2,2] 12 true rfl,hr 65 12 rfl,fieldAddrV,t_39,t_3,minmaxV,minmaxGo,t_29,xk B65 [2,2,2,2,2,2,2] .sq rfl,rg B65 [1,2,2,2,2,2,2,2] 13 true rfl,hr 65 13 rfl]
 rcases cond_some e with ⟨h1,e⟩ | ⟨h1,e⟩
 ·cases e
  simp (disch:=first|apply D;decide|apply K;kernel_rfl) only [E,EE,↓reduceIte,simprocAttr,xk B65 [2,2,2,2,2,2,2,2] .rt rfl,fin65,R65.st,h1]
 ·obtain ⟨h2,e⟩:=ifE_some.1 e
  obtain ⟨h3,e⟩:=ifE_some.1 e
  obtain ⟨h4,e⟩:=ifE_some.1 e
  obtain ⟨h5,e⟩:=ifE_some.1 e
  obtain ⟨h6,e⟩:=ifE_some.1 e
  obtain ⟨h7,e⟩:=ifE_some.1 e
  obtain ⟨h8,e⟩:=ifE_some.1 e
  obtain ⟨h9,e⟩:=ifE_some.1 e
  obtain ⟨o10,ac,e⟩:=bs e
  have y:=f67_ok k ((List.drop (Int.toNat (IntKind.i64.wrap ((if b>a then b else a) - a))) ((List.take ((Int.toNat ((IntKind.i64.wrap ((if (IntKind.i64.wrap (b+((List.length d):Int)))<(IntKind.i64.wrap (a+((List.length c):Int))) then (IntKind.i64.wrap (b+((List.length d):Int))) else (IntKind.i64.wrap (a+((List.length c):Int)))) - a))))) c)))) ((List.drop (Int.toNat (IntKind.i64.wrap ((if b>a then b else a) - b))) ((List.take ((Int.toNat ((IntKind.i64.wrap ((if (IntKind.i64.wrap (b+((List.length d):Int)))<(IntKind.i64.wrap (a+((List.length c):Int))) then (IntKind.i64.wrap (b+((List.length d):Int))) else (IntKind.i64.wrap (a+((List.length c):Int)))) - b))))) d)))) _ ac
  cases o10 with
  | o0 al =>
   (try dsimp only at e)
   (try simp only [NM,EE,R67.st] at y)
   cases e
   simp (disch:=first|apply D;decide|apply K;kernel_rfl) only [E,EE,↓reduceIte,simprocAttr,fieldAddrV,t_39,t_29,t_3,sliceV,bound,t_5,callStep,CL,gv,List.contains,xk B65 [2,2,2,2,2,2,2,2] .rt rfl,fin65,R65.st,h1,h2,h3,h4,h5,h6,h7,h8,h9,y]
noncomputable def f65_j3 (k:Nat) (ai aj:Int) (ak:Bool) (ae b c d e f g h i j:Int) (a:List Int) (ag m o p q s t u v w:Int) (l:List Int) (ah x y z r n aa ab ac ad:Int) (af:List Int):Option R65 :=
 Option.bind (f41 k ae b c d e f g h i j a ah x y z r n aa ab ac ad a) fun o1 =>
  match o1 with
  | .o0 v4 =>
   cond ((!v4))
    (some (.o0 false))
    (f65_j4 k false ae b c d e f g h i j a ag m o p q s t u v w l)
theorem f65_j3_ok (k al am an ag b c d e f g h i j a aj m o p q s t u v w l ak x y z n aa ab ac ad ae af r) (hF:f65_j3 k al am an ag b c d e f g h i j a aj m o p q s t u v w l ak x y z n aa ab ac ad ae af=some r):finK Try.prog Try.f65 0 (EX 65 k (nav B65 [2,2,2,2]) (⟨92,[(2,.ptr 30000 0),(3,.ptr 30001 0),(5,.ptr 30002 0),(25,V.bsl 30003 2 2),(26,jI al),(27,jI am),(28,.p (.bool an))],[(30000,.box 39 [jI ag,jI b,jU c,jI d,jI e,jI f,jI g,jI h,jI i,jI j,.sl 1 (rowsOf (encI .u8) a)]),(30001,.box 39 [jI aj,jI m,jU o,jI p,jI q,jI s,jI t,jI u,jI v,jI w,.sl 1 (rowsOf (encI .u8) l)]),(30002,.box 39 [jI ak,jI x,jU y,jI z,jI n,jI aa,jI ab,jI ac,jI ad,jI ae,.sl 1 (rowsOf (encI .u8) af)]),(30003,.box 109 [.ptr 30002 8,.ptr 30000 8,.ptr 30002 6,.ptr 30000 6])]⟩:St))=some r.st:=by
 unfold f65_j3 at hF
 obtain ⟨o1,h2,hF⟩:=bs hF
 have ai:=f41_ok k ag b c d e f g h i j a ak x y z n aa ab ac ad ae a _ h2
 cases o1 with
 | o0 v4 =>
  (try dsimp only at hF)
  (try simp only [NM,EE,R41.st] at ai)
  simp (disch:=first|apply D;decide|apply K;kernel_rfl) only [E,EE,↓reduceIte,simprocAttr,xk B65 [2,2,2,2] .sq rfl,rg B65 [1,2,2,2,2] 9 false rfl,hr 65 9 rfl,fieldAddrV,t_39,t_29,xk B65 [2,2,2,2,2] .sq rfl,xk B65 [1,2,2,2,2,2] .sq rfl,rg B65 [1,1,2,2,2,2,2] 10 false rfl,hr 65 10 rfl,callStep,CL,gv,List.contains,xk B65 [2,1,2,2,2,2,2] (.cd 45) rfl,ai]
  rcases cond_some hF with ⟨h5,hF⟩ | ⟨h5,hF⟩
  ·cases hF
   simp (disch:=first|apply D;decide|apply K;kernel_rfl) only [E,EE,↓reduceIte,simprocAttr,xk B65 [2,2,1,2,2,2,2,2] .sq rfl,rg B65 [1,2,2,1,2,2,2,2,2] 11 false rfl,hr 65 11 rfl,xk B65 [2,2,2,1,2,2,2,2,2] .rt rfl,fin65,R65.st,ai,h5]
  ·have hJ:=f65_j4_ok k false ag b c d e f g h i j a aj m o p q s t u v w l _ hF
   simp (disch:=first|apply D;decide|apply K;kernel_rfl) only [E,EE,↓reduceIte,simprocAttr,xk B65 [3,2,1,2,2,2,2,2] .sk rfl,ai,h5]
   try simp only [NM,EE] at hJ
   exact hJ
noncomputable def f65_j1 (k:Nat) (a2:Bool) (m2 m o p q s t u v w:Int) (l:List Int) (m3 b c d e f g h i j:Int) (a:List Int):Option R65 :=
 Option.bind (f65_l2 k k 2 0 m2 m o p q s t u v w l m3 b c d e f g h i j a m3 b c d e f g h i j a) fun o1 =>
  match o1 with
  | .o0 _ _ _ _ _ _ _ _ _ _ _ _ _ _ _ _ _ _ _ _ _ _ _ _ _ _ _ _ _ _ _ _ _ _ _ =>
   none
  | .o1 v4 v5 v6 v7 v8 v9 x y z r n aa ab ac ad ae af ag ah ai aj ak al am an ao ap aq ar au av aw ax ay az a0 =>
   f65_j3 k v4 v5 v6 v7 v8 v9 x y z r n aa ab ac ad ae af ag ah ai aj ak al am an ao ap aq ar au av aw ax ay az a0
theorem f65_j1_ok (k z m2 m o p q s t u v w b n c d e f g h i j l a r) (x:f65_j1 k z m2 m o p q s t u v w b n c d e f g h i j l a=some r):finK Try.prog Try.f65 0 (EX 65 k (nav B65 [2,2]) (⟨92,[(2,.ptr 2 0),(3,.ptr 3 0),(17,.p (.bool z))],[(2,.box 39 [jI m2,jI m,jU o,jI p,jI q,jI s,jI t,jI u,jI v,jI w,.sl 1 (rowsOf (encI .u8) b)]),(3,.box 39 [jI n,jI c,jU d,jI e,jI f,jI g,jI h,jI i,jI j,jI l,.sl 1 (rowsOf (encI .u8) a)])]⟩:St))=some r.st:=by
 unfold f65_j1 at x
 obtain ⟨o1,h2,x⟩:=bs x
 have y:=f65_l2_ok k k 2 0 m2 m o p q s t u v w b n c d e f g h i j l a n c d e f g h i j l a _ h2
 simp (disch:=first|apply D;decide|apply K;kernel_rfl) only [E,EE,↓reduceIte,simprocAttr,xk B65 [2,2] .sq rfl,rg B65 [1,2,2] 3 false rfl,hr 65 3 rfl,t_39,xk B65 [2,2,2] .sq rfl,xk B65 [1,2,2,2] .sq rfl,rg B65 [1,1,2,2,2] 4 false rfl,hr 65 4 rfl,fieldAddrV,t_3,bl_109,t_109,buildSliceV,fillRows,t_110,xk B65 [2,1,2,2,2] (.bk 0) rfl,xk B65 [2,2,1,2,2,2] .lp rfl,hh_65_5,hc_65_5]
 (try simp only [NM,EE] at y)
 rw [y _ (by simp (disch:=first|apply D;decide|apply K;kernel_rfl) only [E,EE,↓reduceIte,simprocAttr,hh_65_5,hc_65_5])]
 clear y
 cases o1 with
 | o0 _ _ _ _ _ _ _ _ _ _ _ _ _ _ _ _ _ _ _ _ _ _ _ _ _ _ _ _ _ _ _ _ _ _ _ =>
  (try dsimp only at x)
  cases x
 | o1 v4 v5 v6 v7 v8 v9 ab ac ad ae af ag ah ai aj ak al am an ao ap aq ar au av aw ax ay az a0 a1 a2 a3 a4 a5 a6 =>
  (try dsimp only at x)
  have hJ:=f65_j3_ok k v4 v5 v6 v7 v8 v9 ab ac ad ae af ag ah ai aj ak al am an ao ap aq ar au av aw ax ay az a0 a1 a2 a3 a4 a5 a6 _ x
  simp (disch:=first|apply D;decide|apply K;kernel_rfl) only [E,EE,↓reduceIte,simprocAttr,R65_l2.st]
  try simp only [NM,EE] at hJ
  exact hJ
noncomputable def f65_e (k:Nat) (x c d e f g h i j l:Int) (a:List Int) (y m o p q s t u v w:Int) (b:List Int):Option R65 :=
 Option.bind (f24 k x c d e f g h i j l a) fun o1 =>
  match o1 with
  | .o0 z =>
   cond ((z != 0))
    (some (.o0 false))
    (
     Option.bind (f24 k y m o p q s t u v w b) fun o6 =>
      match o6 with
      | .o0 r =>
       cond ((r != 0))
        (some (.o0 false))
        (f65_j1 k false x c d e f g h i j l a y m o p q s t u v w b))
theorem f65_e_ok (k a0 d e f g h i j l m a a1 o p q s t u v w x b r) (c:f65_e k a0 d e f g h i j l m a a1 o p q s t u v w x b=some r):finK Try.prog Try.f65 0 (EX 65 k (nav B65 []) (⟨92,[(0,.agg [jI a0,jI d,jU e,jI f,jI g,jI h,jI i,jI j,jI l,jI m,.sl 1 (rowsOf (encI .u8) a)]),(1,.agg [jI a1,jI o,jU p,jI q,jI s,jI t,jI u,jI v,jI w,jI x,.sl 1 (rowsOf (encI .u8) b)])],[]⟩:St))=some r.st:=by
 unfold f65_e at c
 obtain ⟨o1,h2,c⟩:=bs c
 have y:=f24_ok k a0 d e f g h i j l m a _ h2
 cases o1 with
 | o0 v4 =>
  (try dsimp only at c)
  (try simp only [NM,EE,R24.st] at y)
  simp (disch:=first|apply D;decide|apply K;kernel_rfl) only [E,EE,↓reduceIte,simprocAttr,xk B65 [] .sq rfl,rg B65 [1] 0 false rfl,hr 65 0 rfl,xk B65 [2] .sq rfl,xk B65 [1,2] .sq rfl,rg B65 [1,1,2] 1 false rfl,hr 65 1 rfl,t_39,callStep,CL,gv,List.contains,y]
  rcases cond_some c with ⟨h5,c⟩ | ⟨h5,c⟩
  ·cases c
   simp (disch:=first|apply D;decide|apply K;kernel_rfl) only [E,EE,↓reduceIte,simprocAttr,xk B65 [2,1,2] (.cd 17) rfl,xk B65 [2,2,1,2] .sq rfl,rg B65 [1,2,2,1,2] 2 false rfl,hr 65 2 rfl,xk B65 [2,2,2,1,2] .rt rfl,fin65,R65.st,y,h5]
  ·obtain ⟨o6,h7,c⟩:=bs c
   have z:=f24_ok k a1 o p q s t u v w x b _ h7
   cases o6 with
   | o0 v9 =>
    (try dsimp only at c)
    (try simp only [NM,EE,R24.st] at z)
    simp (disch:=first|apply D;decide|apply K;kernel_rfl) only [E,EE,↓reduceIte,simprocAttr,t_39,callStep,CL,gv,List.contains,xk B65 [2,1,2] (.cd 17) rfl,y,h5,z]
    rcases cond_some c with ⟨n,c⟩ | ⟨n,c⟩
    ·cases c
     simp (disch:=first|apply D;decide|apply K;kernel_rfl) only [E,EE,↓reduceIte,simprocAttr,xk B65 [2,2,1,2] .sq rfl,rg B65 [1,2,2,1,2] 2 false rfl,hr 65 2 rfl,xk B65 [2,2,2,1,2] .rt rfl,fin65,R65.st,y,h5,z,n]
    ·have hJ:=f65_j1_ok k false a0 d e f g h i j l m a a1 o p q s t u v w x b _ c
     simp (disch:=first|apply D;decide|apply K;kernel_rfl) only [E,EE,↓reduceIte,simprocAttr,xk B65 [3,2,1,2] .sk rfl,y,h5,z,n]
     try simp only [NM,EE] at hJ
     exact hJ
noncomputable def f65 (k:Nat) (x c d e f g h i j l:Int) (a:List Int) (y m o p q s t u v w:Int) (b:List Int):Option R65:=match k with | 0=>none | k+1=>f65_e k x c d e f g h i j l a y m o p q s t u v w b
theorem f65_ok (k y d e f g h i j l m a z o p q s t u v w x b r) (n:f65 k y d e f g h i j l m a z o p q s t u v w x b=some r):CV k 65 [.agg [jI y,jI d,jU e,jI f,jI g,jI h,jI i,jI j,jI l,jI m,.sl 1 (rowsOf (encI .u8) a)],.agg [jI z,jI o,jU p,jI q,jI s,jI t,jI u,jI v,jI w,jI x,.sl 1 (rowsOf (encI .u8) b)]] []=some r.st:=by
 cases k with
 | zero=>cases n
 | succ k =>
  unfold CV
  rw [ev_call (F:=Try.f65) (c:=(nav B65 [])) rfl Try.func65 rfl rfl rfl rfl]
  exact f65_e_ok k y d e f g h i j l m a z o p q s t u v w x b r n
end Go.Proofs.YticggdfaehneeaaV