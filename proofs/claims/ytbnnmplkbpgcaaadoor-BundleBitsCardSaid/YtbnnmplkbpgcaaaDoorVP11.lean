/- What the program's functions answer: plain functions,and that the interpreter answers what they do. Written by a program of this session,out of the translation. -/
import Derived.Test.YtbnnmplkbpgcaaaDoorVP10
namespace Go.Proofs.YtbnnmplkbpgcaaaDoorV
open Go
set_option linter.unusedVariables false
set_option linter.unusedSimpArgs false
set_option maxRecDepth 8000
set_option maxHeartbeats 4000000
-- f5: f5 heliograph/heliographlaw09.BundleBits
inductive R5 where
 | o0 (y:Bool)
noncomputable def R5.st:R5→V×List O×List O
 | .o0 y=>(.p (.bool y),[],[])
noncomputable def f5_j3 (k:Nat) (b:Int) (c:List Int) (o:Bool) (p d e f g h i j l m:Int) (a:List Int):Option R5 :=
 ifE (¬(IntKind.i64.wrap ((8:Int) * ((List.length a):Int)))=0) (
  ifE ((0:Int)≤(IntKind.i64.wrap ((IntKind.i64.wrap ((IntKind.i64.wrap (((List.length c):Int) - (4:Int))) - ((List.length a):Int)))+(IntKind.i64.wrap (Int.tdiv (Int.tmod (if (0:Int)>b then 0 else b) (IntKind.i64.wrap ((8:Int) * ((List.length a):Int)))) (8:Int)))))) (
   Option.bind (c[(Int.toNat ((IntKind.i64.wrap ((IntKind.i64.wrap ((IntKind.i64.wrap (((List.length c):Int) - (4:Int))) - ((List.length a):Int)))+(IntKind.i64.wrap (Int.tdiv (Int.tmod (if (0:Int)>b then 0 else b) (IntKind.i64.wrap ((8:Int) * ((List.length a):Int)))) (8:Int)))))))]?) fun q =>
    ifE (¬(Int.tmod (Int.tmod (if (0:Int)>b then 0 else b) (IntKind.i64.wrap ((8:Int) * ((List.length a):Int)))) (8:Int))<0) (
     none)))
theorem f5_j3_ok (k o p m q c d e f g h i j l a r) (b:f5_j3 k o p m q c d e f g h i j l a=some r):finK Tryd.prog Tryd.f5 0 (EX 5 k (nav B5 [2,2,2,2,2]) (⟨58,[(1,jI o),(2,.ptr 2 0),(5,.sl 1 (rowsOf (encI .u8) p)),(22,.p (.bool m))],[(2,.box 26 [jI q,jI c,jU d,jI e,jI f,jI g,jI h,jI i,jI j,jI l,.sl 1 (rowsOf (encI .u8) a)])]⟩:St))=some r.st:=by
 unfold f5_j3 at b
 obtain ⟨s,b⟩:=ifE_some.1 b
 obtain ⟨t,b⟩:=ifE_some.1 b
 obtain ⟨u,v,b⟩:=bs b
 obtain ⟨w,b⟩:=ifE_some.1 b
 cases b
noncomputable def f5_j4 (k:Nat) (c:Int) (p:Bool) (m2 e f g h i j l m o:Int) (a b:List Int):Option R5 :=
 ifE (¬(IntKind.i64.wrap ((8:Int) * ((List.length a):Int)))=0) (
  ifE ((0:Int)≤(IntKind.i64.wrap ((IntKind.i64.wrap ((IntKind.i64.wrap (((List.length b):Int) - (4:Int))) - ((List.length a):Int)))+(IntKind.i64.wrap (Int.tdiv (Int.tmod (if (0:Int)>c then 0 else c) (IntKind.i64.wrap ((8:Int) * ((List.length a):Int)))) (8:Int)))))) (
   ifE ((IntKind.i64.wrap ((IntKind.i64.wrap ((IntKind.i64.wrap (((List.length b):Int) - (4:Int))) - ((List.length a):Int)))+(IntKind.i64.wrap (Int.tdiv (Int.tmod (if (0:Int)>c then 0 else c) (IntKind.i64.wrap ((8:Int) * ((List.length a):Int)))) (8:Int)))))<((List.length b):Int)) (
    Option.bind (b[(Int.toNat ((IntKind.i64.wrap ((IntKind.i64.wrap ((IntKind.i64.wrap (((List.length b):Int) - (4:Int))) - ((List.length a):Int)))+(IntKind.i64.wrap (Int.tdiv (Int.tmod (if (0:Int)>c then 0 else c) (IntKind.i64.wrap ((8:Int) * ((List.length a):Int)))) (8:Int)))))))]?) fun q =>
     ifE (¬(Int.tmod (Int.tmod (if (0:Int)>c then 0 else c) (IntKind.i64.wrap ((8:Int) * ((List.length a):Int)))) (8:Int))<0) (
      Option.bind (f10 k ((List.set b ((Int.toNat ((IntKind.i64.wrap ((IntKind.i64.wrap ((IntKind.i64.wrap (((List.length b):Int) - (4:Int))) - ((List.length a):Int)))+(IntKind.i64.wrap (Int.tdiv (Int.tmod (if (0:Int)>c then 0 else c) (IntKind.i64.wrap ((8:Int) * ((List.length a):Int)))) (8:Int)))))))) ((IntKind.u8.wrap ((BitVec.ofInt (IntKind.bits .u8) q ^^^ BitVec.ofInt (IntKind.bits .u8) (IntKind.u8.wrap ((1:Int) * 2 ^ (min (Int.toNat ((Int.tmod (Int.tmod (if (0:Int)>c then 0 else c) (IntKind.i64.wrap ((8:Int) * ((List.length a):Int)))) (8:Int)))) (IntKind.bits .u8))))).toNat:Nat)))))) fun o9 =>
       match o9 with
       | .o0 s t u v w x y z r n aa d =>
        some (.o0 (d==130))))))
theorem f5_j4_ok (k c t w e f g h j m o p q a b r) (d:f5_j4 k c t w e f g h j m o p q a b=some r):finK Tryd.prog Tryd.f5 0 (EX 5 k (nav B5 [2,2,2,2,2]) (⟨58,[(1,jI c),(2,.ptr 2 0),(5,.own 18),(22,.p (.bool t))],[(2,.box 26 [jI w,jI e,jU f,jI g,jI h,jI j,jI m,jI o,jI p,jI q,.sl 1 (rowsOf (encI .u8) a)]),(18,.row true 1 5 (rowsOf (encI .u8) b))]⟩:St))=some r.st:=by
 unfold f5_j4 at d
 obtain ⟨y,d⟩:=ifE_some.1 d
 obtain ⟨z,d⟩:=ifE_some.1 d
 obtain ⟨n,d⟩:=ifE_some.1 d
 obtain ⟨u,h5,d⟩:=bs d
 obtain ⟨h7,d⟩:=ifE_some.1 d
 have q8:List.set (rowsOf (encI .u8) b) ((Int.toNat ((IntKind.i64.wrap ((IntKind.i64.wrap ((IntKind.i64.wrap (((List.length b):Int) - (4:Int))) - ((List.length a):Int)))+(IntKind.i64.wrap (Int.tdiv (Int.tmod (if (0:Int)>c then 0 else c) (IntKind.i64.wrap ((8:Int) * ((List.length a):Int)))) (8:Int)))))))) [.p (.int .u8 (IntKind.u8.wrap ((BitVec.ofInt (IntKind.bits .u8) u ^^^ BitVec.ofInt (IntKind.bits .u8) (IntKind.u8.wrap ((1:Int) * 2 ^ (min (Int.toNat ((Int.tmod (Int.tmod (if (0:Int)>c then 0 else c) (IntKind.i64.wrap ((8:Int) * ((List.length a):Int)))) (8:Int)))) (IntKind.bits .u8))))).toNat:Nat)))]=rowsOf (encI .u8) (List.set b ((Int.toNat ((IntKind.i64.wrap ((IntKind.i64.wrap ((IntKind.i64.wrap (((List.length b):Int) - (4:Int))) - ((List.length a):Int)))+(IntKind.i64.wrap (Int.tdiv (Int.tmod (if (0:Int)>c then 0 else c) (IntKind.i64.wrap ((8:Int) * ((List.length a):Int)))) (8:Int)))))))) ((IntKind.u8.wrap ((BitVec.ofInt (IntKind.bits .u8) u ^^^ BitVec.ofInt (IntKind.bits .u8) (IntKind.u8.wrap ((1:Int) * 2 ^ (min (Int.toNat ((Int.tmod (Int.tmod (if (0:Int)>c then 0 else c) (IntKind.i64.wrap ((8:Int) * ((List.length a):Int)))) (8:Int)))) (IntKind.bits .u8))))).toNat:Nat)))):=(rowsOf_set (enc:=(encI .u8)) (l:=b) (i:=((Int.toNat ((IntKind.i64.wrap ((IntKind.i64.wrap ((IntKind.i64.wrap (((List.length b):Int) - (4:Int))) - ((List.length a):Int)))+(IntKind.i64.wrap (Int.tdiv (Int.tmod (if (0:Int)>c then 0 else c) (IntKind.i64.wrap ((8:Int) * ((List.length a):Int)))) (8:Int))))))))) (x:=(IntKind.u8.wrap ((BitVec.ofInt (IntKind.bits .u8) u ^^^ BitVec.ofInt (IntKind.bits .u8) (IntKind.u8.wrap ((1:Int) * 2 ^ (min (Int.toNat ((Int.tmod (Int.tmod (if (0:Int)>c then 0 else c) (IntKind.i64.wrap ((8:Int) * ((List.length a):Int)))) (8:Int)))) (IntKind.bits .u8))))).toNat:Nat)))).symm
 obtain ⟨o9,v,d⟩:=bs d
 have s:=f10_ok k ((List.set b ((Int.toNat ((IntKind.i64.wrap ((IntKind.i64.wrap ((IntKind.i64.wrap (((List.length b):Int) - (4:Int))) - ((List.length a):Int)))+(IntKind.i64.wrap (Int.tdiv (Int.tmod (if (0:Int)>c then 0 else c) (IntKind.i64.wrap ((8:Int) * ((List.length a):Int)))) (8:Int)))))))) ((IntKind.u8.wrap ((BitVec.ofInt (IntKind.bits .u8) u ^^^ BitVec.ofInt (IntKind.bits .u8) (IntKind.u8.wrap ((1:Int) * 2 ^ (min (Int.toNat ((Int.tmod (Int.tmod (if (0:Int)>c then 0 else c) (IntKind.i64.wrap ((8:Int) * ((List.length a):Int)))) (8:Int)))) (IntKind.bits .u8))))).toNat:Nat))))) _ v
 cases o9 with
 | o0 ad ae af ag ah ai aj ak al am an ao =>
  (try dsimp only at d)
  (try simp only [NM,EE,R10.st] at s)
  cases d
  simp (disch:=first|apply D;decide|apply K;kernel_rfl) only [E,EE,↓reduceIte,simprocAttr,xk B5 [2,2,2,2,2] .sq rfl,rg B5 [1,2,2,2,2,2] 8 false rfl,hr 5 8 rfl,minmaxV,minmaxGo,fieldAddrV,t_26,t_22,xk B5 [2,2,2,2,2,2] .sq rfl,rg B5 [1,2,2,2,2,2,2] 9 true rfl,hr 5 9 rfl,indexAddrV,t_5,encI_eq,shiftV,sm_5,xk B5 [2,2,2,2,2,2,2] .sq rfl,rg B5 [1,2,2,2,2,2,2,2] 10 false rfl,hr 5 10 rfl,callStep,CL,gv,List.contains,xk B5 [2,2,2,2,2,2,2,2] .sq rfl,rg B5 [1,2,2,2,2,2,2,2,2] 11 false rfl,hr 5 11 rfl,xk B5 [2,2,2,2,2,2,2,2,2] .rt rfl,fin5,R5.st,y,z,n,h5,h7,q8,s]
noncomputable def f5_j2 (k:Nat) (m:Int) (q:Bool) (l b c d e f g h i j:Int) (a:List Int):Option R5 :=
 Option.bind (f14 k l b c d e f g h i j a) fun o1 =>
  match o1 with
  | .o0 o s =>
   cond ((s != 0))
    (some (.o0 (((List.length o):Int)==0)))
    (f5_j3 k m o false l b c d e f g h i j a)
  | .o1 t p =>
   cond ((t != 0))
    (some (.o0 (((List.length p):Int)==0)))
    (f5_j4 k m false l b c d e f g h i j a p)
theorem f5_j2_ok (k q o p b c d e f g h i j a r) (m:f5_j2 k q o p b c d e f g h i j a=some r):finK Tryd.prog Tryd.f5 0 (EX 5 k (nav B5 [2,2,2]) (⟨58,[(1,jI q),(2,.ptr 2 0),(15,.p (.bool o))],[(2,.box 26 [jI p,jI b,jU c,jI d,jI e,jI f,jI g,jI h,jI i,jI j,.sl 1 (rowsOf (encI .u8) a)])]⟩:St))=some r.st:=by
 unfold f5_j2 at m
 simp (disch:=first|apply D;decide|apply K;kernel_rfl) only [E,EE,↓reduceIte,simprocAttr,xk B5 [2,2,2] .sq rfl,rg B5 [1,2,2,2] 5 false rfl,hr 5 5 rfl,t_26,callStep,CL,gv,List.contains]
 obtain ⟨o1,u,m⟩:=bs m
 have l:=f14_ok k p b c d e f g h i j a _ u
 cases o1 with
 | o0 v x =>
  (try dsimp only at m)
  (try simp only [NM,EE,R14.st] at l)
  simp (disch:=first|apply D;decide|apply K;kernel_rfl) only [E,EE,↓reduceIte,simprocAttr,xk B5 [2,2,2,2] .sq rfl,xk B5 [1,2,2,2,2] .sq rfl,rg B5 [1,1,2,2,2,2] 6 false rfl,hr 5 6 rfl,xk B5 [2,1,2,2,2,2] (.cd 22) rfl,l]
  rcases cond_some m with ⟨s,m⟩ | ⟨s,m⟩
  ·cases m
   simp (disch:=first|apply D;decide|apply K;kernel_rfl) only [E,EE,↓reduceIte,simprocAttr,xk B5 [2,2,1,2,2,2,2] .sq rfl,rg B5 [1,2,2,1,2,2,2,2] 7 false rfl,hr 5 7 rfl,t_22,xk B5 [2,2,2,1,2,2,2,2] .rt rfl,fin5,R5.st,l,s]
  ·have hJ:=f5_j3_ok k q v false p b c d e f g h i j a _ m
   simp (disch:=first|apply D;decide|apply K;kernel_rfl) only [E,EE,↓reduceIte,simprocAttr,xk B5 [3,2,1,2,2,2,2] .sk rfl,l,s]
   try simp only [NM,EE] at hJ
   exact hJ
 | o1 y w =>
  (try dsimp only at m)
  (try simp only [NM,EE,R14.st] at l)
  simp (disch:=first|apply D;decide|apply K;kernel_rfl) only [E,EE,↓reduceIte,simprocAttr,xk B5 [2,2,2,2] .sq rfl,xk B5 [1,2,2,2,2] .sq rfl,rg B5 [1,1,2,2,2,2] 6 false rfl,hr 5 6 rfl,xk B5 [2,1,2,2,2,2] (.cd 22) rfl,l]
  rcases cond_some m with ⟨t,m⟩ | ⟨t,m⟩
  ·cases m
   simp (disch:=first|apply D;decide|apply K;kernel_rfl) only [E,EE,↓reduceIte,simprocAttr,xk B5 [2,2,1,2,2,2,2] .sq rfl,rg B5 [1,2,2,1,2,2,2,2] 7 false rfl,hr 5 7 rfl,t_22,xk B5 [2,2,2,1,2,2,2,2] .rt rfl,fin5,R5.st,l,t]
  ·have hJ:=f5_j4_ok k q false p b c d e f g h i j a w _ m
   simp (disch:=first|apply D;decide|apply K;kernel_rfl) only [E,EE,↓reduceIte,simprocAttr,xk B5 [3,2,1,2,2,2,2] .sk rfl,l,t]
   try simp only [NM,EE] at hJ
   exact hJ
noncomputable def f5_j1 (k:Nat) (l:Int) (m:Bool) (o b c d e f g h i j:Int) (a:List Int):Option R5 :=
 cond ((decide (((List.length a):Int)>5000)))
  (some (.o0 true))
  (f5_j2 k l false o b c d e f g h i j a)
theorem f5_j1_ok (k o m p b c d e f g h i j a r) (l:f5_j1 k o m p b c d e f g h i j a=some r):finK Tryd.prog Tryd.f5 0 (EX 5 k (nav B5 [2,2]) (⟨58,[(1,jI o),(2,.ptr 2 0),(11,.p (.bool m))],[(2,.box 26 [jI p,jI b,jU c,jI d,jI e,jI f,jI g,jI h,jI i,jI j,.sl 1 (rowsOf (encI .u8) a)])]⟩:St))=some r.st:=by
 unfold f5_j1 at l
 simp (disch:=first|apply D;decide|apply K;kernel_rfl) only [E,EE,↓reduceIte,simprocAttr,xk B5 [2,2] .sq rfl,xk B5 [1,2,2] .sq rfl,rg B5 [1,1,2,2] 3 false rfl,hr 5 3 rfl,fieldAddrV,t_26,t_22,xk B5 [2,1,2,2] (.cd 15) rfl]
 rcases cond_some l with ⟨q,l⟩ | ⟨q,l⟩
 ·cases l
  simp (disch:=first|apply D;decide|apply K;kernel_rfl) only [E,EE,↓reduceIte,simprocAttr,xk B5 [2,2,1,2,2] .sq rfl,rg B5 [1,2,2,1,2,2] 4 false rfl,hr 5 4 rfl,xk B5 [2,2,2,1,2,2] .rt rfl,fin5,R5.st,q]
 ·have hJ:=f5_j2_ok k o false p b c d e f g h i j a _ l
  simp (disch:=first|apply D;decide|apply K;kernel_rfl) only [E,EE,↓reduceIte,simprocAttr,xk B5 [3,2,1,2,2] .sk rfl,q]
  try simp only [NM,EE] at hJ
  exact hJ
noncomputable def f5_e (k:Nat) (l b c d e f g h i j:Int) (a:List Int) (m:Int):Option R5 :=
 Option.bind (f9 k) fun o1 =>
  match o1 with
  | .o0 o =>
   cond ((!o))
    (some (.o0 false))
    (f5_j1 k m false l b c d e f g h i j a)
theorem f5_e_ok (k o b c d e f g h i j a p r) (l:f5_e k o b c d e f g h i j a p=some r):finK Tryd.prog Tryd.f5 0 (EX 5 k (nav B5 []) (⟨58,[(0,.agg [jI o,jI b,jU c,jI d,jI e,jI f,jI g,jI h,jI i,jI j,.sl 1 (rowsOf (encI .u8) a)]),(1,jI p)],[]⟩:St))=some r.st:=by
 unfold f5_e at l
 obtain ⟨o1,s,l⟩:=bs l
 have m:=f9_ok k _ s
 cases o1 with
 | o0 t =>
  (try dsimp only at l)
  (try simp only [NM,EE,R9.st] at m)
  simp (disch:=first|apply D;decide|apply K;kernel_rfl) only [E,EE,↓reduceIte,simprocAttr,xk B5 [] .sq rfl,rg B5 [1] 0 false rfl,hr 5 0 rfl,xk B5 [2] .sq rfl,xk B5 [1,2] .sq rfl,rg B5 [1,1,2] 1 false rfl,hr 5 1 rfl,callStep,CL,gv,List.contains,xk B5 [2,1,2] (.cd 11) rfl,m]
  rcases cond_some l with ⟨q,l⟩ | ⟨q,l⟩
  ·cases l
   simp (disch:=first|apply D;decide|apply K;kernel_rfl) only [E,EE,↓reduceIte,simprocAttr,xk B5 [2,2,1,2] .sq rfl,rg B5 [1,2,2,1,2] 2 false rfl,hr 5 2 rfl,xk B5 [2,2,2,1,2] .rt rfl,fin5,R5.st,m,q]
  ·have hJ:=f5_j1_ok k p false o b c d e f g h i j a _ l
   simp (disch:=first|apply D;decide|apply K;kernel_rfl) only [E,EE,↓reduceIte,simprocAttr,xk B5 [3,2,1,2] .sk rfl,m,q]
   try simp only [NM,EE] at hJ
   exact hJ
noncomputable def f5 (k:Nat) (l b c d e f g h i j:Int) (a:List Int) (m:Int):Option R5:=match k with | 0=>none | k+1=>f5_e k l b c d e f g h i j a m
theorem f5_ok (k m b d e f g h i j l a o r) (p:f5 k m b d e f g h i j l a o=some r):CV k 5 [.agg [jI m,jI b,jU d,jI e,jI f,jI g,jI h,jI i,jI j,jI l,.sl 1 (rowsOf (encI .u8) a)],jI o] []=some r.st:=by
 cases k with
 | zero=>cases p
 | succ k =>
  unfold CV
  rw [ev_call (F:=Tryd.f5) (c:=(nav B5 [])) rfl Tryd.func5 rfl rfl rfl rfl]
  exact f5_e_ok k m b d e f g h i j l a o r p
end Go.Proofs.YtbnnmplkbpgcaaaDoorV