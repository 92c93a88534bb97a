/- What the program's functions answer: plain functions,and that the interpreter answers what they do. Written by a program of this session,out of the translation. -/
import Derived.Test.YtlelaenalbkbmaaDoorVP7
namespace Go.Proofs.YtlelaenalbkbmaaDoorV
open Go
set_option linter.unusedVariables false
set_option linter.unusedSimpArgs false
set_option maxRecDepth 8000
set_option maxHeartbeats 4000000
-- f5: f5 heliograph/heliographlaw07.CborBack
inductive R5 where
 | o0 (y:Bool)
noncomputable def R5.st:R5→V×List O×List O
 | .o0 y=>(.p (.bool y),[],[])
noncomputable def f5_j3 (k:Nat) (l:List Int) (b:Int) (a:List Int) (m:Bool) (o c:Int) (d:List Int) (e:List T28):Option R5 :=
 ifE ((List.length a)≤roomy) (
  ifE (((List.length a)+(List.length l))≤roomy) (
   Option.bind (f20 k (a++l)) fun o3 =>
    match o3 with
    | .o0 p q s t f g =>
     ifE (¬((List.length a):Int)=0) (
      ifE ((0:Int)≤(Int.tmod (if (0:Int)>b then 0 else b) ((List.length a):Int))) (
       ifE ((Int.toNat ((Int.tmod (if (0:Int)>b then 0 else b) ((List.length a):Int))))≤(List.length a)) (
        Option.bind (f20 k ((List.take ((Int.toNat ((Int.tmod (if (0:Int)>b then 0 else b) ((List.length a):Int))))) a))) fun o15 =>
         match o15 with
         | .o0 u v w x h i =>
          cond ((g==0))
           (
            cond ((f==((List.length a):Int)))
             (
              Option.bind (f11 k o c d e p q s t) fun o26 =>
               match o26 with
               | .o0 j =>
                cond (j)
                 (
                  cond ((i==7))
                   (some (.o0 (h==0)))
                   (some (.o0 false)))
                 (some (.o0 false)))
             (some (.o0 false)))
           (some (.o0 false)))))))
theorem f5_j3_ok (k w v t u x j l m r) (a:f5_j3 k w v t u x j l m=some r):finK Tryd.prog Tryd.f5 0 (EX 5 k (nav B5 [2,2,2,2,2,2]) (⟨76,[(1,.sl 1 (rowsOf (encI .u8) w)),(2,jI v),(7,.ptr 7 0),(8,.sl 1 (rowsOf (encI .u8) t)),(29,.p (.bool u))],[(7,.box 28 [jI x,.p (.int .u64 j),.sl 1 (rowsOf (encI .u8) l),.sl 4 (rowsOf encT28 m)])]⟩:St))=some r.st:=by
 unfold f5_j3 at a
 obtain ⟨p,a⟩:=ifE_some.1 a
 obtain ⟨q,a⟩:=ifE_some.1 a
 obtain ⟨o3,n,a⟩:=bs a
 have c:=f20_ok k (t++w) _ n
 cases o3 with
 | o0 v6 v7 v8 v9 ae af =>
  (try dsimp only at a)
  (try simp only [NM,EE,R20.st] at c)
  obtain ⟨d,a⟩:=ifE_some.1 a
  obtain ⟨e,a⟩:=ifE_some.1 a
  obtain ⟨f,a⟩:=ifE_some.1 a
  obtain ⟨o15,y,a⟩:=bs a
  have b:=f20_ok k ((List.take ((Int.toNat ((Int.tmod (if (0:Int)>v then 0 else v) ((List.length t):Int))))) t)) _ y
  cases o15 with
  | o0 ag ah ai aj ak al =>
   (try dsimp only at a)
   (try simp only [NM,EE,R20.st] at b)
   simp (disch:=first|apply D;decide|apply K;kernel_rfl) only [E,EE,↓reduceIte,simprocAttr,xk B5 [2,2,2,2,2,2] .sq rfl,rg B5 [1,2,2,2,2,2,2] 9 false rfl,hr 5 9 rfl,buildSliceV,raw_,cond_false,cond_true,fillRows,sm_5,t_25,t_5,appendV,content,callStep,CL,gv,List.contains,t_28,xk B5 [2,2,2,2,2,2,2] .sq rfl,rg B5 [1,2,2,2,2,2,2,2] 10 false rfl,hr 5 10 rfl,minmaxV,minmaxGo,sliceV,bound,xk B5 [2,2,2,2,2,2,2,2] .sq rfl,rg B5 [1,2,2,2,2,2,2,2,2] 11 false rfl,hr 5 11 rfl,p,q,c,d,e,f,b]
   rcases cond_some a with ⟨g,a⟩ | ⟨g,a⟩
   ·simp (disch:=first|apply D;decide|apply K;kernel_rfl) only [E,EE,↓reduceIte,simprocAttr,t_25,p,q,c,d,e,f,b,g]
    rcases cond_some a with ⟨i,a⟩ | ⟨i,a⟩
    ·obtain ⟨o26,z,a⟩:=bs a
     have h:=f11_ok k x j l m v6 v7 v8 v9 _ z
     cases o26 with
     | o0 am =>
      (try dsimp only at a)
      (try simp only [NM,EE,R11.st] at h)
      simp (disch:=first|apply D;decide|apply K;kernel_rfl) only [E,EE,↓reduceIte,simprocAttr,t_28,callStep,CL,gv,List.contains,p,q,c,d,e,f,b,g,i,h]
      rcases cond_some a with ⟨o,a⟩ | ⟨o,a⟩
      ·rcases cond_some a with ⟨s,a⟩ | ⟨s,a⟩
       ·cases a
        simp (disch:=first|apply D;decide|apply K;kernel_rfl) only [E,EE,↓reduceIte,simprocAttr,xk B5 [2,2,2,2,2,2,2,2,2] .rt rfl,fin5,R5.st,p,q,c,d,e,f,b,g,i,h,o,s]
       ·cases a
        simp (disch:=first|apply D;decide|apply K;kernel_rfl) only [E,EE,↓reduceIte,simprocAttr,xk B5 [2,2,2,2,2,2,2,2,2] .rt rfl,fin5,R5.st,p,q,c,d,e,f,b,g,i,h,o,s]
      ·cases a
       simp (disch:=first|apply D;decide|apply K;kernel_rfl) only [E,EE,↓reduceIte,simprocAttr,xk B5 [2,2,2,2,2,2,2,2,2] .rt rfl,fin5,R5.st,p,q,c,d,e,f,b,g,i,h,o]
    ·cases a
     simp (disch:=first|apply D;decide|apply K;kernel_rfl) only [E,EE,↓reduceIte,simprocAttr,xk B5 [2,2,2,2,2,2,2,2,2] .rt rfl,fin5,R5.st,p,q,c,d,e,f,b,g,i]
   ·cases a
    simp (disch:=first|apply D;decide|apply K;kernel_rfl) only [E,EE,↓reduceIte,simprocAttr,xk B5 [2,2,2,2,2,2,2,2,2] .rt rfl,fin5,R5.st,p,q,c,d,e,f,b,g]
noncomputable def f5_j4 (k:Nat) (l:List Int) (b:Int) (m:Bool) (o c:Int) (d:List Int) (e:List T28) (a:List Int):Option R5 :=
 ifE ((List.length a)≤roomy) (
  ifE (((List.length a)+(List.length l))≤roomy) (
   Option.bind (f20 k (a++l)) fun o3 =>
    match o3 with
    | .o0 p q s t f g =>
     ifE (¬((List.length a):Int)=0) (
      ifE ((0:Int)≤(Int.tmod (if (0:Int)>b then 0 else b) ((List.length a):Int))) (
       ifE ((Int.toNat ((Int.tmod (if (0:Int)>b then 0 else b) ((List.length a):Int))))≤(List.length a)) (
        Option.bind (f20 k ((List.take ((Int.toNat ((Int.tmod (if (0:Int)>b then 0 else b) ((List.length a):Int))))) a))) fun o15 =>
         match o15 with
         | .o0 u v w x h i =>
          cond ((g==0))
           (
            cond ((f==((List.length a):Int)))
             (
              Option.bind (f11 k o c d e p q s t) fun o26 =>
               match o26 with
               | .o0 j =>
                cond (j)
                 (
                  cond ((i==7))
                   (some (.o0 (h==0)))
                   (some (.o0 false)))
                 (some (.o0 false)))
             (some (.o0 false)))
           (some (.o0 false)))))))
theorem f5_j4_ok (k w v u x j l m o r) (a:f5_j4 k w v u x j l m o=some r):finK Tryd.prog Tryd.f5 0 (EX 5 k (nav B5 [2,2,2,2,2,2]) (⟨76,[(1,.sl 1 (rowsOf (encI .u8) w)),(2,jI v),(7,.ptr 7 0),(8,.own 25),(29,.p (.bool u))],[(7,.box 28 [jI x,.p (.int .u64 j),.sl 1 (rowsOf (encI .u8) l),.sl 4 (rowsOf encT28 m)]),(25,.row true 1 5 (rowsOf (encI .u8) o))]⟩:St))=some r.st:=by
 unfold f5_j4 at a
 obtain ⟨q,a⟩:=ifE_some.1 a
 obtain ⟨s,a⟩:=ifE_some.1 a
 obtain ⟨o3,n,a⟩:=bs a
 have c:=f20_ok k (o++w) _ n
 cases o3 with
 | o0 v6 v7 v8 v9 ae af =>
  (try dsimp only at a)
  (try simp only [NM,EE,R20.st] at c)
  obtain ⟨d,a⟩:=ifE_some.1 a
  obtain ⟨e,a⟩:=ifE_some.1 a
  obtain ⟨f,a⟩:=ifE_some.1 a
  obtain ⟨o15,y,a⟩:=bs a
  have b:=f20_ok k ((List.take ((Int.toNat ((Int.tmod (if (0:Int)>v then 0 else v) ((List.length o):Int))))) o)) _ y
  cases o15 with
  | o0 ag ah ai aj ak al =>
   (try dsimp only at a)
   (try simp only [NM,EE,R20.st] at b)
   simp (disch:=first|apply D;decide|apply K;kernel_rfl) only [E,EE,↓reduceIte,simprocAttr,xk B5 [2,2,2,2,2,2] .sq rfl,rg B5 [1,2,2,2,2,2,2] 9 false rfl,hr 5 9 rfl,buildSliceV,raw_,cond_false,cond_true,fillRows,sm_5,t_25,t_5,appendV,content,callStep,CL,gv,List.contains,t_28,xk B5 [2,2,2,2,2,2,2] .sq rfl,rg B5 [1,2,2,2,2,2,2,2] 10 false rfl,hr 5 10 rfl,minmaxV,minmaxGo,sliceV,bound,xk B5 [2,2,2,2,2,2,2,2] .sq rfl,rg B5 [1,2,2,2,2,2,2,2,2] 11 false rfl,hr 5 11 rfl,q,s,c,d,e,f,b]
   rcases cond_some a with ⟨g,a⟩ | ⟨g,a⟩
   ·simp (disch:=first|apply D;decide|apply K;kernel_rfl) only [E,EE,↓reduceIte,simprocAttr,t_25,q,s,c,d,e,f,b,g]
    rcases cond_some a with ⟨i,a⟩ | ⟨i,a⟩
    ·obtain ⟨o26,z,a⟩:=bs a
     have h:=f11_ok k x j l m v6 v7 v8 v9 _ z
     cases o26 with
     | o0 am =>
      (try dsimp only at a)
      (try simp only [NM,EE,R11.st] at h)
      simp (disch:=first|apply D;decide|apply K;kernel_rfl) only [E,EE,↓reduceIte,simprocAttr,t_28,callStep,CL,gv,List.contains,q,s,c,d,e,f,b,g,i,h]
      rcases cond_some a with ⟨p,a⟩ | ⟨p,a⟩
      ·rcases cond_some a with ⟨t,a⟩ | ⟨t,a⟩
       ·cases a
        simp (disch:=first|apply D;decide|apply K;kernel_rfl) only [E,EE,↓reduceIte,simprocAttr,xk B5 [2,2,2,2,2,2,2,2,2] .rt rfl,fin5,R5.st,q,s,c,d,e,f,b,g,i,h,p,t]
       ·cases a
        simp (disch:=first|apply D;decide|apply K;kernel_rfl) only [E,EE,↓reduceIte,simprocAttr,xk B5 [2,2,2,2,2,2,2,2,2] .rt rfl,fin5,R5.st,q,s,c,d,e,f,b,g,i,h,p,t]
      ·cases a
       simp (disch:=first|apply D;decide|apply K;kernel_rfl) only [E,EE,↓reduceIte,simprocAttr,xk B5 [2,2,2,2,2,2,2,2,2] .rt rfl,fin5,R5.st,q,s,c,d,e,f,b,g,i,h,p]
    ·cases a
     simp (disch:=first|apply D;decide|apply K;kernel_rfl) only [E,EE,↓reduceIte,simprocAttr,xk B5 [2,2,2,2,2,2,2,2,2] .rt rfl,fin5,R5.st,q,s,c,d,e,f,b,g,i]
   ·cases a
    simp (disch:=first|apply D;decide|apply K;kernel_rfl) only [E,EE,↓reduceIte,simprocAttr,xk B5 [2,2,2,2,2,2,2,2,2] .rt rfl,fin5,R5.st,q,s,c,d,e,f,b,g]
noncomputable def f5_j2 (k:Nat) (l:List T49) (i:List Int) (j:Int) (m:Bool):Option R5 :=
 Option.bind (f9 k l) fun o1 =>
  match o1 with
  | .o0 c d e f =>
   Option.bind (f10 k c d e f) fun o8 =>
    match o8 with
    | .o0 a g =>
     cond ((g != 0))
      (some (.o0 (((List.length a):Int)==0)))
      (f5_j3 k i j a false c d e f)
    | .o1 h b =>
     cond ((h != 0))
      (some (.o0 (((List.length b):Int)==0)))
      (f5_j4 k i j false c d e f b)
theorem f5_j2_ok (k i g h f r) (b:f5_j2 k i g h f=some r):finK Tryd.prog Tryd.f5 0 (EX 5 k (nav B5 [2,2,2]) (⟨76,[(0,.sl 6 (rowsOf encT49 i)),(1,.sl 1 (rowsOf (encI .u8) g)),(2,jI h),(20,.p (.bool f))],[]⟩:St))=some r.st:=by
 unfold f5_j2 at b
 obtain ⟨o1,s,b⟩:=bs b
 have c:=f9_ok k i _ s
 cases o1 with
 | o0 j l m o =>
  (try dsimp only at b)
  (try simp only [NM,EE,R9.st] at c)
  simp (disch:=first|apply D;decide|apply K;kernel_rfl) only [E,EE,↓reduceIte,simprocAttr,xk B5 [2,2,2] .sq rfl,rg B5 [1,2,2,2] 5 false rfl,hr 5 5 rfl,callStep,CL,gv,List.contains,t_28,xk B5 [2,2,2,2] .sq rfl,rg B5 [1,2,2,2,2] 6 false rfl,hr 5 6 rfl,c]
  obtain ⟨o8,t,b⟩:=bs b
  have a:=f10_ok k j l m o _ t
  cases o8 with
  | o0 p u =>
   (try dsimp only at b)
   (try simp only [NM,EE,R10.st] at a)
   simp (disch:=first|apply D;decide|apply K;kernel_rfl) only [E,EE,↓reduceIte,simprocAttr,xk B5 [2,2,2,2,2] .sq rfl,xk B5 [1,2,2,2,2,2] .sq rfl,rg B5 [1,1,2,2,2,2,2] 7 false rfl,hr 5 7 rfl,xk B5 [2,1,2,2,2,2,2] (.cd 29) rfl,c,a]
   rcases cond_some b with ⟨d,b⟩ | ⟨d,b⟩
   ·cases b
    simp (disch:=first|apply D;decide|apply K;kernel_rfl) only [E,EE,↓reduceIte,simprocAttr,xk B5 [2,2,1,2,2,2,2,2] .sq rfl,rg B5 [1,2,2,1,2,2,2,2,2] 8 false rfl,hr 5 8 rfl,t_25,xk B5 [2,2,2,1,2,2,2,2,2] .rt rfl,fin5,R5.st,c,a,d]
   ·have hJ:=f5_j3_ok k g h p false j l m o _ b
    simp (disch:=first|apply D;decide|apply K;kernel_rfl) only [E,EE,↓reduceIte,simprocAttr,xk B5 [3,2,1,2,2,2,2,2] .sk rfl,c,a,d]
    try simp only [NM,EE] at hJ
    exact hJ
  | o1 v q =>
   (try dsimp only at b)
   (try simp only [NM,EE,R10.st] at a)
   simp (disch:=first|apply D;decide|apply K;kernel_rfl) only [E,EE,↓reduceIte,simprocAttr,xk B5 [2,2,2,2,2] .sq rfl,xk B5 [1,2,2,2,2,2] .sq rfl,rg B5 [1,1,2,2,2,2,2] 7 false rfl,hr 5 7 rfl,xk B5 [2,1,2,2,2,2,2] (.cd 29) rfl,c,a]
   rcases cond_some b with ⟨e,b⟩ | ⟨e,b⟩
   ·cases b
    simp (disch:=first|apply D;decide|apply K;kernel_rfl) only [E,EE,↓reduceIte,simprocAttr,xk B5 [2,2,1,2,2,2,2,2] .sq rfl,rg B5 [1,2,2,1,2,2,2,2,2] 8 false rfl,hr 5 8 rfl,t_25,xk B5 [2,2,2,1,2,2,2,2,2] .rt rfl,fin5,R5.st,c,a,e]
   ·have hJ:=f5_j4_ok k g h false j l m o q _ b
    simp (disch:=first|apply D;decide|apply K;kernel_rfl) only [E,EE,↓reduceIte,simprocAttr,xk B5 [3,2,1,2,2,2,2,2] .sk rfl,c,a,e]
    try simp only [NM,EE] at hJ
    exact hJ
noncomputable def f5_j1 (k:Nat) (b:List T49) (a:List Int) (c:Int) (d:Bool):Option R5 :=
 cond ((decide (((List.length a):Int)>50000)))
  (some (.o0 true))
  (f5_j2 k b a c false)
theorem f5_j1_ok (k c d e b r) (a:f5_j1 k c d e b=some r):finK Tryd.prog Tryd.f5 0 (EX 5 k (nav B5 [2,2]) (⟨76,[(0,.sl 6 (rowsOf encT49 c)),(1,.sl 1 (rowsOf (encI .u8) d)),(2,jI e),(17,.p (.bool b))],[]⟩:St))=some r.st:=by
 unfold f5_j1 at a
 simp (disch:=first|apply D;decide|apply K;kernel_rfl) only [E,EE,↓reduceIte,simprocAttr,xk B5 [2,2] .sq rfl,xk B5 [1,2,2] .sq rfl,rg B5 [1,1,2,2] 3 false rfl,hr 5 3 rfl,t_25,xk B5 [2,1,2,2] (.cd 20) rfl]
 rcases cond_some a with ⟨f,a⟩ | ⟨f,a⟩
 ·cases a
  simp (disch:=first|apply D;decide|apply K;kernel_rfl) only [E,EE,↓reduceIte,simprocAttr,xk B5 [2,2,1,2,2] .sq rfl,rg B5 [1,2,2,1,2,2] 4 false rfl,hr 5 4 rfl,xk B5 [2,2,2,1,2,2] .rt rfl,fin5,R5.st,f]
 ·have hJ:=f5_j2_ok k c d e false _ a
  simp (disch:=first|apply D;decide|apply K;kernel_rfl) only [E,EE,↓reduceIte,simprocAttr,xk B5 [3,2,1,2,2] .sk rfl,f]
  try simp only [NM,EE] at hJ
  exact hJ
noncomputable def f5_e (k:Nat) (a:List T49) (b:List Int) (c:Int):Option R5 :=
 Option.bind (f8 k) fun o1 =>
  match o1 with
  | .o0 d =>
   cond ((!d))
    (some (.o0 false))
    (f5_j1 k a b c false)
theorem f5_e_ok (k c d e r) (a:f5_e k c d e=some r):finK Tryd.prog Tryd.f5 0 (EX 5 k (nav B5 []) (⟨76,[(0,.sl 6 (rowsOf encT49 c)),(1,.sl 1 (rowsOf (encI .u8) d)),(2,jI e)],[]⟩:St))=some r.st:=by
 unfold f5_e at a
 obtain ⟨o1,g,a⟩:=bs a
 have b:=f8_ok k _ g
 cases o1 with
 | o0 h =>
  (try dsimp only at a)
  (try simp only [NM,EE,R8.st] at b)
  simp (disch:=first|apply D;decide|apply K;kernel_rfl) only [E,EE,↓reduceIte,simprocAttr,xk B5 [] .sq rfl,rg B5 [1] 0 false rfl,hr 5 0 rfl,xk B5 [2] .sq rfl,xk B5 [1,2] .sq rfl,rg B5 [1,1,2] 1 false rfl,hr 5 1 rfl,callStep,CL,gv,List.contains,xk B5 [2,1,2] (.cd 17) rfl,b]
  rcases cond_some a with ⟨f,a⟩ | ⟨f,a⟩
  ·cases a
   simp (disch:=first|apply D;decide|apply K;kernel_rfl) only [E,EE,↓reduceIte,simprocAttr,xk B5 [2,2,1,2] .sq rfl,rg B5 [1,2,2,1,2] 2 false rfl,hr 5 2 rfl,xk B5 [2,2,2,1,2] .rt rfl,fin5,R5.st,b,f]
  ·have hJ:=f5_j1_ok k c d e false _ a
   simp (disch:=first|apply D;decide|apply K;kernel_rfl) only [E,EE,↓reduceIte,simprocAttr,xk B5 [3,2,1,2] .sk rfl,b,f]
   try simp only [NM,EE] at hJ
   exact hJ
noncomputable def f5 (k:Nat) (a:List T49) (b:List Int) (c:Int):Option R5:=match k with | 0=>none | k+1=>f5_e k a b c
theorem f5_ok (k a b d r) (e:f5 k a b d=some r):CV k 5 [.sl 6 (rowsOf encT49 a),.sl 1 (rowsOf (encI .u8) b),jI d] []=some r.st:=by
 cases k with
 | zero=>cases e
 | succ k =>
  unfold CV
  rw [ev_call (F:=Tryd.f5) (c:=(nav B5 [])) rfl Tryd.func5 rfl rfl rfl rfl]
  exact f5_e_ok k a b d r e
end Go.Proofs.YtlelaenalbkbmaaDoorV