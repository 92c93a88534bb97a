/- What the program's functions answer: plain functions,and that the interpreter answers what they do. Written by a program of this session,out of the translation. -/
import Derived.Test.YtbnnmplkbpgcaaaDoorVP10
namespace Go.Proofs.YtbnnmplkbpgcaaaDoorV
open Go
set_option linter.unusedVariables false
set_option linter.unusedSimpArgs false
set_option maxRecDepth 8000
set_option maxHeartbeats 4000000
-- f59: f59 heliograph/bundle.same$1
inductive R59 where
 | o0 (y a b c d e f g h i:Int)
noncomputable def R59.st:R59→V×List O×List O
 | .o0 y a b c d e f g h i=>(.agg [jI y,jI a,jI b,jI c,jI d,jI e,jI f,jI g,jI h,jU i],[],[])
noncomputable def f59_e (k:Nat) (l a b c d e f g h i:Int) (j:List Int):Option R59 :=
 some (.o0 l a c d e f g h i b)
theorem f59_e_ok (k l b c d e f g h i j a r) (m:f59_e k l b c d e f g h i j a=some r):finK Tryd.prog Tryd.f59 0 (EX 59 k (nav B59 []) (⟨24,[(0,.agg [jI l,jI b,jU c,jI d,jI e,jI f,jI g,jI h,jI i,jI j,.sl 1 (rowsOf (encI .u8) a)])],[]⟩:St))=some r.st:=by
 unfold f59_e at m
 cases m
 simp (disch:=first|apply D;decide|apply K;kernel_rfl) only [E,EE,↓reduceIte,simprocAttr,xk B59 [] .sq rfl,rg B59 [1] 0 false rfl,hr 59 0 rfl,t_86,xk B59 [2] .sq rfl,rg B59 [1,2] 1 false rfl,hr 59 1 rfl,fieldAddrV,t_26,t_3,t_24,bl_86,xk B59 [2,2] .rt rfl,fin59,R59.st]
noncomputable def f59 (k:Nat) (l b c d e f g h i j:Int) (a:List Int):Option R59:=match k with | 0=>none | k+1=>f59_e k l b c d e f g h i j a
theorem f59_ok (k m b d e f g h i j l a r) (o:f59 k m b d e f g h i j l a=some r):CV k 59 [.agg [jI m,jI b,jU d,jI e,jI f,jI g,jI h,jI i,jI j,jI l,.sl 1 (rowsOf (encI .u8) a)]] []=some r.st:=by
 cases k with
 | zero=>cases o
 | succ k =>
  unfold CV
  rw [ev_call (F:=Tryd.f59) (c:=(nav B59 [])) rfl Tryd.func59 rfl rfl rfl rfl]
  exact f59_e_ok k m b d e f g h i j l a r o
-- f42: f42 heliograph/bundle.same
inductive R42 where
 | o0 (y:Bool)
noncomputable def R42.st:R42→V×List O×List O
 | .o0 y=>(.p (.bool y),[],[])
noncomputable def f42_e (k:Nat) (a0 c d e f g h i j l:Int) (a:List Int) (a1 m o p q s t u v w:Int) (b:List Int):Option R42 :=
 Option.bind (f59 k a0 c d e f g h i j l a) fun o1 =>
  match o1 with
  | .o0 v4 v5 v6 v7 v8 v9 x y z r =>
   Option.bind (f59 k a1 m o p q s t u v w b) fun o14 =>
    match o14 with
    | .o0 n aa ab ac ad ae af ag ah ai =>
     some (.o0 (((v4==n)&&((v5==aa)&&((v6==ab)&&((v7==ac)&&((v8==ad)&&((v9==ae)&&((x==af)&&((y==ag)&&((z==ah)&&(r==ai))))))))))))
theorem f42_e_ok (k n c d e f g h i j l a a1 m o p q s t u v w b r) (x:f42_e k n c d e f g h i j l a a1 m o p q s t u v w b=some r):finK Tryd.prog Tryd.f42 0 (EX 42 k (nav B42 []) (⟨13,[(0,.agg [jI n,jI c,jU d,jI e,jI f,jI g,jI h,jI i,jI j,jI l,.sl 1 (rowsOf (encI .u8) a)]),(1,.agg [jI a1,jI m,jU o,jI p,jI q,jI s,jI t,jI u,jI v,jI w,.sl 1 (rowsOf (encI .u8) b)])],[]⟩:St))=some r.st:=by
 unfold f42_e at x
 obtain ⟨o1,h2,x⟩:=bs x
 have z:=f59_ok k n c d e f g h i j l a _ h2
 cases o1 with
 | o0 v4 v5 v6 v7 v8 v9 ad ae af ag =>
  (try dsimp only at x)
  (try simp only [NM,EE,R59.st] at z)
  obtain ⟨o14,ab,x⟩:=bs x
  have y:=f59_ok k a1 m o p q s t u v w b _ ab
  cases o14 with
  | o0 ah ai aj ak al am an ao ap aq =>
   (try dsimp only at x)
   (try simp only [NM,EE,R59.st] at y)
   cases x
   simp (disch:=first|apply D;decide|apply K;kernel_rfl) only [E,EE,↓reduceIte,simprocAttr,xk B42 [] .sq rfl,rg B42 [1] 0 false rfl,hr 42 0 rfl,xk B42 [2] .sq rfl,rg B42 [1,2] 1 false rfl,hr 42 1 rfl,xk B42 [2,2] .sq rfl,rg B42 [1,2,2] 2 true rfl,hr 42 2 rfl,t_26,callStep,CL,gv,List.contains,t_86,ag_86,t_3,t_24,xk B42 [2,2,2] .rt rfl,fin42,R42.st,z,y]
noncomputable def f42 (k:Nat) (x c d e f g h i j l:Int) (a:List Int) (y m o p q s t u v w:Int) (b:List Int):Option R42:=match k with | 0=>none | k+1=>f42_e k x c d e f g h i j l a y m o p q s t u v w b
theorem f42_ok (k y d e f g h i j l m a z o p q s t u v w x b r) (n:f42 k y d e f g h i j l m a z o p q s t u v w x b=some r):CV k 42 [.agg [jI y,jI d,jU e,jI f,jI g,jI h,jI i,jI j,jI l,jI m,.sl 1 (rowsOf (encI .u8) a)],.agg [jI z,jI o,jU p,jI q,jI s,jI t,jI u,jI v,jI w,jI x,.sl 1 (rowsOf (encI .u8) b)]] []=some r.st:=by
 cases k with
 | zero=>cases n
 | succ k =>
  unfold CV
  rw [ev_call (F:=Tryd.f42) (c:=(nav B42 [])) rfl Tryd.func42 rfl rfl rfl rfl]
  exact f42_e_ok k y d e f g h i j l m a z o p q s t u v w x b r n
-- f20b: f20 heliograph/bundle.Same
inductive R20b where
 | o0 (y:Bool)
noncomputable def R20b.st:R20b→V×List O×List O
 | .o0 y=>(.p (.bool y),[],[])
noncomputable def f20b_e (k:Nat) (x c d e f g h i j l:Int) (a:List Int) (y m o p q s t u v w:Int) (b:List Int):Option R20b :=
 Option.bind (f21 k a b) fun o1 =>
  match o1 with
  | .o0 z =>
   cond (z)
    (
     Option.bind (f42 k x c d e f g h i j l [] y m o p q s t u v w []) fun o6 =>
      match o6 with
      | .o0 r =>
       some (.o0 r))
    (some (.o0 false))
theorem f20b_e_ok (k n d e f g h i j l m a a1 o p q s t u v w x b r) (c:f20b_e k n d e f g h i j l m a a1 o p q s t u v w x b=some r):finK Tryd.prog Tryd.f20 0 (EX 20 k (nav B20 []) (⟨21,[(0,.agg [jI n,jI d,jU e,jI f,jI g,jI h,jI i,jI j,jI l,jI m,.sl 1 (rowsOf (encI .u8) a)]),(1,.agg [jI a1,jI o,jU p,jI q,jI s,jI t,jI u,jI v,jI w,jI x,.sl 1 (rowsOf (encI .u8) b)])],[]⟩:St))=some r.st:=by
 unfold f20b_e at c
 obtain ⟨o1,h2,c⟩:=bs c
 have y:=f21_ok k a b _ h2
 cases o1 with
 | o0 v4 =>
  (try dsimp only at c)
  (try simp only [NM,EE,R21.st] at y)
  simp (disch:=first|apply D;decide|apply K;kernel_rfl) only [E,EE,↓reduceIte,simprocAttr,xk B20 [] .sq rfl,rg B20 [1] 0 false rfl,hr_20_0,xk B20 [2] .sq rfl,rg B20 [1,2] 1 true rfl,hr 20 1 rfl,t_26,xk B20 [2,2] .sq rfl,rg B20 [1,2,2] 2 false rfl,hr_20_2,fieldAddrV,t_22,xk B20 [2,2,2] .sq rfl,rg B20 [1,2,2,2] 3 false rfl,hr 20 3 rfl,callStep,CL,gv,List.contains,y]
  rcases cond_some c with ⟨h5,c⟩ | ⟨h5,c⟩
  ·obtain ⟨o6,h7,c⟩:=bs c
   have z:=f42_ok k n d e f g h i j l m [] a1 o p q s t u v w x [] _ h7
   cases o6 with
   | o0 v9 =>
    (try dsimp only at c)
    (try simp only [NM,EE,R42.st] at z)
    cases c
    simp (disch:=first|apply D;decide|apply K;kernel_rfl) only [E,EE,↓reduceIte,simprocAttr,t_26,callStep,CL,gv,List.contains,xk B20 [2,2,2,2] .rt rfl,fin20,R20b.st,y,h5,z]
  ·cases c
   simp (disch:=first|apply D;decide|apply K;kernel_rfl) only [E,EE,↓reduceIte,simprocAttr,xk B20 [2,2,2,2] .rt rfl,fin20,R20b.st,y,h5]
noncomputable def f20b (k:Nat) (x c d e f g h i j l:Int) (a:List Int) (y m o p q s t u v w:Int) (b:List Int):Option R20b:=match k with | 0=>none | k+1=>f20b_e k x c d e f g h i j l a y m o p q s t u v w b
theorem f20b_ok (k y d e f g h i j l m a z o p q s t u v w x b r) (n:f20b k y d e f g h i j l m a z o p q s t u v w x b=some r):CV k 20 [.agg [jI y,jI d,jU e,jI f,jI g,jI h,jI i,jI j,jI l,jI m,.sl 1 (rowsOf (encI .u8) a)],.agg [jI z,jI o,jU p,jI q,jI s,jI t,jI u,jI v,jI w,jI x,.sl 1 (rowsOf (encI .u8) b)]] []=some r.st:=by
 cases k with
 | zero=>cases n
 | succ k =>
  unfold CV
  rw [ev_call (F:=Tryd.f20) (c:=(nav B20 [])) rfl Tryd.func20 rfl rfl rfl rfl]
  exact f20b_e_ok k y d e f g h i j l m a z o p q s t u v w x b r n
-- f20a: f20 heliograph/bundle.Same
inductive R20a where
 | o0 (y:Bool)
noncomputable def R20a.st:R20a→V×List O×List O
 | .o0 y=>(.p (.bool y),[],[])
noncomputable def f20a_e (k:Nat) (w b c d e f g h i j:Int) (a:List Int) (x l m o p q s t u v:Int):Option R20a :=
 Option.bind (f21 k a []) fun o1 =>
  match o1 with
  | .o0 y =>
   cond (y)
    (
     Option.bind (f42 k w b c d e f g h i j [] x l m o p q s t u v []) fun o6 =>
      match o6 with
      | .o0 z =>
       some (.o0 z))
    (some (.o0 false))
theorem f20a_e_ok (k z c d e f g h i j l a n m o p q s t u v w r) (b:f20a_e k z c d e f g h i j l a n m o p q s t u v w=some r):finK Tryd.prog Tryd.f20 0 (EX 20 k (nav B20 []) (⟨21,[(0,.agg [jI z,jI c,jU d,jI e,jI f,jI g,jI h,jI i,jI j,jI l,.sl 1 (rowsOf (encI .u8) a)]),(1,.agg [jI n,jI m,jU o,jI p,jI q,jI s,jI t,jI u,jI v,jI w,V.nil])],[]⟩:St))=some r.st:=by
 unfold f20a_e at b
 obtain ⟨o1,h2,b⟩:=bs b
 have x:=f21_ok k a [] _ h2
 cases o1 with
 | o0 v4 =>
  (try dsimp only at b)
  (try simp only [NM,EE,R21.st] at x)
  simp (disch:=first|apply D;decide|apply K;kernel_rfl) only [E,EE,↓reduceIte,simprocAttr,xk B20 [] .sq rfl,rg B20 [1] 0 false rfl,hr_20_0,xk B20 [2] .sq rfl,rg B20 [1,2] 1 true rfl,hr 20 1 rfl,t_26,xk B20 [2,2] .sq rfl,rg B20 [1,2,2] 2 false rfl,hr_20_2,fieldAddrV,t_22,xk B20 [2,2,2] .sq rfl,rg B20 [1,2,2,2] 3 false rfl,hr 20 3 rfl,callStep,CL,gv,List.contains,x]
  rcases cond_some b with ⟨h5,b⟩ | ⟨h5,b⟩
  ·obtain ⟨o6,h7,b⟩:=bs b
   have y:=f42_ok k z c d e f g h i j l [] n m o p q s t u v w [] _ h7
   cases o6 with
   | o0 v9 =>
    (try dsimp only at b)
    (try simp only [NM,EE,R42.st] at y)
    cases b
    simp (disch:=first|apply D;decide|apply K;kernel_rfl) only [E,EE,↓reduceIte,simprocAttr,t_26,callStep,CL,gv,List.contains,xk B20 [2,2,2,2] .rt rfl,fin20,R20a.st,x,h5,y]
  ·cases b
   simp (disch:=first|apply D;decide|apply K;kernel_rfl) only [E,EE,↓reduceIte,simprocAttr,xk B20 [2,2,2,2] .rt rfl,fin20,R20a.st,x,h5]
noncomputable def f20a (k:Nat) (w b c d e f g h i j:Int) (a:List Int) (x l m o p q s t u v:Int):Option R20a:=match k with | 0=>none | k+1=>f20a_e k w b c d e f g h i j a x l m o p q s t u v
theorem f20a_ok (k x b d e f g h i j l a y m o p q s t u v w r) (z:f20a k x b d e f g h i j l a y m o p q s t u v w=some r):CV k 20 [.agg [jI x,jI b,jU d,jI e,jI f,jI g,jI h,jI i,jI j,jI l,.sl 1 (rowsOf (encI .u8) a)],.agg [jI y,jI m,jU o,jI p,jI q,jI s,jI t,jI u,jI v,jI w,V.nil]] []=some r.st:=by
 cases k with
 | zero=>cases z
 | succ k =>
  unfold CV
  rw [ev_call (F:=Tryd.f20) (c:=(nav B20 [])) rfl Tryd.func20 rfl rfl rfl rfl]
  exact f20a_e_ok k x b d e f g h i j l a y m o p q s t u v w r z
-- f7: f7 heliograph/heliographlaw09.BundleBack
inductive R7 where
 | o0 (y:Bool)
noncomputable def R7.st:R7→V×List O×List O
 | .o0 y=>(.p (.bool y),[],[])
noncomputable def f7_j4 (k:Nat) (q:List Int) (s:Bool) (t b c d e f g h i j:Int) (a:List Int):Option R7 :=
 Option.bind (f14 k t b c d e f g h i j a) fun o1 =>
  match o1 with
  | .o0 u v =>
   cond ((v==0))
    (
     Option.bind (f21 k u q) fun o7 =>
      match o7 with
      | .o0 l =>
       some (.o0 l))
    (some (.o0 false))
  | .o1 m o =>
   cond ((m==0))
    (
     Option.bind (f21 k o q) fun o14 =>
      match o14 with
      | .o0 p =>
       some (.o0 p))
    (some (.o0 false))
theorem f7_j4_ok (k t q u d e f g h i j l m c r) (a:f7_j4 k t q u d e f g h i j l m c=some r):finK Tryd.prog Tryd.f7 0 (EX 7 k (nav B7 [2,2,2,2,2,2,2]) (⟨64,[(1,.sl 1 (rowsOf (encI .u8) t)),(9,.ptr 9 0),(48,.p (.bool q))],[(9,.box 26 [jI u,jI d,jU e,jI f,jI g,jI h,jI i,jI j,jI l,jI m,.sl 1 (rowsOf (encI .u8) c)])]⟩:St))=some r.st:=by
 unfold f7_j4 at a
 simp (disch:=first|apply D;decide|apply K;kernel_rfl) only [E,EE,↓reduceIte,simprocAttr,xk B7 [2,2,2,2,2,2,2] .sq rfl,rg B7 [1,2,2,2,2,2,2,2] 13 false rfl,hr 7 13 rfl,t_26,callStep,CL,gv,List.contains]
 obtain ⟨o1,y,a⟩:=bs a
 have b:=f14_ok k u d e f g h i j l m c _ y
 cases o1 with
 | o0 z v5 =>
  (try dsimp only at a)
  (try simp only [NM,EE,R14.st] at b)
  simp (disch:=first|apply D;decide|apply K;kernel_rfl) only [E,EE,↓reduceIte,simprocAttr,xk B7 [2,2,2,2,2,2,2,2] .sq rfl,rg B7 [1,2,2,2,2,2,2,2,2] 14 false rfl,hr 7 14 rfl,b]
  rcases cond_some a with ⟨v,a⟩ | ⟨v,a⟩
  ·obtain ⟨o7,n,a⟩:=bs a
   have s:=f21_ok k z t _ n
   cases o7 with
   | o0 aa =>
    (try dsimp only at a)
    (try simp only [NM,EE,R21.st] at s)
    cases a
    simp (disch:=first|apply D;decide|apply K;kernel_rfl) only [E,EE,↓reduceIte,simprocAttr,callStep,CL,gv,List.contains,xk B7 [2,2,2,2,2,2,2,2,2] .rt rfl,fin7,R7.st,b,v,s]
  ·cases a
   simp (disch:=first|apply D;decide|apply K;kernel_rfl) only [E,EE,↓reduceIte,simprocAttr,xk B7 [2,2,2,2,2,2,2,2,2] .rt rfl,fin7,R7.st,b,v]
 | o1 ab w =>
  (try dsimp only at a)
  (try simp only [NM,EE,R14.st] at b)
  simp (disch:=first|apply D;decide|apply K;kernel_rfl) only [E,EE,↓reduceIte,simprocAttr,xk B7 [2,2,2,2,2,2,2,2] .sq rfl,rg B7 [1,2,2,2,2,2,2,2,2] 14 false rfl,hr 7 14 rfl,b]
  rcases cond_some a with ⟨p,a⟩ | ⟨p,a⟩
  ·obtain ⟨o14,x,a⟩:=bs a
   have o:=f21_ok k w t _ x
   cases o14 with
   | o0 ac =>
    (try dsimp only at a)
    (try simp only [NM,EE,R21.st] at o)
    cases a
    simp (disch:=first|apply D;decide|apply K;kernel_rfl) only [E,EE,↓reduceIte,simprocAttr,callStep,CL,gv,List.contains,xk B7 [2,2,2,2,2,2,2,2,2] .rt rfl,fin7,R7.st,b,p,o]
  ·cases a
   simp (disch:=first|apply D;decide|apply K;kernel_rfl) only [E,EE,↓reduceIte,simprocAttr,xk B7 [2,2,2,2,2,2,2,2,2] .rt rfl,fin7,R7.st,b,p]
noncomputable def f7_j3 (k:Nat) (h:List Int) (q:Bool):Option R7 :=
 Option.bind (f10 k h) fun o1 =>
  match o1 with
  | .o0 i j l m o p a b c d e f =>
   cond ((f != 0))
    (
     Option.bind (f20a k i j l m o p a b c d e 0 0 0 0 0 0 0 0 0 0) fun o17 =>
      match o17 with
      | .o0 g =>
       some (.o0 g))
    (f7_j4 k h false i j l m o p a b c d e)
theorem f7_j3_ok (k l e r) (a:f7_j3 k l e=some r):finK Tryd.prog Tryd.f7 0 (EX 7 k (nav B7 [2,2,2,2,2]) (⟨64,[(1,.sl 1 (rowsOf (encI .u8) l)),(41,.p (.bool e))],[]⟩:St))=some r.st:=by
 unfold f7_j3 at a
 obtain ⟨o1,v,a⟩:=bs a
 have b:=f10_ok k l _ v
 cases o1 with
 | o0 o p q s t u f g h i j w =>
  (try dsimp only at a)
  (try simp only [NM,EE,R10.st] at b)
  simp (disch:=first|apply D;decide|apply K;kernel_rfl) only [E,EE,↓reduceIte,simprocAttr,xk B7 [2,2,2,2,2] .sq rfl,rg B7 [1,2,2,2,2,2] 10 false rfl,hr 7 10 rfl,callStep,CL,gv,List.contains,t_26,xk B7 [2,2,2,2,2,2] .sq rfl,xk B7 [1,2,2,2,2,2,2] .sq rfl,rg B7 [1,1,2,2,2,2,2,2] 11 false rfl,hr 7 11 rfl,xk B7 [2,1,2,2,2,2,2,2] (.cd 48) rfl,b]
  rcases cond_some a with ⟨d,a⟩ | ⟨d,a⟩
  ·obtain ⟨o17,m,a⟩:=bs a
   have c:=f20a_ok k o p q s t u f g h i j 0 0 0 0 0 0 0 0 0 0 _ m
   cases o17 with
   | o0 x =>
    (try dsimp only at a)
    (try simp only [NM,EE,R20a.st] at c)
    cases a
    simp (disch:=first|apply D;decide|apply K;kernel_rfl) only [E,EE,↓reduceIte,simprocAttr,xk B7 [2,2,1,2,2,2,2,2,2] .sq rfl,rg B7 [1,2,2,1,2,2,2,2,2,2] 12 false rfl,hr 7 12 rfl,t_26,bl_26,callStep,CL,gv,List.contains,xk B7 [2,2,2,1,2,2,2,2,2,2] .rt rfl,fin7,R7.st,b,d,c]
  ·have hJ:=f7_j4_ok k l false o p q s t u f g h i j _ a
   simp (disch:=first|apply D;decide|apply K;kernel_rfl) only [E,EE,↓reduceIte,simprocAttr,xk B7 [3,2,1,2,2,2,2,2,2] .sk rfl,b,d]
   try simp only [NM,EE] at hJ
   exact hJ
noncomputable def f7_j5 (k:Nat) (i x5:List Int) (n:Bool) (m2 j l m o p q s t u:Int) (f:List Int):Option R7 :=
 Option.bind (f10 k i) fun o1 =>
  match o1 with
  | .o0 v w x y z r a b c d e g =>
   cond ((g != 0))
    (
     Option.bind (f20a k v w x y z r a b c d e 0 0 0 0 0 0 0 0 0 0) fun o17 =>
      match o17 with
      | .o0 h =>
       some (.o0 h))
    (f7_j4 k i false v w x y z r a b c d e)
theorem f7_j5_ok (k x z q n d e f g h i j l m b r) (a:f7_j5 k x z q n d e f g h i j l m b=some r):finK Tryd.prog Tryd.f7 0 (EX 7 k (nav B7 [2,2,2,2,2]) (⟨64,[(1,.sl 1 (rowsOf (encI .u8) x)),(2,.ptr 2 0),(5,.sl 1 (rowsOf (encI .u8) z)),(28,.p (.bool q))],[(2,.box 26 [jI n,jI d,jU e,jI f,jI g,jI h,jI i,jI j,jI l,jI m,.sl 1 (rowsOf (encI .u8) b)])]⟩:St))=some r.st:=by
 unfold f7_j5 at a
 obtain ⟨o1,h2,a⟩:=bs a
 have c:=f10_ok k x _ h2
 cases o1 with
 | o0 v4 v5 v6 v7 v8 v9 s t u v w ah =>
  (try dsimp only at a)
  (try simp only [NM,EE,R10.st] at c)
  simp (disch:=first|apply D;decide|apply K;kernel_rfl) only [E,EE,↓reduceIte,simprocAttr,xk B7 [2,2,2,2,2] .sq rfl,rg B7 [1,2,2,2,2,2] 10 false rfl,hr 7 10 rfl,callStep,CL,gv,List.contains,t_26,xk B7 [2,2,2,2,2,2] .sq rfl,xk B7 [1,2,2,2,2,2,2] .sq rfl,rg B7 [1,1,2,2,2,2,2,2] 11 false rfl,hr 7 11 rfl,xk B7 [2,1,2,2,2,2,2,2] (.cd 48) rfl,c]
  rcases cond_some a with ⟨p,a⟩ | ⟨p,a⟩
  ·obtain ⟨o17,y,a⟩:=bs a
   have o:=f20a_ok k v4 v5 v6 v7 v8 v9 s t u v w 0 0 0 0 0 0 0 0 0 0 _ y
   cases o17 with
   | o0 ai =>
    (try dsimp only at a)
    (try simp only [NM,EE,R20a.st] at o)
    cases a
    simp (disch:=first|apply D;decide|apply K;kernel_rfl) only [E,EE,↓reduceIte,simprocAttr,xk B7 [2,2,1,2,2,2,2,2,2] .sq rfl,rg B7 [1,2,2,1,2,2,2,2,2,2] 12 false rfl,hr 7 12 rfl,t_26,bl_26,callStep,CL,gv,List.contains,xk B7 [2,2,2,1,2,2,2,2,2,2] .rt rfl,fin7,R7.st,c,p,o]
  ·have hJ:=f7_j4_ok k x false v4 v5 v6 v7 v8 v9 s t u v w _ a
   simp (disch:=first|apply D;decide|apply K;kernel_rfl) only [E,EE,↓reduceIte,simprocAttr,xk B7 [3,2,1,2,2,2,2,2,2] .sk rfl,c,p]
   try simp only [NM,EE] at hJ
   exact hJ
noncomputable def f7_j6 (k:Nat) (i:List Int) (n:Bool) (m2 j l m o p q s t u:Int) (f aa:List Int):Option R7 :=
 Option.bind (f10 k i) fun o1 =>
  match o1 with
  | .o0 v w x y z r a b c d e g =>
   cond ((g != 0))
    (
     Option.bind (f20a k v w x y z r a b c d e 0 0 0 0 0 0 0 0 0 0) fun o17 =>
      match o17 with
      | .o0 h =>
       some (.o0 h))
    (f7_j4 k i false v w x y z r a b c d e)
theorem f7_j6_ok (k y q n d e f g h i j l m b s r) (a:f7_j6 k y q n d e f g h i j l m b s=some r):finK Tryd.prog Tryd.f7 0 (EX 7 k (nav B7 [2,2,2,2,2]) (⟨64,[(1,.sl 1 (rowsOf (encI .u8) y)),(2,.ptr 2 0),(5,.own 24),(28,.p (.bool q))],[(2,.box 26 [jI n,jI d,jU e,jI f,jI g,jI h,jI i,jI j,jI l,jI m,.sl 1 (rowsOf (encI .u8) b)]),(24,.row true 1 5 (rowsOf (encI .u8) s))]⟩:St))=some r.st:=by
 unfold f7_j6 at a
 obtain ⟨o1,h2,a⟩:=bs a
 have c:=f10_ok k y _ h2
 cases o1 with
 | o0 v4 v5 v6 v7 v8 v9 t u v w x ah =>
  (try dsimp only at a)
  (try simp only [NM,EE,R10.st] at c)
  simp (disch:=first|apply D;decide|apply K;kernel_rfl) only [E,EE,↓reduceIte,simprocAttr,xk B7 [2,2,2,2,2] .sq rfl,rg B7 [1,2,2,2,2,2] 10 false rfl,hr 7 10 rfl,callStep,CL,gv,List.contains,t_26,xk B7 [2,2,2,2,2,2] .sq rfl,xk B7 [1,2,2,2,2,2,2] .sq rfl,rg B7 [1,1,2,2,2,2,2,2] 11 false rfl,hr 7 11 rfl,xk B7 [2,1,2,2,2,2,2,2] (.cd 48) rfl,c]
  rcases cond_some a with ⟨p,a⟩ | ⟨p,a⟩
  ·obtain ⟨o17,z,a⟩:=bs a
   have o:=f20a_ok k v4 v5 v6 v7 v8 v9 t u v w x 0 0 0 0 0 0 0 0 0 0 _ z
   cases o17 with
   | o0 ai =>
    (try dsimp only at a)
    (try simp only [NM,EE,R20a.st] at o)
    cases a
    simp (disch:=first|apply D;decide|apply K;kernel_rfl) only [E,EE,↓reduceIte,simprocAttr,xk B7 [2,2,1,2,2,2,2,2,2] .sq rfl,rg B7 [1,2,2,1,2,2,2,2,2,2] 12 false rfl,hr 7 12 rfl,t_26,bl_26,callStep,CL,gv,List.contains,xk B7 [2,2,2,1,2,2,2,2,2,2] .rt rfl,fin7,R7.st,c,p,o]
  ·have hJ:=f7_j4_ok k y false v4 v5 v6 v7 v8 v9 t u v w x _ a
   simp (disch:=first|apply D;decide|apply K;kernel_rfl) only [E,EE,↓reduceIte,simprocAttr,xk B7 [3,2,1,2,2,2,2,2,2] .sk rfl,c,p]
   try simp only [NM,EE] at hJ
   exact hJ
noncomputable def f7_j2 (k:Nat) (o:List Int) (aq:Bool) (l b c d e f g h i j:Int) (a:List Int):Option R7 :=
 Option.bind (f14 k l b c d e f g h i j a) fun o1 =>
  match o1 with
  | .o0 v4 v5 =>
   cond ((v5==0))
    (
     Option.bind (f10 k v4) fun o7 =>
      match o7 with
      | .o0 p q s t u v w x y z r n =>
       cond ((n != 0))
        (some (.o0 false))
        (
         Option.bind (f20b k p q s t u v w x y z r l b c d e f g h i j a) fun o23 =>
          match o23 with
          | .o0 aa =>
           cond ((!aa))
            (some (.o0 false))
            (f7_j3 k o false)))
    (f7_j5 k o v4 false l b c d e f g h i j a)
  | .o1 ab m =>
   cond ((ab==0))
    (
     Option.bind (f10 k m) fun o31 =>
      match o31 with
      | .o0 ac ad ae af ag ah ai aj ak al am an =>
       cond ((an != 0))
        (some (.o0 false))
        (
         Option.bind (f20b k ac ad ae af ag ah ai aj ak al am l b c d e f g h i j a) fun o47 =>
          match o47 with
          | .o0 ao =>
           cond ((!ao))
            (some (.o0 false))
            (f7_j3 k o false)))
    (f7_j6 k o false l b c d e f g h i j a m)
theorem f7_j2_ok (k n aa w d e f g h i j l m c r) (a:f7_j2 k n aa w d e f g h i j l m c=some r):finK Tryd.prog Tryd.f7 0 (EX 7 k (nav B7 [2,2,2]) (⟨64,[(1,.sl 1 (rowsOf (encI .u8) n)),(2,.ptr 2 0),(21,.p (.bool aa))],[(2,.box 26 [jI w,jI d,jU e,jI f,jI g,jI h,jI i,jI j,jI l,jI m,.sl 1 (rowsOf (encI .u8) c)])]⟩:St))=some r.st:=by
 unfold f7_j2 at a
 simp (disch:=first|apply D;decide|apply K;kernel_rfl) only [E,EE,↓reduceIte,simprocAttr,xk B7 [2,2,2] .sq rfl,rg B7 [1,2,2,2] 5 false rfl,hr 7 5 rfl,t_26,callStep,CL,gv,List.contains]
 obtain ⟨o1,h2,a⟩:=bs a
 have b:=f14_ok k w d e f g h i j l m c _ h2
 cases o1 with
 | o0 v4 v5 =>
  (try dsimp only at a)
  (try simp only [NM,EE,R14.st] at b)
  simp (disch:=first|apply D;decide|apply K;kernel_rfl) only [E,EE,↓reduceIte,simprocAttr,xk B7 [2,2,2,2] .sq rfl,xk B7 [1,2,2,2,2] .sq rfl,rg B7 [1,1,2,2,2,2] 6 false rfl,hr 7 6 rfl,xk B7 [2,1,2,2,2,2] (.cd 28) rfl,b]
  rcases cond_some a with ⟨x,a⟩ | ⟨x,a⟩
  ·obtain ⟨o7,h8,a⟩:=bs a
   have t:=f10_ok k v4 _ h8
   cases o7 with
   | o0 ac ad ae af ag ah ai aj ak al am a6 =>
    (try dsimp only at a)
    (try simp only [NM,EE,R10.st] at t)
    simp (disch:=first|apply D;decide|apply K;kernel_rfl) only [E,EE,↓reduceIte,simprocAttr,xk B7 [2,2,1,2,2,2,2] .sq rfl,rg B7 [1,2,2,1,2,2,2,2] 7 false rfl,hr 7 7 rfl,callStep,CL,gv,List.contains,t_26,xk B7 [2,2,2,1,2,2,2,2] .sq rfl,rg B7 [1,2,2,2,1,2,2,2,2] 8 false rfl,hr 7 8 rfl,b,x,t]
    rcases cond_some a with ⟨u,a⟩ | ⟨u,a⟩
    ·cases a
     simp (disch:=first|apply D;decide|apply K;kernel_rfl) only [E,EE,↓reduceIte,simprocAttr,xk B7 [2,2,2,2,1,2,2,2,2] (.cd 41) rfl,xk B7 [2,2,2,2,2,1,2,2,2,2] .sq rfl,rg B7 [1,2,2,2,2,2,1,2,2,2,2] 9 false rfl,hr 7 9 rfl,xk B7 [2,2,2,2,2,2,1,2,2,2,2] .rt rfl,fin7,R7.st,b,x,t,u]
    ·obtain ⟨o23,an,a⟩:=bs a
     have q:=f20b_ok k ac ad ae af ag ah ai aj ak al am w d e f g h i j l m c _ an
     cases o23 with
     | o0 a7 =>
      (try dsimp only at a)
      (try simp only [NM,EE,R20b.st] at q)
      simp (disch:=first|apply D;decide|apply K;kernel_rfl) only [E,EE,↓reduceIte,simprocAttr,t_26,callStep,CL,gv,List.contains,xk B7 [2,2,2,2,1,2,2,2,2] (.cd 41) rfl,b,x,t,u,q]
      rcases cond_some a with ⟨y,a⟩ | ⟨y,a⟩
      ·cases a
       simp (disch:=first|apply D;decide|apply K;kernel_rfl) only [E,EE,↓reduceIte,simprocAttr,xk B7 [2,2,2,2,2,1,2,2,2,2] .sq rfl,rg B7 [1,2,2,2,2,2,1,2,2,2,2] 9 false rfl,hr 7 9 rfl,xk B7 [2,2,2,2,2,2,1,2,2,2,2] .rt rfl,fin7,R7.st,b,x,t,u,q,y]
      ·have hJ:=f7_j3_ok k n false _ a
       simp (disch:=first|apply D;decide|apply K;kernel_rfl) only [E,EE,↓reduceIte,simprocAttr,xk B7 [3,2,2,2,2,1,2,2,2,2] .sk rfl,b,x,t,u,q,y]
       try simp only [NM,EE] at hJ
       exact hJ
  ·have hJ:=f7_j5_ok k n v4 false w d e f g h i j l m c _ a
   simp (disch:=first|apply D;decide|apply K;kernel_rfl) only [E,EE,↓reduceIte,simprocAttr,xk B7 [3,2,1,2,2,2,2] .sk rfl,b,x]
   try simp only [NM,EE] at hJ
   exact hJ
 | o1 a8 ab =>
  (try dsimp only at a)
  (try simp only [NM,EE,R14.st] at b)
  simp (disch:=first|apply D;decide|apply K;kernel_rfl) only [E,EE,↓reduceIte,simprocAttr,xk B7 [2,2,2,2] .sq rfl,xk B7 [1,2,2,2,2] .sq rfl,rg B7 [1,1,2,2,2,2] 6 false rfl,hr 7 6 rfl,xk B7 [2,1,2,2,2,2] (.cd 28) rfl,b]
  rcases cond_some a with ⟨p,a⟩ | ⟨p,a⟩
  ·obtain ⟨o31,ao,a⟩:=bs a
   have o:=f10_ok k ab _ ao
   cases o31 with
   | o0 ap aq ar au av aw ax ay az a0 a1 a9 =>
    (try dsimp only at a)
    (try simp only [NM,EE,R10.st] at o)
    simp (disch:=first|apply D;decide|apply K;kernel_rfl) only [E,EE,↓reduceIte,simprocAttr,xk B7 [2,2,1,2,2,2,2] .sq rfl,rg B7 [1,2,2,1,2,2,2,2] 7 false rfl,hr 7 7 rfl,callStep,CL,gv,List.contains,t_26,xk B7 [2,2,2,1,2,2,2,2] .sq rfl,rg B7 [1,2,2,2,1,2,2,2,2] 8 false rfl,hr 7 8 rfl,b,p,o]
    rcases cond_some a with ⟨v,a⟩ | ⟨v,a⟩
    ·cases a
     simp (disch:=first|apply D;decide|apply K;kernel_rfl) only [E,EE,↓reduceIte,simprocAttr,xk B7 [2,2,2,2,1,2,2,2,2] (.cd 41) rfl,xk B7 [2,2,2,2,2,1,2,2,2,2] .sq rfl,rg B7 [1,2,2,2,2,2,1,2,2,2,2] 9 false rfl,hr 7 9 rfl,xk B7 [2,2,2,2,2,2,1,2,2,2,2] .rt rfl,fin7,R7.st,b,p,o,v]
    ·obtain ⟨o47,a2,a⟩:=bs a
     have s:=f20b_ok k ap aq ar au av aw ax ay az a0 a1 w d e f g h i j l m c _ a2
     cases o47 with
     | o0 ba =>
      (try dsimp only at a)
      (try simp only [NM,EE,R20b.st] at s)
      simp (disch:=first|apply D;decide|apply K;kernel_rfl) only [E,EE,↓reduceIte,simprocAttr,t_26,callStep,CL,gv,List.contains,xk B7 [2,2,2,2,1,2,2,2,2] (.cd 41) rfl,b,p,o,v,s]
      rcases cond_some a with ⟨z,a⟩ | ⟨z,a⟩
      ·cases a
       simp (disch:=first|apply D;decide|apply K;kernel_rfl) only [E,EE,↓reduceIte,simprocAttr,xk B7 [2,2,2,2,2,1,2,2,2,2] .sq rfl,rg B7 [1,2,2,2,2,2,1,2,2,2,2] 9 false rfl,hr 7 9 rfl,xk B7 [2,2,2,2,2,2,1,2,2,2,2] .rt rfl,fin7,R7.st,b,p,o,v,s,z]
      ·have hJ:=f7_j3_ok k n false _ a
       simp (disch:=first|apply D;decide|apply K;kernel_rfl) only [E,EE,↓reduceIte,simprocAttr,xk B7 [3,2,2,2,2,1,2,2,2,2] .sk rfl,b,p,o,v,s,z]
       try simp only [NM,EE] at hJ
       exact hJ
  ·have hJ:=f7_j6_ok k n false w d e f g h i j l m c ab _ a
   simp (disch:=first|apply D;decide|apply K;kernel_rfl) only [E,EE,↓reduceIte,simprocAttr,xk B7 [3,2,1,2,2,2,2] .sk rfl,b,p]
   try simp only [NM,EE] at hJ
   exact hJ
noncomputable def f7_j1 (k:Nat) (l:List Int) (m:Bool) (o b c d e f g h i j:Int) (a:List Int):Option R7 :=
 cond ((decide (((List.length a):Int)>5000)))
  (some (.o0 true))
  (
   cond ((decide (((List.length l):Int)>5000)))
    (some (.o0 true))
    (f7_j2 k l false o b c d e f g h i j a))
theorem f7_j1_ok (k p m q b c d e f g h i j a r) (l:f7_j1 k p m q b c d e f g h i j a=some r):finK Tryd.prog Tryd.f7 0 (EX 7 k (nav B7 [2,2]) (⟨64,[(1,.sl 1 (rowsOf (encI .u8) p)),(2,.ptr 2 0),(12,.p (.bool m))],[(2,.box 26 [jI q,jI b,jU c,jI d,jI e,jI f,jI g,jI h,jI i,jI j,.sl 1 (rowsOf (encI .u8) a)])]⟩:St))=some r.st:=by
 unfold f7_j1 at l
 simp (disch:=first|apply D;decide|apply K;kernel_rfl) only [E,EE,↓reduceIte,simprocAttr,xk B7 [2,2] .sq rfl,xk B7 [1,2,2] .sq rfl,rg B7 [1,1,2,2] 3 false rfl,hr 7 3 rfl,fieldAddrV,t_26,t_22]
 rcases cond_some l with ⟨o,l⟩ | ⟨o,l⟩
 ·cases l
  simp (disch:=first|apply D;decide|apply K;kernel_rfl) only [E,EE,↓reduceIte,simprocAttr,xk B7 [2,1,2,2] (.cd 21) rfl,xk B7 [2,2,1,2,2] .sq rfl,rg B7 [1,2,2,1,2,2] 4 false rfl,hr 7 4 rfl,xk B7 [2,2,2,1,2,2] .rt rfl,fin7,R7.st,o]
 ·simp (disch:=first|apply D;decide|apply K;kernel_rfl) only [E,EE,↓reduceIte,simprocAttr,t_22,xk B7 [2,1,2,2] (.cd 21) rfl,o]
  rcases cond_some l with ⟨s,l⟩ | ⟨s,l⟩
  ·cases l
   simp (disch:=first|apply D;decide|apply K;kernel_rfl) only [E,EE,↓reduceIte,simprocAttr,xk B7 [2,2,1,2,2] .sq rfl,rg B7 [1,2,2,1,2,2] 4 false rfl,hr 7 4 rfl,xk B7 [2,2,2,1,2,2] .rt rfl,fin7,R7.st,o,s]
  ·have hJ:=f7_j2_ok k p false q b c d e f g h i j a _ l
   simp (disch:=first|apply D;decide|apply K;kernel_rfl) only [E,EE,↓reduceIte,simprocAttr,xk B7 [3,2,1,2,2] .sk rfl,o,s]
   try simp only [NM,EE] at hJ
   exact hJ
noncomputable def f7_e (k:Nat) (l b c d e f g h i j:Int) (a m:List Int):Option R7 :=
 Option.bind (f9 k) fun o1 =>
  match o1 with
  | .o0 o =>
   cond ((!o))
    (some (.o0 false))
    (f7_j1 k m false l b c d e f g h i j a)
theorem f7_e_ok (k o b c d e f g h i j a p r) (l:f7_e k o b c d e f g h i j a p=some r):finK Tryd.prog Tryd.f7 0 (EX 7 k (nav B7 []) (⟨64,[(0,.agg [jI o,jI b,jU c,jI d,jI e,jI f,jI g,jI h,jI i,jI j,.sl 1 (rowsOf (encI .u8) a)]),(1,.sl 1 (rowsOf (encI .u8) p))],[]⟩:St))=some r.st:=by
 unfold f7_e at l
 obtain ⟨o1,s,l⟩:=bs l
 have m:=f9_ok k _ s
 cases o1 with
 | o0 t =>
  (try dsimp only at l)
  (try simp only [NM,EE,R9.st] at m)
  simp (disch:=first|apply D;decide|apply K;kernel_rfl) only [E,EE,↓reduceIte,simprocAttr,xk B7 [] .sq rfl,rg B7 [1] 0 false rfl,hr 7 0 rfl,xk B7 [2] .sq rfl,xk B7 [1,2] .sq rfl,rg B7 [1,1,2] 1 false rfl,hr 7 1 rfl,callStep,CL,gv,List.contains,xk B7 [2,1,2] (.cd 12) rfl,m]
  rcases cond_some l with ⟨q,l⟩ | ⟨q,l⟩
  ·cases l
   simp (disch:=first|apply D;decide|apply K;kernel_rfl) only [E,EE,↓reduceIte,simprocAttr,xk B7 [2,2,1,2] .sq rfl,rg B7 [1,2,2,1,2] 2 false rfl,hr 7 2 rfl,xk B7 [2,2,2,1,2] .rt rfl,fin7,R7.st,m,q]
  ·have hJ:=f7_j1_ok k p false o b c d e f g h i j a _ l
   simp (disch:=first|apply D;decide|apply K;kernel_rfl) only [E,EE,↓reduceIte,simprocAttr,xk B7 [3,2,1,2] .sk rfl,m,q]
   try simp only [NM,EE] at hJ
   exact hJ
noncomputable def f7 (k:Nat) (l b c d e f g h i j:Int) (a m:List Int):Option R7:=match k with | 0=>none | k+1=>f7_e k l b c d e f g h i j a m
theorem f7_ok (k m b d e f g h i j l a o r) (p:f7 k m b d e f g h i j l a o=some r):CV k 7 [.agg [jI m,jI b,jU d,jI e,jI f,jI g,jI h,jI i,jI j,jI l,.sl 1 (rowsOf (encI .u8) a)],.sl 1 (rowsOf (encI .u8) o)] []=some r.st:=by
 cases k with
 | zero=>cases p
 | succ k =>
  unfold CV
  rw [ev_call (F:=Tryd.f7) (c:=(nav B7 [])) rfl Tryd.func7 rfl rfl rfl rfl]
  exact f7_e_ok k m b d e f g h i j l a o r p
end Go.Proofs.YtbnnmplkbpgcaaaDoorV