/- What the program's functions answer: plain functions,and that the interpreter answers what they do. Written by a program of this session,out of the translation. -/
import Derived.Test.YtiompmmbjpjjeaaDoorVP2
namespace Go.Proofs.YtiompmmbjpjjeaaDoorV
open Go
set_option linter.unusedVariables false
set_option linter.unusedSimpArgs false
set_option maxRecDepth 8000
set_option maxHeartbeats 4000000
-- f24: f24 heliograph/queue.Check
inductive R24 where
 | o0 (y:Int)
noncomputable def R24.st:R24→V×List O×List O
 | .o0 y=>((jI y),[],[])
noncomputable def f24_j2 (k:Nat) (a:Bool):Option R24 :=
 some (.o0 0)
theorem f24_j2_ok (k a r) (b:f24_j2 k a=some r):finK Tryd.prog Tryd.f24 0 (EX 24 k (nav B24 [2,2,2]) (⟨37,[(36,jT a)],[]⟩:St))=some r.st:=by
 unfold f24_j2 at b
 cases b
 simp only [W,simprocAttr,sr 24 6 B24 [2,2,2] rfl rfl rfl,xk B24 [2,2,2,2] .rt rfl,fin24,R24.st]
noncomputable def f24_j1 (k:Nat) (m:Int) (o:Bool) (i a:Int) (b:List T54) (c:List Int) (d:Int) (h:List T44) (e:Int):Option R24 :=
 Option.bind (f41 k i 1 a) fun o1 =>
  match o1 with
  | .o0 j =>
   cond ((!j))
    (some (.o0 2))
    (
     Option.bind (f40 k a b c) fun o6 =>
      match o6 with
      | .o0 l =>
       cond ((!l))
        (some (.o0 2))
        (
         Option.bind (f41 k d 0 1048576) fun o11 =>
          match o11 with
          | .o0 f =>
           cond ((!f))
            (some (.o0 2))
            (
             Option.bind (f41 k e 0 8) fun o16 =>
              match o16 with
              | .o0 g =>
               cond ((!g))
                (some (.o0 2))
                (f24_j2 k false))))
theorem f24_j1_ok (k v w s f h i j p l r) (a:f24_j1 k v w s f h i j p l=some r):finK Tryd.prog Tryd.f24 0 (EX 24 k (nav B24 [2,2]) (⟨37,[(1,.ptr 1 0),(3,jI v),(8,jT w)],[(1,.box 28 [jI s,jI f,.sl 6 (rowsOf encT54 h),.sl 1 (rowsOf (encI .i64) i),jI j,.sl 3 (rowsOf encT44 p),jI l])]⟩:St))=some r.st:=by
 unfold f24_j1 at a
 obtain ⟨o1,x,a⟩:=bs a
 have b:=f41_ok k s 1 f _ x
 cases o1 with
 | o0 v4 =>
  (try dsimp only at a)
  (try simp only [NM,EE,R41.st] at b)
  simp only [W,simprocAttr,xk B24 [2,2] .sq rfl,sr 24 4 B24 [1,2,2] rfl rfl rfl,fieldAddrV,t_28,t_3,t_24,callStep,CL,gv,List.contains,b]
  rcases cond_some a with ⟨o,a⟩ | ⟨o,a⟩
  ·cases a
   simp only [W,simprocAttr,xk B24 [2,1,2,2] (.cd 36) rfl,sr 24 5 B24 [2,2,1,2,2] rfl rfl rfl,xk B24 [2,2,2,1,2,2] .rt rfl,fin24,R24.st,b,o]
  ·obtain ⟨o6,y,a⟩:=bs a
   have d:=f40_ok k f h i _ y
   cases o6 with
   | o0 v9 =>
    (try dsimp only at a)
    (try simp only [NM,EE,R40.st] at d)
    simp only [W,simprocAttr,fieldAddrV,t_28,t_24,t_25,callStep,CL,gv,List.contains,b,o,d]
    rcases cond_some a with ⟨e,a⟩ | ⟨e,a⟩
    ·cases a
     simp only [W,simprocAttr,xk B24 [2,1,2,2] (.cd 36) rfl,sr 24 5 B24 [2,2,1,2,2] rfl rfl rfl,xk B24 [2,2,2,1,2,2] .rt rfl,fin24,R24.st,b,o,d,e]
    ·obtain ⟨o11,t,a⟩:=bs a
     have c:=f41_ok k j 0 1048576 _ t
     cases o11 with
     | o0 z =>
      (try dsimp only at a)
      (try simp only [NM,EE,R41.st] at c)
      simp only [W,simprocAttr,fieldAddrV,t_28,t_3,callStep,CL,gv,List.contains,b,o,d,e,c]
      rcases cond_some a with ⟨m,a⟩ | ⟨m,a⟩
      ·cases a
       simp only [W,simprocAttr,xk B24 [2,1,2,2] (.cd 36) rfl,sr 24 5 B24 [2,2,1,2,2] rfl rfl rfl,xk B24 [2,2,2,1,2,2] .rt rfl,fin24,R24.st,b,o,d,e,c,m]
      ·obtain ⟨o16,u,a⟩:=bs a
       have g:=f41_ok k l 0 8 _ u
       cases o16 with
       | o0 n =>
        (try dsimp only at a)
        (try simp only [NM,EE,R41.st] at g)
        simp only [W,simprocAttr,fieldAddrV,t_28,t_3,callStep,CL,gv,List.contains,xk B24 [2,1,2,2] (.cd 36) rfl,b,o,d,e,c,m,g]
        rcases cond_some a with ⟨q,a⟩ | ⟨q,a⟩
        ·cases a
         simp only [W,simprocAttr,sr 24 5 B24 [2,2,1,2,2] rfl rfl rfl,xk B24 [2,2,2,1,2,2] .rt rfl,fin24,R24.st,b,o,d,e,c,m,g,q]
        ·have hJ:=f24_j2_ok k false _ a
         simp only [W,simprocAttr,xk B24 [3,2,1,2,2] .sk rfl,b,o,d,e,c,m,g,q]
         try simp only [NM,EE] at hJ
         exact hJ
noncomputable def f24_e (k:Nat) (h a:Int) (b:List T54) (c:List Int) (d:Int) (e:List T44) (f:Int):Option R24 :=
 Option.bind (f33 k a b) fun o1 =>
  match o1 with
  | .o0 g =>
   cond ((g != 0))
    (some (.o0 g))
    (f24_j1 k g false h a b c d e f)
theorem f24_e_ok (k i a b c d e f r) (g:f24_e k i a b c d e f=some r):finK Tryd.prog Tryd.f24 0 (EX 24 k (nav B24 []) (⟨37,[(0,.agg [jI i,jI a,.sl 6 (rowsOf encT54 b),.sl 1 (rowsOf (encI .i64) c),jI d,.sl 3 (rowsOf encT44 e),jI f])],[]⟩:St))=some r.st:=by
 unfold f24_e at g
 obtain ⟨o1,l,g⟩:=bs g
 have h:=f33_ok k a b _ l
 cases o1 with
 | o0 m =>
  (try dsimp only at g)
  (try simp only [NM,EE,R33.st] at h)
  simp only [W,simprocAttr,sr 24 0 B24 [] rfl rfl rfl,xk B24 [2] .sq rfl,sr 24 1 B24 [1,2] rfl rfl rfl,fieldAddrV,t_28,t_24,callStep,CL,gv,List.contains,sr 24 2 B24 [2,1,2] rfl rfl rfl,xk B24 [2,2,1,2] (.cd 8) rfl,h]
  rcases cond_some g with ⟨j,g⟩ | ⟨j,g⟩
  ·cases g
   simp only [W,simprocAttr,sr 24 3 B24 [2,2,2,1,2] rfl rfl rfl,xk B24 [2,2,2,2,1,2] .rt rfl,fin24,R24.st,h,j]
  ·have hJ:=f24_j1_ok k m false i a b c d e f _ g
   simp only [W,simprocAttr,xk B24 [3,2,2,1,2] .sk rfl,h,j]
   try simp only [NM,EE] at hJ
   exact hJ
noncomputable def f24 (k:Nat) (g a:Int) (b:List T54) (c:List Int) (d:Int) (e:List T44) (f:Int):Option R24:=match k with | 0=>none | k+1=>f24_e k g a b c d e f
theorem f24_ok (k h a b d e f g r) (i:f24 k h a b d e f g=some r):CV k 24 [.agg [jI h,jI a,.sl 6 (rowsOf encT54 b),.sl 1 (rowsOf (encI .i64) d),jI e,.sl 3 (rowsOf encT44 f),jI g]] []=some r.st:=by
 cases k with
 | zero=>cases i
 | succ k =>
  unfold CV
  rw [ev_call (F:=Tryd.f24) (c:=(nav B24 [])) rfl Tryd.func24 rfl rfl rfl rfl]
  exact f24_e_ok k h a b d e f g r i
-- f65: f65 heliograph/bundle.within
inductive R65 where
 | o0 (y:Bool)
noncomputable def R65.st:R65→V×List O×List O
 | .o0 y=>(jT y,[],[])
noncomputable def f65_e (k:Nat) (a b c:Int):Option R65 :=
 cond ((decide (a≥b)))
  (some (.o0 (decide (a≤c))))
  (some (.o0 false))
theorem f65_e_ok (k c d e r) (a:f65_e k c d e=some r):finK Tryd.prog Tryd.f65 0 (EX 65 k (nav B65 []) (⟨15,[(0,jI c),(1,jI d),(2,jI e)],[]⟩:St))=some r.st:=by
 unfold f65_e at a
 simp only [W,simprocAttr,sr 65 0 B65 [] rfl rfl rfl,sr 65 1 B65 [2] rfl rfl rfl]
 rcases cond_some a with ⟨b,a⟩ | ⟨b,a⟩
 ·cases a
  simp only [W,simprocAttr,xk B65 [2,2] .rt rfl,fin65,R65.st,b]
 ·cases a
  simp only [W,simprocAttr,xk B65 [2,2] .rt rfl,fin65,R65.st,b]
noncomputable def f65 (k:Nat) (a b c:Int):Option R65:=match k with | 0=>none | k+1=>f65_e k a b c
theorem f65_ok (k a b d r) (e:f65 k a b d=some r):CV k 65 [jI a,jI b,jI d] []=some r.st:=by
 cases k with
 | zero=>cases e
 | succ k =>
  unfold CV
  rw [ev_call (F:=Tryd.f65) (c:=(nav B65 [])) rfl Tryd.func65 rfl rfl rfl rfl]
  exact f65_e_ok k a b d r e
-- f48: f48 heliograph/bundle.Check
inductive R48 where
 | o0 (y:Int)
noncomputable def R48.st:R48→V×List O×List O
 | .o0 y=>((jI y),[],[])
noncomputable def f48_j1 (k:Nat) (a:Bool):Option R48 :=
 some (.o0 0)
theorem f48_j1_ok (k a r) (b:f48_j1 k a=some r):finK Tryd.prog Tryd.f48 0 (EX 48 k (nav B48 [2,2,2,2,2,2]) (⟨73,[(72,jT a)],[]⟩:St))=some r.st:=by
 unfold f48_j1 at b
 cases b
 simp only [W,simprocAttr,sr 48 7 B48 [2,2,2,2,2,2] rfl rfl rfl,xk B48 [2,2,2,2,2,2,2] .rt rfl,fin48,R48.st]
noncomputable def f48_e (k:Nat) (v d e f g c h i j a:Int) (b:List Int):Option R48 :=
 Option.bind (f65 k v 1 6) fun o1 =>
  match o1 with
  | .o0 w =>
   cond (w)
    (
     Option.bind (f65 k d 1 6) fun o6 =>
      match o6 with
      | .o0 x =>
       cond (x)
        (
         cond ((decide (e>0)))
          (
           Option.bind (f65 k f 0 1048576) fun o12 =>
            match o12 with
            | .o0 l =>
             cond (l)
              (
               Option.bind (f65 k g 1 1048576) fun o17 =>
                match o17 with
                | .o0 m =>
                 cond (m)
                  (
                   Option.bind (f65 k c 1 16) fun o22 =>
                    match o22 with
                    | .o0 o =>
                     cond (o)
                      (
                       Option.bind (f65 k h 0 c) fun o27 =>
                        match o27 with
                        | .o0 p =>
                         cond (p)
                          (
                           Option.bind (f65 k i 0 2) fun o32 =>
                            match o32 with
                            | .o0 q =>
                             cond (q)
                              (
                               Option.bind (f65 k a 1 400) fun o37 =>
                                match o37 with
                                | .o0 s =>
                                 cond (s)
                                  (
                                   Option.bind (f65 k ((List.length b):Int) 1 a) fun o42 =>
                                    match o42 with
                                    | .o0 t =>
                                     cond (t)
                                      (
                                       Option.bind (f65 k j 0 (IntKind.i64.wrap (a - ((List.length b):Int)))) fun o47 =>
                                        match o47 with
                                        | .o0 u =>
                                         cond ((!u))
                                          (some (.o0 190))
                                          (f48_j1 k false))
                                      (some (.o0 190)))
                                  (some (.o0 190)))
                              (some (.o0 190)))
                          (some (.o0 190)))
                      (some (.o0 190)))
                  (some (.o0 190)))
              (some (.o0 190)))
          (some (.o0 190)))
        (some (.o0 190)))
    (some (.o0 190))
theorem f48_e_ok (k a0 n ag aa ab y ac ad ae w u r) (a:f48_e k a0 n ag aa ab y ac ad ae w u=some r):finK Tryd.prog Tryd.f48 0 (EX 48 k (nav B48 []) (⟨73,[(0,.agg [jI a0,jI n,jU ag,jI aa,jI ab,jI y,jI ac,jI ad,jI ae,jI w,jB u])],[]⟩:St))=some r.st:=by
 unfold f48_e at a
 obtain ⟨o1,h2,a⟩:=bs a
 have d:=f65_ok k a0 1 6 _ h2
 cases o1 with
 | o0 v4 =>
  (try dsimp only at a)
  (try simp only [NM,EE,R65.st] at d)
  simp only [W,simprocAttr,sr 48 0 B48 [] rfl rfl rfl,sr 48 1 B48 [2] rfl rfl rfl,fieldAddrV,t_47,t_3,callStep,CL,gv,List.contains,d]
  rcases cond_some a with ⟨q,a⟩ | ⟨q,a⟩
  ·obtain ⟨o6,h7,a⟩:=bs a
   have e:=f65_ok k n 1 6 _ h7
   cases o6 with
   | o0 v9 =>
    (try dsimp only at a)
    (try simp only [NM,EE,R65.st] at e)
    simp only [W,simprocAttr,fieldAddrV,t_47,t_3,callStep,CL,gv,List.contains,d,q,e]
    rcases cond_some a with ⟨g,a⟩ | ⟨g,a⟩
    ·simp only [W,simprocAttr,fieldAddrV,t_47,t_42,sr 48 2 B48 [2,2] rfl rfl rfl,d,q,e,g]
     rcases cond_some a with ⟨h,a⟩ | ⟨h,a⟩
     ·obtain ⟨o12,aj,a⟩:=bs a
      have b:=f65_ok k aa 0 1048576 _ aj
      cases o12 with
      | o0 av =>
       (try dsimp only at a)
       (try simp only [NM,EE,R65.st] at b)
       simp only [W,simprocAttr,fieldAddrV,t_47,t_3,callStep,CL,gv,List.contains,d,q,e,g,h,b]
       rcases cond_some a with ⟨j,a⟩ | ⟨j,a⟩
       ·obtain ⟨o17,ak,a⟩:=bs a
        have c:=f65_ok k ab 1 1048576 _ ak
        cases o17 with
        | o0 aw =>
         (try dsimp only at a)
         (try simp only [NM,EE,R65.st] at c)
         simp only [W,simprocAttr,fieldAddrV,t_47,t_3,callStep,CL,gv,List.contains,sr 48 3 B48 [2,2,2] rfl rfl rfl,d,q,e,g,h,b,j,c]
         rcases cond_some a with ⟨m,a⟩ | ⟨m,a⟩
         ·obtain ⟨o22,al,a⟩:=bs a
          have f:=f65_ok k y 1 16 _ al
          cases o22 with
          | o0 ax =>
           (try dsimp only at a)
           (try simp only [NM,EE,R65.st] at f)
           simp only [W,simprocAttr,fieldAddrV,t_47,t_3,callStep,CL,gv,List.contains,d,q,e,g,h,b,j,c,m,f]
           rcases cond_some a with ⟨o,a⟩ | ⟨o,a⟩
           ·obtain ⟨o27,am,a⟩:=bs a
            have i:=f65_ok k ac 0 y _ am
            cases o27 with
            | o0 ay =>
             (try dsimp only at a)
             (try simp only [NM,EE,R65.st] at i)
             simp only [W,simprocAttr,fieldAddrV,t_47,t_3,callStep,CL,gv,List.contains,d,q,e,g,h,b,j,c,m,f,o,i]
             rcases cond_some a with ⟨s,a⟩ | ⟨s,a⟩
             ·obtain ⟨o32,an,a⟩:=bs a
              have l:=f65_ok k ad 0 2 _ an
              cases o32 with
              | o0 az =>
               (try dsimp only at a)
               (try simp only [NM,EE,R65.st] at l)
               simp only [W,simprocAttr,fieldAddrV,t_47,t_3,callStep,CL,gv,List.contains,sr 48 4 B48 [2,2,2,2] rfl rfl rfl,d,q,e,g,h,b,j,c,m,f,o,i,s,l]
               rcases cond_some a with ⟨v,a⟩ | ⟨v,a⟩
               ·obtain ⟨o37,ao,a⟩:=bs a
                have p:=f65_ok k w 1 400 _ ao
                cases o37 with
                | o0 a1 =>
                 (try dsimp only at a)
                 (try simp only [NM,EE,R65.st] at p)
                 simp only [W,simprocAttr,fieldAddrV,t_47,t_3,callStep,CL,gv,List.contains,d,q,e,g,h,b,j,c,m,f,o,i,s,l,v,p]
                 rcases cond_some a with ⟨x,a⟩ | ⟨x,a⟩
                 ·obtain ⟨o42,ap,a⟩:=bs a
                  have t:=f65_ok k ((List.length u):Int) 1 w _ ap
                  cases o42 with
                  | o0 a2 =>
                   (try dsimp only at a)
                   (try simp only [NM,EE,R65.st] at t)
                   simp only [W,simprocAttr,fieldAddrV,t_47,t_45,t_3,callStep,CL,gv,List.contains,d,q,e,g,h,b,j,c,m,f,o,i,s,l,v,p,x,t]
                   rcases cond_some a with ⟨af,a⟩ | ⟨af,a⟩
                   ·obtain ⟨o47,aq,a⟩:=bs a
                    have z:=f65_ok k ae 0 (IntKind.i64.wrap (w - ((List.length u):Int))) _ aq
                    cases o47 with
                    | o0 a3 =>
                     (try dsimp only at a)
                     (try simp only [NM,EE,R65.st] at z)
                     simp only [W,simprocAttr,fieldAddrV,t_47,t_3,t_45,callStep,CL,gv,List.contains,xk B48 [2,2,2,2,2] .sq rfl,sr 48 5 B48 [1,2,2,2,2,2] rfl rfl rfl,xk B48 [2,1,2,2,2,2,2] (.cd 72) rfl,d,q,e,g,h,b,j,c,m,f,o,i,s,l,v,p,x,t,af,z]
                     rcases cond_some a with ⟨ah,a⟩ | ⟨ah,a⟩
                     ·cases a
                      simp only [W,simprocAttr,sr 48 6 B48 [2,2,1,2,2,2,2,2] rfl rfl rfl,xk B48 [2,2,2,1,2,2,2,2,2] .rt rfl,fin48,R48.st,d,q,e,g,h,b,j,c,m,f,o,i,s,l,v,p,x,t,af,z,ah]
                     ·have hJ:=f48_j1_ok k false _ a
                      simp only [W,simprocAttr,xk B48 [3,2,1,2,2,2,2,2] .sk rfl,d,q,e,g,h,b,j,c,m,f,o,i,s,l,v,p,x,t,af,z,ah]
                      try simp only [NM,EE] at hJ
                      exact hJ
                   ·cases a
                    simp only [W,simprocAttr,xk B48 [2,2,2,2,2] .sq rfl,sr 48 5 B48 [1,2,2,2,2,2] rfl rfl rfl,xk B48 [2,1,2,2,2,2,2] (.cd 72) rfl,sr 48 6 B48 [2,2,1,2,2,2,2,2] rfl rfl rfl,xk B48 [2,2,2,1,2,2,2,2,2] .rt rfl,fin48,R48.st,d,q,e,g,h,b,j,c,m,f,o,i,s,l,v,p,x,t,af]
                 ·cases a
                  simp only [W,simprocAttr,xk B48 [2,2,2,2,2] .sq rfl,sr 48 5 B48 [1,2,2,2,2,2] rfl rfl rfl,xk B48 [2,1,2,2,2,2,2] (.cd 72) rfl,sr 48 6 B48 [2,2,1,2,2,2,2,2] rfl rfl rfl,xk B48 [2,2,2,1,2,2,2,2,2] .rt rfl,fin48,R48.st,d,q,e,g,h,b,j,c,m,f,o,i,s,l,v,p,x]
               ·cases a
                simp only [W,simprocAttr,xk B48 [2,2,2,2,2] .sq rfl,sr 48 5 B48 [1,2,2,2,2,2] rfl rfl rfl,xk B48 [2,1,2,2,2,2,2] (.cd 72) rfl,sr 48 6 B48 [2,2,1,2,2,2,2,2] rfl rfl rfl,xk B48 [2,2,2,1,2,2,2,2,2] .rt rfl,fin48,R48.st,d,q,e,g,h,b,j,c,m,f,o,i,s,l,v]
             ·cases a
              simp only [W,simprocAttr,sr 48 4 B48 [2,2,2,2] rfl rfl rfl,xk B48 [2,2,2,2,2] .sq rfl,sr 48 5 B48 [1,2,2,2,2,2] rfl rfl rfl,xk B48 [2,1,2,2,2,2,2] (.cd 72) rfl,sr 48 6 B48 [2,2,1,2,2,2,2,2] rfl rfl rfl,xk B48 [2,2,2,1,2,2,2,2,2] .rt rfl,fin48,R48.st,d,q,e,g,h,b,j,c,m,f,o,i,s]
           ·cases a
            simp only [W,simprocAttr,sr 48 4 B48 [2,2,2,2] rfl rfl rfl,xk B48 [2,2,2,2,2] .sq rfl,sr 48 5 B48 [1,2,2,2,2,2] rfl rfl rfl,xk B48 [2,1,2,2,2,2,2] (.cd 72) rfl,sr 48 6 B48 [2,2,1,2,2,2,2,2] rfl rfl rfl,xk B48 [2,2,2,1,2,2,2,2,2] .rt rfl,fin48,R48.st,d,q,e,g,h,b,j,c,m,f,o]
         ·cases a
          simp only [W,simprocAttr,sr 48 4 B48 [2,2,2,2] rfl rfl rfl,xk B48 [2,2,2,2,2] .sq rfl,sr 48 5 B48 [1,2,2,2,2,2] rfl rfl rfl,xk B48 [2,1,2,2,2,2,2] (.cd 72) rfl,sr 48 6 B48 [2,2,1,2,2,2,2,2] rfl rfl rfl,xk B48 [2,2,2,1,2,2,2,2,2] .rt rfl,fin48,R48.st,d,q,e,g,h,b,j,c,m]
       ·cases a
        simp only [W,simprocAttr,sr 48 3 B48 [2,2,2] rfl rfl rfl,sr 48 4 B48 [2,2,2,2] rfl rfl rfl,xk B48 [2,2,2,2,2] .sq rfl,sr 48 5 B48 [1,2,2,2,2,2] rfl rfl rfl,xk B48 [2,1,2,2,2,2,2] (.cd 72) rfl,sr 48 6 B48 [2,2,1,2,2,2,2,2] rfl rfl rfl,xk B48 [2,2,2,1,2,2,2,2,2] .rt rfl,fin48,R48.st,d,q,e,g,h,b,j]
     ·cases a
      simp only [W,simprocAttr,sr 48 3 B48 [2,2,2] rfl rfl rfl,sr 48 4 B48 [2,2,2,2] rfl rfl rfl,xk B48 [2,2,2,2,2] .sq rfl,sr 48 5 B48 [1,2,2,2,2,2] rfl rfl rfl,xk B48 [2,1,2,2,2,2,2] (.cd 72) rfl,sr 48 6 B48 [2,2,1,2,2,2,2,2] rfl rfl rfl,xk B48 [2,2,2,1,2,2,2,2,2] .rt rfl,fin48,R48.st,d,q,e,g,h]
    ·cases a
     simp only [W,simprocAttr,sr 48 2 B48 [2,2] rfl rfl rfl,sr 48 3 B48 [2,2,2] rfl rfl rfl,sr 48 4 B48 [2,2,2,2] rfl rfl rfl,xk B48 [2,2,2,2,2] .sq rfl,sr 48 5 B48 [1,2,2,2,2,2] rfl rfl rfl,xk B48 [2,1,2,2,2,2,2] (.cd 72) rfl,sr 48 6 B48 [2,2,1,2,2,2,2,2] rfl rfl rfl,xk B48 [2,2,2,1,2,2,2,2,2] .rt rfl,fin48,R48.st,d,q,e,g]
  ·cases a
   simp only [W,simprocAttr,sr 48 2 B48 [2,2] rfl rfl rfl,sr 48 3 B48 [2,2,2] rfl rfl rfl,sr 48 4 B48 [2,2,2,2] rfl rfl rfl,xk B48 [2,2,2,2,2] .sq rfl,sr 48 5 B48 [1,2,2,2,2,2] rfl rfl rfl,xk B48 [2,1,2,2,2,2,2] (.cd 72) rfl,sr 48 6 B48 [2,2,1,2,2,2,2,2] rfl rfl rfl,xk B48 [2,2,2,1,2,2,2,2,2] .rt rfl,fin48,R48.st,d,q]
noncomputable def f48 (k:Nat) (l b c d e f g h i j:Int) (a:List Int):Option R48:=match k with | 0=>none | k+1=>f48_e k l b c d e f g h i j a
theorem f48_ok (k m b d e f g h i j l a r) (o:f48 k m b d e f g h i j l a=some r):CV k 48 [.agg [jI m,jI b,jU d,jI e,jI f,jI g,jI h,jI i,jI j,jI l,jB a]] []=some r.st:=by
 cases k with
 | zero=>cases o
 | succ k =>
  unfold CV
  rw [ev_call (F:=Tryd.f48) (c:=(nav B48 [])) rfl Tryd.func48 rfl rfl rfl rfl]
  exact f48_e_ok k m b d e f g h i j l a r o
-- f20: f20 heliograph/custody.Key
inductive R20 where
 | o0 (y a b:Int)
noncomputable def R20.st:R20→V×List O×List O
 | .o0 y a b=>(.agg [jI y,jU a,jI b],[],[])
noncomputable def f20_e (k:Nat) (l d a e f g h i b j:Int) (c:List Int):Option R20 :=
 some (.o0 l a b)
theorem f20_e_ok (k l b c d e f g h i j a r) (m:f20_e k l b c d e f g h i j a=some r):finK Tryd.prog Tryd.f20 0 (EX 20 k (nav B20 []) (⟨10,[(0,.agg [jI l,jI b,jU c,jI d,jI e,jI f,jI g,jI h,jI i,jI j,jB a])],[]⟩:St))=some r.st:=by
 unfold f20_e at m
 cases m
 simp only [W,simprocAttr,sr 20 0 B20 [] rfl rfl rfl,t_44,sr 20 1 B20 [2] rfl rfl rfl,fieldAddrV,t_47,t_3,t_42,bl_44,xk B20 [2,2] .rt rfl,fin20,R20.st]
noncomputable def f20 (k:Nat) (l b c d e f g h i j:Int) (a:List Int):Option R20:=match k with | 0=>none | k+1=>f20_e k l b c d e f g h i j a
theorem f20_ok (k m b d e f g h i j l a r) (o:f20 k m b d e f g h i j l a=some r):CV k 20 [.agg [jI m,jI b,jU d,jI e,jI f,jI g,jI h,jI i,jI j,jI l,jB a]] []=some r.st:=by
 cases k with
 | zero=>cases o
 | succ k =>
  unfold CV
  rw [ev_call (F:=Tryd.f20) (c:=(nav B20 [])) rfl Tryd.func20 rfl rfl rfl rfl]
  exact f20_e_ok k m b d e f g h i j l a r o
-- f52: f52 heliograph/custody.find$1
inductive R52 where
 | o0 (y:Bool) (a b c:Int)
noncomputable def R52.st:R52→V×List O×List O
 | .o0 y a b c=>(jT y,[.box 44 [jI a,jU b,jI c]],[])
noncomputable def f52_e (k:Nat) (p d e f g h i j l m:Int) (c:List Int) (o a b:Int):Option R52 :=
 Option.bind (f20 k p d e f g h i j l m c) fun o1 =>
  match o1 with
  | .o0 q s t =>
   some (.o0 (((q==o)&&((s==a)&&(t==b)))) o a b)
theorem f52_e_ok (k q b c d e f g h i j a s l m r) (o:f52_e k q b c d e f g h i j a s l m=some r):finK Tryd.prog Tryd.f52 1 (EX 52 k (nav B52 []) (⟨8,[(0,.agg [jI q,jI b,jU c,jI d,jI e,jI f,jI g,jI h,jI i,jI j,jB a]),(1,.ptr 1000000 0)],[(1000000,.box 44 [jI s,jU l,jI m])]⟩:St))=some r.st:=by
 unfold f52_e at o
 obtain ⟨o1,t,o⟩:=bs o
 have p:=f20_ok k q b c d e f g h i j a _ t
 cases o1 with
 | o0 u v w =>
  (try dsimp only at o)
  (try simp only [NM,EE,R20.st] at p)
  cases o
  simp (disch:=first|decide|apply K;kernel_rfl) only [W,simprocAttr,sr 52 0 B52 [] rfl rfl rfl,xk B52 [2] .sq rfl,rg B52 [1,2] 1 true rfl,hr 52 1 rfl,t_47,callStep,CL,gv,List.contains,t_44,ag_44,t_3,t_42,xk B52 [2,2] .rt rfl,fin52,R52.st,p]
noncomputable def f52 (k:Nat) (o b c d e f g h i j:Int) (a:List Int) (p l m:Int):Option R52:=match k with | 0=>none | k+1=>f52_e k o b c d e f g h i j a p l m
theorem f52_ok (k p b d e f g h i j l a q m o r) (s:f52 k p b d e f g h i j l a q m o=some r):CV k 52 [.agg [jI p,jI b,jU d,jI e,jI f,jI g,jI h,jI i,jI j,jI l,jB a],.ptr 1000000 0] [.box 44 [jI q,jU m,jI o]]=some r.st:=by
 cases k with
 | zero=>cases s
 | succ k =>
  unfold CV
  rw [ev_call (F:=Tryd.f52) (c:=(nav B52 [])) rfl Tryd.func52 rfl rfl rfl rfl]
  exact f52_e_ok k p b d e f g h i j l a q m o r s
-- f51: f51 slices.IndexFunc[[]heliograph/api.Bundle,heliograph/api.Bundle]
inductive R51 where
 | o0 (y a b c:Int)
noncomputable def R51.st:R51→V×List O×List O
 | .o0 y a b c=>((jI y),[.box 44 [jI a,jU b,jI c]],[])
inductive R51_l1 where
 | o0 (y a b c:Int)
 | o1 (y:List T47) (a b c d e:Int)
 | o2 (y:List T47) (a b:Int) (c:Bool) (d e f:Int)
noncomputable def R51_l1.st:R51_l1→Out×St
 | .o0 y a b c=>(.ret,(⟨19,[(4,jI y)],[(1000000,.box 44 [jI a,jU b,jI c])]⟩:St))
 | .o1 y a b c d e=>(.norm,(⟨19,[(0,.sl 11 (rowsOf encT47 y)),(1,V.fn 52 [.ptr 1000000 0]),(7,jI a),(8,jI b)],[(1000000,.box 44 [jI c,jU d,jI e])]⟩:St))
 | .o2 y a b c d e f=>(.exit 0,(⟨19,[(0,.sl 11 (rowsOf encT47 y)),(1,V.fn 52 [.ptr 1000000 0]),(7,jI a),(8,jI b),(9,jT c)],[(1000000,.box 44 [jI d,jU e,jI f])]⟩:St))
noncomputable def f51_l1_j2 (k:Nat) (c:List T47) (h d e:Int) (f:Bool) (g a b:Int):Option R51_l1 :=
 some (.o1 c d (IntKind.i64.wrap (e+(1:Int))) g a b)
theorem f51_l1_j2_ok (k d e f g c h a b r) (i:f51_l1_j2 k d e f g c h a b=some r):EX 51 k (nav B51 [2,2,2,1,2,2,1,2]) (⟨19,[(0,.sl 11 (rowsOf encT47 d)),(1,V.fn 52 [.ptr 1000000 0]),(5,jI e),(7,jI f),(8,jI g),(16,jT c)],[(1000000,.box 44 [jI h,jU a,jI b])]⟩:St)=some r.st:=by
 unfold f51_l1_j2 at i
 cases i
 simp only [W,simprocAttr,rg B51 [2,2,2,1,2,2,1,2] 6 false rfl,hr 51 6 rfl,R51_l1.st]
noncomputable def f51_l1_j1 (k:Nat) (f:List T47) (i b:Int) (m:Bool) (j c d:Int):Option R51_l1 :=
 ifE ((0:Int)≤b) (
  Option.bind (f[(Int.toNat b)]?) fun a =>
   Option.bind (f52 k a.Source a.Dest a.Seq a.Created a.Lifetime a.HopLimit a.Hops a.Priority a.Offset a.Total a.Payload j c d) fun o4 =>
    match o4 with
    | .o0 l g h e =>
     cond (l)
      (some (.o0 b g h e))
      (f51_l1_j2 k f b i b false g h e))
theorem f51_l1_j1_ok (k h i g p j b c r) (a:f51_l1_j1 k h i g p j b c=some r):EX 51 k (nav B51 [2,2,1,2,2,1,2]) (⟨19,[(0,.sl 11 (rowsOf encT47 h)),(1,V.fn 52 [.ptr 1000000 0]),(7,jI i),(8,jI g),(9,jT p)],[(1000000,.box 44 [jI j,jU b,jI c])]⟩:St)=some r.st:=by
 unfold f51_l1_j1 at a
 obtain ⟨l,a⟩:=ifE_some.1 a
 obtain ⟨d,m,a⟩:=bs a
 obtain ⟨o4,q,a⟩:=bs a
 have e:=f52_ok k d.Source d.Dest d.Seq d.Created d.Lifetime d.HopLimit d.Hops d.Priority d.Offset d.Total d.Payload j b c _ q
 cases o4 with
 | o0 u s t o =>
  (try dsimp only at a)
  (try simp only [NM,EE,R52.st] at e)
  simp only [W,simprocAttr,xk B51 [2,2,1,2,2,1,2] .sq rfl,xk B51 [1,2,2,1,2,2,1,2] (.bk 1) rfl,sr 51 3 B51 [2,1,2,2,1,2,2,1,2] rfl rfl rfl,sr 51 4 B51 [2,2,1,2,2,1,2,2,1,2] rfl rfl rfl,indexAddrV,t_29,t_47,encT47_eq,callStep,CL,gv,List.contains,xk B51 [2,2,2,1,2,2,1,2,2,1,2] (.cd 16) rfl,l,m,e]
  rcases cond_some a with ⟨f,a⟩ | ⟨f,a⟩
  ·cases a
   simp only [W,simprocAttr,sr 51 5 B51 [2,2,2,2,1,2,2,1,2,2,1,2] rfl rfl rfl,xk B51 [2,2,2,2,2,1,2,2,1,2,2,1,2] .rt rfl,R51_l1.st,l,m,e,f]
  ·have hJ:=f51_l1_j2_ok k h g i g false s t o _ a
   simp only [W,simprocAttr,xk B51 [3,2,2,2,1,2,2,1,2,2,1,2] .sk rfl,l,m,e,f]
   try simp only [NM,EE] at hJ
   exact hJ
noncomputable def f51_l1_b (k:Nat) (e:List T47) (c d f a b:Int):Option R51_l1 :=
 cond ((decide (d<c)))
  (f51_l1_j1 k e c d true f a b)
  (some (.o2 e c d false f a b))
theorem f51_l1_b_ok (k d e f g a b r) (c:f51_l1_b k d e f g a b=some r):EX 51 k (nav B51 [1,2,2,1,2]) (⟨19,[(0,.sl 11 (rowsOf encT47 d)),(1,V.fn 52 [.ptr 1000000 0]),(7,jI e),(8,jI f)],[(1000000,.box 44 [jI g,jU a,jI b])]⟩:St)=some r.st:=by
 unfold f51_l1_b at c
 simp only [W,simprocAttr,sr 51 2 B51 [1,2,2,1,2] rfl rfl rfl,xk B51 [2,1,2,2,1,2] .sq rfl,xk B51 [1,2,1,2,2,1,2] (.cd 9) rfl]
 rcases cond_some c with ⟨h,c⟩ | ⟨h,c⟩
 ·have hJ:=f51_l1_j1_ok k d e f true g a b _ c
  simp only [W,simprocAttr,xk B51 [2,1,2,1,2,2,1,2] .sk rfl,h]
  try simp only [NM,EE] at hJ
  exact hJ
 ·cases c
  simp only [W,simprocAttr,xk B51 [3,1,2,1,2,2,1,2] (.ex 0) rfl,R51_l1.st,h]
noncomputable def f51_l1 (k:Nat):Nat→(List T47)→Int→Int→Int→Int→Int→Option R51_l1
 | 0,_,_,_,_,_,_=>none
 | n+1,i,j,l,m,f,g=>Option.bind (f51_l1_b k i j l m f g) fun o =>
  match o with
  | .o0 y a b c=>some (.o0 y a b c)
  | .o1 y a b c d e=>f51_l1 k n y a b c d e
  | .o2 y a b c d e h=>some (.o2 y a b c d e h)
theorem f51_l1_ok (k n:Nat):∀ (g:List T47) (i j l a b:Int) (r:R51_l1) (c:f51_l1 k n g i j l a b=some r) (σ:St) (hσ:headR (hints.head 51 2) (hints.canon 51 2) σ=some (⟨19,[(0,.sl 11 (rowsOf encT47 g)),(1,V.fn 52 [.ptr 1000000 0]),(7,jI i),(8,jI j)],[(1000000,.box 44 [jI l,jU a,jI b])]⟩:St)),LP 51 k (nav B51 [1,2,2,1,2]) n σ=some r.st:=by
 induction n with
 | zero=>intro g i j l a b r c;cases c
 | succ n q =>
  intro g i j l a b r c σ hσ
  rw [f51_l1] at c
  obtain ⟨o,h,c⟩:=Option.bind_eq_some_iff.1 c
  have hB:=f51_l1_b_ok k g i j l a b o h
  unfold LP at q ⊢
  unfold EX at hB
  rw [loopK_succ,show firstReg (nav B51 [1,2,2,1,2])=2 from rfl,hσ,headK_some,hB]
  cases o with
  | o0 y d e f=>cases c;rfl
  | o1 y d e f m p =>
   refine q y d e f m p r c _ ?_
   simp only [W,simprocAttr,hh_51_2,hc_51_2]
  | o2 y d e f m p s=>cases c;rfl
noncomputable def f51_j2 (k:Nat) (d:List T47) (e f:Int) (g:Bool) (c a b:Int):Option R51 :=
 some (.o0 (-1) c a b)
theorem f51_j2_ok (k c d e f g a b r) (h:f51_j2 k c d e f g a b=some r):finK Tryd.prog Tryd.f51 1 (EX 51 k (nav B51 [2,2]) (⟨19,[(0,.sl 11 (rowsOf encT47 c)),(1,V.fn 52 [.ptr 1000000 0]),(7,jI d),(8,jI e),(9,jT f)],[(1000000,.box 44 [jI g,jU a,jI b])]⟩:St))=some r.st:=by
 unfold f51_j2 at h
 cases h
 simp only [W,simprocAttr,sr 51 7 B51 [2,2] rfl rfl rfl,xk B51 [2,2,2] .rt rfl,fin51,R51.st]
noncomputable def f51_e (k:Nat) (h:List T47) (i a b:Int):Option R51 :=
 Option.bind (f51_l1 k k h ((List.length h):Int) 0 i a b) fun o1 =>
  match o1 with
  | .o0 j l m o =>
   some (.o0 j l m o)
  | .o1 _ _ _ _ _ _ =>
   none
  | .o2 p q c d e f g =>
   f51_j2 k p q c d e f g
theorem f51_e_ok (k e f a b r) (c:f51_e k e f a b=some r):finK Tryd.prog Tryd.f51 1 (EX 51 k (nav B51 []) (⟨19,[(0,.sl 11 (rowsOf encT47 e)),(1,V.fn 52 [.ptr 1000000 0])],[(1000000,.box 44 [jI f,jU a,jI b])]⟩:St))=some r.st:=by
 unfold f51_e at c
 obtain ⟨o1,m,c⟩:=bs c
 have d:=f51_l1_ok k k e ((List.length e):Int) 0 f a b _ m
 simp only [W,simprocAttr,sr 51 0 B51 [] rfl rfl rfl,xk B51 [2] .sq rfl,sr 51 1 B51 [1,2] rfl rfl rfl,t_29,xk B51 [2,1,2] (.bk 0) rfl,xk B51 [2,2,1,2] .lp rfl,hh_51_2,hc_51_2]
 (try simp only [NM,EE] at d)
 rw [d _ (by simp only [W,simprocAttr,hh_51_2,hc_51_2])]
 clear d
 cases o1 with
 | o0 q s t u =>
  (try dsimp only at c)
  cases c
  simp only [W,simprocAttr,R51_l1.st,fin51,R51.st]
 | o1 _ _ _ _ _ _ =>
  (try dsimp only at c)
  cases c
 | o2 o p g h i j l =>
  (try dsimp only at c)
  have hJ:=f51_j2_ok k o p g h i j l _ c
  simp only [W,simprocAttr,R51_l1.st]
  try simp only [NM,EE] at hJ
  exact hJ
noncomputable def f51 (k:Nat) (c:List T47) (d a b:Int):Option R51:=match k with | 0=>none | k+1=>f51_e k c d a b
theorem f51_ok (k d e a b r) (f:f51 k d e a b=some r):CV k 51 [.sl 11 (rowsOf encT47 d),V.fn 52 [.ptr 1000000 0]] [.box 44 [jI e,jU a,jI b]]=some r.st:=by
 cases k with
 | zero=>cases f
 | succ k =>
  unfold CV
  rw [ev_call (F:=Tryd.f51) (c:=(nav B51 [])) rfl Tryd.func51 rfl rfl rfl rfl]
  exact f51_e_ok k d e a b r f
-- f31: f31 heliograph/custody.find
inductive R31 where
 | o0 (y:Int)
noncomputable def R31.st:R31→V×List O×List O
 | .o0 y=>((jI y),[],[])
noncomputable def f31_e (k:Nat) (c:List T47) (d a b:Int):Option R31 :=
 Option.bind (f51 k c d a b) fun o1 =>
  match o1 with
  | .o0 e f g h =>
   some (.o0 e)
theorem f31_e_ok (k e f a b r) (c:f31_e k e f a b=some r):finK Tryd.prog Tryd.f31 0 (EX 31 k (nav B31 []) (⟨9,[(0,.agg [.sl 11 (rowsOf encT47 e)]),(1,.agg [jI f,jU a,jI b])],[]⟩:St))=some r.st:=by
 unfold f31_e at c
 obtain ⟨o1,g,c⟩:=bs c
 have d:=f51_ok k e f a b _ g
 cases o1 with
 | o0 h i j l =>
  (try dsimp only at c)
  (try simp only [NM,EE,R51.st] at d)
  cases c
  simp only [W,simprocAttr,sr 31 0 B31 [] rfl rfl rfl,sr 31 1 B31 [2] rfl rfl rfl,fieldAddrV,t_31,t_29,callStep,CL,gv,List.contains,xk B31 [2,2] .rt rfl,fin31,R31.st,d]
noncomputable def f31 (k:Nat) (c:List T47) (d a b:Int):Option R31:=match k with | 0=>none | k+1=>f31_e k c d a b
theorem f31_ok (k d e a b r) (f:f31 k d e a b=some r):CV k 31 [.agg [.sl 11 (rowsOf encT47 d)],.agg [jI e,jU a,jI b]] []=some r.st:=by
 cases k with
 | zero=>cases f
 | succ k =>
  unfold CV
  rw [ev_call (F:=Tryd.f31) (c:=(nav B31 [])) rfl Tryd.func31 rfl rfl rfl rfl]
  exact f31_e_ok k d e a b r f
-- f61: f61 heliograph/cbor.Number
inductive R61 where
 | o0 (y a:Int) (b:List Int) (c:List T113)
noncomputable def R61.st:R61→V×List O×List O
 | .o0 y a b c=>(.agg [jI y,jL a,jB b,.sl 4 (rowsOf encT113 c)],[],[])
noncomputable def f61_e (k:Nat) (a:Int):Option R61 :=
 some (.o0 1 a [] [])
theorem f61_e_ok (k a r) (b:f61_e k a=some r):finK Tryd.prog Tryd.f61 0 (EX 61 k (nav B61 []) (⟨5,[(0,jL a)],[]⟩:St))=some r.st:=by
 unfold f61_e at b
 cases b
 simp only [W,simprocAttr,xk B61 [] .sq rfl,rg B61 [1] 0 false rfl,hr_61_0,t_113,xk B61 [2] .sq rfl,rg B61 [1,2] 1 false rfl,hr_61_1,bl_113,xk B61 [2,2] .rt rfl,fin61,R61.st]
noncomputable def f61 (k:Nat) (a:Int):Option R61:=match k with | 0=>none | k+1=>f61_e k a
theorem f61_ok (k a r) (b:f61 k a=some r):CV k 61 [jL a] []=some r.st:=by
 cases k with
 | zero=>cases b
 | succ k =>
  unfold CV
  rw [ev_call (F:=Tryd.f61) (c:=(nav B61 [])) rfl Tryd.func61 rfl rfl rfl rfl]
  exact f61_e_ok k a r b
-- f53: f53 slices.Clone[[]byte,byte]
inductive R53 where
 | o0 (y:List Int)
noncomputable def R53.st:R53→V×List O×List O
 | .o0 y=>(.own 2000000,[],[.row true 1 5 (rowsOf (encI .u8) y)])
noncomputable def f53 (k:Nat) (a:List Int):Option R53:=match k with | 0=>none | _+1=>ifE (a.length * 1≤roomy) (some (.o0 a))
theorem f53_ok (k b r) (a:f53 k b=some r):CV k 53 [jB b] []=some r.st:=by
 cases k with
 | zero=>cases a
 | succ k =>
  obtain ⟨h,a⟩:=ifE_some.1 a
  cases a
  have h':((rowsOf (encI .u8) b)).length * 1≤roomy:=by rw [rowsOf_length];exact h
  unfold CV
  rw [ev_ctx (show ctx 53=some (cloneS 1 5 1) from rfl) rfl]
  simp only [cloneS,h',and_self,if_true];rfl
end Go.Proofs.YtiompmmbjpjjeaaDoorV