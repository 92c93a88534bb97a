/- What the program's functions answer: plain functions,and that the interpreter answers what they do. Written by a program of this session,out of the translation. -/
import Derived.Test.YtbnnmplkbpgcaaaDoorVPC
namespace Go.Proofs.YtbnnmplkbpgcaaaDoorV
open Go
set_option linter.unusedVariables false
set_option linter.unusedSimpArgs false
set_option maxRecDepth 8000
set_option maxHeartbeats 4000000
-- f9: f9 heliograph/heliographlaw09.wakes
inductive R9 where
 | o0 (y:Bool)
noncomputable def R9.st:R9→V×List O×List O
 | .o0 y=>(.p (.bool y),[],[])
noncomputable def f9 (k:Nat):Option R9:=ifE (200≤k) (some (.o0 true))
theorem f9_ok (k r) (a:f9 k=some r):CV k 9 [] []=some r.st:=by
 obtain ⟨h,a⟩:=ifE_some.1 a
 cases a
 exact callV_le h wakes
-- f38: f38 heliograph/bundle.within
inductive R38 where
 | o0 (y:Bool)
noncomputable def R38.st:R38→V×List O×List O
 | .o0 y=>(.p (.bool y),[],[])
noncomputable def f38_e (k:Nat) (a b c:Int):Option R38 :=
 cond ((decide (a≥b)))
  (some (.o0 (decide (a≤c))))
  (some (.o0 false))
theorem f38_e_ok (k c d e r) (a:f38_e k c d e=some r):finK Tryd.prog Tryd.f38 0 (EX 38 k (nav B38 []) (⟨15,[(0,jI c),(1,jI d),(2,jI e)],[]⟩:St))=some r.st:=by
 unfold f38_e at a
 simp (disch:=first|apply D;decide|apply K;kernel_rfl) only [E,EE,↓reduceIte,simprocAttr,xk B38 [] .sq rfl,rg B38 [1] 0 false rfl,hr 38 0 rfl,xk B38 [2] .sq rfl,rg B38 [1,2] 1 false rfl,hr 38 1 rfl]
 rcases cond_some a with ⟨b,a⟩ | ⟨b,a⟩
 ·cases a
  simp (disch:=first|apply D;decide|apply K;kernel_rfl) only [E,EE,↓reduceIte,simprocAttr,xk B38 [2,2] .rt rfl,fin38,R38.st,b]
 ·cases a
  simp (disch:=first|apply D;decide|apply K;kernel_rfl) only [E,EE,↓reduceIte,simprocAttr,xk B38 [2,2] .rt rfl,fin38,R38.st,b]
noncomputable def f38 (k:Nat) (a b c:Int):Option R38:=match k with | 0=>none | k+1=>f38_e k a b c
theorem f38_ok (k a b d r) (e:f38 k a b d=some r):CV k 38 [jI a,jI b,jI d] []=some r.st:=by
 cases k with
 | zero=>cases e
 | succ k =>
  unfold CV
  rw [ev_call (F:=Tryd.f38) (c:=(nav B38 [])) rfl Tryd.func38 rfl rfl rfl rfl]
  exact f38_e_ok k a b d r e
-- f16: f16 heliograph/bundle.Check
inductive R16 where
 | o0 (y:Int)
noncomputable def R16.st:R16→V×List O×List O
 | .o0 y=>((jI y),[],[])
noncomputable def f16_j1 (k:Nat) (a:Bool):Option R16 :=
 some (.o0 0)
theorem f16_j1_ok (k a r) (b:f16_j1 k a=some r):finK Tryd.prog Tryd.f16 0 (EX 16 k (nav B16 [2,2,2,2,2,2]) (⟨73,[(72,.p (.bool a))],[]⟩:St))=some r.st:=by
 unfold f16_j1 at b
 cases b
 simp (disch:=first|apply D;decide|apply K;kernel_rfl) only [E,EE,↓reduceIte,simprocAttr,xk B16 [2,2,2,2,2,2] .sq rfl,rg B16 [1,2,2,2,2,2,2] 7 false rfl,hr 16 7 rfl,xk B16 [2,2,2,2,2,2,2] .rt rfl,fin16,R16.st]
noncomputable def f16_e (k:Nat) (v d e f g c h i j a:Int) (b:List Int):Option R16 :=
 Option.bind (f38 k v 1 6) fun o1 =>
  match o1 with
  | .o0 w =>
   cond (w)
    (
     Option.bind (f38 k d 1 6) fun o6 =>
      match o6 with
      | .o0 x =>
       cond (x)
        (
         cond ((decide (e>0)))
          (
           Option.bind (f38 k f 0 1048576) fun o12 =>
            match o12 with
            | .o0 l =>
             cond (l)
              (
               Option.bind (f38 k g 1 1048576) fun o17 =>
                match o17 with
                | .o0 m =>
                 cond (m)
                  (
                   Option.bind (f38 k c 1 16) fun o22 =>
                    match o22 with
                    | .o0 o =>
                     cond (o)
                      (
                       Option.bind (f38 k h 0 c) fun o27 =>
                        match o27 with
                        | .o0 p =>
                         cond (p)
                          (
                           Option.bind (f38 k i 0 2) fun o32 =>
                            match o32 with
                            | .o0 q =>
                             cond (q)
                              (
                               Option.bind (f38 k a 1 400) fun o37 =>
                                match o37 with
                                | .o0 s =>
                                 cond (s)
                                  (
                                   Option.bind (f38 k ((List.length b):Int) 1 a) fun o42 =>
                                    match o42 with
                                    | .o0 t =>
                                     cond (t)
                                      (
                                       Option.bind (f38 k j 0 (IntKind.i64.wrap (a - ((List.length b):Int)))) fun o47 =>
                                        match o47 with
                                        | .o0 u =>
                                         cond ((!u))
                                          (some (.o0 190))
                                          (f16_j1 k false))
                                      (some (.o0 190)))
                                  (some (.o0 190)))
                              (some (.o0 190)))
                          (some (.o0 190)))
                      (some (.o0 190)))
                  (some (.o0 190)))
              (some (.o0 190)))
          (some (.o0 190)))
        (some (.o0 190)))
    (some (.o0 190))
theorem f16_e_ok (k a0 n ag aa ab y ac ad ae w u r) (a:f16_e k a0 n ag aa ab y ac ad ae w u=some r):finK Tryd.prog Tryd.f16 0 (EX 16 k (nav B16 []) (⟨73,[(0,.agg [jI a0,jI n,jU ag,jI aa,jI ab,jI y,jI ac,jI ad,jI ae,jI w,.sl 1 (rowsOf (encI .u8) u)])],[]⟩:St))=some r.st:=by
 unfold f16_e at a
 obtain ⟨o1,h2,a⟩:=bs a
 have d:=f38_ok k a0 1 6 _ h2
 cases o1 with
 | o0 v4 =>
  (try dsimp only at a)
  (try simp only [NM,EE,R38.st] at d)
  simp (disch:=first|apply D;decide|apply K;kernel_rfl) only [E,EE,↓reduceIte,simprocAttr,xk B16 [] .sq rfl,rg B16 [1] 0 false rfl,hr 16 0 rfl,xk B16 [2] .sq rfl,rg B16 [1,2] 1 false rfl,hr 16 1 rfl,fieldAddrV,t_26,t_3,callStep,CL,gv,List.contains,d]
  rcases cond_some a with ⟨q,a⟩ | ⟨q,a⟩
  ·obtain ⟨o6,h7,a⟩:=bs a
   have e:=f38_ok k n 1 6 _ h7
   cases o6 with
   | o0 v9 =>
    (try dsimp only at a)
    (try simp only [NM,EE,R38.st] at e)
    simp (disch:=first|apply D;decide|apply K;kernel_rfl) only [E,EE,↓reduceIte,simprocAttr,fieldAddrV,t_26,t_3,callStep,CL,gv,List.contains,d,q,e]
    rcases cond_some a with ⟨g,a⟩ | ⟨g,a⟩
    ·simp (disch:=first|apply D;decide|apply K;kernel_rfl) only [E,EE,↓reduceIte,simprocAttr,fieldAddrV,t_26,t_24,xk B16 [2,2] .sq rfl,rg B16 [1,2,2] 2 false rfl,hr 16 2 rfl,d,q,e,g]
     rcases cond_some a with ⟨h,a⟩ | ⟨h,a⟩
     ·obtain ⟨o12,aj,a⟩:=bs a
      have b:=f38_ok k aa 0 1048576 _ aj
      cases o12 with
      | o0 av =>
       (try dsimp only at a)
       (try simp only [NM,EE,R38.st] at b)
       simp (disch:=first|apply D;decide|apply K;kernel_rfl) only [E,EE,↓reduceIte,simprocAttr,fieldAddrV,t_26,t_3,callStep,CL,gv,List.contains,d,q,e,g,h,b]
       rcases cond_some a with ⟨j,a⟩ | ⟨j,a⟩
       ·obtain ⟨o17,ak,a⟩:=bs a
        have c:=f38_ok k ab 1 1048576 _ ak
        cases o17 with
        | o0 aw =>
         (try dsimp only at a)
         (try simp only [NM,EE,R38.st] at c)
         simp (disch:=first|apply D;decide|apply K;kernel_rfl) only [E,EE,↓reduceIte,simprocAttr,fieldAddrV,t_26,t_3,callStep,CL,gv,List.contains,xk B16 [2,2,2] .sq rfl,rg B16 [1,2,2,2] 3 false rfl,hr 16 3 rfl,d,q,e,g,h,b,j,c]
         rcases cond_some a with ⟨m,a⟩ | ⟨m,a⟩
         ·obtain ⟨o22,al,a⟩:=bs a
          have f:=f38_ok k y 1 16 _ al
          cases o22 with
          | o0 ax =>
           (try dsimp only at a)
           (try simp only [NM,EE,R38.st] at f)
           simp (disch:=first|apply D;decide|apply K;kernel_rfl) only [E,EE,↓reduceIte,simprocAttr,fieldAddrV,t_26,t_3,callStep,CL,gv,List.contains,d,q,e,g,h,b,j,c,m,f]
           rcases cond_some a with ⟨o,a⟩ | ⟨o,a⟩
           ·obtain ⟨o27,am,a⟩:=bs a
            have i:=f38_ok k ac 0 y _ am
            cases o27 with
            | o0 ay =>
             (try dsimp only at a)
             (try simp only [NM,EE,R38.st] at i)
             simp (disch:=first|apply D;decide|apply K;kernel_rfl) only [E,EE,↓reduceIte,simprocAttr,fieldAddrV,t_26,t_3,callStep,CL,gv,List.contains,d,q,e,g,h,b,j,c,m,f,o,i]
             rcases cond_some a with ⟨s,a⟩ | ⟨s,a⟩
             ·obtain ⟨o32,an,a⟩:=bs a
              have l:=f38_ok k ad 0 2 _ an
              cases o32 with
              | o0 az =>
               (try dsimp only at a)
               (try simp only [NM,EE,R38.st] at l)
               simp (disch:=first|apply D;decide|apply K;kernel_rfl) only [E,EE,↓reduceIte,simprocAttr,fieldAddrV,t_26,t_3,callStep,CL,gv,List.contains,xk B16 [2,2,2,2] .sq rfl,rg B16 [1,2,2,2,2] 4 false rfl,hr 16 4 rfl,d,q,e,g,h,b,j,c,m,f,o,i,s,l]
               rcases cond_some a with ⟨v,a⟩ | ⟨v,a⟩
               ·obtain ⟨o37,ao,a⟩:=bs a
                have p:=f38_ok k w 1 400 _ ao
                cases o37 with
                | o0 a1 =>
                 (try dsimp only at a)
                 (try simp only [NM,EE,R38.st] at p)
                 simp (disch:=first|apply D;decide|apply K;kernel_rfl) only [E,EE,↓reduceIte,simprocAttr,fieldAddrV,t_26,t_3,callStep,CL,gv,List.contains,d,q,e,g,h,b,j,c,m,f,o,i,s,l,v,p]
                 rcases cond_some a with ⟨x,a⟩ | ⟨x,a⟩
                 ·obtain ⟨o42,ap,a⟩:=bs a
                  have t:=f38_ok k ((List.length u):Int) 1 w _ ap
                  cases o42 with
                  | o0 a2 =>
                   (try dsimp only at a)
                   (try simp only [NM,EE,R38.st] at t)
                   simp (disch:=first|apply D;decide|apply K;kernel_rfl) only [E,EE,↓reduceIte,simprocAttr,fieldAddrV,t_26,t_22,t_3,callStep,CL,gv,List.contains,d,q,e,g,h,b,j,c,m,f,o,i,s,l,v,p,x,t]
                   rcases cond_some a with ⟨af,a⟩ | ⟨af,a⟩
                   ·obtain ⟨o47,aq,a⟩:=bs a
                    have z:=f38_ok k ae 0 (IntKind.i64.wrap (w - ((List.length u):Int))) _ aq
                    cases o47 with
                    | o0 a3 =>
                     (try dsimp only at a)
                     (try simp only [NM,EE,R38.st] at z)
                     simp (disch:=first|apply D;decide|apply K;kernel_rfl) only [E,EE,↓reduceIte,simprocAttr,fieldAddrV,t_26,t_3,t_22,callStep,CL,gv,List.contains,xk B16 [2,2,2,2,2] .sq rfl,xk B16 [1,2,2,2,2,2] .sq rfl,rg B16 [1,1,2,2,2,2,2] 5 false rfl,hr 16 5 rfl,xk B16 [2,1,2,2,2,2,2] (.cd 72) rfl,d,q,e,g,h,b,j,c,m,f,o,i,s,l,v,p,x,t,af,z]
                     rcases cond_some a with ⟨ah,a⟩ | ⟨ah,a⟩
                     ·cases a
                      simp (disch:=first|apply D;decide|apply K;kernel_rfl) only [E,EE,↓reduceIte,simprocAttr,xk B16 [2,2,1,2,2,2,2,2] .sq rfl,rg B16 [1,2,2,1,2,2,2,2,2] 6 false rfl,hr 16 6 rfl,xk B16 [2,2,2,1,2,2,2,2,2] .rt rfl,fin16,R16.st,d,q,e,g,h,b,j,c,m,f,o,i,s,l,v,p,x,t,af,z,ah]
                     ·have hJ:=f16_j1_ok k false _ a
                      simp (disch:=first|apply D;decide|apply K;kernel_rfl) only [E,EE,↓reduceIte,simprocAttr,xk B16 [3,2,1,2,2,2,2,2] .sk rfl,d,q,e,g,h,b,j,c,m,f,o,i,s,l,v,p,x,t,af,z,ah]
                      try simp only [NM,EE] at hJ
                      exact hJ
                   ·cases a
                    simp (disch:=first|apply D;decide|apply K;kernel_rfl) only [E,EE,↓reduceIte,simprocAttr,xk B16 [2,2,2,2,2] .sq rfl,xk B16 [1,2,2,2,2,2] .sq rfl,rg B16 [1,1,2,2,2,2,2] 5 false rfl,hr 16 5 rfl,xk B16 [2,1,2,2,2,2,2] (.cd 72) rfl,xk B16 [2,2,1,2,2,2,2,2] .sq rfl,rg B16 [1,2,2,1,2,2,2,2,2] 6 false rfl,hr 16 6 rfl,xk B16 [2,2,2,1,2,2,2,2,2] .rt rfl,fin16,R16.st,d,q,e,g,h,b,j,c,m,f,o,i,s,l,v,p,x,t,af]
                 ·cases a
                  simp (disch:=first|apply D;decide|apply K;kernel_rfl) only [E,EE,↓reduceIte,simprocAttr,xk B16 [2,2,2,2,2] .sq rfl,xk B16 [1,2,2,2,2,2] .sq rfl,rg B16 [1,1,2,2,2,2,2] 5 false rfl,hr 16 5 rfl,xk B16 [2,1,2,2,2,2,2] (.cd 72) rfl,xk B16 [2,2,1,2,2,2,2,2] .sq rfl,rg B16 [1,2,2,1,2,2,2,2,2] 6 false rfl,hr 16 6 rfl,xk B16 [2,2,2,1,2,2,2,2,2] .rt rfl,fin16,R16.st,d,q,e,g,h,b,j,c,m,f,o,i,s,l,v,p,x]
               ·cases a
                simp (disch:=first|apply D;decide|apply K;kernel_rfl) only [E,EE,↓reduceIte,simprocAttr,xk B16 [2,2,2,2,2] .sq rfl,xk B16 [1,2,2,2,2,2] .sq rfl,rg B16 [1,1,2,2,2,2,2] 5 false rfl,hr 16 5 rfl,xk B16 [2,1,2,2,2,2,2] (.cd 72) rfl,xk B16 [2,2,1,2,2,2,2,2] .sq rfl,rg B16 [1,2,2,1,2,2,2,2,2] 6 false rfl,hr 16 6 rfl,xk B16 [2,2,2,1,2,2,2,2,2] .rt rfl,fin16,R16.st,d,q,e,g,h,b,j,c,m,f,o,i,s,l,v]
             ·cases a
              simp (disch:=first|apply D;decide|apply K;kernel_rfl) only [E,EE,↓reduceIte,simprocAttr,xk B16 [2,2,2,2] .sq rfl,rg B16 [1,2,2,2,2] 4 false rfl,hr 16 4 rfl,xk B16 [2,2,2,2,2] .sq rfl,xk B16 [1,2,2,2,2,2] .sq rfl,rg B16 [1,1,2,2,2,2,2] 5 false rfl,hr 16 5 rfl,xk B16 [2,1,2,2,2,2,2] (.cd 72) rfl,xk B16 [2,2,1,2,2,2,2,2] .sq rfl,rg B16 [1,2,2,1,2,2,2,2,2] 6 false rfl,hr 16 6 rfl,xk B16 [2,2,2,1,2,2,2,2,2] .rt rfl,fin16,R16.st,d,q,e,g,h,b,j,c,m,f,o,i,s]
           ·cases a
            simp (disch:=first|apply D;decide|apply K;kernel_rfl) only [E,EE,↓reduceIte,simprocAttr,xk B16 [2,2,2,2] .sq rfl,rg B16 [1,2,2,2,2] 4 false rfl,hr 16 4 rfl,xk B16 [2,2,2,2,2] .sq rfl,xk B16 [1,2,2,2,2,2] .sq rfl,rg B16 [1,1,2,2,2,2,2] 5 false rfl,hr 16 5 rfl,xk B16 [2,1,2,2,2,2,2] (.cd 72) rfl,xk B16 [2,2,1,2,2,2,2,2] .sq rfl,rg B16 [1,2,2,1,2,2,2,2,2] 6 false rfl,hr 16 6 rfl,xk B16 [2,2,2,1,2,2,2,2,2] .rt rfl,fin16,R16.st,d,q,e,g,h,b,j,c,m,f,o]
         ·cases a
          simp (disch:=first|apply D;decide|apply K;kernel_rfl) only [E,EE,↓reduceIte,simprocAttr,xk B16 [2,2,2,2] .sq rfl,rg B16 [1,2,2,2,2] 4 false rfl,hr 16 4 rfl,xk B16 [2,2,2,2,2] .sq rfl,xk B16 [1,2,2,2,2,2] .sq rfl,rg B16 [1,1,2,2,2,2,2] 5 false rfl,hr 16 5 rfl,xk B16 [2,1,2,2,2,2,2] (.cd 72) rfl,xk B16 [2,2,1,2,2,2,2,2] .sq rfl,rg B16 [1,2,2,1,2,2,2,2,2] 6 false rfl,hr 16 6 rfl,xk B16 [2,2,2,1,2,2,2,2,2] .rt rfl,fin16,R16.st,d,q,e,g,h,b,j,c,m]
       ·cases a
        simp (disch:=first|apply D;decide|apply K;kernel_rfl) only [E,EE,↓reduceIte,simprocAttr,xk B16 [2,2,2] .sq rfl,rg B16 [1,2,2,2] 3 false rfl,hr 16 3 rfl,xk B16 [2,2,2,2] .sq rfl,rg B16 [1,2,2,2,2] 4 false rfl,hr 16 4 rfl,xk B16 [2,2,2,2,2] .sq rfl,xk B16 [1,2,2,2,2,2] .sq rfl,rg B16 [1,1,2,2,2,2,2] 5 false rfl,hr 16 5 rfl,xk B16 [2,1,2,2,2,2,2] (.cd 72) rfl,xk B16 [2,2,1,2,2,2,2,2] .sq rfl,rg B16 [1,2,2,1,2,2,2,2,2] 6 false rfl,hr 16 6 rfl,xk B16 [2,2,2,1,2,2,2,2,2] .rt rfl,fin16,R16.st,d,q,e,g,h,b,j]
     ·cases a
      simp (disch:=first|apply D;decide|apply K;kernel_rfl) only [E,EE,↓reduceIte,simprocAttr,xk B16 [2,2,2] .sq rfl,rg B16 [1,2,2,2] 3 false rfl,hr 16 3 rfl,xk B16 [2,2,2,2] .sq rfl,rg B16 [1,2,2,2,2] 4 false rfl,hr 16 4 rfl,xk B16 [2,2,2,2,2] .sq rfl,xk B16 [1,2,2,2,2,2] .sq rfl,rg B16 [1,1,2,2,2,2,2] 5 false rfl,hr 16 5 rfl,xk B16 [2,1,2,2,2,2,2] (.cd 72) rfl,xk B16 [2,2,1,2,2,2,2,2] .sq rfl,rg B16 [1,2,2,1,2,2,2,2,2] 6 false rfl,hr 16 6 rfl,xk B16 [2,2,2,1,2,2,2,2,2] .rt rfl,fin16,R16.st,d,q,e,g,h]
    ·cases a
     simp (disch:=first|apply D;decide|apply K;kernel_rfl) only [E,EE,↓reduceIte,simprocAttr,xk B16 [2,2] .sq rfl,rg B16 [1,2,2] 2 false rfl,hr 16 2 rfl,xk B16 [2,2,2] .sq rfl,rg B16 [1,2,2,2] 3 false rfl,hr 16 3 rfl,xk B16 [2,2,2,2] .sq rfl,rg B16 [1,2,2,2,2] 4 false rfl,hr 16 4 rfl,xk B16 [2,2,2,2,2] .sq rfl,xk B16 [1,2,2,2,2,2] .sq rfl,rg B16 [1,1,2,2,2,2,2] 5 false rfl,hr 16 5 rfl,xk B16 [2,1,2,2,2,2,2] (.cd 72) rfl,xk B16 [2,2,1,2,2,2,2,2] .sq rfl,rg B16 [1,2,2,1,2,2,2,2,2] 6 false rfl,hr 16 6 rfl,xk B16 [2,2,2,1,2,2,2,2,2] .rt rfl,fin16,R16.st,d,q,e,g]
  ·cases a
   simp (disch:=first|apply D;decide|apply K;kernel_rfl) only [E,EE,↓reduceIte,simprocAttr,xk B16 [2,2] .sq rfl,rg B16 [1,2,2] 2 false rfl,hr 16 2 rfl,xk B16 [2,2,2] .sq rfl,rg B16 [1,2,2,2] 3 false rfl,hr 16 3 rfl,xk B16 [2,2,2,2] .sq rfl,rg B16 [1,2,2,2,2] 4 false rfl,hr 16 4 rfl,xk B16 [2,2,2,2,2] .sq rfl,xk B16 [1,2,2,2,2,2] .sq rfl,rg B16 [1,1,2,2,2,2,2] 5 false rfl,hr 16 5 rfl,xk B16 [2,1,2,2,2,2,2] (.cd 72) rfl,xk B16 [2,2,1,2,2,2,2,2] .sq rfl,rg B16 [1,2,2,1,2,2,2,2,2] 6 false rfl,hr 16 6 rfl,xk B16 [2,2,2,1,2,2,2,2,2] .rt rfl,fin16,R16.st,d,q]
noncomputable def f16 (k:Nat) (l b c d e f g h i j:Int) (a:List Int):Option R16:=match k with | 0=>none | k+1=>f16_e k l b c d e f g h i j a
theorem f16_ok (k m b d e f g h i j l a r) (o:f16 k m b d e f g h i j l a=some r):CV k 16 [.agg [jI m,jI b,jU d,jI e,jI f,jI g,jI h,jI i,jI j,jI l,.sl 1 (rowsOf (encI .u8) a)]] []=some r.st:=by
 cases k with
 | zero=>cases o
 | succ k =>
  unfold CV
  rw [ev_call (F:=Tryd.f16) (c:=(nav B16 [])) rfl Tryd.func16 rfl rfl rfl rfl]
  exact f16_e_ok k m b d e f g h i j l a r o
-- f36: f36 heliograph/cbor.Number
inductive R36 where
 | o0 (y a:Int) (b:List Int) (c:List T50)
noncomputable def R36.st:R36→V×List O×List O
 | .o0 y a b c=>(.agg [jI y,.p (.int .u64 a),.sl 1 (rowsOf (encI .u8) b),.sl 4 (rowsOf encT50 c)],[],[])
noncomputable def f36_e (k:Nat) (a:Int):Option R36 :=
 some (.o0 1 a [] [])
theorem f36_e_ok (k a r) (b:f36_e k a=some r):finK Tryd.prog Tryd.f36 0 (EX 36 k (nav B36 []) (⟨5,[(0,.p (.int .u64 a))],[]⟩:St))=some r.st:=by
 unfold f36_e at b
 cases b
 simp (disch:=first|apply D;decide|apply K;kernel_rfl) only [E,EE,↓reduceIte,simprocAttr,xk B36 [] .sq rfl,rg B36 [1] 0 false rfl,hr_36_0,t_50,xk B36 [2] .sq rfl,rg B36 [1,2] 1 false rfl,hr_36_1,bl_50,xk B36 [2,2] .rt rfl,fin36,R36.st]
noncomputable def f36 (k:Nat) (a:Int):Option R36:=match k with | 0=>none | k+1=>f36_e k a
theorem f36_ok (k a r) (b:f36 k a=some r):CV k 36 [.p (.int .u64 a)] []=some r.st:=by
 cases k with
 | zero=>cases b
 | succ k =>
  unfold CV
  rw [ev_call (F:=Tryd.f36) (c:=(nav B36 [])) rfl Tryd.func36 rfl rfl rfl rfl]
  exact f36_e_ok k a r b
-- f53: f53 slices.Clone[[]byte,byte]
inductive R53 where
 | o0 (y:List Int)
noncomputable def R53.st:R53→V×List O×List O
 | .o0 y=>(.own 2000000,[],[.row true 1 5 (rowsOf (encI .u8) y)])
noncomputable def f53 (k:Nat) (a:List Int):Option R53:=match k with | 0=>none | _+1=>ifE (a.length * 1≤roomy) (some (.o0 a))
theorem f53_ok (k b r) (a:f53 k b=some r):CV k 53 [.sl 1 (rowsOf (encI .u8) b)] []=some r.st:=by
 cases k with
 | zero=>cases a
 | succ k =>
  obtain ⟨h,a⟩:=ifE_some.1 a
  cases a
  have h':((rowsOf (encI .u8) b)).length * 1≤roomy:=by rw [rowsOf_length];exact h
  unfold CV
  rw [ev_ctx (show ctx 53=some (cloneS 1 5 1) from rfl) rfl]
  simp only [cloneS,h',and_self,if_true];rfl
-- f52: f52 heliograph/cbor.own
inductive R52 where
 | o0 (y a:Int) (b:List Int) (c:List T50)
noncomputable def R52.st:R52→V×List O×List O
 | .o0 y a b c=>(.agg [jI y,.p (.int .u64 a),.own 2000000,.own 2000001],[],[.row true 1 5 (rowsOf (encI .u8) b),.row true 4 50 (rowsOf encT50 c)])
inductive R52_l1 where
 | o0 (y:List T50) (b c d e:Int) (f:List Int) (g:List T50) (h i:Int) (j:List Int) (a:List T50)
 | o1 (y:List T50) (b c:Int) (d:Bool) (e f:Int) (g:List Int) (h:List T50) (i j:Int) (a:List Int) (l:List T50)
noncomputable def R52_l1.st:R52_l1→Out×St
 | .o0 y b c d e f g h i j a=>(.norm,(⟨28,[(1,.ptr 30000 0),(2,.ptr 30003 0),(13,.sl 4 (rowsOf encT50 y)),(14,jI b),(15,jI c)],[(30000,.box 50 [jI d,.p (.int .u64 e),.own 30001,.own 24]),(30001,.row true 1 5 (rowsOf (encI .u8) f)),(24,.row true 4 50 (rowsOf encT50 g)),(30003,.box 50 [jI h,.p (.int .u64 i),.own 30004,.own 30005]),(30004,.row true 1 5 (rowsOf (encI .u8) j)),(30005,.row true 4 50 (rowsOf encT50 a))]⟩:St))
 | .o1 y b c d e f g h i j a l=>(.exit 0,(⟨28,[(1,.ptr 30000 0),(2,.ptr 30003 0),(13,.sl 4 (rowsOf encT50 y)),(14,jI b),(15,jI c),(16,.p (.bool d))],[(30000,.box 50 [jI e,.p (.int .u64 f),.own 30001,.own 30002]),(30001,.row true 1 5 (rowsOf (encI .u8) g)),(30002,.row true 4 50 (rowsOf encT50 h)),(30003,.box 50 [jI i,.p (.int .u64 j),.own 30004,.own 30005]),(30004,.row true 1 5 (rowsOf (encI .u8) a)),(30005,.row true 4 50 (rowsOf encT50 l))]⟩:St))
noncomputable def f52_l1_j2 (k:Nat) (q_f52_aiirrz:Int→Int→(List Int)→(List T50)→Option R52) (c:List T50) (d e f a:Int) (g:List Int) (h:List T50) (i b:Int) (j:List Int) (l:List T50):Option R52_l1 :=
 some (.o0 c d (IntKind.i64.wrap (e+(1:Int))) f a g h i b j l)
theorem f52_l1_j2_ok (k:Nat) (q_f52_aiirrz:Int→Int→(List Int)→(List T50)→Option R52) (hq_f52_aiirrz:∀ (q c:Int) (d:List Int) (e:List T50) (r:R52),q_f52_aiirrz q c d e=some r→CV k 52 [.agg [jI q,.p (.int .u64 c),.sl 1 (rowsOf (encI .u8) d),.sl 4 (rowsOf encT50 e)]] []=some r.st) (f:List T50) (g h i a:Int) (j:List Int) (l:List T50) (m b:Int) (o:List Int) (p:List T50) (r:R52_l1) (s:f52_l1_j2 k q_f52_aiirrz f g h i a j l m b o p=some r):EX 52 k (nav B52 [2,2,2,1,2,2,1,2,2,2,2]) (⟨28,[(1,.ptr 30000 0),(2,.ptr 30003 0),(13,.sl 4 (rowsOf encT50 f)),(14,jI g),(15,jI h)],[(30000,.box 50 [jI i,.p (.int .u64 a),.own 30001,.own 24]),(30001,.row true 1 5 (rowsOf (encI .u8) j)),(24,.row true 4 50 (rowsOf encT50 l)),(30003,.box 50 [jI m,.p (.int .u64 b),.own 30004,.own 30005]),(30004,.row true 1 5 (rowsOf (encI .u8) o)),(30005,.row true 4 50 (rowsOf encT50 p))]⟩:St)=some r.st:=by
 unfold f52_l1_j2 at s
 cases s
 simp (disch:=first|apply D;decide|apply K;kernel_rfl) only [E,EE,↓reduceIte,simprocAttr,rg B52 [2,2,2,1,2,2,1,2,2,2,2] 8 false rfl,hr 52 8 rfl,R52_l1.st]
noncomputable def f52_l1_j1 (k:Nat) (q_f52_aiirrz:Int→Int→(List Int)→(List T50)→Option R52) (d:List T50) (g a:Int) (p:Bool) (h b:Int) (i:List Int) (e:List T50) (j c:Int) (l:List Int) (m:List T50):Option R52_l1 :=
 ifE ((0:Int)≤a) (
  Option.bind (d[(Int.toNat a)]?) fun f =>
   Option.bind (q_f52_aiirrz f.Kind f.Num f.Bytes f.Items) fun o4 =>
    match o4 with
    | .o0 q s t o =>
     ifE (((List.length e)+1) * 64≤roomy) (
      f52_l1_j2 k q_f52_aiirrz d g a h b i (e++([(T50.mk q s t o)]:List T50)) j c l m))
theorem f52_l1_j1_ok (k:Nat) (q_f52_aiirrz:Int→Int→(List Int)→(List T50)→Option R52) (hq_f52_aiirrz:∀ (a0 e:Int) (f:List Int) (g:List T50) (r:R52),q_f52_aiirrz a0 e f g=some r→CV k 52 [.agg [jI a0,.p (.int .u64 e),.sl 1 (rowsOf (encI .u8) f),.sl 4 (rowsOf encT50 g)]] []=some r.st) (h:List T50) (i j:Int) (t:Bool) (l a:Int) (m:List Int) (o:List T50) (p b:Int) (q:List Int) (s:List T50) (r:R52_l1) (c:f52_l1_j1 k q_f52_aiirrz h i j t l a m o p b q s=some r):EX 52 k (nav B52 [2,2,1,2,2,1,2,2,2,2]) (⟨28,[(1,.ptr 30000 0),(2,.ptr 30003 0),(13,.sl 4 (rowsOf encT50 h)),(14,jI i),(15,jI j),(16,.p (.bool t))],[(30000,.box 50 [jI l,.p (.int .u64 a),.own 30001,.own 30002]),(30001,.row true 1 5 (rowsOf (encI .u8) m)),(30002,.row true 4 50 (rowsOf encT50 o)),(30003,.box 50 [jI p,.p (.int .u64 b),.own 30004,.own 30005]),(30004,.row true 1 5 (rowsOf (encI .u8) q)),(30005,.row true 4 50 (rowsOf encT50 s))]⟩:St)=some r.st:=by
 unfold f52_l1_j1 at c
 obtain ⟨h1,c⟩:=ifE_some.1 c
 obtain ⟨y,h3,c⟩:=bs c
 obtain ⟨o4,h5,c⟩:=bs c
 have u:=hq_f52_aiirrz y.Kind y.Num y.Bytes y.Items _ h5
 cases o4 with
 | o0 v w x d =>
  (try dsimp only at c)
  (try simp only [NM,EE,R52.st] at u)
  have z:[[jI v,.p (.int .u64 w),.sl 1 (rowsOf (encI .u8) x),.sl 4 (rowsOf encT50 d)]]=rowsOf encT50 ([(T50.mk v w x d)]:List T50):=by first | rfl | simp only [rowsOf,List.map_cons,List.map_nil,encT50_eq]
  have n:List.map (tell [0,0,1,4]) (rowsOf encT50 ([(T50.mk v w x d)]:List T50))=rowsOf encT50 ([(T50.mk v w x d)]:List T50):=by first | rfl | simp only [rowsOf,List.map_cons,List.map_nil,encT50_eq]
  obtain ⟨aa,c⟩:=ifE_some.1 c
  have hJ:=f52_l1_j2_ok k q_f52_aiirrz hq_f52_aiirrz h i j l a m (o++([(T50.mk v w x d)]:List T50)) p b q s _ c
  simp (disch:=first|apply D;decide|apply K;kernel_rfl) only [E,EE,↓reduceIte,simprocAttr,xk B52 [2,2,1,2,2,1,2,2,2,2] .sq rfl,xk B52 [1,2,2,1,2,2,1,2,2,2,2] (.bk 1) rfl,xk B52 [2,1,2,2,1,2,2,1,2,2,2,2] .sq rfl,rg B52 [1,2,1,2,2,1,2,2,1,2,2,2,2] 6 false rfl,hr 52 6 rfl,indexAddrV,t_48,t_50,encT50_eq,rg B52 [2,2,1,2,2,1,2,2,1,2,2,2,2] 7 true rfl,hr 52 7 rfl,fieldAddrV,callStep,CL,gv,List.contains,buildSliceV,fillRows,sm_50,appendV,content,h1,h3,u,z,n,aa]
  try simp only [NM,EE] at hJ
  exact hJ
noncomputable def f52_l1_b (k:Nat) (q_f52_aiirrz:Int→Int→(List Int)→(List T50)→Option R52) (e:List T50) (c d f a:Int) (g:List Int) (h:List T50) (i b:Int) (j:List Int) (l:List T50):Option R52_l1 :=
 cond ((decide (d<c)))
  (f52_l1_j1 k q_f52_aiirrz e c d true f a g h i b j l)
  (some (.o1 e c d false f a g h i b j l))
theorem f52_l1_b_ok (k:Nat) (q_f52_aiirrz:Int→Int→(List Int)→(List T50)→Option R52) (hq_f52_aiirrz:∀ (t c:Int) (d:List Int) (e:List T50) (r:R52),q_f52_aiirrz t c d e=some r→CV k 52 [.agg [jI t,.p (.int .u64 c),.sl 1 (rowsOf (encI .u8) d),.sl 4 (rowsOf encT50 e)]] []=some r.st) (f:List T50) (g h i a:Int) (j:List Int) (l:List T50) (m b:Int) (o:List Int) (p:List T50) (r:R52_l1) (q:f52_l1_b k q_f52_aiirrz f g h i a j l m b o p=some r):EX 52 k (nav B52 [1,2,2,1,2,2,2,2]) (⟨28,[(1,.ptr 30000 0),(2,.ptr 30003 0),(13,.sl 4 (rowsOf encT50 f)),(14,jI g),(15,jI h)],[(30000,.box 50 [jI i,.p (.int .u64 a),.own 30001,.own 30002]),(30001,.row true 1 5 (rowsOf (encI .u8) j)),(30002,.row true 4 50 (rowsOf encT50 l)),(30003,.box 50 [jI m,.p (.int .u64 b),.own 30004,.own 30005]),(30004,.row true 1 5 (rowsOf (encI .u8) o)),(30005,.row true 4 50 (rowsOf encT50 p))]⟩:St)=some r.st:=by
 unfold f52_l1_b at q
 simp (disch:=first|apply D;decide|apply K;kernel_rfl) only [E,EE,↓reduceIte,simprocAttr,xk B52 [1,2,2,1,2,2,2,2] .sq rfl,rg B52 [1,1,2,2,1,2,2,2,2] 5 false rfl,hr 52 5 rfl,xk B52 [2,1,2,2,1,2,2,2,2] .sq rfl,xk B52 [1,2,1,2,2,1,2,2,2,2] (.cd 16) rfl]
 rcases cond_some q with ⟨s,q⟩ | ⟨s,q⟩
 ·have hJ:=f52_l1_j1_ok k q_f52_aiirrz hq_f52_aiirrz f g h true i a j l m b o p _ q
  simp (disch:=first|apply D;decide|apply K;kernel_rfl) only [E,EE,↓reduceIte,simprocAttr,xk B52 [2,1,2,1,2,2,1,2,2,2,2] .sk rfl,s]
  try simp only [NM,EE] at hJ
  exact hJ
 ·cases q
  simp (disch:=first|apply D;decide|apply K;kernel_rfl) only [E,EE,↓reduceIte,simprocAttr,xk B52 [3,1,2,1,2,2,1,2,2,2,2] (.ex 0) rfl,R52_l1.st,s]
noncomputable def f52_l1 (k:Nat) (q_f52_aiirrz:Int→Int→(List Int)→(List T50)→Option R52):Nat→(List T50)→Int→Int→Int→Int→(List Int)→(List T50)→Int→Int→(List Int)→(List T50)→Option R52_l1
 | 0,_,_,_,_,_,_,_,_,_,_,_=>none
 | n+1,q,s,t,u,b,v,w,x,c,z,r=>Option.bind (f52_l1_b k q_f52_aiirrz q s t u b v w x c z r) fun o =>
  match o with
  | .o0 y d e f g h i j l m a=>f52_l1 k q_f52_aiirrz n y d e f g h i j l m a
  | .o1 y d e f g h i j l m a p=>some (.o1 y d e f g h i j l m a p)
theorem f52_l1_ok (k:Nat) (q_f52_aiirrz:Int→Int→(List Int)→(List T50)→Option R52) (hq_f52_aiirrz:∀ (a0 p:Int) (q:List Int) (s:List T50) (r:R52),q_f52_aiirrz a0 p q s=some r→CV k 52 [.agg [jI a0,.p (.int .u64 p),.sl 1 (rowsOf (encI .u8) q),.sl 4 (rowsOf encT50 s)]] []=some r.st) (n:Nat):∀ (c:List T50) (d e f a:Int) (g:List Int) (i:List T50) (j b:Int) (l:List Int) (m:List T50) (r:R52_l1) (t:f52_l1 k q_f52_aiirrz n c d e f a g i j b l m=some r) (σ:St) (hσ:headR (hints.head 52 5) (hints.canon 52 5) σ=some (⟨28,[(1,.ptr 30000 0),(2,.ptr 30003 0),(13,.sl 4 (rowsOf encT50 c)),(14,jI d),(15,jI e)],[(30000,.box 50 [jI f,.p (.int .u64 a),.own 30001,.own 30002]),(30001,.row true 1 5 (rowsOf (encI .u8) g)),(30002,.row true 4 50 (rowsOf encT50 i)),(30003,.box 50 [jI j,.p (.int .u64 b),.own 30004,.own 30005]),(30004,.row true 1 5 (rowsOf (encI .u8) l)),(30005,.row true 4 50 (rowsOf encT50 m))]⟩:St)),LP 52 k (nav B52 [1,2,2,1,2,2,2,2]) n σ=some r.st:=by
 induction n with
 | zero=>intro c d e f a g i j b l m r t;cases t
 | succ n ih =>
  intro c d e f a g i j b l m r t σ hσ
  rw [f52_l1] at t
  obtain ⟨o,h,t⟩:=Option.bind_eq_some_iff.1 t
  have hB:=f52_l1_b_ok k q_f52_aiirrz hq_f52_aiirrz c d e f a g i j b l m o h
  unfold LP at ih ⊢
  unfold EX at hB
  rw [loopK_succ,show firstReg (nav B52 [1,2,2,1,2,2,2,2])=5 from rfl,hσ,headK_some,hB]
  cases o with
  | o0 y v w x z aa ab ac ad ae u =>
   refine ih y v w x z aa ab ac ad ae u r t _ ?_
   simp (disch:=first|apply D;decide|apply K;kernel_rfl) only [E,EE,↓reduceIte,simprocAttr,hh_52_5,hc_52_5]
  | o1 y v w x z aa ab ac ad ae u ah=>cases t;rfl
noncomputable def f52_j2 (k:Nat) (q_f52_aiirrz:Int→Int→(List Int)→(List T50)→Option R52) (f:List T50) (g h:Int) (i:Bool) (b a:Int) (c:List Int) (d:List T50) (j e:Int) (l:List Int) (m:List T50):Option R52 :=
 some (.o0 b a c d)
theorem f52_j2_ok (k:Nat) (q_f52_aiirrz:Int→Int→(List Int)→(List T50)→Option R52) (hq_f52_aiirrz:∀ (s c:Int) (d:List Int) (e:List T50) (r:R52),q_f52_aiirrz s c d e=some r→CV k 52 [.agg [jI s,.p (.int .u64 c),.sl 1 (rowsOf (encI .u8) d),.sl 4 (rowsOf encT50 e)]] []=some r.st) (f:List T50) (g h:Int) (i:Bool) (j a:Int) (l:List Int) (m:List T50) (o b:Int) (p:List Int) (q:List T50) (r:R52) (t:f52_j2 k q_f52_aiirrz f g h i j a l m o b p q=some r):finK Tryd.prog Tryd.f52 0 (EX 52 k (nav B52 [2,2,2,2,2]) (⟨28,[(1,.ptr 30000 0),(2,.ptr 30003 0),(13,.sl 4 (rowsOf encT50 f)),(14,jI g),(15,jI h),(16,.p (.bool i))],[(30000,.box 50 [jI j,.p (.int .u64 a),.own 30001,.own 30002]),(30001,.row true 1 5 (rowsOf (encI .u8) l)),(30002,.row true 4 50 (rowsOf encT50 m)),(30003,.box 50 [jI o,.p (.int .u64 b),.own 30004,.own 30005]),(30004,.row true 1 5 (rowsOf (encI .u8) p)),(30005,.row true 4 50 (rowsOf encT50 q))]⟩:St))=some r.st:=by
 unfold f52_j2 at t
 cases t
 simp (disch:=first|apply D;decide|apply K;kernel_rfl) only [E,EE,↓reduceIte,simprocAttr,xk B52 [2,2,2,2,2] .sq rfl,rg B52 [1,2,2,2,2,2] 9 false rfl,hr 52 9 rfl,t_50,xk B52 [2,2,2,2,2,2] .rt rfl,fin52,R52.st]
noncomputable def f52_e (k:Nat) (q_f52_aiirrz:Int→Int→(List Int)→(List T50)→Option R52) (p b:Int) (c:List Int) (a:List T50):Option R52 :=
 Option.bind (f53 k c) fun o1 =>
  match o1 with
  | .o0 q =>
   Option.bind (f52_l1 k q_f52_aiirrz k a ((List.length a):Int) 0 p b q [] 0 0 [] []) fun o5 =>
    match o5 with
    | .o0 _ _ _ _ _ _ _ _ _ _ _ =>
     none
    | .o1 s t d e f g h i j l m o =>
     f52_j2 k q_f52_aiirrz s t d e f g h i j l m o
theorem f52_e_ok (k:Nat) (q_f52_aiirrz:Int→Int→(List Int)→(List T50)→Option R52) (hq_f52_aiirrz:∀ (g b:Int) (c:List Int) (a:List T50) (r:R52),q_f52_aiirrz g b c a=some r→CV k 52 [.agg [jI g,.p (.int .u64 b),.sl 1 (rowsOf (encI .u8) c),.sl 4 (rowsOf encT50 a)]] []=some r.st) (g b:Int) (c:List Int) (a:List T50) (r:R52) (d:f52_e k q_f52_aiirrz g b c a=some r):finK Tryd.prog Tryd.f52 0 (EX 52 k (nav B52 []) (⟨28,[(0,.agg [jI g,.p (.int .u64 b),.sl 1 (rowsOf (encI .u8) c),.sl 4 (rowsOf encT50 a)])],[]⟩:St))=some r.st:=by
 unfold f52_e at d
 obtain ⟨o1,u,d⟩:=bs d
 have e:=f53_ok k c _ u
 cases o1 with
 | o0 v =>
  (try dsimp only at d)
  (try simp only [NM,EE,R53.st] at e)
  obtain ⟨o5,w,d⟩:=bs d
  have f:=f52_l1_ok k q_f52_aiirrz hq_f52_aiirrz k a ((List.length a):Int) 0 g b v [] 0 0 [] [] _ w
  simp (disch:=first|apply D;decide|apply K;kernel_rfl) only [E,EE,↓reduceIte,simprocAttr,xk B52 [] .sq rfl,rg B52 [1] 0 false rfl,hr_52_0,t_50,xk B52 [2] .sq rfl,rg B52 [1,2] 1 false rfl,hr 52 1 rfl,fieldAddrV,t_22,callStep,CL,gv,List.contains,xk B52 [2,2] .sq rfl,rg B52 [1,2,2] 2 false rfl,hr 52 2 rfl,t_48,xk B52 [2,2,2] .sq rfl,rg B52 [1,2,2,2] 3 false rfl,hr_52_3,xk B52 [2,2,2,2] .sq rfl,xk B52 [1,2,2,2,2] .sq rfl,rg B52 [1,1,2,2,2,2] 4 false rfl,hr 52 4 rfl,xk B52 [2,1,2,2,2,2] (.bk 0) rfl,xk B52 [2,2,1,2,2,2,2] .lp rfl,hh_52_5,hc_52_5,e]
  (try simp only [NM,EE] at f)
  rw [f _ (by simp (disch:=first|apply D;decide|apply K;kernel_rfl) only [E,EE,↓reduceIte,simprocAttr,hh_52_5,hc_52_5,e])]
  clear f
  cases o5 with
  | o0 _ _ _ _ _ _ _ _ _ _ _ =>
   (try dsimp only at d)
   cases d
  | o1 x y h i j l m o p q s t =>
   (try dsimp only at d)
   have hJ:=f52_j2_ok k q_f52_aiirrz hq_f52_aiirrz x y h i j l m o p q s t _ d
   simp (disch:=first|apply D;decide|apply K;kernel_rfl) only [E,EE,↓reduceIte,simprocAttr,R52_l1.st,e]
   try simp only [NM,EE] at hJ
   exact hJ
noncomputable def f52:Nat→Int→Int→(List Int)→(List T50)→Option R52
 | 0,_,_,_,_=>none
 | k+1,d,a,b,c=>f52_e k (f52 k) d a b c
theorem f52_all (k:Nat):(∀ (e a:Int) (b:List Int) (d:List T50) (r:R52),f52 k e a b d=some r→CV k 52 [.agg [jI e,.p (.int .u64 a),.sl 1 (rowsOf (encI .u8) b),.sl 4 (rowsOf encT50 d)]] []=some r.st):=by
 induction k with
 | zero=>exact (by intro e a b d r f;rw [f52] at f;cases f)
 | succ k g =>
  have ih_f52_aiirrz:=g
  exact (by intro e a b d r f;rw [f52] at f;unfold CV;rw [ev_call (F:=Tryd.f52) (c:=(nav B52 [])) rfl Tryd.func52 rfl rfl rfl rfl];exact f52_e_ok k (f52 k) ih_f52_aiirrz e a b d r f)
theorem f52_ok (k d a b c r) (e:f52 k d a b c=some r):CV k 52 [.agg [jI d,.p (.int .u64 a),.sl 1 (rowsOf (encI .u8) b),.sl 4 (rowsOf encT50 c)]] []=some r.st:=f52_all k d a b c r e
-- f33: f33 heliograph/cbor.List
inductive R33 where
 | o0 (y a:Int) (b:List Int) (c:List T50)
noncomputable def R33.st:R33→V×List O×List O
 | .o0 y a b c=>(.agg [jI y,.p (.int .u64 a),.sl 1 (rowsOf (encI .u8) b),.own 2000000],[],[.row true 4 50 (rowsOf encT50 c)])
inductive R33_l1 where
 | o0 (y:List T50) (b c d e:Int) (f:List Int) (g:List T50) (h i:Int) (j:List Int) (a:List T50)
 | o1 (y:List T50) (b c:Int) (d:Bool) (e f:Int) (g:List Int) (h:List T50) (i j:Int) (a:List Int) (l:List T50)
noncomputable def R33_l1.st:R33_l1→Out×St
 | .o0 y b c d e f g h i j a=>(.norm,(⟨22,[(2,.ptr 30000 0),(3,.ptr 30002 0),(7,.sl 4 (rowsOf encT50 y)),(8,jI b),(9,jI c)],[(30000,.box 50 [jI d,.p (.int .u64 e),.sl 1 (rowsOf (encI .u8) f),.own 30001]),(30001,.row true 4 50 (rowsOf encT50 g)),(30002,.box 50 [jI h,.p (.int .u64 i),.sl 1 (rowsOf (encI .u8) j),.own 18]),(18,.row true 4 50 (rowsOf encT50 a))]⟩:St))
 | .o1 y b c d e f g h i j a l=>(.exit 0,(⟨22,[(2,.ptr 30000 0),(3,.ptr 30002 0),(7,.sl 4 (rowsOf encT50 y)),(8,jI b),(9,jI c),(10,.p (.bool d))],[(30000,.box 50 [jI e,.p (.int .u64 f),.sl 1 (rowsOf (encI .u8) g),.own 30001]),(30001,.row true 4 50 (rowsOf encT50 h)),(30002,.box 50 [jI i,.p (.int .u64 j),.sl 1 (rowsOf (encI .u8) a),.own 30003]),(30003,.row true 4 50 (rowsOf encT50 l))]⟩:St))
noncomputable def f33_l1_j2 (k:Nat) (i:List T50) (j l e a:Int) (b:List Int) (f:List T50) (g c:Int) (d:List Int) (h:List T50):Option R33_l1 :=
 some (.o0 i j (IntKind.i64.wrap (l+(1:Int))) e a b f g c d h)
theorem f33_l1_j2_ok (k i j l e a b f g c d h r) (m:f33_l1_j2 k i j l e a b f g c d h=some r):EX 33 k (nav B33 [2,2,2,1,2,2,1,2,2]) (⟨22,[(2,.ptr 30000 0),(3,.ptr 30002 0),(7,.sl 4 (rowsOf encT50 i)),(8,jI j),(9,jI l)],[(30000,.box 50 [jI e,.p (.int .u64 a),.sl 1 (rowsOf (encI .u8) b),.own 30001]),(30001,.row true 4 50 (rowsOf encT50 f)),(30002,.box 50 [jI g,.p (.int .u64 c),.sl 1 (rowsOf (encI .u8) d),.own 18]),(18,.row true 4 50 (rowsOf encT50 h))]⟩:St)=some r.st:=by
 unfold f33_l1_j2 at m
 cases m
 simp (disch:=first|apply D;decide|apply K;kernel_rfl) only [E,EE,↓reduceIte,simprocAttr,rg B33 [2,2,2,1,2,2,1,2,2] 6 false rfl,hr 33 6 rfl,R33_l1.st]
noncomputable def f33_l1_j1 (k:Nat) (m:List T50) (o g:Int) (p:Bool) (h a:Int) (b:List Int) (i:List T50) (j c:Int) (d:List Int) (e:List T50):Option R33_l1 :=
 ifE ((0:Int)≤g) (
  Option.bind (m[(Int.toNat g)]?) fun f =>
   Option.bind (f52 k f.Kind f.Num f.Bytes f.Items) fun o4 =>
    match o4 with
    | .o0 q s t l =>
     ifE (((List.length e)+1) * 64≤roomy) (
      f33_l1_j2 k m o g h a b i j c d (e++([(T50.mk q s t l)]:List T50))))
theorem f33_l1_j1_ok (k t u v l g a b h i c d j r) (e:f33_l1_j1 k t u v l g a b h i c d j=some r):EX 33 k (nav B33 [2,2,1,2,2,1,2,2]) (⟨22,[(2,.ptr 30000 0),(3,.ptr 30002 0),(7,.sl 4 (rowsOf encT50 t)),(8,jI u),(9,jI v),(10,.p (.bool l))],[(30000,.box 50 [jI g,.p (.int .u64 a),.sl 1 (rowsOf (encI .u8) b),.own 30001]),(30001,.row true 4 50 (rowsOf encT50 h)),(30002,.box 50 [jI i,.p (.int .u64 c),.sl 1 (rowsOf (encI .u8) d),.own 30003]),(30003,.row true 4 50 (rowsOf encT50 j))]⟩:St)=some r.st:=by
 unfold f33_l1_j1 at e
 obtain ⟨z,e⟩:=ifE_some.1 e
 obtain ⟨s,n,e⟩:=bs e
 obtain ⟨o4,h5,e⟩:=bs e
 have m:=f52_ok k s.Kind s.Num s.Bytes s.Items _ h5
 cases o4 with
 | o0 o p q f =>
  (try dsimp only at e)
  (try simp only [NM,EE,R52.st] at m)
  have w:[[jI o,.p (.int .u64 p),.sl 1 (rowsOf (encI .u8) q),.sl 4 (rowsOf encT50 f)]]=rowsOf encT50 ([(T50.mk o p q f)]:List T50):=by first | rfl | simp only [rowsOf,List.map_cons,List.map_nil,encT50_eq]
  have x:List.map (tell [0,0,1,4]) (rowsOf encT50 ([(T50.mk o p q f)]:List T50))=rowsOf encT50 ([(T50.mk o p q f)]:List T50):=by first | rfl | simp only [rowsOf,List.map_cons,List.map_nil,encT50_eq]
  obtain ⟨y,e⟩:=ifE_some.1 e
  have hJ:=f33_l1_j2_ok k t u v g a b h i c d (j++([(T50.mk o p q f)]:List T50)) _ e
  simp (disch:=first|apply D;decide|apply K;kernel_rfl) only [E,EE,↓reduceIte,simprocAttr,xk B33 [2,2,1,2,2,1,2,2] .sq rfl,xk B33 [1,2,2,1,2,2,1,2,2] (.bk 1) rfl,xk B33 [2,1,2,2,1,2,2,1,2,2] .sq rfl,rg B33 [1,2,1,2,2,1,2,2,1,2,2] 4 false rfl,hr 33 4 rfl,indexAddrV,t_48,t_50,encT50_eq,rg B33 [2,2,1,2,2,1,2,2,1,2,2] 5 true rfl,hr 33 5 rfl,fieldAddrV,callStep,CL,gv,List.contains,buildSliceV,fillRows,sm_50,appendV,content,z,n,m,w,x,y]
  try simp only [NM,EE] at hJ
  exact hJ
noncomputable def f33_l1_b (k:Nat) (l:List T50) (i j e a:Int) (b:List Int) (f:List T50) (g c:Int) (d:List Int) (h:List T50):Option R33_l1 :=
 cond ((decide (j<i)))
  (f33_l1_j1 k l i j true e a b f g c d h)
  (some (.o1 l i j false e a b f g c d h))
theorem f33_l1_b_ok (k j l m e a b f g c d h r) (i:f33_l1_b k j l m e a b f g c d h=some r):EX 33 k (nav B33 [1,2,2,1,2,2]) (⟨22,[(2,.ptr 30000 0),(3,.ptr 30002 0),(7,.sl 4 (rowsOf encT50 j)),(8,jI l),(9,jI m)],[(30000,.box 50 [jI e,.p (.int .u64 a),.sl 1 (rowsOf (encI .u8) b),.own 30001]),(30001,.row true 4 50 (rowsOf encT50 f)),(30002,.box 50 [jI g,.p (.int .u64 c),.sl 1 (rowsOf (encI .u8) d),.own 30003]),(30003,.row true 4 50 (rowsOf encT50 h))]⟩:St)=some r.st:=by
 unfold f33_l1_b at i
 simp (disch:=first|apply D;decide|apply K;kernel_rfl) only [E,EE,↓reduceIte,simprocAttr,xk B33 [1,2,2,1,2,2] .sq rfl,rg B33 [1,1,2,2,1,2,2] 3 false rfl,hr 33 3 rfl,xk B33 [2,1,2,2,1,2,2] .sq rfl,xk B33 [1,2,1,2,2,1,2,2] (.cd 10) rfl]
 rcases cond_some i with ⟨o,i⟩ | ⟨o,i⟩
 ·have hJ:=f33_l1_j1_ok k j l m true e a b f g c d h _ i
  simp (disch:=first|apply D;decide|apply K;kernel_rfl) only [E,EE,↓reduceIte,simprocAttr,xk B33 [2,1,2,1,2,2,1,2,2] .sk rfl,o]
  try simp only [NM,EE] at hJ
  exact hJ
 ·cases i
  simp (disch:=first|apply D;decide|apply K;kernel_rfl) only [E,EE,↓reduceIte,simprocAttr,xk B33 [3,1,2,1,2,2,1,2,2] (.ex 0) rfl,R33_l1.st,o]
noncomputable def f33_l1 (k:Nat):Nat→(List T50)→Int→Int→Int→Int→(List Int)→(List T50)→Int→Int→(List Int)→(List T50)→Option R33_l1
 | 0,_,_,_,_,_,_,_,_,_,_,_=>none
 | n+1,x,z,r,t,b,c,u,v,d,e,w=>Option.bind (f33_l1_b k x z r t b c u v d e w) fun o =>
  match o with
  | .o0 y f g h i j l m p q a=>f33_l1 k n y f g h i j l m p q a
  | .o1 y f g h i j l m p q a s=>some (.o1 y f g h i j l m p q a s)
theorem f33_l1_ok (k n:Nat):∀ (m:List T50) (p q e a:Int) (b:List Int) (f:List T50) (g c:Int) (d:List Int) (i:List T50) (r:R33_l1) (j:f33_l1 k n m p q e a b f g c d i=some r) (σ:St) (hσ:headR (hints.head 33 3) (hints.canon 33 3) σ=some (⟨22,[(2,.ptr 30000 0),(3,.ptr 30002 0),(7,.sl 4 (rowsOf encT50 m)),(8,jI p),(9,jI q)],[(30000,.box 50 [jI e,.p (.int .u64 a),.sl 1 (rowsOf (encI .u8) b),.own 30001]),(30001,.row true 4 50 (rowsOf encT50 f)),(30002,.box 50 [jI g,.p (.int .u64 c),.sl 1 (rowsOf (encI .u8) d),.own 30003]),(30003,.row true 4 50 (rowsOf encT50 i))]⟩:St)),LP 33 k (nav B33 [1,2,2,1,2,2]) n σ=some r.st:=by
 induction n with
 | zero=>intro m p q e a b f g c d i r j;cases j
 | succ n ih =>
  intro m p q e a b f g c d i r j σ hσ
  rw [f33_l1] at j
  obtain ⟨o,h,j⟩:=Option.bind_eq_some_iff.1 j
  have hB:=f33_l1_b_ok k m p q e a b f g c d i o h
  unfold LP at ih ⊢
  unfold EX at hB
  rw [loopK_succ,show firstReg (nav B33 [1,2,2,1,2,2])=3 from rfl,hσ,headK_some,hB]
  cases o with
  | o0 y s t u v w x z aa ab l =>
   refine ih y s t u v w x z aa ab l r j _ ?_
   simp (disch:=first|apply D;decide|apply K;kernel_rfl) only [E,EE,↓reduceIte,simprocAttr,hh_33_3,hc_33_3]
  | o1 y s t u v w x z aa ab l ad=>cases j;rfl
noncomputable def f33_j2 (k:Nat) (j:List T50) (l m:Int) (g:Bool) (h c:Int) (d:List Int) (i:List T50) (e a:Int) (b:List Int) (f:List T50):Option R33 :=
 some (.o0 e a b f)
theorem f33_j2_ok (k j l m e f a b g h c d i r) (o:f33_j2 k j l m e f a b g h c d i=some r):finK Tryd.prog Tryd.f33 0 (EX 33 k (nav B33 [2,2,2]) (⟨22,[(2,.ptr 30000 0),(3,.ptr 30002 0),(7,.sl 4 (rowsOf encT50 j)),(8,jI l),(9,jI m),(10,.p (.bool e))],[(30000,.box 50 [jI f,.p (.int .u64 a),.sl 1 (rowsOf (encI .u8) b),.own 30001]),(30001,.row true 4 50 (rowsOf encT50 g)),(30002,.box 50 [jI h,.p (.int .u64 c),.sl 1 (rowsOf (encI .u8) d),.own 30003]),(30003,.row true 4 50 (rowsOf encT50 i))]⟩:St))=some r.st:=by
 unfold f33_j2 at o
 cases o
 simp (disch:=first|apply D;decide|apply K;kernel_rfl) only [E,EE,↓reduceIte,simprocAttr,xk B33 [2,2,2] .sq rfl,rg B33 [1,2,2,2] 7 false rfl,hr 33 7 rfl,t_50,xk B33 [2,2,2,2] .rt rfl,fin33,R33.st]
noncomputable def f33_e (k:Nat) (g:List T50):Option R33 :=
 Option.bind (f33_l1 k k g ((List.length g):Int) 0 0 0 [] [] 4 0 [] []) fun o1 =>
  match o1 with
  | .o0 _ _ _ _ _ _ _ _ _ _ _ =>
   none
  | .o1 h i j l m o a b c d e f =>
   f33_j2 k h i j l m o a b c d e f
theorem f33_e_ok (k c r) (a:f33_e k c=some r):finK Tryd.prog Tryd.f33 0 (EX 33 k (nav B33 []) (⟨22,[(0,.sl 4 (rowsOf encT50 c))],[]⟩:St))=some r.st:=by
 unfold f33_e at a
 obtain ⟨o1,j,a⟩:=bs a
 have b:=f33_l1_ok k k c ((List.length c):Int) 0 0 0 [] [] 4 0 [] [] _ j
 simp (disch:=first|apply D;decide|apply K;kernel_rfl) only [E,EE,↓reduceIte,simprocAttr,xk B33 [] .sq rfl,rg B33 [1] 0 false rfl,hr_33_0,t_50,xk B33 [2] .sq rfl,rg B33 [1,2] 1 false rfl,hr_33_1,bl_50,xk B33 [2,2] .sq rfl,xk B33 [1,2,2] .sq rfl,rg B33 [1,1,2,2] 2 false rfl,hr 33 2 rfl,t_48,xk B33 [2,1,2,2] (.bk 0) rfl,xk B33 [2,2,1,2,2] .lp rfl,hh_33_3,hc_33_3]
 (try simp only [NM,EE] at b)
 rw [b _ (by simp (disch:=first|apply D;decide|apply K;kernel_rfl) only [E,EE,↓reduceIte,simprocAttr,hh_33_3,hc_33_3])]
 clear b
 cases o1 with
 | o0 _ _ _ _ _ _ _ _ _ _ _ =>
  (try dsimp only at a)
  cases a
 | o1 l m o p q s d e f g h i =>
  (try dsimp only at a)
  have hJ:=f33_j2_ok k l m o p q s d e f g h i _ a
  simp (disch:=first|apply D;decide|apply K;kernel_rfl) only [E,EE,↓reduceIte,simprocAttr,R33_l1.st]
  try simp only [NM,EE] at hJ
  exact hJ
noncomputable def f33 (k:Nat) (a:List T50):Option R33:=match k with | 0=>none | k+1=>f33_e k a
theorem f33_ok (k a r) (b:f33 k a=some r):CV k 33 [.sl 4 (rowsOf encT50 a)] []=some r.st:=by
 cases k with
 | zero=>cases b
 | succ k =>
  unfold CV
  rw [ev_call (F:=Tryd.f33) (c:=(nav B33 [])) rfl Tryd.func33 rfl rfl rfl rfl]
  exact f33_e_ok k a r b
end Go.Proofs.YtbnnmplkbpgcaaaDoorV