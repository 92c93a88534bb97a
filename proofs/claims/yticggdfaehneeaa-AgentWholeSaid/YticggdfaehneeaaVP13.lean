/- What the program's functions answer: plain functions,and that the interpreter answers what they do. Written by a program of this session,out of the translation. -/
import Derived.Test.YticggdfaehneeaaVP12
namespace Go.Proofs.YticggdfaehneeaaV
open Go
set_option linter.unusedVariables false
set_option linter.unusedSimpArgs false
set_option maxRecDepth 8000
set_option maxHeartbeats 4000000
-- f18: f18 heliograph/agent.Arrive
inductive R18 where
 | o0 (y h:Int) (i:List T65) (j l m o p q s a b c d:Int) (e:List Int) (f:Int) (g:List T39)
 | o1 (y h:Int) (i:List T65) (j:List T39) (l m o p q s a b c d e:Int) (f:List Int) (g:Int)
noncomputable def R18.st:R18→V×List O×List O
 | .o0 y h i j l m o p q s a b c d e f g=>(V.tup [.agg [jI y,jU h,.sl 4 (rowsOf encT65 i),.own 2000000],.agg [jI j,jI l,jI m,jU o,jI p,jI q,jI s,jI a,jI b,jI c,jI d,.sl 1 (rowsOf (encI .u8) e)],jI f],[],[.row true 11 39 (rowsOf encT39 g)])
 | .o1 y h i j l m o p q s a b c d e f g=>(V.tup [.agg [jI y,jU h,.sl 4 (rowsOf encT65 i),.sl 11 (rowsOf encT39 j)],.agg [jI l,jI m,jI o,jU p,jI q,jI s,jI a,jI b,jI c,jI d,jI e,.sl 1 (rowsOf (encI .u8) f)],jI g],[],[])
noncomputable def f18_j1 (k:Nat) (x2 x9:Int) (gy:Bool) (m3 aa:Int) (ab:List T65) (ac:List T39) (m4 ad ae af ag ah ai aj ak al:Int) (n:List Int) (m6 gl:Int) (gm:List T65) (s1:List T39) (m7 gn go gp gq gr gs gt gu gw d7:Int) (d8:List Int):Option R18 :=
 Option.bind (f26 k m3 aa ab ac) fun o1 =>
  match o1 with
  | .o0 v4 v5 v6 v7 =>
   Option.bind (f32 k m4 ad ae af ag ah ai aj ak al n x2 v4 v5 v6 v7) fun o8 =>
    match o8 with
    | .o0 d9 ea eb ec ed ee ef eg eh ei ej ek el em en eo =>
     some (.o1 el em en eo d9 ea eb ec ed ee ef eg eh ei ej ek 0)
    | .o1 ep eq er es et eu ev ew ex ey ez e0 e1 e2 e3 e4 =>
     some (.o1 e0 e1 e4 e2 ep eq er es et eu ev ew ex ey ez e3 0)
    | .o2 e5 e6 e7 e8 e9 fa fb fc fd fe ff fg fh am an fi fj ao =>
     ifE ((am+an)≤(List.length ao)) (
      some (.o1 fg fh (List.take an (List.drop am ao)) fi e5 e6 e7 e8 e9 fa fb fc fd fe ff fj 0))
    | .o3 fk fl fm fn fo fp fq fr fs ft fu fv fw fx fy fz =>
     some (.o1 fw fx fz fy fk fl fm fn fo fp fq fr fs ft fu fv 0)
    | .o4 f0 f1 f2 f3 f5 f6 f8 ga gb gc gd ge gf gg ap aq gh ar =>
     ifE ((ap+aq)≤(List.length ar)) (
      some (.o1 gf gg (List.take aq (List.drop ap ar)) gh f0 f1 f2 f3 f5 f6 f8 ga gb gc gd ge 0))
    | .o5 gi gj gk au av aw ax ay az a0 a1 a2 a3 a4 a b c a5 =>
     ifE ((a+b)≤(List.length c)) (
      some (.o1 a3 a4 a5 (List.take b (List.drop a c)) gi gj gk au av aw ax ay az a0 a1 a2 0))
    | .o6 a6 a7 a8 a9 ba bb bc bd bf bg bh bi bj bk d e f g h i =>
     ifE ((d+e)≤(List.length i)) (
      ifE ((f+g)≤(List.length h)) (
       some (.o1 bj bk (List.take e (List.drop d i)) (List.take g (List.drop f h)) a6 a7 a8 a9 ba bb bc bd bf bg bh bi 0)))
    | .o7 bl bm bn bo bp bq br bt bu bv bw bx bz b0 b1 b2 =>
     some (.o1 bz b0 b1 b2 bl bm bn bo bp bq br bt bu bv bw bx 0)
    | .o8 b3 b4 b5 b6 b7 b8 b9 ca cb cc cd ce cf cg j l m ch =>
     ifE ((j+l)≤(List.length m)) (
      some (.o1 cf cg (List.take l (List.drop j m)) ch b3 b4 b5 b6 b7 b8 b9 ca cb cc cd ce 0))
    | .o9 ci cj ck cl cm cn co cp cq cr cs ct cu cv cw cx =>
     some (.o1 ct cu cx cv ci cj ck cl cm cn co cp cq cr cs cw 0)
    | .o10 cy cz c0 c1 c2 c3 c4 c5 c6 c7 c8 c9 da o p q db dc =>
     ifE ((o+p)≤(List.length q)) (
      some (.o1 c9 da dc (List.take p (List.drop o q)) cy cz c0 c1 c2 c3 c4 c5 c6 c7 c8 db 0))
    | .o11 dd de df dg dh di dj dk dl dm dn dp dq s t dr ds u =>
     ifE ((s+t)≤(List.length u)) (
      some (.o1 dp dq (List.take t (List.drop s u)) dr dd de df dg dh di dj dk dl dm dn ds 0))
    | .o12 dt du dv dw dx dy dz d0 d1 d2 d3 d4 d5 v w x y z d6 r =>
     ifE ((v+w)≤(List.length r)) (
      ifE ((x+y)≤(List.length z)) (
       some (.o1 d4 d5 (List.take w (List.drop v r)) (List.take y (List.drop x z)) dt du dv dw dx dy dz d0 d1 d2 d3 d6 0)))
theorem f18_j1_ok (k x2 x9 af m3 e f g m4 h i j l m o p q s d m6 v w s1 m7 x y z n aa ab ac ad ae t u r) (b:f18_j1 k x2 x9 af m3 e f g m4 h i j l m o p q s d m6 v w s1 m7 x y z n aa ab ac ad ae t u=some r):finK Try.prog Try.f18 0 (EX 18 k (nav B18 [2,2]) (⟨25,[(2,jI x2),(3,.ptr 3 0),(4,.ptr 4 0),(6,.ptr 6 0),(7,.ptr 7 0),(9,jI x9),(14,.p (.bool af))],[(3,.box 26 [jI m3,jU e,.sl 4 (rowsOf encT65 f),.sl 11 (rowsOf encT39 g)]),(4,.box 39 [jI m4,jI h,jU i,jI j,jI l,jI m,jI o,jI p,jI q,jI s,.sl 1 (rowsOf (encI .u8) d)]),(6,.box 26 [jI m6,jU v,.sl 4 (rowsOf encT65 w),.own 700001]),(700001,.row true 11 39 (rowsOf encT39 s1)),(7,.box 48 [jI m7,jI x,jI y,jU z,jI n,jI aa,jI ab,jI ac,jI ad,jI ae,jI t,.sl 1 (rowsOf (encI .u8) u)])]⟩:St))=some r.st:=by
 unfold f18_j1 at b
 obtain ⟨o1,h2,b⟩:=bs b
 have c:=f26_ok k m3 e f g _ h2
 cases o1 with
 | o0 v4 v5 v6 v7 =>
  (try dsimp only at b)
  (try simp only [NM,EE,R26.st] at c)
  simp (disch:=first|apply D;decide|apply K;kernel_rfl) only [E,EE,↓reduceIte,simprocAttr,xk B18 [2,2] .sq rfl,rg B18 [1,2,2] 4 false rfl,hr 18 4 rfl,t_26,callStep,CL,gv,List.contains,xk B18 [2,2,2] .sq rfl,rg B18 [1,2,2,2] 5 false rfl,hr_18_5,t_39,c]
  obtain ⟨o8,h9,b⟩:=bs b
  have a:=f32_ok k m4 h i j l m o p q s d x2 v4 v5 v6 v7 _ h9
  cases o8 with
  | o0 e6 e7 e8 e9 fa fb fc fd fe ff fg fh fi fj fk fl =>
   (try dsimp only at b)
   (try simp only [NM,EE,R32.st] at a)
   cases b
   simp (disch:=first|apply D;decide|apply K;kernel_rfl) only [E,EE,↓reduceIte,simprocAttr,t_48,xk B18 [2,2,2,2] .sq rfl,rg B18 [1,2,2,2,2] 6 true rfl,hr 18 6 rfl,t_26,xk B18 [2,2,2,2,2] .rt rfl,fin18,R18.st,c,a]
  | o1 fm fn fo fp fq fr fs ft fu fv fw fx fy fz f0 f1 =>
   (try dsimp only at b)
   (try simp only [NM,EE,R32.st] at a)
   cases b
   simp (disch:=first|apply D;decide|apply K;kernel_rfl) only [E,EE,↓reduceIte,simprocAttr,t_48,xk B18 [2,2,2,2] .sq rfl,rg B18 [1,2,2,2,2] 6 true rfl,hr 18 6 rfl,t_26,xk B18 [2,2,2,2,2] .rt rfl,fin18,R18.st,c,a]
  | o2 f2 f3 f5 f6 f8 ga gb gc gd ge gf gg gh gi gj gk gl gm =>
   (try dsimp only at b)
   (try simp only [NM,EE,R32.st] at a)
   obtain ⟨ar,b⟩:=ifE_some.1 b
   cases b
   simp (disch:=first|apply D;decide|apply K;kernel_rfl) only [E,EE,↓reduceIte,simprocAttr,t_48,xk B18 [2,2,2,2] .sq rfl,rg B18 [1,2,2,2,2] 6 true rfl,hr 18 6 rfl,t_26,xk B18 [2,2,2,2,2] .rt rfl,fin18,R18.st,c,a,ar]
  | o3 gn go gp gq gr gs gt gu gw gx gy gz g0 g1 g2 g3 =>
   (try dsimp only at b)
   (try simp only [NM,EE,R32.st] at a)
   cases b
   simp (disch:=first|apply D;decide|apply K;kernel_rfl) only [E,EE,↓reduceIte,simprocAttr,t_48,xk B18 [2,2,2,2] .sq rfl,rg B18 [1,2,2,2,2] 6 true rfl,hr 18 6 rfl,t_26,xk B18 [2,2,2,2,2] .rt rfl,fin18,R18.st,c,a]
  | o4 g4 g5 g6 g7 g8 g9 ha hb hc hd hf hg hh hi hj hk hl hm =>
   (try dsimp only at b)
   (try simp only [NM,EE,R32.st] at a)
   obtain ⟨au,b⟩:=ifE_some.1 b
   cases b
   simp (disch:=first|apply D;decide|apply K;kernel_rfl) only [E,EE,↓reduceIte,simprocAttr,t_48,xk B18 [2,2,2,2] .sq rfl,rg B18 [1,2,2,2,2] 6 true rfl,hr 18 6 rfl,t_26,xk B18 [2,2,2,2,2] .rt rfl,fin18,R18.st,c,a,au]
  | o5 hn ho hp az a0 a1 a2 a3 a4 a5 a6 a7 a8 a9 ba bb bc bd =>
   (try dsimp only at b)
   (try simp only [NM,EE,R32.st] at a)
   obtain ⟨ag,b⟩:=ifE_some.1 b
   cases b
   simp (disch:=first|apply D;decide|apply K;kernel_rfl) only [E,EE,↓reduceIte,simprocAttr,t_48,xk B18 [2,2,2,2] .sq rfl,rg B18 [1,2,2,2,2] 6 true rfl,hr 18 6 rfl,t_26,xk B18 [2,2,2,2,2] .rt rfl,fin18,R18.st,c,a,ag]
  | o6 bf bg bh bi bj bk bl bm bn bo bp bq br bt bu bv bw bx bz b0 =>
   (try dsimp only at b)
   (try simp only [NM,EE,R32.st] at a)
   obtain ⟨ah,b⟩:=ifE_some.1 b
   obtain ⟨ai,b⟩:=ifE_some.1 b
   cases b
   simp (disch:=first|apply D;decide|apply K;kernel_rfl) only [E,EE,↓reduceIte,simprocAttr,t_48,xk B18 [2,2,2,2] .sq rfl,rg B18 [1,2,2,2,2] 6 true rfl,hr 18 6 rfl,t_26,xk B18 [2,2,2,2,2] .rt rfl,fin18,R18.st,c,a,ah,ai]
  | o7 b1 b2 b3 b4 b5 b6 b7 b8 b9 ca cb cc cd ce cf cg =>
   (try dsimp only at b)
   (try simp only [NM,EE,R32.st] at a)
   cases b
   simp (disch:=first|apply D;decide|apply K;kernel_rfl) only [E,EE,↓reduceIte,simprocAttr,t_48,xk B18 [2,2,2,2] .sq rfl,rg B18 [1,2,2,2,2] 6 true rfl,hr 18 6 rfl,t_26,xk B18 [2,2,2,2,2] .rt rfl,fin18,R18.st,c,a]
  | o8 ch ci cj ck cl cm cn co cp cq cr cs ct cu cv cw cx cy =>
   (try dsimp only at b)
   (try simp only [NM,EE,R32.st] at a)
   obtain ⟨aj,b⟩:=ifE_some.1 b
   cases b
   simp (disch:=first|apply D;decide|apply K;kernel_rfl) only [E,EE,↓reduceIte,simprocAttr,t_48,xk B18 [2,2,2,2] .sq rfl,rg B18 [1,2,2,2,2] 6 true rfl,hr 18 6 rfl,t_26,xk B18 [2,2,2,2,2] .rt rfl,fin18,R18.st,c,a,aj]
  | o9 cz c0 c1 c2 c3 c4 c5 c6 c7 c8 c9 da db dc dd de =>
   (try dsimp only at b)
   (try simp only [NM,EE,R32.st] at a)
   cases b
   simp (disch:=first|apply D;decide|apply K;kernel_rfl) only [E,EE,↓reduceIte,simprocAttr,t_48,xk B18 [2,2,2,2] .sq rfl,rg B18 [1,2,2,2,2] 6 true rfl,hr 18 6 rfl,t_26,xk B18 [2,2,2,2,2] .rt rfl,fin18,R18.st,c,a]
  | o10 df dg dh di dj dk dl dm dn dp dq dr ds dt du dv dw dx =>
   (try dsimp only at b)
   (try simp only [NM,EE,R32.st] at a)
   obtain ⟨ak,b⟩:=ifE_some.1 b
   cases b
   simp (disch:=first|apply D;decide|apply K;kernel_rfl) only [E,EE,↓reduceIte,simprocAttr,t_48,xk B18 [2,2,2,2] .sq rfl,rg B18 [1,2,2,2,2] 6 true rfl,hr 18 6 rfl,t_26,xk B18 [2,2,2,2,2] .rt rfl,fin18,R18.st,c,a,ak]
  | o11 dy dz d0 d1 d2 d3 d4 d5 d6 d7 d8 d9 ea eb ec ed ee ef =>
   (try dsimp only at b)
   (try simp only [NM,EE,R32.st] at a)
   obtain ⟨al,b⟩:=ifE_some.1 b
   cases b
   simp (disch:=first|apply D;decide|apply K;kernel_rfl) only [E,EE,↓reduceIte,simprocAttr,t_48,xk B18 [2,2,2,2] .sq rfl,rg B18 [1,2,2,2,2] 6 true rfl,hr 18 6 rfl,t_26,xk B18 [2,2,2,2,2] .rt rfl,fin18,R18.st,c,a,al]
  | o12 eg eh ei ej ek el em en eo ep eq er es et eu ev ew ex ey ez =>
   (try dsimp only at b)
   (try simp only [NM,EE,R32.st] at a)
   obtain ⟨am,b⟩:=ifE_some.1 b
   obtain ⟨an,b⟩:=ifE_some.1 b
   cases b
   simp (disch:=first|apply D;decide|apply K;kernel_rfl) only [E,EE,↓reduceIte,simprocAttr,t_48,xk B18 [2,2,2,2] .sq rfl,rg B18 [1,2,2,2,2] 6 true rfl,hr 18 6 rfl,t_26,xk B18 [2,2,2,2,2] .rt rfl,fin18,R18.st,c,a,am,an]
noncomputable def f18_e (k:Nat) (q a:Int) (b:List T65) (c:List T39) (s e f g h i j l m o:Int) (d:List Int) (t:Int):Option R18 :=
 Option.bind (f19 k q a b c) fun o1 =>
  match o1 with
  | .o0 p =>
   cond ((p != 0))
    (some (.o0 0 0 [] 0 0 0 0 0 0 0 0 0 0 0 [] p []))
    (f18_j1 k t p false q a b c s e f g h i j l m o d 0 0 [] [] 0 0 0 0 0 0 0 0 0 0 0 [])
theorem f18_e_ok (k s b c d t e f g h i j l m o a u r) (p:f18_e k s b c d t e f g h i j l m o a u=some r):finK Try.prog Try.f18 0 (EX 18 k (nav B18 []) (⟨25,[(0,.agg [jI s,jU b,.sl 4 (rowsOf encT65 c),.sl 11 (rowsOf encT39 d)]),(1,.agg [jI t,jI e,jU f,jI g,jI h,jI i,jI j,jI l,jI m,jI o,.sl 1 (rowsOf (encI .u8) a)]),(2,jI u)],[]⟩:St))=some r.st:=by
 unfold f18_e at p
 obtain ⟨o1,w,p⟩:=bs p
 have q:=f19_ok k s b c d _ w
 cases o1 with
 | o0 x =>
  (try dsimp only at p)
  (try simp only [NM,EE,R19.st] at q)
  simp (disch:=first|apply D;decide|apply K;kernel_rfl) only [E,EE,↓reduceIte,simprocAttr,xk B18 [] .sq rfl,rg B18 [1] 0 false rfl,hr_18_0,t_26,t_48,xk B18 [2] .sq rfl,xk B18 [1,2] .sq rfl,rg B18 [1,1,2] 1 false rfl,hr 18 1 rfl,callStep,CL,gv,List.contains,xk B18 [2,1,2] .sq rfl,rg B18 [1,2,1,2] 2 false rfl,hr 18 2 rfl,xk B18 [2,2,1,2] (.cd 14) rfl,q]
  rcases cond_some p with ⟨v,p⟩ | ⟨v,p⟩
  ·cases p
   simp (disch:=first|apply D;decide|apply K;kernel_rfl) only [E,EE,↓reduceIte,simprocAttr,xk B18 [2,2,2,1,2] .sq rfl,rg B18 [1,2,2,2,1,2] 3 false rfl,hr_18_3,bl_26,t_26,bl_48,t_48,xk B18 [2,2,2,2,1,2] .rt rfl,fin18,R18.st,q,v]
  ·have hJ:=f18_j1_ok k u x false s b c d t e f g h i j l m o a 0 0 [] [] 0 0 0 0 0 0 0 0 0 0 0 [] _ p
   simp (disch:=first|apply D;decide|apply K;kernel_rfl) only [E,EE,↓reduceIte,simprocAttr,xk B18 [3,2,2,1,2] .sk rfl,q,v]
   try simp only [NM,EE] at hJ
   exact hJ
noncomputable def f18 (k:Nat) (p b:Int) (c:List T65) (d:List T39) (q e f g h i j l m o:Int) (a:List Int) (s:Int):Option R18:=match k with | 0=>none | k+1=>f18_e k p b c d q e f g h i j l m o a s
theorem f18_ok (k q b d e s f g h i j l m o p a t r) (u:f18 k q b d e s f g h i j l m o p a t=some r):CV k 18 [.agg [jI q,jU b,.sl 4 (rowsOf encT65 d),.sl 11 (rowsOf encT39 e)],.agg [jI s,jI f,jU g,jI h,jI i,jI j,jI l,jI m,jI o,jI p,.sl 1 (rowsOf (encI .u8) a)],jI t] []=some r.st:=by
 cases k with
 | zero=>cases u
 | succ k =>
  unfold CV
  rw [ev_call (F:=Try.f18) (c:=(nav B18 [])) rfl Try.func18 rfl rfl rfl rfl]
  exact f18_e_ok k q b d e s f g h i j l m o p a t r u
-- f17b: f17 heliograph/heliographlaw19.AgentWhole$1
inductive R17b where
 | o0 (y:Bool) (a b:Int) (c:List T65) (d e:List T39) (f:Int) (g:List Int)
noncomputable def R17b.st:R17b→V×List O×List O
 | .o0 y a b c d e f g=>(.p (.bool y),[.box 26 [jI a,jU b,.sl 4 (rowsOf encT65 c),.sl 11 (rowsOf encT39 d)],.box 24 [.sl 11 (rowsOf encT39 e)],.box 3 [jI f],.box 29 [.sl 1 (rowsOf (encI .u8) g)]],[])
noncomputable def f17b_j2 (k:Nat) (w:Bool) (f:Int) (g:List Int) (h i j l m o p q s t d:Int) (e:List Int) (u a:Int) (b:List T65) (c v:List T39):Option R17b :=
 cond ((h==8))
  (some (.o0 true u a b c v f g))
  (some (.o0 (h==3) u a b c v f g))
theorem f17b_j2_ok (k s u v w c d e f g h i j l a b x m o p y r) (q:f17b_j2 k s u v w c d e f g h i j l a b x m o p y=some r):finK Try.prog Try.f17 4 (EX 17 k (nav B17 [2,2,2,2,2]) (⟨52,[(3,.ptr 1000002 0),(4,.ptr 1000003 0),(8,.ptr 8 0),(30,.p (.bool s))],[(1000002,.box 3 [jI u]),(1000003,.box 29 [.sl 1 (rowsOf (encI .u8) v)]),(8,.box 48 [jI w,jI c,jI d,jU e,jI f,jI g,jI h,jI i,jI j,jI l,jI a,.sl 1 (rowsOf (encI .u8) b)]),(1000000,.box 26 [jI x,jU m,.sl 4 (rowsOf encT65 o),.sl 11 (rowsOf encT39 p)]),(1000001,.box 24 [.sl 11 (rowsOf encT39 y)])]⟩:St))=some r.st:=by
 unfold f17b_j2 at q
 simp (disch:=first|apply D;decide|apply K;kernel_rfl) only [E,EE,↓reduceIte,simprocAttr,xk B17 [2,2,2,2,2] .sq rfl,rg B17 [1,2,2,2,2,2] 8 false rfl,hr 17 8 rfl,fieldAddrV,t_48,t_3]
 rcases cond_some q with ⟨t,q⟩ | ⟨t,q⟩
 ·cases q
  simp (disch:=first|apply D;decide|apply K;kernel_rfl) only [E,EE,↓reduceIte,simprocAttr,xk B17 [2,2,2,2,2,2] .rt rfl,fin17,R17b.st,t]
 ·cases q
  simp (disch:=first|apply D;decide|apply K;kernel_rfl) only [E,EE,↓reduceIte,simprocAttr,fieldAddrV,t_48,t_3,xk B17 [2,2,2,2,2,2] .rt rfl,fin17,R17b.st,t]
noncomputable def f17b_j1 (k:Nat) (z:Bool) (n v:Int) (w:List T65) (x:List T39) (s:Int) (q:List Int) (t a:Int) (b:List T65) (e:List T39) (y g h d i j l m o p f:Int) (c:List Int) (u:List T39):Option R17b :=
 cond ((y==9))
  (
   Option.bind (f20 k c q) fun o2 =>
    match o2 with
    | .o0 r =>
     cond (r)
      (some (.o0 (d==1) t a b e u (IntKind.i64.wrap (s+(1:Int))) q))
      (some (.o0 false t a b e u (IntKind.i64.wrap (s+(1:Int))) q)))
  (f17b_j2 k false s q y g h d i j l m o p f c t a b e u)
theorem f17b_j1_ok (k w e0 s t u z y n d e v m8 f g h i j l m o p b a e1 r) (c:f17b_j1 k w e0 s t u z y n d e v m8 f g h i j l m o p b a e1=some r):finK Try.prog Try.f17 4 (EX 17 k (nav B17 [2,2,2]) (⟨52,[(1,.ptr 1000000 0),(3,.ptr 1000002 0),(4,.ptr 1000003 0),(7,.ptr 7 0),(8,.ptr 8 0),(26,.p (.bool w))],[(1000000,.box 26 [jI e0,jU s,.sl 4 (rowsOf encT65 t),.sl 11 (rowsOf encT39 u)]),(1000002,.box 3 [jI z]),(1000003,.box 29 [.sl 1 (rowsOf (encI .u8) y)]),(7,.box 26 [jI n,jU d,.sl 4 (rowsOf encT65 e),.own 16]),(16,.row true 11 39 (rowsOf encT39 v)),(8,.box 48 [jI m8,jI f,jI g,jU h,jI i,jI j,jI l,jI m,jI o,jI p,jI b,.sl 1 (rowsOf (encI .u8) a)]),(1000001,.box 24 [.sl 11 (rowsOf encT39 e1)])]⟩:St))=some r.st:=by
 unfold f17b_j1 at c
 simp (disch:=first|apply D;decide|apply K;kernel_rfl) only [E,EE,↓reduceIte,simprocAttr,xk B17 [2,2,2] .sq rfl,rg B17 [1,2,2,2] 4 false rfl,hr_17_4,t_26,xk B17 [2,2,2,2] .sq rfl,xk B17 [1,2,2,2,2] .sq rfl,rg B17 [1,1,2,2,2,2] 5 false rfl,hr 17 5 rfl,fieldAddrV,t_48,t_3,xk B17 [2,1,2,2,2,2] (.cd 30) rfl]
 rcases cond_some c with ⟨x,c⟩ | ⟨x,c⟩
 ·obtain ⟨o2,h3,c⟩:=bs c
  have q:=f20_ok k a y _ h3
  cases o2 with
  | o0 v5 =>
   (try dsimp only at c)
   (try simp only [NM,EE,R20.st] at q)
   simp (disch:=first|apply D;decide|apply K;kernel_rfl) only [E,EE,↓reduceIte,simprocAttr,xk B17 [2,2,1,2,2,2,2] .sq rfl,rg B17 [1,2,2,1,2,2,2,2] 6 false rfl,hr 17 6 rfl,t_3,xk B17 [2,2,2,1,2,2,2,2] .sq rfl,rg B17 [1,2,2,2,1,2,2,2,2] 7 false rfl,hr 17 7 rfl,fieldAddrV,t_48,t_39,t_29,callStep,CL,gv,List.contains,x,q]
   rcases cond_some c with ⟨h6,c⟩ | ⟨h6,c⟩
   ·cases c
    simp (disch:=first|apply D;decide|apply K;kernel_rfl) only [E,EE,↓reduceIte,simprocAttr,fieldAddrV,t_48,t_39,t_22,xk B17 [2,2,2,2,1,2,2,2,2] .rt rfl,fin17,R17b.st,x,q,h6]
   ·cases c
    simp (disch:=first|apply D;decide|apply K;kernel_rfl) only [E,EE,↓reduceIte,simprocAttr,xk B17 [2,2,2,2,1,2,2,2,2] .rt rfl,fin17,R17b.st,x,q,h6]
 ·have hJ:=f17b_j2_ok k false z y m8 f g h i j l m o p b a n d e v e1 _ c
  simp (disch:=first|apply D;decide|apply K;kernel_rfl) only [E,EE,↓reduceIte,simprocAttr,xk B17 [3,2,1,2,2,2,2] .sk rfl,x]
  try simp only [NM,EE] at hJ
  exact hJ
noncomputable def f17b_j3 (k:Nat) (z:Bool) (n v:Int) (w:List T65) (x:List T39) (s:Int) (q:List Int) (t a:Int) (b:List T65) (c:List T39) (y g h e i j l m o p f:Int) (d:List Int) (u:List T39):Option R17b :=
 cond ((y==9))
  (
   Option.bind (f20 k d q) fun o2 =>
    match o2 with
    | .o0 r =>
     cond (r)
      (some (.o0 (e==1) t a b c u (IntKind.i64.wrap (s+(1:Int))) q))
      (some (.o0 false t a b c u (IntKind.i64.wrap (s+(1:Int))) q)))
  (f17b_j2 k false s q y g h e i j l m o p f d t a b c u)
theorem f17b_j3_ok (k w e0 t u v z y n d e f m8 g h i j l m o p q b a e1 r) (c:f17b_j3 k w e0 t u v z y n d e f m8 g h i j l m o p q b a e1=some r):finK Try.prog Try.f17 4 (EX 17 k (nav B17 [2,2,2]) (⟨52,[(1,.ptr 1000000 0),(3,.ptr 1000002 0),(4,.ptr 1000003 0),(7,.ptr 7 0),(8,.ptr 8 0),(26,.p (.bool w))],[(1000000,.box 26 [jI e0,jU t,.sl 4 (rowsOf encT65 u),.sl 11 (rowsOf encT39 v)]),(1000002,.box 3 [jI z]),(1000003,.box 29 [.sl 1 (rowsOf (encI .u8) y)]),(7,.box 26 [jI n,jU d,.sl 4 (rowsOf encT65 e),.sl 11 (rowsOf encT39 f)]),(8,.box 48 [jI m8,jI g,jI h,jU i,jI j,jI l,jI m,jI o,jI p,jI q,jI b,.sl 1 (rowsOf (encI .u8) a)]),(1000001,.box 24 [.sl 11 (rowsOf encT39 e1)])]⟩:St))=some r.st:=by
 unfold f17b_j3 at c
 simp (disch:=first|apply D;decide|apply K;kernel_rfl) only [E,EE,↓reduceIte,simprocAttr,xk B17 [2,2,2] .sq rfl,rg B17 [1,2,2,2] 4 false rfl,hr_17_4,t_26,xk B17 [2,2,2,2] .sq rfl,xk B17 [1,2,2,2,2] .sq rfl,rg B17 [1,1,2,2,2,2] 5 false rfl,hr 17 5 rfl,fieldAddrV,t_48,t_3,xk B17 [2,1,2,2,2,2] (.cd 30) rfl]
 rcases cond_some c with ⟨x,c⟩ | ⟨x,c⟩
 ·obtain ⟨o2,h3,c⟩:=bs c
  have s:=f20_ok k a y _ h3
  cases o2 with
  | o0 v5 =>
   (try dsimp only at c)
   (try simp only [NM,EE,R20.st] at s)
   simp (disch:=first|apply D;decide|apply K;kernel_rfl) only [E,EE,↓reduceIte,simprocAttr,xk B17 [2,2,1,2,2,2,2] .sq rfl,rg B17 [1,2,2,1,2,2,2,2] 6 false rfl,hr 17 6 rfl,t_3,xk B17 [2,2,2,1,2,2,2,2] .sq rfl,rg B17 [1,2,2,2,1,2,2,2,2] 7 false rfl,hr 17 7 rfl,fieldAddrV,t_48,t_39,t_29,callStep,CL,gv,List.contains,x,s]
   rcases cond_some c with ⟨h6,c⟩ | ⟨h6,c⟩
   ·cases c
    simp (disch:=first|apply D;decide|apply K;kernel_rfl) only [E,EE,↓reduceIte,simprocAttr,fieldAddrV,t_48,t_39,t_22,xk B17 [2,2,2,2,1,2,2,2,2] .rt rfl,fin17,R17b.st,x,s,h6]
   ·cases c
    simp (disch:=first|apply D;decide|apply K;kernel_rfl) only [E,EE,↓reduceIte,simprocAttr,xk B17 [2,2,2,2,1,2,2,2,2] .rt rfl,fin17,R17b.st,x,s,h6]
 ·have hJ:=f17b_j2_ok k false z y m8 g h i j l m o p q b a n d e f e1 _ c
  simp (disch:=first|apply D;decide|apply K;kernel_rfl) only [E,EE,↓reduceIte,simprocAttr,xk B17 [3,2,1,2,2,2,2] .sk rfl,x]
  try simp only [NM,EE] at hJ
  exact hJ
noncomputable def f17b_e (k:Nat) (a0 e a:Int) (b:List T65) (c f:List T39) (g:Int) (h:List Int):Option R17b :=
 ifE ((0:Int)≤a0) (
  Option.bind (f[(Int.toNat a0)]?) fun d =>
   Option.bind (f18 k e a b c d.Source d.Dest d.Seq d.Created d.Lifetime d.HopLimit d.Hops d.Priority d.Offset d.Total d.Payload 5) fun o4 =>
    match o4 with
    | .o0 v7 v8 v9 p q s t u v w x y z r n aa i =>
     cond ((aa != 0))
      (some (.o0 false e a b c f g h))
      (
       Option.bind (f19 k v7 v8 v9 i) fun o25 =>
        match o25 with
        | .o0 ab =>
         cond ((ab != 0))
          (some (.o0 false e a b c f g h))
          (f17b_j1 k false e a b c g h v7 v8 v9 i p q s t u v w x y z r n f))
    | .o1 j l m o ac ad ae af ag ah ai aj ak al am an ao =>
     cond ((ao != 0))
      (some (.o0 false e a b c f g h))
      (
       Option.bind (f19 k j l m o) fun o48 =>
        match o48 with
        | .o0 ap =>
         cond ((ap != 0))
          (some (.o0 false e a b c f g h))
          (f17b_j3 k false e a b c g h j l m o ac ad ae af ag ah ai aj ak al am an f)))
theorem f17b_e_ok (k a0 q c d e x y z r) (a:f17b_e k a0 q c d e x y z=some r):finK Try.prog Try.f17 4 (EX 17 k (nav B17 []) (⟨52,[(0,jI a0),(1,.ptr 1000000 0),(2,.ptr 1000001 0),(3,.ptr 1000002 0),(4,.ptr 1000003 0)],[(1000000,.box 26 [jI q,jU c,.sl 4 (rowsOf encT65 d),.sl 11 (rowsOf encT39 e)]),(1000001,.box 24 [.sl 11 (rowsOf encT39 x)]),(1000002,.box 3 [jI y]),(1000003,.box 29 [.sl 1 (rowsOf (encI .u8) z)])]⟩:St))=some r.st:=by
 unfold f17b_e at a
 obtain ⟨h,a⟩:=ifE_some.1 a
 obtain ⟨i,j,a⟩:=bs a
 simp (disch:=first|apply D;decide|apply K;kernel_rfl) only [E,EE,↓reduceIte,simprocAttr,xk B17 [] .sq rfl,rg B17 [1] 0 false rfl,hr 17 0 rfl,xk B17 [2] .sq rfl,rg B17 [1,2] 1 true rfl,hr 17 1 rfl,t_26,t_24,indexAddrV,t_39,encT39_eq,callStep,CL,gv,List.contains,h,j]
 obtain ⟨o4,h5,a⟩:=bs a
 have b:=f18_ok k q c d e i.Source i.Dest i.Seq i.Created i.Lifetime i.HopLimit i.Hops i.Priority i.Offset i.Total i.Payload 5 _ h5
 cases o4 with
 | o0 v7 v8 v9 n aa ab ac ad ae af ag ah ai aj ak a7 s =>
  (try dsimp only at a)
  (try simp only [NM,EE,R18.st] at b)
  simp (disch:=first|apply D;decide|apply K;kernel_rfl) only [E,EE,↓reduceIte,simprocAttr,t_26,t_48,xk B17 [2,2] .sq rfl,xk B17 [1,2,2] .sq rfl,rg B17 [1,1,2,2] 2 false rfl,hr 17 2 rfl,h,j,b]
  rcases cond_some a with ⟨l,a⟩ | ⟨l,a⟩
  ·cases a
   simp (disch:=first|apply D;decide|apply K;kernel_rfl) only [E,EE,↓reduceIte,simprocAttr,xk B17 [2,1,2,2] (.cd 26) rfl,xk B17 [2,2,1,2,2] .sq rfl,rg B17 [1,2,2,1,2,2] 3 false rfl,hr 17 3 rfl,xk B17 [2,2,2,1,2,2] .rt rfl,fin17,R17b.st,h,j,b,l]
  ·obtain ⟨o25,al,a⟩:=bs a
   have f:=f19_ok k v7 v8 v9 s _ al
   cases o25 with
   | o0 a8 =>
    (try dsimp only at a)
    (try simp only [NM,EE,R19.st] at f)
    simp (disch:=first|apply D;decide|apply K;kernel_rfl) only [E,EE,↓reduceIte,simprocAttr,t_26,callStep,CL,gv,List.contains,xk B17 [2,1,2,2] (.cd 26) rfl,h,j,b,l,f]
    rcases cond_some a with ⟨o,a⟩ | ⟨o,a⟩
    ·cases a
     simp (disch:=first|apply D;decide|apply K;kernel_rfl) only [E,EE,↓reduceIte,simprocAttr,xk B17 [2,2,1,2,2] .sq rfl,rg B17 [1,2,2,1,2,2] 3 false rfl,hr 17 3 rfl,xk B17 [2,2,2,1,2,2] .rt rfl,fin17,R17b.st,h,j,b,l,f,o]
    ·have hJ:=f17b_j1_ok k false q c d e y z v7 v8 v9 s n aa ab ac ad ae af ag ah ai aj ak x _ a
     simp (disch:=first|apply D;decide|apply K;kernel_rfl) only [E,EE,↓reduceIte,simprocAttr,xk B17 [3,2,1,2,2] .sk rfl,h,j,b,l,f,o]
     try simp only [NM,EE] at hJ
     exact hJ
 | o1 t u v w am an ao ap aq ar au av aw ax ay az a9 =>
  (try dsimp only at a)
  (try simp only [NM,EE,R18.st] at b)
  simp (disch:=first|apply D;decide|apply K;kernel_rfl) only [E,EE,↓reduceIte,simprocAttr,t_26,t_48,xk B17 [2,2] .sq rfl,xk B17 [1,2,2] .sq rfl,rg B17 [1,1,2,2] 2 false rfl,hr 17 2 rfl,h,j,b]
  rcases cond_some a with ⟨m,a⟩ | ⟨m,a⟩
  ·cases a
   simp (disch:=first|apply D;decide|apply K;kernel_rfl) only [E,EE,↓reduceIte,simprocAttr,xk B17 [2,1,2,2] (.cd 26) rfl,xk B17 [2,2,1,2,2] .sq rfl,rg B17 [1,2,2,1,2,2] 3 false rfl,hr 17 3 rfl,xk B17 [2,2,2,1,2,2] .rt rfl,fin17,R17b.st,h,j,b,m]
  ·obtain ⟨o48,a1,a⟩:=bs a
   have g:=f19_ok k t u v w _ a1
   cases o48 with
   | o0 ba =>
    (try dsimp only at a)
    (try simp only [NM,EE,R19.st] at g)
    simp (disch:=first|apply D;decide|apply K;kernel_rfl) only [E,EE,↓reduceIte,simprocAttr,t_26,callStep,CL,gv,List.contains,xk B17 [2,1,2,2] (.cd 26) rfl,h,j,b,m,g]
    rcases cond_some a with ⟨p,a⟩ | ⟨p,a⟩
    ·cases a
     simp (disch:=first|apply D;decide|apply K;kernel_rfl) only [E,EE,↓reduceIte,simprocAttr,xk B17 [2,2,1,2,2] .sq rfl,rg B17 [1,2,2,1,2,2] 3 false rfl,hr 17 3 rfl,xk B17 [2,2,2,1,2,2] .rt rfl,fin17,R17b.st,h,j,b,m,g,p]
    ·have hJ:=f17b_j3_ok k false q c d e y z t u v w am an ao ap aq ar au av aw ax ay az x _ a
     simp (disch:=first|apply D;decide|apply K;kernel_rfl) only [E,EE,↓reduceIte,simprocAttr,xk B17 [3,2,1,2,2] .sk rfl,h,j,b,m,g,p]
     try simp only [NM,EE] at hJ
     exact hJ
noncomputable def f17b (k:Nat) (d e a:Int) (b:List T65) (c f:List T39) (g:Int) (h:List Int):Option R17b:=match k with | 0=>none | k+1=>f17b_e k d e a b c f g h
theorem f17b_ok (k e f a b d g h i r) (j:f17b k e f a b d g h i=some r):CV k 17 [jI e,.ptr 1000000 0,.ptr 1000001 0,.ptr 1000002 0,.ptr 1000003 0] [.box 26 [jI f,jU a,.sl 4 (rowsOf encT65 b),.sl 11 (rowsOf encT39 d)],.box 24 [.sl 11 (rowsOf encT39 g)],.box 3 [jI h],.box 29 [.sl 1 (rowsOf (encI .u8) i)]]=some r.st:=by
 cases k with
 | zero=>cases j
 | succ k =>
  unfold CV
  rw [ev_call (F:=Try.f17) (c:=(nav B17 [])) rfl Try.func17 rfl rfl rfl rfl]
  exact f17b_e_ok k e f a b d g h i r j
-- f17a: f17 heliograph/heliographlaw19.AgentWhole$1
inductive R17a where
 | o0 (y:Bool) (a b:Int) (c:List T65) (d e:List T39) (f:Int) (g:List Int)
noncomputable def R17a.st:R17a→V×List O×List O
 | .o0 y a b c d e f g=>(.p (.bool y),[.box 26 [jI a,jU b,.sl 4 (rowsOf encT65 c),.sl 11 (rowsOf encT39 d)],.box 24 [.own 1000002],.row true 11 39 (rowsOf encT39 e),.box 3 [jI f],.box 29 [.sl 1 (rowsOf (encI .u8) g)]],[])
noncomputable def f17a_j2 (k:Nat) (w:Bool) (f:Int) (g:List Int) (h i j l m o p q s t d:Int) (e:List Int) (u a:Int) (b:List T65) (c v:List T39):Option R17a :=
 cond ((h==8))
  (some (.o0 true u a b c v f g))
  (some (.o0 (h==3) u a b c v f g))
theorem f17a_j2_ok (k s u v w c d e f g h i j l a b x m o p y r) (q:f17a_j2 k s u v w c d e f g h i j l a b x m o p y=some r):finK Try.prog Try.f17 5 (EX 17 k (nav B17 [2,2,2,2,2]) (⟨52,[(3,.ptr 1000003 0),(4,.ptr 1000004 0),(8,.ptr 8 0),(30,.p (.bool s))],[(1000003,.box 3 [jI u]),(1000004,.box 29 [.sl 1 (rowsOf (encI .u8) v)]),(8,.box 48 [jI w,jI c,jI d,jU e,jI f,jI g,jI h,jI i,jI j,jI l,jI a,.sl 1 (rowsOf (encI .u8) b)]),(1000000,.box 26 [jI x,jU m,.sl 4 (rowsOf encT65 o),.sl 11 (rowsOf encT39 p)]),(1000001,.box 24 [.own 1000002]),(1000002,.row true 11 39 (rowsOf encT39 y))]⟩:St))=some r.st:=by
 unfold f17a_j2 at q
 simp (disch:=first|apply D;decide|apply K;kernel_rfl) only [E,EE,↓reduceIte,simprocAttr,xk B17 [2,2,2,2,2] .sq rfl,rg B17 [1,2,2,2,2,2] 8 false rfl,hr 17 8 rfl,fieldAddrV,t_48,t_3]
 rcases cond_some q with ⟨t,q⟩ | ⟨t,q⟩
 ·cases q
  simp (disch:=first|apply D;decide|apply K;kernel_rfl) only [E,EE,↓reduceIte,simprocAttr,xk B17 [2,2,2,2,2,2] .rt rfl,fin17,R17a.st,t]
 ·cases q
  simp (disch:=first|apply D;decide|apply K;kernel_rfl) only [E,EE,↓reduceIte,simprocAttr,fieldAddrV,t_48,t_3,xk B17 [2,2,2,2,2,2] .rt rfl,fin17,R17a.st,t]
noncomputable def f17a_j1 (k:Nat) (z:Bool) (n v:Int) (w:List T65) (x:List T39) (s:Int) (q:List Int) (t a:Int) (b:List T65) (e:List T39) (y g h d i j l m o p f:Int) (c:List Int) (u:List T39):Option R17a :=
 cond ((y==9))
  (
   Option.bind (f20 k c q) fun o2 =>
    match o2 with
    | .o0 r =>
     cond (r)
      (some (.o0 (d==1) t a b e u (IntKind.i64.wrap (s+(1:Int))) q))
      (some (.o0 false t a b e u (IntKind.i64.wrap (s+(1:Int))) q)))
  (f17a_j2 k false s q y g h d i j l m o p f c t a b e u)
theorem f17a_j1_ok (k w e0 s t u z y n d e v m8 f g h i j l m o p b a e2 r) (c:f17a_j1 k w e0 s t u z y n d e v m8 f g h i j l m o p b a e2=some r):finK Try.prog Try.f17 5 (EX 17 k (nav B17 [2,2,2]) (⟨52,[(1,.ptr 1000000 0),(3,.ptr 1000003 0),(4,.ptr 1000004 0),(7,.ptr 7 0),(8,.ptr 8 0),(26,.p (.bool w))],[(1000000,.box 26 [jI e0,jU s,.sl 4 (rowsOf encT65 t),.sl 11 (rowsOf encT39 u)]),(1000003,.box 3 [jI z]),(1000004,.box 29 [.sl 1 (rowsOf (encI .u8) y)]),(7,.box 26 [jI n,jU d,.sl 4 (rowsOf encT65 e),.own 16]),(16,.row true 11 39 (rowsOf encT39 v)),(8,.box 48 [jI m8,jI f,jI g,jU h,jI i,jI j,jI l,jI m,jI o,jI p,jI b,.sl 1 (rowsOf (encI .u8) a)]),(1000001,.box 24 [.own 1000002]),(1000002,.row true 11 39 (rowsOf encT39 e2))]⟩:St))=some r.st:=by
 unfold f17a_j1 at c
 simp (disch:=first|apply D;decide|apply K;kernel_rfl) only [E,EE,↓reduceIte,simprocAttr,xk B17 [2,2,2] .sq rfl,rg B17 [1,2,2,2] 4 false rfl,hr_17_4,t_26,xk B17 [2,2,2,2] .sq rfl,xk B17 [1,2,2,2,2] .sq rfl,rg B17 [1,1,2,2,2,2] 5 false rfl,hr 17 5 rfl,fieldAddrV,t_48,t_3,xk B17 [2,1,2,2,2,2] (.cd 30) rfl]
 rcases cond_some c with ⟨x,c⟩ | ⟨x,c⟩
 ·obtain ⟨o2,h3,c⟩:=bs c
  have q:=f20_ok k a y _ h3
  cases o2 with
  | o0 v5 =>
   (try dsimp only at c)
   (try simp only [NM,EE,R20.st] at q)
   simp (disch:=first|apply D;decide|apply K;kernel_rfl) only [E,EE,↓reduceIte,simprocAttr,xk B17 [2,2,1,2,2,2,2] .sq rfl,rg B17 [1,2,2,1,2,2,2,2] 6 false rfl,hr 17 6 rfl,t_3,xk B17 [2,2,2,1,2,2,2,2] .sq rfl,rg B17 [1,2,2,2,1,2,2,2,2] 7 false rfl,hr 17 7 rfl,fieldAddrV,t_48,t_39,t_29,callStep,CL,gv,List.contains,x,q]
   rcases cond_some c with ⟨h6,c⟩ | ⟨h6,c⟩
   ·cases c
    simp (disch:=first|apply D;decide|apply K;kernel_rfl) only [E,EE,↓reduceIte,simprocAttr,fieldAddrV,t_48,t_39,t_22,xk B17 [2,2,2,2,1,2,2,2,2] .rt rfl,fin17,R17a.st,x,q,h6]
   ·cases c
    simp (disch:=first|apply D;decide|apply K;kernel_rfl) only [E,EE,↓reduceIte,simprocAttr,xk B17 [2,2,2,2,1,2,2,2,2] .rt rfl,fin17,R17a.st,x,q,h6]
 ·have hJ:=f17a_j2_ok k false z y m8 f g h i j l m o p b a n d e v e2 _ c
  simp (disch:=first|apply D;decide|apply K;kernel_rfl) only [E,EE,↓reduceIte,simprocAttr,xk B17 [3,2,1,2,2,2,2] .sk rfl,x]
  try simp only [NM,EE] at hJ
  exact hJ
noncomputable def f17a_j3 (k:Nat) (z:Bool) (n v:Int) (w:List T65) (x:List T39) (s:Int) (q:List Int) (t a:Int) (b:List T65) (c:List T39) (y g h e i j l m o p f:Int) (d:List Int) (u:List T39):Option R17a :=
 cond ((y==9))
  (
   Option.bind (f20 k d q) fun o2 =>
    match o2 with
    | .o0 r =>
     cond (r)
      (some (.o0 (e==1) t a b c u (IntKind.i64.wrap (s+(1:Int))) q))
      (some (.o0 false t a b c u (IntKind.i64.wrap (s+(1:Int))) q)))
  (f17a_j2 k false s q y g h e i j l m o p f d t a b c u)
theorem f17a_j3_ok (k w e0 t u v z y n d e f m8 g h i j l m o p q b a e2 r) (c:f17a_j3 k w e0 t u v z y n d e f m8 g h i j l m o p q b a e2=some r):finK Try.prog Try.f17 5 (EX 17 k (nav B17 [2,2,2]) (⟨52,[(1,.ptr 1000000 0),(3,.ptr 1000003 0),(4,.ptr 1000004 0),(7,.ptr 7 0),(8,.ptr 8 0),(26,.p (.bool w))],[(1000000,.box 26 [jI e0,jU t,.sl 4 (rowsOf encT65 u),.sl 11 (rowsOf encT39 v)]),(1000003,.box 3 [jI z]),(1000004,.box 29 [.sl 1 (rowsOf (encI .u8) y)]),(7,.box 26 [jI n,jU d,.sl 4 (rowsOf encT65 e),.sl 11 (rowsOf encT39 f)]),(8,.box 48 [jI m8,jI g,jI h,jU i,jI j,jI l,jI m,jI o,jI p,jI q,jI b,.sl 1 (rowsOf (encI .u8) a)]),(1000001,.box 24 [.own 1000002]),(1000002,.row true 11 39 (rowsOf encT39 e2))]⟩:St))=some r.st:=by
 unfold f17a_j3 at c
 simp (disch:=first|apply D;decide|apply K;kernel_rfl) only [E,EE,↓reduceIte,simprocAttr,xk B17 [2,2,2] .sq rfl,rg B17 [1,2,2,2] 4 false rfl,hr_17_4,t_26,xk B17 [2,2,2,2] .sq rfl,xk B17 [1,2,2,2,2] .sq rfl,rg B17 [1,1,2,2,2,2] 5 false rfl,hr 17 5 rfl,fieldAddrV,t_48,t_3,xk B17 [2,1,2,2,2,2] (.cd 30) rfl]
 rcases cond_some c with ⟨x,c⟩ | ⟨x,c⟩
 ·obtain ⟨o2,h3,c⟩:=bs c
  have s:=f20_ok k a y _ h3
  cases o2 with
  | o0 v5 =>
   (try dsimp only at c)
   (try simp only [NM,EE,R20.st] at s)
   simp (disch:=first|apply D;decide|apply K;kernel_rfl) only [E,EE,↓reduceIte,simprocAttr,xk B17 [2,2,1,2,2,2,2] .sq rfl,rg B17 [1,2,2,1,2,2,2,2] 6 false rfl,hr 17 6 rfl,t_3,xk B17 [2,2,2,1,2,2,2,2] .sq rfl,rg B17 [1,2,2,2,1,2,2,2,2] 7 false rfl,hr 17 7 rfl,fieldAddrV,t_48,t_39,t_29,callStep,CL,gv,List.contains,x,s]
   rcases cond_some c with ⟨h6,c⟩ | ⟨h6,c⟩
   ·cases c
    simp (disch:=first|apply D;decide|apply K;kernel_rfl) only [E,EE,↓reduceIte,simprocAttr,fieldAddrV,t_48,t_39,t_22,xk B17 [2,2,2,2,1,2,2,2,2] .rt rfl,fin17,R17a.st,x,s,h6]
   ·cases c
    simp (disch:=first|apply D;decide|apply K;kernel_rfl) only [E,EE,↓reduceIte,simprocAttr,xk B17 [2,2,2,2,1,2,2,2,2] .rt rfl,fin17,R17a.st,x,s,h6]
 ·have hJ:=f17a_j2_ok k false z y m8 g h i j l m o p q b a n d e f e2 _ c
  simp (disch:=first|apply D;decide|apply K;kernel_rfl) only [E,EE,↓reduceIte,simprocAttr,xk B17 [3,2,1,2,2,2,2] .sk rfl,x]
  try simp only [NM,EE] at hJ
  exact hJ
noncomputable def f17a_e (k:Nat) (q f a:Int) (b:List T65) (c e:List T39) (g:Int) (h:List Int):Option R17a :=
 ifE ((0:Int)≤q) (
  ifE (q<((List.length e):Int)) (
   Option.bind (e[(Int.toNat q)]?) fun d =>
    Option.bind (f18 k f a b c d.Source d.Dest d.Seq d.Created d.Lifetime d.HopLimit d.Hops d.Priority d.Offset d.Total d.Payload 5) fun o5 =>
     match o5 with
     | .o0 v8 v9 i s t u v w x y z r n aa ab ac j =>
      cond ((ac != 0))
       (some (.o0 false f a b c e g h))
       (
        Option.bind (f19 k v8 v9 i j) fun o26 =>
         match o26 with
         | .o0 ad =>
          cond ((ad != 0))
           (some (.o0 false f a b c e g h))
           (f17a_j1 k false f a b c g h v8 v9 i j s t u v w x y z r n aa ab e))
     | .o1 l m o p ae af ag ah ai aj ak al am an ao ap aq =>
      cond ((aq != 0))
       (some (.o0 false f a b c e g h))
       (
        Option.bind (f19 k l m o p) fun o49 =>
         match o49 with
         | .o0 ar =>
          cond ((ar != 0))
           (some (.o0 false f a b c e g h))
           (f17a_j3 k false f a b c g h l m o p ae af ag ah ai aj ak al am an ao ap e))))
theorem f17a_e_ok (k a0 s c d e z n e4 r) (a:f17a_e k a0 s c d e z n e4=some r):finK Try.prog Try.f17 5 (EX 17 k (nav B17 []) (⟨52,[(0,jI a0),(1,.ptr 1000000 0),(2,.ptr 1000001 0),(3,.ptr 1000003 0),(4,.ptr 1000004 0)],[(1000000,.box 26 [jI s,jU c,.sl 4 (rowsOf encT65 d),.sl 11 (rowsOf encT39 e)]),(1000001,.box 24 [.own 1000002]),(1000002,.row true 11 39 (rowsOf encT39 z)),(1000003,.box 3 [jI n]),(1000004,.box 29 [.sl 1 (rowsOf (encI .u8) e4)])]⟩:St))=some r.st:=by
 unfold f17a_e at a
 obtain ⟨h,a⟩:=ifE_some.1 a
 obtain ⟨i,a⟩:=ifE_some.1 a
 obtain ⟨j,l,a⟩:=bs a
 simp (disch:=first|apply D;decide|apply K;kernel_rfl) only [E,EE,↓reduceIte,simprocAttr,xk B17 [] .sq rfl,rg B17 [1] 0 false rfl,hr 17 0 rfl,xk B17 [2] .sq rfl,rg B17 [1,2] 1 true rfl,hr 17 1 rfl,t_26,t_24,indexAddrV,t_39,encT39_eq,callStep,CL,gv,List.contains,h,i,l]
 obtain ⟨o5,h6,a⟩:=bs a
 have b:=f18_ok k s c d e j.Source j.Dest j.Seq j.Created j.Lifetime j.HopLimit j.Hops j.Priority j.Offset j.Total j.Payload 5 _ h6
 cases o5 with
 | o0 v8 v9 t ab ac ad ae af ag ah ai aj ak al am a8 u =>
  (try dsimp only at a)
  (try simp only [NM,EE,R18.st] at b)
  simp (disch:=first|apply D;decide|apply K;kernel_rfl) only [E,EE,↓reduceIte,simprocAttr,t_26,t_48,xk B17 [2,2] .sq rfl,xk B17 [1,2,2] .sq rfl,rg B17 [1,1,2,2] 2 false rfl,hr 17 2 rfl,h,i,l,b]
  rcases cond_some a with ⟨m,a⟩ | ⟨m,a⟩
  ·cases a
   simp (disch:=first|apply D;decide|apply K;kernel_rfl) only [E,EE,↓reduceIte,simprocAttr,xk B17 [2,1,2,2] (.cd 26) rfl,xk B17 [2,2,1,2,2] .sq rfl,rg B17 [1,2,2,1,2,2] 3 false rfl,hr 17 3 rfl,xk B17 [2,2,2,1,2,2] .rt rfl,fin17,R17a.st,h,i,l,b,m]
  ·obtain ⟨o26,an,a⟩:=bs a
   have f:=f19_ok k v8 v9 t u _ an
   cases o26 with
   | o0 a9 =>
    (try dsimp only at a)
    (try simp only [NM,EE,R19.st] at f)
    simp (disch:=first|apply D;decide|apply K;kernel_rfl) only [E,EE,↓reduceIte,simprocAttr,t_26,callStep,CL,gv,List.contains,xk B17 [2,1,2,2] (.cd 26) rfl,h,i,l,b,m,f]
    rcases cond_some a with ⟨p,a⟩ | ⟨p,a⟩
    ·cases a
     simp (disch:=first|apply D;decide|apply K;kernel_rfl) only [E,EE,↓reduceIte,simprocAttr,xk B17 [2,2,1,2,2] .sq rfl,rg B17 [1,2,2,1,2,2] 3 false rfl,hr 17 3 rfl,xk B17 [2,2,2,1,2,2] .rt rfl,fin17,R17a.st,h,i,l,b,m,f,p]
    ·have hJ:=f17a_j1_ok k false s c d e n e4 v8 v9 t u ab ac ad ae af ag ah ai aj ak al am z _ a
     simp (disch:=first|apply D;decide|apply K;kernel_rfl) only [E,EE,↓reduceIte,simprocAttr,xk B17 [3,2,1,2,2] .sk rfl,h,i,l,b,m,f,p]
     try simp only [NM,EE] at hJ
     exact hJ
 | o1 v w x y ao ap aq ar au av aw ax ay az a1 a2 ba =>
  (try dsimp only at a)
  (try simp only [NM,EE,R18.st] at b)
  simp (disch:=first|apply D;decide|apply K;kernel_rfl) only [E,EE,↓reduceIte,simprocAttr,t_26,t_48,xk B17 [2,2] .sq rfl,xk B17 [1,2,2] .sq rfl,rg B17 [1,1,2,2] 2 false rfl,hr 17 2 rfl,h,i,l,b]
  rcases cond_some a with ⟨o,a⟩ | ⟨o,a⟩
  ·cases a
   simp (disch:=first|apply D;decide|apply K;kernel_rfl) only [E,EE,↓reduceIte,simprocAttr,xk B17 [2,1,2,2] (.cd 26) rfl,xk B17 [2,2,1,2,2] .sq rfl,rg B17 [1,2,2,1,2,2] 3 false rfl,hr 17 3 rfl,xk B17 [2,2,2,1,2,2] .rt rfl,fin17,R17a.st,h,i,l,b,o]
  ·obtain ⟨o49,a3,a⟩:=bs a
   have g:=f19_ok k v w x y _ a3
   cases o49 with
   | o0 bb =>
    (try dsimp only at a)
    (try simp only [NM,EE,R19.st] at g)
    simp (disch:=first|apply D;decide|apply K;kernel_rfl) only [E,EE,↓reduceIte,simprocAttr,t_26,callStep,CL,gv,List.contains,xk B17 [2,1,2,2] (.cd 26) rfl,h,i,l,b,o,g]
    rcases cond_some a with ⟨q,a⟩ | ⟨q,a⟩
    ·cases a
     simp (disch:=first|apply D;decide|apply K;kernel_rfl) only [E,EE,↓reduceIte,simprocAttr,xk B17 [2,2,1,2,2] .sq rfl,rg B17 [1,2,2,1,2,2] 3 false rfl,hr 17 3 rfl,xk B17 [2,2,2,1,2,2] .rt rfl,fin17,R17a.st,h,i,l,b,o,g,q]
    ·have hJ:=f17a_j3_ok k false s c d e n e4 v w x y ao ap aq ar au av aw ax ay az a1 a2 z _ a
     simp (disch:=first|apply D;decide|apply K;kernel_rfl) only [E,EE,↓reduceIte,simprocAttr,xk B17 [3,2,1,2,2] .sk rfl,h,i,l,b,o,g,q]
     try simp only [NM,EE] at hJ
     exact hJ
noncomputable def f17a (k:Nat) (d e a:Int) (b:List T65) (c f:List T39) (g:Int) (h:List Int):Option R17a:=match k with | 0=>none | k+1=>f17a_e k d e a b c f g h
theorem f17a_ok (k e f a b d g h i r) (j:f17a k e f a b d g h i=some r):CV k 17 [jI e,.ptr 1000000 0,.ptr 1000001 0,.ptr 1000003 0,.ptr 1000004 0] [.box 26 [jI f,jU a,.sl 4 (rowsOf encT65 b),.sl 11 (rowsOf encT39 d)],.box 24 [.own 1000002],.row true 11 39 (rowsOf encT39 g),.box 3 [jI h],.box 29 [.sl 1 (rowsOf (encI .u8) i)]]=some r.st:=by
 cases k with
 | zero=>cases j
 | succ k =>
  unfold CV
  rw [ev_call (F:=Try.f17) (c:=(nav B17 [])) rfl Try.func17 rfl rfl rfl rfl]
  exact f17a_e_ok k e f a b d g h i r j
end Go.Proofs.YticggdfaehneeaaV