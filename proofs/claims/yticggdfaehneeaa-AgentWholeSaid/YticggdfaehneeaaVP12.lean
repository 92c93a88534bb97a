/- What the program's functions answer: plain functions,and that the interpreter answers what they do. Written by a program of this session,out of the translation. -/
import Derived.Test.YticggdfaehneeaaVP11
namespace Go.Proofs.YticggdfaehneeaaV
open Go
set_option linter.unusedVariables false
set_option linter.unusedSimpArgs false
set_option maxRecDepth 8000
set_option maxHeartbeats 4000000
-- f32: f32 heliograph/agent.judge
inductive R32 where
 | o0 (y g h i j l m o p q a:Int) (b:List Int) (c d:Int) (e:List T65) (f:List T39)
 | o1 (y g h i j l m o p q a b c:Int) (d:List T39) (e:List Int) (f:List T65)
 | o2 (y g h i j l m o p q a b c:Int) (d e:Nat) (f:List T39) (s:List Int) (t:List T65)
 | o3 (y g h i j l m o p q a:Int) (b:List Int) (c d:Int) (e:List T39) (f:List T65)
 | o4 (y g h i j l m o p q a:Int) (b:List Int) (c d:Int) (e f:Nat) (s:List T39) (t:List T65)
 | o5 (y g h i j l m o p q a:Int) (b:List Int) (c d:Int) (e f:Nat) (s:List T39) (t:List T65)
 | o6 (y g h i j l m o p q a:Int) (b:List Int) (c d:Int) (e f s t:Nat) (u:List T39) (v:List T65)
 | o7 (y g h i j l m o p q a:Int) (b:List Int) (c d:Int) (e:List T65) (f:List T39)
 | o8 (y g h i j l m o p q a:Int) (b:List Int) (c d:Int) (e f:Nat) (s:List T65) (t:List T39)
 | o9 (y g h i j l m o p q a b c:Int) (d:List T39) (e:List Int) (f:List T65)
 | o10 (y g h i j l m o p q a b c:Int) (d e:Nat) (f:List T39) (s:List Int) (t:List T65)
 | o11 (y g h i j l m o p q a b c:Int) (d e:Nat) (f:List T39) (s:List Int) (t:List T65)
 | o12 (y g h i j l m o p q a b c:Int) (d e f s:Nat) (t:List T39) (u:List Int) (v:List T65)
noncomputable def R32.st:R32→V×List O×List O
 | .o0 y g h i j l m o p q a b c d e f=>(.agg [jI y,jI g,jI h,jU i,jI j,jI l,jI m,jI o,jI p,jI q,jI a,.sl 1 (rowsOf (encI .u8) b)],[.box 26 [jI c,jU d,.own 1000001,.own 1000002],.row true 4 65 (rowsOf encT65 e),.row true 11 39 (rowsOf encT39 f)],[])
 | .o1 y g h i j l m o p q a b c d e f=>(.agg [jI y,jI g,jI h,jU i,jI j,jI l,jI m,jI o,jI p,jI q,jI a,.own 2000000],[.box 26 [jI b,jU c,.own 2000001,.own 1000002],.dead,.row true 11 39 (rowsOf encT39 d)],[.row false 1 5 (rowsOf (encI .u8) e),.row true 4 65 (rowsOf encT65 f)])
 | .o2 y g h i j l m o p q a b c d e f s t=>(.agg [jI y,jI g,jI h,jU i,jI j,jI l,jI m,jI o,jI p,jI q,jI a,.own 2000000],[.box 26 [jI b,jU c,V.cut 2000001 4 d e,.own 1000002],.dead,.row true 11 39 (rowsOf encT39 f)],[.row false 1 5 (rowsOf (encI .u8) s),.row true 4 65 (rowsOf encT65 t)])
 | .o3 y g h i j l m o p q a b c d e f=>(.agg [jI y,jI g,jI h,jU i,jI j,jI l,jI m,jI o,jI p,jI q,jI a,.sl 1 (rowsOf (encI .u8) b)],[.box 26 [jI c,jU d,.own 2000000,.own 1000002],.dead,.row true 11 39 (rowsOf encT39 e)],[.row true 4 65 (rowsOf encT65 f)])
 | .o4 y g h i j l m o p q a b c d e f s t=>(.agg [jI y,jI g,jI h,jU i,jI j,jI l,jI m,jI o,jI p,jI q,jI a,.sl 1 (rowsOf (encI .u8) b)],[.box 26 [jI c,jU d,V.cut 2000000 4 e f,.own 1000002],.dead,.row true 11 39 (rowsOf encT39 s)],[.row true 4 65 (rowsOf encT65 t)])
 | .o5 y g h i j l m o p q a b c d e f s t=>(.agg [jI y,jI g,jI h,jU i,jI j,jI l,jI m,jI o,jI p,jI q,jI a,.sl 1 (rowsOf (encI .u8) b)],[.box 26 [jI c,jU d,.own 2000000,V.cut 1000002 11 e f],.dead,.row true 11 39 (rowsOf encT39 s)],[.row true 4 65 (rowsOf encT65 t)])
 | .o6 y g h i j l m o p q a b c d e f s t u v=>(.agg [jI y,jI g,jI h,jU i,jI j,jI l,jI m,jI o,jI p,jI q,jI a,.sl 1 (rowsOf (encI .u8) b)],[.box 26 [jI c,jU d,V.cut 2000000 4 e f,V.cut 1000002 11 s t],.dead,.row true 11 39 (rowsOf encT39 u)],[.row true 4 65 (rowsOf encT65 v)])
 | .o7 y g h i j l m o p q a b c d e f=>(.agg [jI y,jI g,jI h,jU i,jI j,jI l,jI m,jI o,jI p,jI q,jI a,.sl 1 (rowsOf (encI .u8) b)],[.box 26 [jI c,jU d,.own 2000000,.own 2000001],.dead,.dead],[.row true 4 65 (rowsOf encT65 e),.row true 11 39 (rowsOf encT39 f)])
 | .o8 y g h i j l m o p q a b c d e f s t=>(.agg [jI y,jI g,jI h,jU i,jI j,jI l,jI m,jI o,jI p,jI q,jI a,.sl 1 (rowsOf (encI .u8) b)],[.box 26 [jI c,jU d,V.cut 2000000 4 e f,.own 2000001],.dead,.dead],[.row true 4 65 (rowsOf encT65 s),.row true 11 39 (rowsOf encT39 t)])
 | .o9 y g h i j l m o p q a b c d e f=>(.agg [jI y,jI g,jI h,jU i,jI j,jI l,jI m,jI o,jI p,jI q,jI a,.own 2000000],[.box 26 [jI b,jU c,.own 2000001,.own 1000002],.dead,.row true 11 39 (rowsOf encT39 d)],[.row true 1 5 (rowsOf (encI .u8) e),.row true 4 65 (rowsOf encT65 f)])
 | .o10 y g h i j l m o p q a b c d e f s t=>(.agg [jI y,jI g,jI h,jU i,jI j,jI l,jI m,jI o,jI p,jI q,jI a,.own 2000000],[.box 26 [jI b,jU c,.own 2000001,V.cut 1000002 11 d e],.dead,.row true 11 39 (rowsOf encT39 f)],[.row true 1 5 (rowsOf (encI .u8) s),.row true 4 65 (rowsOf encT65 t)])
 | .o11 y g h i j l m o p q a b c d e f s t=>(.agg [jI y,jI g,jI h,jU i,jI j,jI l,jI m,jI o,jI p,jI q,jI a,.own 2000000],[.box 26 [jI b,jU c,V.cut 2000001 4 d e,.own 1000002],.dead,.row true 11 39 (rowsOf encT39 f)],[.row true 1 5 (rowsOf (encI .u8) s),.row true 4 65 (rowsOf encT65 t)])
 | .o12 y g h i j l m o p q a b c d e f s t u v=>(.agg [jI y,jI g,jI h,jU i,jI j,jI l,jI m,jI o,jI p,jI q,jI a,.own 2000000],[.box 26 [jI b,jU c,V.cut 2000001 4 d e,V.cut 1000002 11 f s],.dead,.row true 11 39 (rowsOf encT39 t)],[.row true 1 5 (rowsOf (encI .u8) u),.row true 4 65 (rowsOf encT65 v)])
noncomputable def f32_j4 (k:Nat) (an:Bool) (e0 y:Int) (e1:List T65) (e2:List T39) (m4 m o p q s t u v w:Int) (l:List Int) (m6 ao ap aq ar au av aw ax ay ad:Int) (s0:List Int) (x b c d e f g h i j:Int) (a:List Int):Option R32 :=
 Option.bind (f54b k m4 m o p q s t u v w l e0 y e1 e2) fun o1 =>
  match o1 with
  | .o0 v4 v5 v6 v7 =>
   Option.bind (f42b k v6 m4 m o p q s t u v w l) fun o8 =>
    match o8 with
    | .o0 ae a6 a7 a8 a9 ba bb bc bd bf bg bh =>
     some (.o3 9 x b c d e f g h i j a v4 v5 ae v7)
    | .o1 af ag ah bi bj bk bl bm bn bo bp bq br bt =>
     some (.o5 9 x b c d e f g h i j a v4 v5 af ag ah v7)
  | .o1 z r n aa ai ab =>
   Option.bind (f42b k ai m4 m o p q s t u v w l) fun o43 =>
    match o43 with
    | .o0 aj bu bv bw bx bz b0 b1 b2 b3 b4 b5 =>
     some (.o4 9 x b c d e f g h i j a z r n aa aj ab)
    | .o1 ak al am b6 b7 b8 b9 ca cb cc cd ce cf cg =>
     some (.o6 9 x b c d e f g h i j a z r n aa ak al am ab)
theorem f32_j4_ok (k ac e0 s e1 e2 m4 b c d e f g h i j a m6 ad ae af ag ah ai aj ak al t s0 an u v w x y z n aa ab o r) (l:f32_j4 k ac e0 s e1 e2 m4 b c d e f g h i j a m6 ad ae af ag ah ai aj ak al t s0 an u v w x y z n aa ab o=some r):finK Try.prog Try.f32 3 (EX 32 k (nav B32 [2,2,2,2,2,2,2,2,2]) (⟨158,[(0,.ptr 1000000 0),(4,.ptr 4 0),(6,.ptr 6 0),(7,V.p (Value.func (Fn.func 51) #[] #[])),(10,.ptr 10 0),(126,.p (.bool ac))],[(1000000,.box 26 [jI e0,jU s,.own 1000001,.own 1000002]),(1000001,.row true 4 65 (rowsOf encT65 e1)),(1000002,.row true 11 39 (rowsOf encT39 e2)),(4,.box 39 [jI m4,jI b,jU c,jI d,jI e,jI f,jI g,jI h,jI i,jI j,.sl 1 (rowsOf (encI .u8) a)]),(6,.box 48 [jI m6,jI ad,jI ae,jU af,jI ag,jI ah,jI ai,jI aj,jI ak,jI al,jI t,.own 700000]),(700000,.row true 1 5 (rowsOf (encI .u8) s0)),(10,.box 39 [jI an,jI u,jU v,jI w,jI x,jI y,jI z,jI n,jI aa,jI ab,.sl 1 (rowsOf (encI .u8) o)])]⟩:St))=some r.st:=by
 unfold f32_j4 at l
 simp (disch:=first|apply D;decide|apply K;kernel_rfl) only [E,EE,↓reduceIte,simprocAttr,xk B32 [2,2,2,2,2,2,2,2,2] .sq rfl,rg B32 [1,2,2,2,2,2,2,2,2,2] 30 false rfl,hr 32 30 rfl,t_39,callStep,CL,gv,List.contains]
 obtain ⟨o1,h2,l⟩:=bs l
 have m:=f54b_ok k m4 b c d e f g h i j a e0 s e1 e2 _ h2
 cases o1 with
 | o0 v4 v5 v6 v7 =>
  (try dsimp only at l)
  (try simp only [NM,EE,R54b.st] at m)
  simp (disch:=first|apply D;decide|apply K;kernel_rfl) only [E,EE,↓reduceIte,simprocAttr,xk B32 [2,2,2,2,2,2,2,2,2,2] .sq rfl,rg B32 [1,2,2,2,2,2,2,2,2,2,2] 31 false rfl,hr 32 31 rfl,fieldAddrV,t_26,t_24,callStep,CL,gv,List.contains,m]
  obtain ⟨o8,h9,l⟩:=bs l
  have p:=f42b_ok k v6 m4 b c d e f g h i j a _ h9
  cases o8 with
  | o0 a0 a1 a2 a3 a4 a5 a6 a7 a8 a9 ba bb =>
   (try dsimp only at l)
   (try simp only [NM,EE,R42b.st] at p)
   cases l
   simp (disch:=first|apply D;decide|apply K;kernel_rfl) only [E,EE,↓reduceIte,simprocAttr,fieldAddrV,t_26,t_24,xk B32 [2,2,2,2,2,2,2,2,2,2,2] .sq rfl,rg B32 [1,2,2,2,2,2,2,2,2,2,2,2] 32 false rfl,hr 32 32 rfl,t_39,bl_48,t_48,xk B32 [2,2,2,2,2,2,2,2,2,2,2,2] .rt rfl,fin32,R32.st,m,p]
  | o1 bc bd bf bg bh bi bj bk bl bm bn bo bp bq =>
   (try dsimp only at l)
   (try simp only [NM,EE,R42b.st] at p)
   cases l
   simp (disch:=first|apply D;decide|apply K;kernel_rfl) only [E,EE,↓reduceIte,simprocAttr,fieldAddrV,t_26,t_24,xk B32 [2,2,2,2,2,2,2,2,2,2,2] .sq rfl,rg B32 [1,2,2,2,2,2,2,2,2,2,2,2] 32 false rfl,hr 32 32 rfl,t_39,bl_48,t_48,xk B32 [2,2,2,2,2,2,2,2,2,2,2,2] .rt rfl,fin32,R32.st,m,p]
 | o1 br bt bu bv ar bw =>
  (try dsimp only at l)
  (try simp only [NM,EE,R54b.st] at m)
  simp (disch:=first|apply D;decide|apply K;kernel_rfl) only [E,EE,↓reduceIte,simprocAttr,xk B32 [2,2,2,2,2,2,2,2,2,2] .sq rfl,rg B32 [1,2,2,2,2,2,2,2,2,2,2] 31 false rfl,hr 32 31 rfl,fieldAddrV,t_26,t_24,callStep,CL,gv,List.contains,m]
  obtain ⟨o43,au,l⟩:=bs l
  have q:=f42b_ok k ar m4 b c d e f g h i j a _ au
  cases o43 with
  | o0 bx bz b0 b1 b2 b3 b4 b5 b6 b7 b8 b9 =>
   (try dsimp only at l)
   (try simp only [NM,EE,R42b.st] at q)
   cases l
   simp (disch:=first|apply D;decide|apply K;kernel_rfl) only [E,EE,↓reduceIte,simprocAttr,fieldAddrV,t_26,t_24,xk B32 [2,2,2,2,2,2,2,2,2,2,2] .sq rfl,rg B32 [1,2,2,2,2,2,2,2,2,2,2,2] 32 false rfl,hr 32 32 rfl,t_39,bl_48,t_48,xk B32 [2,2,2,2,2,2,2,2,2,2,2,2] .rt rfl,fin32,R32.st,m,q]
  | o1 ca cb cc cd ce cf cg ch ci cj ck cl cm cn =>
   (try dsimp only at l)
   (try simp only [NM,EE,R42b.st] at q)
   cases l
   simp (disch:=first|apply D;decide|apply K;kernel_rfl) only [E,EE,↓reduceIte,simprocAttr,fieldAddrV,t_26,t_24,xk B32 [2,2,2,2,2,2,2,2,2,2,2] .sq rfl,rg B32 [1,2,2,2,2,2,2,2,2,2,2,2] 32 false rfl,hr 32 32 rfl,t_39,bl_48,t_48,xk B32 [2,2,2,2,2,2,2,2,2,2,2,2] .rt rfl,fin32,R32.st,m,q]
noncomputable def f32_j5 (k:Nat) (an:Bool) (e0 y:Int) (e1:List T65) (e2:List T39) (m4 m o p q s t u v w:Int) (j:List Int) (m6 ao ap aq ar au av aw ax ay ad:Int) (s0:List Int) (x a b c d e f g h i:Int) (l:List Int):Option R32 :=
 Option.bind (f54b k m4 m o p q s t u v w j e0 y e1 e2) fun o1 =>
  match o1 with
  | .o0 v4 v5 v6 v7 =>
   Option.bind (f42b k v6 m4 m o p q s t u v w j) fun o8 =>
    match o8 with
    | .o0 ae a6 a7 a8 a9 ba bb bc bd bf bg bh =>
     some (.o9 9 x a b c d e f g h i v4 v5 ae l v7)
    | .o1 af ag ah bi bj bk bl bm bn bo bp bq br bt =>
     some (.o10 9 x a b c d e f g h i v4 v5 af ag ah l v7)
  | .o1 z r n aa ai ab =>
   Option.bind (f42b k ai m4 m o p q s t u v w j) fun o43 =>
    match o43 with
    | .o0 aj bu bv bw bx bz b0 b1 b2 b3 b4 b5 =>
     some (.o11 9 x a b c d e f g h i z r n aa aj l ab)
    | .o1 ak al am b6 b7 b8 b9 ca cb cc cd ce cf cg =>
     some (.o12 9 x a b c d e f g h i z r n aa ak al am l ab)
theorem f32_j5_ok (k ab e0 q e1 e2 m4 b c d e f g h i j a m6 ac ad ae af ag ah ai aj ak s s0 an t u v w x y z n aa al r) (l:f32_j5 k ab e0 q e1 e2 m4 b c d e f g h i j a m6 ac ad ae af ag ah ai aj ak s s0 an t u v w x y z n aa al=some r):finK Try.prog Try.f32 3 (EX 32 k (nav B32 [2,2,2,2,2,2,2,2,2]) (⟨158,[(0,.ptr 1000000 0),(4,.ptr 4 0),(6,.ptr 6 0),(7,V.p (Value.func (Fn.func 51) #[] #[])),(10,.ptr 10 0),(126,.p (.bool ab))],[(1000000,.box 26 [jI e0,jU q,.own 1000001,.own 1000002]),(1000001,.row true 4 65 (rowsOf encT65 e1)),(1000002,.row true 11 39 (rowsOf encT39 e2)),(4,.box 39 [jI m4,jI b,jU c,jI d,jI e,jI f,jI g,jI h,jI i,jI j,.sl 1 (rowsOf (encI .u8) a)]),(6,.box 48 [jI m6,jI ac,jI ad,jU ae,jI af,jI ag,jI ah,jI ai,jI aj,jI ak,jI s,.own 700000]),(700000,.row true 1 5 (rowsOf (encI .u8) s0)),(10,.box 39 [jI an,jI t,jU u,jI v,jI w,jI x,jI y,jI z,jI n,jI aa,.own 110]),(110,.row true 1 5 (rowsOf (encI .u8) al))]⟩:St))=some r.st:=by
 unfold f32_j5 at l
 simp (disch:=first|apply D;decide|apply K;kernel_rfl) only [E,EE,↓reduceIte,simprocAttr,xk B32 [2,2,2,2,2,2,2,2,2] .sq rfl,rg B32 [1,2,2,2,2,2,2,2,2,2] 30 false rfl,hr 32 30 rfl,t_39,callStep,CL,gv,List.contains]
 obtain ⟨o1,h2,l⟩:=bs l
 have m:=f54b_ok k m4 b c d e f g h i j a e0 q e1 e2 _ h2
 cases o1 with
 | o0 v4 v5 v6 v7 =>
  (try dsimp only at l)
  (try simp only [NM,EE,R54b.st] at m)
  simp (disch:=first|apply D;decide|apply K;kernel_rfl) only [E,EE,↓reduceIte,simprocAttr,xk B32 [2,2,2,2,2,2,2,2,2,2] .sq rfl,rg B32 [1,2,2,2,2,2,2,2,2,2,2] 31 false rfl,hr 32 31 rfl,fieldAddrV,t_26,t_24,callStep,CL,gv,List.contains,m]
  obtain ⟨o8,h9,l⟩:=bs l
  have o:=f42b_ok k v6 m4 b c d e f g h i j a _ h9
  cases o8 with
  | o0 a0 a1 a2 a3 a4 a5 a6 a7 a8 a9 ba bb =>
   (try dsimp only at l)
   (try simp only [NM,EE,R42b.st] at o)
   cases l
   simp (disch:=first|apply D;decide|apply K;kernel_rfl) only [E,EE,↓reduceIte,simprocAttr,fieldAddrV,t_26,t_24,xk B32 [2,2,2,2,2,2,2,2,2,2,2] .sq rfl,rg B32 [1,2,2,2,2,2,2,2,2,2,2,2] 32 false rfl,hr 32 32 rfl,t_39,bl_48,t_48,xk B32 [2,2,2,2,2,2,2,2,2,2,2,2] .rt rfl,fin32,R32.st,m,o]
  | o1 bc bd bf bg bh bi bj bk bl bm bn bo bp bq =>
   (try dsimp only at l)
   (try simp only [NM,EE,R42b.st] at o)
   cases l
   simp (disch:=first|apply D;decide|apply K;kernel_rfl) only [E,EE,↓reduceIte,simprocAttr,fieldAddrV,t_26,t_24,xk B32 [2,2,2,2,2,2,2,2,2,2,2] .sq rfl,rg B32 [1,2,2,2,2,2,2,2,2,2,2,2] 32 false rfl,hr 32 32 rfl,t_39,bl_48,t_48,xk B32 [2,2,2,2,2,2,2,2,2,2,2,2] .rt rfl,fin32,R32.st,m,o]
 | o1 br bt bu bv ar bw =>
  (try dsimp only at l)
  (try simp only [NM,EE,R54b.st] at m)
  simp (disch:=first|apply D;decide|apply K;kernel_rfl) only [E,EE,↓reduceIte,simprocAttr,xk B32 [2,2,2,2,2,2,2,2,2,2] .sq rfl,rg B32 [1,2,2,2,2,2,2,2,2,2,2] 31 false rfl,hr 32 31 rfl,fieldAddrV,t_26,t_24,callStep,CL,gv,List.contains,m]
  obtain ⟨o43,au,l⟩:=bs l
  have p:=f42b_ok k ar m4 b c d e f g h i j a _ au
  cases o43 with
  | o0 bx bz b0 b1 b2 b3 b4 b5 b6 b7 b8 b9 =>
   (try dsimp only at l)
   (try simp only [NM,EE,R42b.st] at p)
   cases l
   simp (disch:=first|apply D;decide|apply K;kernel_rfl) only [E,EE,↓reduceIte,simprocAttr,fieldAddrV,t_26,t_24,xk B32 [2,2,2,2,2,2,2,2,2,2,2] .sq rfl,rg B32 [1,2,2,2,2,2,2,2,2,2,2,2] 32 false rfl,hr 32 32 rfl,t_39,bl_48,t_48,xk B32 [2,2,2,2,2,2,2,2,2,2,2,2] .rt rfl,fin32,R32.st,m,p]
  | o1 ca cb cc cd ce cf cg ch ci cj ck cl cm cn =>
   (try dsimp only at l)
   (try simp only [NM,EE,R42b.st] at p)
   cases l
   simp (disch:=first|apply D;decide|apply K;kernel_rfl) only [E,EE,↓reduceIte,simprocAttr,fieldAddrV,t_26,t_24,xk B32 [2,2,2,2,2,2,2,2,2,2,2] .sq rfl,rg B32 [1,2,2,2,2,2,2,2,2,2,2,2] 32 false rfl,hr 32 32 rfl,t_39,bl_48,t_48,xk B32 [2,2,2,2,2,2,2,2,2,2,2,2] .rt rfl,fin32,R32.st,m,p]
noncomputable def f32_j3 (k:Nat) (ef:Bool) (q l:Int) (e1:List T65) (e2:List T39) (p b c d e f g h i j:Int) (a:List Int) (m6 s t u v w x y z r o:Int) (s0:List Int):Option R32 :=
 Option.bind (f37 k p b c d e f g h i j a) fun o1 =>
  match o1 with
  | .o0 v4 v5 =>
   Option.bind (f36a k q l v4 v5 e1 e2) fun o6 =>
    match o6 with
    | .o0 n m ad =>
     ifE (((List.length ad)+1) * 104≤roomy) (
      Option.bind (f56 k (ad++([(T39.mk p b c d e f g h i j a)]:List T39))) fun o15 =>
       match o15 with
       | .o0 ct cu cv cw cx cy cz c0 c1 c2 c3 ae =>
        cond ((ae==280))
         (
          Option.bind (f51 k 7) fun o31 =>
           match o31 with
           | .o0 c4 c5 c6 c7 c8 c9 da db dc dd de df =>
            some (.o0 c4 c5 c6 c7 c8 c9 da db dc dd de df q l n m))
         (
          cond ((((List.length m):Int)==7))
           (
            Option.bind (f51 k 7) fun o47 =>
             match o47 with
             | .o0 dg dh di dj dk dl dm dn dp dq dr ds =>
              some (.o0 dg dh di dj dk dl dm dn dp dq dr ds q l n m))
           (
            cond ((ae != 0))
             (
              Option.bind (f54b k p b c d e f g h i j a q l n m) fun o63 =>
               match o63 with
               | .o0 dt du af dv =>
                ifE (((List.length af)+1) * 104≤roomy) (
                 Option.bind (f51 k 8) fun o73 =>
                  match o73 with
                  | .o0 dw dx dy dz d0 d1 d2 d3 d4 d5 d6 d7 =>
                   some (.o7 dw dx dy dz d0 d1 d2 d3 d4 d5 d6 d7 dt du dv (af++([(T39.mk p b c d e f g h i j a)]:List T39))))
               | .o1 d8 d9 ea eb ag ec =>
                ifE (((List.length ag)+1) * 104≤roomy) (
                 Option.bind (f51 k 8) fun o97 =>
                  match o97 with
                  | .o0 ah ai aj ak al am an ao ap aq ar au =>
                   some (.o8 ah ai aj ak al am an ao ap aq ar au d8 d9 ea eb ec (ag++([(T39.mk p b c d e f g h i j a)]:List T39)))))
             (f32_j4 k false q l n m p b c d e f g h i j a m6 s t u v w x y z r o s0 ct cu cv cw cx cy cz c0 c1 c2 c3)))
       | .o1 av aw ax ay az a0 a1 a2 a3 a4 aa a5 =>
        cond ((aa==280))
         (
          Option.bind (f51 k 7) fun o125 =>
           match o125 with
           | .o0 a6 a7 a8 a9 ba bb bc bd bf bg bh bi =>
            some (.o0 a6 a7 a8 a9 ba bb bc bd bf bg bh bi q l n m))
         (
          cond ((((List.length m):Int)==7))
           (
            Option.bind (f51 k 7) fun o141 =>
             match o141 with
             | .o0 bj bk bl bm bn bo bp bq br bt bu bv =>
              some (.o0 bj bk bl bm bn bo bp bq br bt bu bv q l n m))
           (
            cond ((aa != 0))
             (
              Option.bind (f54b k p b c d e f g h i j a q l n m) fun o157 =>
               match o157 with
               | .o0 bw bx ab bz =>
                ifE (((List.length ab)+1) * 104≤roomy) (
                 Option.bind (f51 k 8) fun o167 =>
                  match o167 with
                  | .o0 b0 b1 b2 b3 b4 b5 b6 b7 b8 b9 ca cb =>
                   some (.o7 b0 b1 b2 b3 b4 b5 b6 b7 b8 b9 ca cb bw bx bz (ab++([(T39.mk p b c d e f g h i j a)]:List T39))))
               | .o1 cc cd ce cf ac cg =>
                ifE (((List.length ac)+1) * 104≤roomy) (
                 Option.bind (f51 k 8) fun o191 =>
                  match o191 with
                  | .o0 ch ci cj ck cl cm cn co cp cq cr cs =>
                   some (.o8 ch ci cj ck cl cm cn co cp cq cr cs cc cd ce cf cg (ac++([(T39.mk p b c d e f g h i j a)]:List T39)))))
             (f32_j5 k false q l n m p b c d e f g h i j a m6 s t u v w x y z r o s0 av aw ax ay az a0 a1 a2 a3 a4 a5))))
theorem f32_j3_ok (k az e0 w e1 e2 v b c d e f g h i j a m6 ac ad ae af ag ah ai aj ak y s0 r) (l:f32_j3 k az e0 w e1 e2 v b c d e f g h i j a m6 ac ad ae af ag ah ai aj ak y s0=some r):finK Try.prog Try.f32 3 (EX 32 k (nav B32 [2,2,2,2,2,2]) (⟨158,[(0,.ptr 1000000 0),(4,.ptr 4 0),(6,.ptr 6 0),(7,V.p (Value.func (Fn.func 51) #[] #[])),(82,.p (.bool az))],[(1000000,.box 26 [jI e0,jU w,.own 1000001,.own 1000002]),(1000001,.row true 4 65 (rowsOf encT65 e1)),(1000002,.row true 11 39 (rowsOf encT39 e2)),(4,.box 39 [jI v,jI b,jU c,jI d,jI e,jI f,jI g,jI h,jI i,jI j,.sl 1 (rowsOf (encI .u8) a)]),(6,.box 48 [jI m6,jI ac,jI ad,jU ae,jI af,jI ag,jI ah,jI ai,jI aj,jI ak,jI y,.own 700000]),(700000,.row true 1 5 (rowsOf (encI .u8) s0))]⟩:St))=some r.st:=by
 unfold f32_j3 at l
 obtain ⟨o1,h2,l⟩:=bs l
 have o:=f37_ok k v b c d e f g h i j a _ h2
 cases o1 with
 | o0 v4 v5 =>
  (try dsimp only at l)
  (try simp only [NM,EE,R37.st] at o)
  obtain ⟨o6,h7,l⟩:=bs l
  have p:=f36a_ok k e0 w v4 v5 e1 e2 _ h7
  cases o6 with
  | o0 v9 ar bt =>
   (try dsimp only at l)
   (try simp only [NM,EE,R36a.st] at p)
   have q:[[jI v,jI b,jU c,jI d,jI e,jI f,jI g,jI h,jI i,jI j,.sl 1 (rowsOf (encI .u8) a)]]=rowsOf encT39 ([(T39.mk v b c d e f g h i j a)]:List T39):=rfl
   have s:List.map (tell [0,0,0,0,0,0,0,0,0,0,1]) (rowsOf encT39 ([(T39.mk v b c d e f g h i j a)]:List T39))=rowsOf encT39 ([(T39.mk v b c d e f g h i j a)]:List T39):=rfl
   obtain ⟨t,l⟩:=ifE_some.1 l
   simp (disch:=first|apply D;decide|apply K;kernel_rfl) only [E,EE,↓reduceIte,simprocAttr,xk B32 [2,2,2,2,2,2] .sq rfl,rg B32 [1,2,2,2,2,2,2] 22 true rfl,hr 32 22 rfl,t_26,t_39,callStep,CL,gv,List.contains,buildSliceV,fillRows,sm_39,t_24,appendV,content,xk B32 [2,2,2,2,2,2,2] .sq rfl,rg B32 [1,2,2,2,2,2,2,2] 23 false rfl,hr 32 23 rfl,o,p,q,s,t]
   obtain ⟨o15,bu,l⟩:=bs l
   have m:=f56_ok k (bt++([(T39.mk v b c d e f g h i j a)]:List T39)) _ bu
   cases o15 with
   | o0 bv bw bx bz b0 b1 b2 b3 b4 b5 b6 em =>
    (try dsimp only at l)
    (try simp only [NM,EE,R56.st] at m)
    simp (disch:=first|apply D;decide|apply K;kernel_rfl) only [E,EE,↓reduceIte,simprocAttr,t_39,xk B32 [2,2,2,2,2,2,2,2] .sq rfl,xk B32 [1,2,2,2,2,2,2,2,2] (.bk 1) rfl,xk B32 [2,1,2,2,2,2,2,2,2,2] .sq rfl,rg B32 [1,2,1,2,2,2,2,2,2,2,2] 24 false rfl,hr 32 24 rfl,o,p,q,s,t,m]
    rcases cond_some l with ⟨z,l⟩ | ⟨z,l⟩
    ·obtain ⟨o31,b7,l⟩:=bs l
     have au:=f51_ok k 7 _ b7
     cases o31 with
     | o0 en eo ep eq er es et eu ev ew ex ey =>
      (try dsimp only at l)
      (try simp only [NM,EE,R51.st] at au)
      cases l
      simp (disch:=first|apply D;decide|apply K;kernel_rfl) only [E,EE,↓reduceIte,simprocAttr,xk B32 [2,2,1,2,2,2,2,2,2,2,2] (.cd 113) rfl,xk B32 [2,2,2,1,2,2,2,2,2,2,2,2] .sq rfl,rg B32 [1,2,2,2,1,2,2,2,2,2,2,2,2] 25 false rfl,hr 32 25 rfl,callStep,CL,gv,List.contains,t_48,xk B32 [2,2,2,2,1,2,2,2,2,2,2,2,2] .rt rfl,fin32,R32.st,o,p,q,s,t,m,z,au]
    ·simp (disch:=first|apply D;decide|apply K;kernel_rfl) only [E,EE,↓reduceIte,simprocAttr,fieldAddrV,t_26,t_24,xk B32 [2,2,1,2,2,2,2,2,2,2,2] (.cd 113) rfl,o,p,q,s,t,m,z]
     rcases cond_some l with ⟨ab,l⟩ | ⟨ab,l⟩
     ·obtain ⟨o47,b8,l⟩:=bs l
      have av:=f51_ok k 7 _ b8
      cases o47 with
      | o0 ez e3 e4 e5 e6 e7 e8 e9 fa fb fc fd =>
       (try dsimp only at l)
       (try simp only [NM,EE,R51.st] at av)
       cases l
       simp (disch:=first|apply D;decide|apply K;kernel_rfl) only [E,EE,↓reduceIte,simprocAttr,xk B32 [2,2,2,1,2,2,2,2,2,2,2,2] .sq rfl,rg B32 [1,2,2,2,1,2,2,2,2,2,2,2,2] 25 false rfl,hr 32 25 rfl,callStep,CL,gv,List.contains,t_48,xk B32 [2,2,2,2,1,2,2,2,2,2,2,2,2] .rt rfl,fin32,R32.st,o,p,q,s,t,m,z,ab,av]
     ·simp (disch:=first|apply D;decide|apply K;kernel_rfl) only [E,EE,↓reduceIte,simprocAttr,xk B32 [3,2,2,1,2,2,2,2,2,2,2,2] .sq rfl,rg B32 [1,3,2,2,1,2,2,2,2,2,2,2,2] 26 false rfl,hr 32 26 rfl,xk B32 [2,3,2,2,1,2,2,2,2,2,2,2,2] (.cd 126) rfl,o,p,q,s,t,m,z,ab]
      rcases cond_some l with ⟨am,l⟩ | ⟨am,l⟩
      ·simp (disch:=first|apply D;decide|apply K;kernel_rfl) only [E,EE,↓reduceIte,simprocAttr,xk B32 [2,2,3,2,2,1,2,2,2,2,2,2,2,2] .sq rfl,rg B32 [1,2,2,3,2,2,1,2,2,2,2,2,2,2,2] 27 false rfl,hr 32 27 rfl,t_39,callStep,CL,gv,List.contains,o,p,q,s,t,m,z,ab,am]
       obtain ⟨o63,b9,l⟩:=bs l
       have al:=f54b_ok k v b c d e f g h i j a e0 w v9 ar _ b9
       cases o63 with
       | o0 fe ff fg fh =>
        (try dsimp only at l)
        (try simp only [NM,EE,R54b.st] at al)
        have ca:[[jI v,jI b,jU c,jI d,jI e,jI f,jI g,jI h,jI i,jI j,.sl 1 (rowsOf (encI .u8) a)]]=rowsOf encT39 ([(T39.mk v b c d e f g h i j a)]:List T39):=rfl
        have cb:List.map (tell [0,0,0,0,0,0,0,0,0,0,1]) (rowsOf encT39 ([(T39.mk v b c d e f g h i j a)]:List T39))=rowsOf encT39 ([(T39.mk v b c d e f g h i j a)]:List T39):=rfl
        obtain ⟨cc,l⟩:=ifE_some.1 l
        obtain ⟨o73,cd,l⟩:=bs l
        have aw:=f51_ok k 8 _ cd
        cases o73 with
        | o0 fi fj fk fl fm fn fo fp fq fr fs ft =>
         (try dsimp only at l)
         (try simp only [NM,EE,R51.st] at aw)
         cases l
         simp (disch:=first|apply D;decide|apply K;kernel_rfl) only [E,EE,↓reduceIte,simprocAttr,xk B32 [2,2,2,3,2,2,1,2,2,2,2,2,2,2,2] .sq rfl,rg B32 [1,2,2,2,3,2,2,1,2,2,2,2,2,2,2,2] 28 true rfl,hr 32 28 rfl,fieldAddrV,t_26,t_24,t_39,buildSliceV,fillRows,sm_39,appendV,content,xk B32 [2,2,2,2,3,2,2,1,2,2,2,2,2,2,2,2] .sq rfl,rg B32 [1,2,2,2,2,3,2,2,1,2,2,2,2,2,2,2,2] 29 false rfl,hr 32 29 rfl,callStep,CL,gv,List.contains,t_48,xk B32 [2,2,2,2,2,3,2,2,1,2,2,2,2,2,2,2,2] .rt rfl,fin32,R32.st,o,p,q,s,t,m,z,ab,am,al,ca,cb,cc,aw]
       | o1 fu fv fw fx fy fz =>
        (try dsimp only at l)
        (try simp only [NM,EE,R54b.st] at al)
        have ce:[[jI v,jI b,jU c,jI d,jI e,jI f,jI g,jI h,jI i,jI j,.sl 1 (rowsOf (encI .u8) a)]]=rowsOf encT39 ([(T39.mk v b c d e f g h i j a)]:List T39):=rfl
        have cf:List.map (tell [0,0,0,0,0,0,0,0,0,0,1]) (rowsOf encT39 ([(T39.mk v b c d e f g h i j a)]:List T39))=rowsOf encT39 ([(T39.mk v b c d e f g h i j a)]:List T39):=rfl
        obtain ⟨cg,l⟩:=ifE_some.1 l
        obtain ⟨o97,ch,l⟩:=bs l
        have ax:=f51_ok k 8 _ ch
        cases o97 with
        | o0 ci cj ck cl cm cn co cp cq cr cs ct =>
         (try dsimp only at l)
         (try simp only [NM,EE,R51.st] at ax)
         cases l
         simp (disch:=first|apply D;decide|apply K;kernel_rfl) only [E,EE,↓reduceIte,simprocAttr,xk B32 [2,2,2,3,2,2,1,2,2,2,2,2,2,2,2] .sq rfl,rg B32 [1,2,2,2,3,2,2,1,2,2,2,2,2,2,2,2] 28 true rfl,hr 32 28 rfl,fieldAddrV,t_26,t_24,t_39,buildSliceV,fillRows,sm_39,appendV,content,xk B32 [2,2,2,2,3,2,2,1,2,2,2,2,2,2,2,2] .sq rfl,rg B32 [1,2,2,2,2,3,2,2,1,2,2,2,2,2,2,2,2] 29 false rfl,hr 32 29 rfl,callStep,CL,gv,List.contains,t_48,xk B32 [2,2,2,2,2,3,2,2,1,2,2,2,2,2,2,2,2] .rt rfl,fin32,R32.st,o,p,q,s,t,m,z,ab,am,al,ce,cf,cg,ax]
      ·have hJ:=f32_j4_ok k false e0 w v9 ar v b c d e f g h i j a m6 ac ad ae af ag ah ai aj ak y s0 bv bw bx bz b0 b1 b2 b3 b4 b5 b6 _ l
       simp (disch:=first|apply D;decide|apply K;kernel_rfl) only [E,EE,↓reduceIte,simprocAttr,xk B32 [3,2,3,2,2,1,2,2,2,2,2,2,2,2] .sk rfl,o,p,q,s,t,m,z,ab,am]
       try simp only [NM,EE] at hJ
       exact hJ
   | o1 a0 a1 a2 a3 a4 a5 a6 a7 a8 a9 cu ba =>
    (try dsimp only at l)
    (try simp only [NM,EE,R56.st] at m)
    simp (disch:=first|apply D;decide|apply K;kernel_rfl) only [E,EE,↓reduceIte,simprocAttr,t_39,xk B32 [2,2,2,2,2,2,2,2] .sq rfl,xk B32 [1,2,2,2,2,2,2,2,2] (.bk 1) rfl,xk B32 [2,1,2,2,2,2,2,2,2,2] .sq rfl,rg B32 [1,2,1,2,2,2,2,2,2,2,2] 24 false rfl,hr 32 24 rfl,o,p,q,s,t,m]
    rcases cond_some l with ⟨u,l⟩ | ⟨u,l⟩
    ·obtain ⟨o125,bb,l⟩:=bs l
     have an:=f51_ok k 7 _ bb
     cases o125 with
     | o0 cv cw cx cy cz c0 c1 c2 c3 c4 c5 c6 =>
      (try dsimp only at l)
      (try simp only [NM,EE,R51.st] at an)
      cases l
      simp (disch:=first|apply D;decide|apply K;kernel_rfl) only [E,EE,↓reduceIte,simprocAttr,xk B32 [2,2,1,2,2,2,2,2,2,2,2] (.cd 113) rfl,xk B32 [2,2,2,1,2,2,2,2,2,2,2,2] .sq rfl,rg B32 [1,2,2,2,1,2,2,2,2,2,2,2,2] 25 false rfl,hr 32 25 rfl,callStep,CL,gv,List.contains,t_48,xk B32 [2,2,2,2,1,2,2,2,2,2,2,2,2] .rt rfl,fin32,R32.st,o,p,q,s,t,m,u,an]
    ·simp (disch:=first|apply D;decide|apply K;kernel_rfl) only [E,EE,↓reduceIte,simprocAttr,fieldAddrV,t_26,t_24,xk B32 [2,2,1,2,2,2,2,2,2,2,2] (.cd 113) rfl,o,p,q,s,t,m,u]
     rcases cond_some l with ⟨x,l⟩ | ⟨x,l⟩
     ·obtain ⟨o141,bc,l⟩:=bs l
      have ao:=f51_ok k 7 _ bc
      cases o141 with
      | o0 c7 c8 c9 da db dc dd de df dg dh di =>
       (try dsimp only at l)
       (try simp only [NM,EE,R51.st] at ao)
       cases l
       simp (disch:=first|apply D;decide|apply K;kernel_rfl) only [E,EE,↓reduceIte,simprocAttr,xk B32 [2,2,2,1,2,2,2,2,2,2,2,2] .sq rfl,rg B32 [1,2,2,2,1,2,2,2,2,2,2,2,2] 25 false rfl,hr 32 25 rfl,callStep,CL,gv,List.contains,t_48,xk B32 [2,2,2,2,1,2,2,2,2,2,2,2,2] .rt rfl,fin32,R32.st,o,p,q,s,t,m,u,x,ao]
     ·simp (disch:=first|apply D;decide|apply K;kernel_rfl) only [E,EE,↓reduceIte,simprocAttr,xk B32 [3,2,2,1,2,2,2,2,2,2,2,2] .sq rfl,rg B32 [1,3,2,2,1,2,2,2,2,2,2,2,2] 26 false rfl,hr 32 26 rfl,xk B32 [2,3,2,2,1,2,2,2,2,2,2,2,2] (.cd 126) rfl,o,p,q,s,t,m,u,x]
      rcases cond_some l with ⟨aa,l⟩ | ⟨aa,l⟩
      ·simp (disch:=first|apply D;decide|apply K;kernel_rfl) only [E,EE,↓reduceIte,simprocAttr,xk B32 [2,2,3,2,2,1,2,2,2,2,2,2,2,2] .sq rfl,rg B32 [1,2,2,3,2,2,1,2,2,2,2,2,2,2,2] 27 false rfl,hr 32 27 rfl,t_39,callStep,CL,gv,List.contains,o,p,q,s,t,m,u,x,aa]
       obtain ⟨o157,bd,l⟩:=bs l
       have n:=f54b_ok k v b c d e f g h i j a e0 w v9 ar _ bd
       cases o157 with
       | o0 dj dk dl dm =>
        (try dsimp only at l)
        (try simp only [NM,EE,R54b.st] at n)
        have bf:[[jI v,jI b,jU c,jI d,jI e,jI f,jI g,jI h,jI i,jI j,.sl 1 (rowsOf (encI .u8) a)]]=rowsOf encT39 ([(T39.mk v b c d e f g h i j a)]:List T39):=rfl
        have bg:List.map (tell [0,0,0,0,0,0,0,0,0,0,1]) (rowsOf encT39 ([(T39.mk v b c d e f g h i j a)]:List T39))=rowsOf encT39 ([(T39.mk v b c d e f g h i j a)]:List T39):=rfl
        obtain ⟨bh,l⟩:=ifE_some.1 l
        obtain ⟨o167,bi,l⟩:=bs l
        have ap:=f51_ok k 8 _ bi
        cases o167 with
        | o0 dn dp dq dr ds dt du dv dw dx dy dz =>
         (try dsimp only at l)
         (try simp only [NM,EE,R51.st] at ap)
         cases l
         simp (disch:=first|apply D;decide|apply K;kernel_rfl) only [E,EE,↓reduceIte,simprocAttr,xk B32 [2,2,2,3,2,2,1,2,2,2,2,2,2,2,2] .sq rfl,rg B32 [1,2,2,2,3,2,2,1,2,2,2,2,2,2,2,2] 28 true rfl,hr 32 28 rfl,fieldAddrV,t_26,t_24,t_39,buildSliceV,fillRows,sm_39,appendV,content,xk B32 [2,2,2,2,3,2,2,1,2,2,2,2,2,2,2,2] .sq rfl,rg B32 [1,2,2,2,2,3,2,2,1,2,2,2,2,2,2,2,2] 29 false rfl,hr 32 29 rfl,callStep,CL,gv,List.contains,t_48,xk B32 [2,2,2,2,2,3,2,2,1,2,2,2,2,2,2,2,2] .rt rfl,fin32,R32.st,o,p,q,s,t,m,u,x,aa,n,bf,bg,bh,ap]
       | o1 d0 d1 d2 d3 d4 d5 =>
        (try dsimp only at l)
        (try simp only [NM,EE,R54b.st] at n)
        have bj:[[jI v,jI b,jU c,jI d,jI e,jI f,jI g,jI h,jI i,jI j,.sl 1 (rowsOf (encI .u8) a)]]=rowsOf encT39 ([(T39.mk v b c d e f g h i j a)]:List T39):=rfl
        have bk:List.map (tell [0,0,0,0,0,0,0,0,0,0,1]) (rowsOf encT39 ([(T39.mk v b c d e f g h i j a)]:List T39))=rowsOf encT39 ([(T39.mk v b c d e f g h i j a)]:List T39):=rfl
        obtain ⟨bl,l⟩:=ifE_some.1 l
        obtain ⟨o191,bm,l⟩:=bs l
        have aq:=f51_ok k 8 _ bm
        cases o191 with
        | o0 d6 d7 d8 d9 ea eb ec ed ee ef eg eh =>
         (try dsimp only at l)
         (try simp only [NM,EE,R51.st] at aq)
         cases l
         simp (disch:=first|apply D;decide|apply K;kernel_rfl) only [E,EE,↓reduceIte,simprocAttr,xk B32 [2,2,2,3,2,2,1,2,2,2,2,2,2,2,2] .sq rfl,rg B32 [1,2,2,2,3,2,2,1,2,2,2,2,2,2,2,2] 28 true rfl,hr 32 28 rfl,fieldAddrV,t_26,t_24,t_39,buildSliceV,fillRows,sm_39,appendV,content,xk B32 [2,2,2,2,3,2,2,1,2,2,2,2,2,2,2,2] .sq rfl,rg B32 [1,2,2,2,2,3,2,2,1,2,2,2,2,2,2,2,2] 29 false rfl,hr 32 29 rfl,callStep,CL,gv,List.contains,t_48,xk B32 [2,2,2,2,2,3,2,2,1,2,2,2,2,2,2,2,2] .rt rfl,fin32,R32.st,o,p,q,s,t,m,u,x,aa,n,bj,bk,bl,aq]
      ·have hJ:=f32_j5_ok k false e0 w v9 ar v b c d e f g h i j a m6 ac ad ae af ag ah ai aj ak y s0 a0 a1 a2 a3 a4 a5 a6 a7 a8 a9 ba _ l
       simp (disch:=first|apply D;decide|apply K;kernel_rfl) only [E,EE,↓reduceIte,simprocAttr,xk B32 [3,2,3,2,2,1,2,2,2,2,2,2,2,2] .sk rfl,o,p,q,s,t,m,u,x,aa]
       try simp only [NM,EE] at hJ
       exact hJ
noncomputable def f32_j2 (k:Nat) (a5:Bool) (z l:Int) (r:List T65) (e2:List T39) (m a b c d e f g h i:Int) (j:List Int) (m6 p q s t u v w x y o:Int) (s0:List Int):Option R32 :=
 Option.bind (f34 k m a b c d e f g h i j) fun o1 =>
  match o1 with
  | .o0 v4 =>
   cond (v4)
    (
     Option.bind (f37 k m a b c d e f g h i j) fun o6 =>
      match o6 with
      | .o0 v9 n =>
       Option.bind (f42a k e2 v9 n) fun o11 =>
        match o11 with
        | .o0 aa ba bb =>
         Option.bind (f54b k m a b c d e f g h i j z l r aa) fun o17 =>
          match o17 with
          | .o0 ab ac ad ae =>
           some (.o3 9 m a b c d e f g h i j ab ac ad ae)
          | .o1 af ag ah ai aj ak =>
           some (.o4 9 m a b c d e f g h i j af ag ah ai aj ak)
        | .o1 al am an bc bd =>
         Option.bind (f54a k m a b c d e f g h i j z l al am r an) fun o35 =>
          match o35 with
          | .o0 ao ap aq ar au av =>
           some (.o5 9 m a b c d e f g h i j ao ap aq ar au av)
          | .o1 aw ax ay az a0 a1 a2 a3 =>
           some (.o6 9 m a b c d e f g h i j aw ax ay az a0 a1 a2 a3))
    (f32_j3 k false z l r e2 m a b c d e f g h i j m6 p q s t u v w x y o s0)
theorem f32_j2_ok (k af e0 o e1 e2 m4 c d e f g h i j l q m6 v w x y z n aa ab ac s s0 r) (a:f32_j2 k af e0 o e1 e2 m4 c d e f g h i j l q m6 v w x y z n aa ab ac s s0=some r):finK Try.prog Try.f32 3 (EX 32 k (nav B32 [2,2,2,2,2]) (⟨158,[(0,.ptr 1000000 0),(4,.ptr 4 0),(6,.ptr 6 0),(7,V.p (Value.func (Fn.func 51) #[] #[])),(71,.p (.bool af))],[(1000000,.box 26 [jI e0,jU o,.own 1000001,.own 1000002]),(1000001,.row true 4 65 (rowsOf encT65 e1)),(1000002,.row true 11 39 (rowsOf encT39 e2)),(4,.box 39 [jI m4,jI c,jU d,jI e,jI f,jI g,jI h,jI i,jI j,jI l,.own 63]),(63,.row true 1 5 (rowsOf (encI .u8) q)),(6,.box 48 [jI m6,jI v,jI w,jU x,jI y,jI z,jI n,jI aa,jI ab,jI ac,jI s,.own 700000]),(700000,.row true 1 5 (rowsOf (encI .u8) s0))]⟩:St))=some r.st:=by
 unfold f32_j2 at a
 obtain ⟨o1,h2,a⟩:=bs a
 have m:=f34_ok k m4 c d e f g h i j l q _ h2
 cases o1 with
 | o0 v4 =>
  (try dsimp only at a)
  (try simp only [NM,EE,R34.st] at m)
  simp (disch:=first|apply D;decide|apply K;kernel_rfl) only [E,EE,↓reduceIte,simprocAttr,xk B32 [2,2,2,2,2] .sq rfl,xk B32 [1,2,2,2,2,2] .sq rfl,rg B32 [1,1,2,2,2,2,2] 17 false rfl,hr_32_17,t_39,callStep,CL,gv,List.contains,xk B32 [2,1,2,2,2,2,2] (.cd 82) rfl,m]
  rcases cond_some a with ⟨h5,a⟩ | ⟨h5,a⟩
  ·obtain ⟨o6,h7,a⟩:=bs a
   have p:=f37_ok k m4 c d e f g h i j l q _ h7
   cases o6 with
   | o0 v9 al =>
    (try dsimp only at a)
    (try simp only [NM,EE,R37.st] at p)
    simp (disch:=first|apply D;decide|apply K;kernel_rfl) only [E,EE,↓reduceIte,simprocAttr,xk B32 [2,2,1,2,2,2,2,2] .sq rfl,rg B32 [1,2,2,1,2,2,2,2,2] 18 false rfl,hr 32 18 rfl,t_39,callStep,CL,gv,List.contains,t_79,xk B32 [2,2,2,1,2,2,2,2,2] .sq rfl,rg B32 [1,2,2,2,1,2,2,2,2,2] 19 false rfl,hr 32 19 rfl,fieldAddrV,t_26,t_24,m,h5,p]
    obtain ⟨o11,am,a⟩:=bs a
    have b:=f42a_ok k e2 v9 al _ am
    cases o11 with
    | o0 an ay az =>
     (try dsimp only at a)
     (try simp only [NM,EE,R42a.st] at b)
     simp (disch:=first|apply D;decide|apply K;kernel_rfl) only [E,EE,↓reduceIte,simprocAttr,fieldAddrV,t_26,t_24,xk B32 [2,2,2,2,1,2,2,2,2,2] .sq rfl,rg B32 [1,2,2,2,2,1,2,2,2,2,2] 20 false rfl,hr 32 20 rfl,t_39,callStep,CL,gv,List.contains,m,h5,p,b]
     obtain ⟨o17,ao,a⟩:=bs a
     have t:=f54b_ok k m4 c d e f g h i j l q e0 o e1 an _ ao
     cases o17 with
     | o0 a0 a1 a2 a3 =>
      (try dsimp only at a)
      (try simp only [NM,EE,R54b.st] at t)
      cases a
      simp (disch:=first|apply D;decide|apply K;kernel_rfl) only [E,EE,↓reduceIte,simprocAttr,xk B32 [2,2,2,2,2,1,2,2,2,2,2] .sq rfl,rg B32 [1,2,2,2,2,2,1,2,2,2,2,2] 21 false rfl,hr 32 21 rfl,t_39,bl_48,t_48,xk B32 [2,2,2,2,2,2,1,2,2,2,2,2] .rt rfl,fin32,R32.st,m,h5,p,b,t]
     | o1 a4 a5 a6 a7 a8 a9 =>
      (try dsimp only at a)
      (try simp only [NM,EE,R54b.st] at t)
      cases a
      simp (disch:=first|apply D;decide|apply K;kernel_rfl) only [E,EE,↓reduceIte,simprocAttr,xk B32 [2,2,2,2,2,1,2,2,2,2,2] .sq rfl,rg B32 [1,2,2,2,2,2,1,2,2,2,2,2] 21 false rfl,hr 32 21 rfl,t_39,bl_48,t_48,xk B32 [2,2,2,2,2,2,1,2,2,2,2,2] .rt rfl,fin32,R32.st,m,h5,p,b,t]
    | o1 ap aq ar ba bb =>
     (try dsimp only at a)
     (try simp only [NM,EE,R42a.st] at b)
     simp (disch:=first|apply D;decide|apply K;kernel_rfl) only [E,EE,↓reduceIte,simprocAttr,fieldAddrV,t_26,t_24,xk B32 [2,2,2,2,1,2,2,2,2,2] .sq rfl,rg B32 [1,2,2,2,2,1,2,2,2,2,2] 20 false rfl,hr 32 20 rfl,t_39,callStep,CL,gv,List.contains,m,h5,p,b]
     obtain ⟨o35,au,a⟩:=bs a
     have u:=f54a_ok k m4 c d e f g h i j l q e0 o ap aq e1 ar _ au
     cases o35 with
     | o0 bc bd bf bg bh bi =>
      (try dsimp only at a)
      (try simp only [NM,EE,R54a.st] at u)
      cases a
      simp (disch:=first|apply D;decide|apply K;kernel_rfl) only [E,EE,↓reduceIte,simprocAttr,xk B32 [2,2,2,2,2,1,2,2,2,2,2] .sq rfl,rg B32 [1,2,2,2,2,2,1,2,2,2,2,2] 21 false rfl,hr 32 21 rfl,t_39,bl_48,t_48,xk B32 [2,2,2,2,2,2,1,2,2,2,2,2] .rt rfl,fin32,R32.st,m,h5,p,b,u]
     | o1 bj bk bl bm bn bo bp bq =>
      (try dsimp only at a)
      (try simp only [NM,EE,R54a.st] at u)
      cases a
      simp (disch:=first|apply D;decide|apply K;kernel_rfl) only [E,EE,↓reduceIte,simprocAttr,xk B32 [2,2,2,2,2,1,2,2,2,2,2] .sq rfl,rg B32 [1,2,2,2,2,2,1,2,2,2,2,2] 21 false rfl,hr 32 21 rfl,t_39,bl_48,t_48,xk B32 [2,2,2,2,2,2,1,2,2,2,2,2] .rt rfl,fin32,R32.st,m,h5,p,b,u]
  ·have hJ:=f32_j3_ok k false e0 o e1 e2 m4 c d e f g h i j l q m6 v w x y z n aa ab ac s s0 _ a
   simp (disch:=first|apply D;decide|apply K;kernel_rfl) only [E,EE,↓reduceIte,simprocAttr,xk B32 [3,2,1,2,2,2,2,2] .sk rfl,m,h5]
   try simp only [NM,EE] at hJ
   exact hJ
noncomputable def f32_j1 (k:Nat) (ak:Bool) (r j:Int) (e1:List T65) (e2:List T39) (y a b c d e f g h i:Int) (l:List Int) (m6 o p q s t u v w x m:Int) (s0:List Int):Option R32 :=
 Option.bind (f49 k l) fun o1 =>
  match o1 with
  | .o0 z =>
   cond ((a != r))
    (
     Option.bind (f54b k y a b c d e f g h i z r j e1 e2) fun o6 =>
      match o6 with
      | .o0 v9 n aa ab =>
       some (.o1 6 y a b c d e (IntKind.i64.wrap (f+(1:Int))) g h i v9 n aa z ab)
      | .o1 ac ad ae af ag ah =>
       some (.o2 6 y a b c d e (IntKind.i64.wrap (f+(1:Int))) g h i ac ad ae af ag z ah))
    (f32_j2 k false r j e1 e2 y a b c d e f g h i z m6 o p q s t u v w x m s0)
theorem f32_j1_ok (k aa e0 c e1 e2 m4 d e f g h i j l m a m6 q s t u v w x y z b s0 r) (o:f32_j1 k aa e0 c e1 e2 m4 d e f g h i j l m a m6 q s t u v w x y z b s0=some r):finK Try.prog Try.f32 3 (EX 32 k (nav B32 [2,2,2]) (⟨158,[(0,.ptr 1000000 0),(4,.ptr 4 0),(6,.ptr 6 0),(7,V.p (Value.func (Fn.func 51) #[] #[])),(44,.p (.bool aa))],[(1000000,.box 26 [jI e0,jU c,.own 1000001,.own 1000002]),(1000001,.row true 4 65 (rowsOf encT65 e1)),(1000002,.row true 11 39 (rowsOf encT39 e2)),(4,.box 39 [jI m4,jI d,jU e,jI f,jI g,jI h,jI i,jI j,jI l,jI m,.sl 1 (rowsOf (encI .u8) a)]),(6,.box 48 [jI m6,jI q,jI s,jU t,jI u,jI v,jI w,jI x,jI y,jI z,jI b,.own 700000]),(700000,.row true 1 5 (rowsOf (encI .u8) s0))]⟩:St))=some r.st:=by
 unfold f32_j1 at o
 obtain ⟨o1,h2,o⟩:=bs o
 have p:=f49_ok k a _ h2
 cases o1 with
 | o0 v4 =>
  (try dsimp only at o)
  (try simp only [NM,EE,R49.st] at p)
  simp (disch:=first|apply D;decide|apply K;kernel_rfl) only [E,EE,↓reduceIte,simprocAttr,xk B32 [2,2,2] .sq rfl,rg B32 [1,2,2,2] 12 false rfl,hr 32 12 rfl,fieldAddrV,t_39,t_29,callStep,CL,gv,List.contains,xk B32 [2,2,2,2] .sq rfl,xk B32 [1,2,2,2,2] .sq rfl,rg B32 [1,1,2,2,2,2] 13 true rfl,hr 32 13 rfl,t_3,t_26,xk B32 [2,1,2,2,2,2] (.cd 71) rfl,p]
  rcases cond_some o with ⟨h5,o⟩ | ⟨h5,o⟩
  ·simp (disch:=first|apply D;decide|apply K;kernel_rfl) only [E,EE,↓reduceIte,simprocAttr,xk B32 [2,2,1,2,2,2,2] .sq rfl,rg B32 [1,2,2,1,2,2,2,2] 14 false rfl,hr 32 14 rfl,t_39,callStep,CL,gv,List.contains,p,h5]
   obtain ⟨o6,h7,o⟩:=bs o
   have n:=f54b_ok k m4 d e f g h i j l m v4 e0 c e1 e2 _ h7
   cases o6 with
   | o0 v9 al am an =>
    (try dsimp only at o)
    (try simp only [NM,EE,R54b.st] at n)
    cases o
    simp (disch:=first|apply D;decide|apply K;kernel_rfl) only [E,EE,↓reduceIte,simprocAttr,xk B32 [2,2,2,1,2,2,2,2] .sq rfl,rg B32 [1,2,2,2,1,2,2,2,2] 15 false rfl,hr 32 15 rfl,fieldAddrV,t_39,t_3,xk B32 [2,2,2,2,1,2,2,2,2] .sq rfl,rg B32 [1,2,2,2,2,1,2,2,2,2] 16 false rfl,hr 32 16 rfl,bl_48,t_48,xk B32 [2,2,2,2,2,1,2,2,2,2] .rt rfl,fin32,R32.st,p,h5,n]
   | o1 ao ap aq ar au av =>
    (try dsimp only at o)
    (try simp only [NM,EE,R54b.st] at n)
    cases o
    simp (disch:=first|apply D;decide|apply K;kernel_rfl) only [E,EE,↓reduceIte,simprocAttr,xk B32 [2,2,2,1,2,2,2,2] .sq rfl,rg B32 [1,2,2,2,1,2,2,2,2] 15 false rfl,hr 32 15 rfl,fieldAddrV,t_39,t_3,xk B32 [2,2,2,2,1,2,2,2,2] .sq rfl,rg B32 [1,2,2,2,2,1,2,2,2,2] 16 false rfl,hr 32 16 rfl,bl_48,t_48,xk B32 [2,2,2,2,2,1,2,2,2,2] .rt rfl,fin32,R32.st,p,h5,n]
  ·have hJ:=f32_j2_ok k false e0 c e1 e2 m4 d e f g h i j l m v4 m6 q s t u v w x y z b s0 _ o
   simp (disch:=first|apply D;decide|apply K;kernel_rfl) only [E,EE,↓reduceIte,simprocAttr,xk B32 [3,2,1,2,2,2,2] .sk rfl,p,h5]
   try simp only [NM,EE] at hJ
   exact hJ
noncomputable def f32_e (k:Nat) (q c f g h d e i j l:Int) (a:List Int) (a2 m b:Int) (o:List T65) (p:List T39):Option R32 :=
 Option.bind (f24 k q c f g h d e i j l a) fun o1 =>
  match o1 with
  | .o0 v4 =>
   cond ((v4 != 0))
    (
     Option.bind (f51 k 1) fun o6 =>
      match o6 with
      | .o0 v9 t u v w x y z r n aa ab =>
       some (.o0 v9 t u v w x y z r n aa ab m b o p))
    (
     Option.bind (f44 k q c f g h d e i j l a a2) fun o21 =>
      match o21 with
      | .o0 ac =>
       cond (ac)
        (
         Option.bind (f51 k 2) fun o26 =>
          match o26 with
          | .o0 ad ae af ag ah ai aj ak al am an ao =>
           some (.o0 ad ae af ag ah ai aj ak al am an ao m b o p))
        (
         Option.bind (f53 k q c f g h d e i j l a) fun o41 =>
          match o41 with
          | .o0 ap aq ar au =>
           Option.bind (f52 k o ap aq ar au) fun o48 =>
            match o48 with
            | .o0 av =>
             cond (av)
              (
               Option.bind (f51 k 3) fun o53 =>
                match o53 with
                | .o0 aw ax ay az a0 a3 a4 a5 a6 a7 a8 a9 =>
                 some (.o0 aw ax ay az a0 a3 a4 a5 a6 a7 a8 a9 m b o p))
              (
               cond ((q==m))
                (
                 Option.bind (f51 k 4) fun o69 =>
                  match o69 with
                  | .o0 ba bb bc bd bf bg bh bi bj bk bl bm =>
                   some (.o0 ba bb bc bd bf bg bh bi bj bk bl bm m b o p))
                (
                 cond ((c != m))
                  (
                   cond ((e==d))
                    (
                     Option.bind (f51 k 5) fun o86 =>
                      match o86 with
                      | .o0 bn bo bp bq br bt bu bv bw bx bz s =>
                       some (.o0 bn bo bp bq br bt bu bv bw bx bz s m b o p))
                    (f32_j1 k false m b o p q c f g h d e i j l a 0 0 0 0 0 0 0 0 0 0 0 []))
                  (f32_j1 k false m b o p q c f g h d e i j l a 0 0 0 0 0 0 0 0 0 0 0 [])))))
theorem f32_e_ok (k a1 g h i j l m o p q e a2 e0 v e1 e2 r) (a:f32_e k a1 g h i j l m o p q e a2 e0 v e1 e2=some r):finK Try.prog Try.f32 3 (EX 32 k (nav B32 []) (⟨158,[(0,.ptr 1000000 0),(1,.agg [jI a1,jI g,jU h,jI i,jI j,jI l,jI m,jI o,jI p,jI q,.sl 1 (rowsOf (encI .u8) e)]),(2,jI a2)],[(1000000,.box 26 [jI e0,jU v,.own 1000001,.own 1000002]),(1000001,.row true 4 65 (rowsOf encT65 e1)),(1000002,.row true 11 39 (rowsOf encT39 e2))]⟩:St))=some r.st:=by
 unfold f32_e at a
 obtain ⟨o1,h2,a⟩:=bs a
 have f:=f24_ok k a1 g h i j l m o p q e _ h2
 cases o1 with
 | o0 v4 =>
  (try dsimp only at a)
  (try simp only [NM,EE,R24.st] at f)
  simp (disch:=first|apply D;decide|apply K;kernel_rfl) only [E,EE,↓reduceIte,simprocAttr,xk B32 [] .sq rfl,rg B32 [1] 0 false rfl,hr_32_0,t_48,xk B32 [2] .sq rfl,rg B32 [1,2] 1 false rfl,hr 32 1 rfl,xk B32 [2,2] .sq rfl,xk B32 [1,2,2] (.bk 0) rfl,xk B32 [2,1,2,2] .sq rfl,rg B32 [1,2,1,2,2] 2 false rfl,hr 32 2 rfl,t_39,callStep,CL,gv,List.contains,xk B32 [2,2,1,2,2] (.cd 12) rfl,f]
  rcases cond_some a with ⟨w,a⟩ | ⟨w,a⟩
  ·obtain ⟨o6,h7,a⟩:=bs a
   have ae:=f51_ok k 1 _ h7
   cases o6 with
   | o0 v9 ay az a0 a3 a4 a5 a6 a7 a8 a9 ba =>
    (try dsimp only at a)
    (try simp only [NM,EE,R51.st] at ae)
    cases a
    simp (disch:=first|apply D;decide|apply K;kernel_rfl) only [E,EE,↓reduceIte,simprocAttr,xk B32 [2,2,2,1,2,2] .sq rfl,rg B32 [1,2,2,2,1,2,2] 3 false rfl,hr 32 3 rfl,callStep,CL,gv,List.contains,t_48,xk B32 [2,2,2,2,1,2,2] .rt rfl,fin32,R32.st,f,w,ae]
  ·obtain ⟨o21,ai,a⟩:=bs a
   have b:=f44_ok k a1 g h i j l m o p q e a2 _ ai
   cases o21 with
   | o0 bb =>
    (try dsimp only at a)
    (try simp only [NM,EE,R44.st] at b)
    simp (disch:=first|apply D;decide|apply K;kernel_rfl) only [E,EE,↓reduceIte,simprocAttr,xk B32 [3,2,2,1,2,2] .sq rfl,rg B32 [1,3,2,2,1,2,2] 4 false rfl,hr 32 4 rfl,t_39,callStep,CL,gv,List.contains,xk B32 [2,3,2,2,1,2,2] (.cd 18) rfl,f,w,b]
    rcases cond_some a with ⟨s,a⟩ | ⟨s,a⟩
    ·obtain ⟨o26,aj,a⟩:=bs a
     have y:=f51_ok k 2 _ aj
     cases o26 with
     | o0 bc bd bf bg bh bi bj bk bl bm bn bo =>
      (try dsimp only at a)
      (try simp only [NM,EE,R51.st] at y)
      cases a
      simp (disch:=first|apply D;decide|apply K;kernel_rfl) only [E,EE,↓reduceIte,simprocAttr,xk B32 [2,2,3,2,2,1,2,2] .sq rfl,rg B32 [1,2,2,3,2,2,1,2,2] 5 false rfl,hr 32 5 rfl,callStep,CL,gv,List.contains,t_48,xk B32 [2,2,2,3,2,2,1,2,2] .rt rfl,fin32,R32.st,f,w,b,s,y]
    ·obtain ⟨o41,ak,a⟩:=bs a
     have c:=f53_ok k a1 g h i j l m o p q e _ ak
     cases o41 with
     | o0 al am an ao =>
      (try dsimp only at a)
      (try simp only [NM,EE,R53.st] at c)
      obtain ⟨o48,ap,a⟩:=bs a
      have d:=f52_ok k e1 al am an ao _ ap
      cases o48 with
      | o0 bp =>
       (try dsimp only at a)
       (try simp only [NM,EE,R52.st] at d)
       simp (disch:=first|apply D;decide|apply K;kernel_rfl) only [E,EE,↓reduceIte,simprocAttr,xk B32 [3,2,3,2,2,1,2,2] .sq rfl,rg B32 [1,3,2,3,2,2,1,2,2] 6 true rfl,hr 32 6 rfl,fieldAddrV,t_26,t_23,t_39,callStep,CL,gv,List.contains,xk B32 [2,3,2,3,2,2,1,2,2] (.cd 24) rfl,f,w,b,s,c,d]
       rcases cond_some a with ⟨t,a⟩ | ⟨t,a⟩
       ·obtain ⟨o53,aq,a⟩:=bs a
        have z:=f51_ok k 3 _ aq
        cases o53 with
        | o0 bq br bt bu bv bw bx bz b0 b1 b2 b3 =>
         (try dsimp only at a)
         (try simp only [NM,EE,R51.st] at z)
         cases a
         simp (disch:=first|apply D;decide|apply K;kernel_rfl) only [E,EE,↓reduceIte,simprocAttr,xk B32 [2,2,3,2,3,2,2,1,2,2] .sq rfl,rg B32 [1,2,2,3,2,3,2,2,1,2,2] 7 false rfl,hr 32 7 rfl,callStep,CL,gv,List.contains,t_48,xk B32 [2,2,2,3,2,3,2,2,1,2,2] .rt rfl,fin32,R32.st,f,w,b,s,c,d,t,z]
       ·simp (disch:=first|apply D;decide|apply K;kernel_rfl) only [E,EE,↓reduceIte,simprocAttr,xk B32 [3,2,3,2,3,2,2,1,2,2] .sq rfl,rg B32 [1,3,2,3,2,3,2,2,1,2,2] 8 true rfl,hr 32 8 rfl,fieldAddrV,t_39,t_3,t_26,xk B32 [2,3,2,3,2,3,2,2,1,2,2] (.cd 34) rfl,f,w,b,s,c,d,t]
        rcases cond_some a with ⟨u,a⟩ | ⟨u,a⟩
        ·obtain ⟨o69,ar,a⟩:=bs a
         have n:=f51_ok k 4 _ ar
         cases o69 with
         | o0 b4 b5 b6 b7 b8 b9 ca cb cc cd ce cf =>
          (try dsimp only at a)
          (try simp only [NM,EE,R51.st] at n)
          cases a
          simp (disch:=first|apply D;decide|apply K;kernel_rfl) only [E,EE,↓reduceIte,simprocAttr,xk B32 [2,2,3,2,3,2,3,2,2,1,2,2] .sq rfl,rg B32 [1,2,2,3,2,3,2,3,2,2,1,2,2] 9 false rfl,hr 32 9 rfl,callStep,CL,gv,List.contains,t_48,xk B32 [2,2,2,3,2,3,2,3,2,2,1,2,2] .rt rfl,fin32,R32.st,f,w,b,s,c,d,t,u,n]
        ·simp (disch:=first|apply D;decide|apply K;kernel_rfl) only [E,EE,↓reduceIte,simprocAttr,xk B32 [3,2,3,2,3,2,3,2,2,1,2,2] .sq rfl,rg B32 [1,3,2,3,2,3,2,3,2,2,1,2,2] 10 true rfl,hr 32 10 rfl,fieldAddrV,t_39,t_3,t_26,f,w,b,s,c,d,t,u]
         rcases cond_some a with ⟨x,a⟩ | ⟨x,a⟩
         ·simp (disch:=first|apply D;decide|apply K;kernel_rfl) only [E,EE,↓reduceIte,simprocAttr,fieldAddrV,t_39,t_3,xk B32 [2,3,2,3,2,3,2,3,2,2,1,2,2] (.cd 44) rfl,f,w,b,s,c,d,t,u,x]
          rcases cond_some a with ⟨ac,a⟩ | ⟨ac,a⟩
          ·obtain ⟨o86,au,a⟩:=bs a
           have aa:=f51_ok k 5 _ au
           cases o86 with
           | o0 cg ch ci cj ck cl cm cn co cp cq av =>
            (try dsimp only at a)
            (try simp only [NM,EE,R51.st] at aa)
            cases a
            simp (disch:=first|apply D;decide|apply K;kernel_rfl) only [E,EE,↓reduceIte,simprocAttr,xk B32 [2,2,3,2,3,2,3,2,3,2,2,1,2,2] .sq rfl,rg B32 [1,2,2,3,2,3,2,3,2,3,2,2,1,2,2] 11 false rfl,hr 32 11 rfl,callStep,CL,gv,List.contains,t_48,xk B32 [2,2,2,3,2,3,2,3,2,3,2,2,1,2,2] .rt rfl,fin32,R32.st,f,w,b,s,c,d,t,u,x,ac,aa]
          ·have hJ:=f32_j1_ok k false e0 v e1 e2 a1 g h i j l m o p q e 0 0 0 0 0 0 0 0 0 0 0 [] _ a
           simp (disch:=first|apply D;decide|apply K;kernel_rfl) only [E,EE,↓reduceIte,simprocAttr,xk B32 [3,2,3,2,3,2,3,2,3,2,2,1,2,2] .sk rfl,f,w,b,s,c,d,t,u,x,ac]
           try simp only [NM,EE] at hJ
           exact hJ
         ·have hJ:=f32_j1_ok k false e0 v e1 e2 a1 g h i j l m o p q e 0 0 0 0 0 0 0 0 0 0 0 [] _ a
          simp (disch:=first|apply D;decide|apply K;kernel_rfl) only [E,EE,↓reduceIte,simprocAttr,xk B32 [2,3,2,3,2,3,2,3,2,2,1,2,2] (.cd 44) rfl,xk B32 [3,2,3,2,3,2,3,2,3,2,2,1,2,2] .sk rfl,f,w,b,s,c,d,t,u,x]
          try simp only [NM,EE] at hJ
          exact hJ
noncomputable def f32 (k:Nat) (m b c d e f g h i j:Int) (a:List Int) (o p l:Int) (q:List T65) (s:List T39):Option R32:=match k with | 0=>none | k+1=>f32_e k m b c d e f g h i j a o p l q s
theorem f32_ok (k o b d e f g h i j l a p q m s t r) (u:f32 k o b d e f g h i j l a p q m s t=some r):CV k 32 [.ptr 1000000 0,.agg [jI o,jI b,jU d,jI e,jI f,jI g,jI h,jI i,jI j,jI l,.sl 1 (rowsOf (encI .u8) a)],jI p] [.box 26 [jI q,jU m,.own 1000001,.own 1000002],.row true 4 65 (rowsOf encT65 s),.row true 11 39 (rowsOf encT39 t)]=some r.st:=by
 cases k with
 | zero=>cases u
 | succ k =>
  unfold CV
  rw [ev_call (F:=Try.f32) (c:=(nav B32 [])) rfl Try.func32 rfl rfl rfl rfl]
  exact f32_e_ok k o b d e f g h i j l a p q m s t r u
end Go.Proofs.YticggdfaehneeaaV