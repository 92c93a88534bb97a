/- What the program's functions answer: plain functions,and that the interpreter answers what they do. Written by a program of this session,out of the translation. -/
import Derived.Test.YtbnnmplkbpgcaaaDoorVP8
namespace Go.Proofs.YtbnnmplkbpgcaaaDoorV
open Go
set_option linter.unusedVariables false
set_option linter.unusedSimpArgs false
set_option maxRecDepth 8000
set_option maxHeartbeats 4000000
-- f14: f14 heliograph/bundle.Encode
inductive R14 where
 | o0 (y:List Int) (a:Int)
 | o1 (y:Int) (a:List Int)
noncomputable def R14.st:R14→V×List O×List O
 | .o0 y a=>(V.tup [jB y,jI a],[],[])
 | .o1 y a=>(V.tup [.own 2000000,jI y],[],[.row true 1 5 (rowsOf (encI .u8) a)])
noncomputable def f14_j3 (k:Nat) (a:List Int) (b:Bool):Option R14 :=
 some (.o0 a 0)
theorem f14_j3_ok (k b a r) (c:f14_j3 k b a=some r):finK Tryd.prog Tryd.f14 0 (EX 14 k (nav B14 [2,2,2,2,2,2]) (⟨60,[(7,jB b),(58,jT a)],[]⟩:St))=some r.st:=by
 unfold f14_j3 at c
 cases c
 simp (disch:=first|apply D;decide|apply K;kernel_rfl) only [W,simprocAttr,xk B14 [2,2,2,2,2,2] .sq rfl,rg B14 [1,2,2,2,2,2,2] 10 false rfl,hr 14 10 rfl,xk B14 [2,2,2,2,2,2,2] .rt rfl,fin14,R14.st]
noncomputable def f14_j4 (k:Nat) (b:Bool) (a:List Int):Option R14 :=
 some (.o1 0 a)
theorem f14_j4_ok (k a b r) (c:f14_j4 k a b=some r):finK Tryd.prog Tryd.f14 0 (EX 14 k (nav B14 [2,2,2,2,2,2]) (⟨60,[(7,.own 54),(58,jT a)],[(54,.row true 1 5 (rowsOf (encI .u8) b))]⟩:St))=some r.st:=by
 unfold f14_j4 at c
 cases c
 simp (disch:=first|apply D;decide|apply K;kernel_rfl) only [W,simprocAttr,xk B14 [2,2,2,2,2,2] .sq rfl,rg B14 [1,2,2,2,2,2,2] 10 false rfl,hr 14 10 rfl,xk B14 [2,2,2,2,2,2,2] .rt rfl,fin14,R14.st]
noncomputable def f14_j2 (k:Nat) (x5:List Int) (af:Bool) (m1 y z r n aa b ab ac ad:Int) (a:List Int):Option R14 :=
 Option.bind (f35 k x5) fun o1 =>
  match o1 with
  | .o0 v4 =>
   Option.bind (f34 k v4) fun o5 =>
    match o5 with
    | .o0 v8 v9 c d =>
     Option.bind (f36 k (IntKind.u64.wrap b)) fun o12 =>
      match o12 with
      | .o0 e f g h =>
       Option.bind (f37 k a) fun o19 =>
        match o19 with
        | .o0 i =>
         Option.bind (f34 k i) fun o23 =>
          match o23 with
          | .o0 j l m o =>
           Option.bind (f33 k (([(T50.mk v8 v9 d c),(T50.mk e f g h),(T50.mk j l o m)]:List T50))) fun o32 =>
            match o32 with
            | .o0 p q s t =>
             Option.bind (f31 k p q s t) fun o39 =>
              match o39 with
              | .o0 u v =>
               cond ((v != 0))
                (some (.o0 [] 190))
                (f14_j3 k u false)
              | .o1 w x =>
               cond ((w != 0))
                (some (.o0 [] 190))
                (f14_j4 k false x)
theorem f14_j2_ok (k x5 ai m1 z n aa ab ac m ad ae af i r) (a:f14_j2 k x5 ai m1 z n aa ab ac m ad ae af i=some r):finK Tryd.prog Tryd.f14 0 (EX 14 k (nav B14 [2,2,2,2]) (⟨60,[(1,.ptr 1 0),(5,jB x5),(39,jT ai)],[(1,.box 26 [jI m1,jI z,jU n,jI aa,jI ab,jI ac,jI m,jI ad,jI ae,jI af,jB i])]⟩:St))=some r.st:=by
 unfold f14_j2 at a
 obtain ⟨o1,h2,a⟩:=bs a
 have g:=f35_ok k x5 _ h2
 cases o1 with
 | o0 v4 =>
  (try dsimp only at a)
  (try simp only [NM,EE,R35.st] at g)
  obtain ⟨o5,h6,a⟩:=bs a
  have h:=f34_ok k v4 _ h6
  cases o5 with
  | o0 v8 v9 o p =>
   (try dsimp only at a)
   (try simp only [NM,EE,R34.st] at h)
   obtain ⟨o12,am,a⟩:=bs a
   have b:=f36_ok k (IntKind.u64.wrap m) _ am
   cases o12 with
   | o0 q s t u =>
    (try dsimp only at a)
    (try simp only [NM,EE,R36.st] at b)
    obtain ⟨o19,an,a⟩:=bs a
    have c:=f37_ok k i _ an
    cases o19 with
    | o0 ao =>
     (try dsimp only at a)
     (try simp only [NM,EE,R37.st] at c)
     obtain ⟨o23,ap,a⟩:=bs a
     have d:=f34_ok k ao _ ap
     cases o23 with
     | o0 v w x y =>
      (try dsimp only at a)
      (try simp only [NM,EE,R34.st] at d)
      have j:[[jI v8,jL v9,jB p,.sl 4 (rowsOf encT50 o)],[jI q,jL s,jB t,.sl 4 (rowsOf encT50 u)],[jI v,jL w,jB y,.sl 4 (rowsOf encT50 x)]]=rowsOf encT50 ([(T50.mk v8 v9 p o),(T50.mk q s t u),(T50.mk v w y x)]:List T50):=by first | rfl | simp only [jB,rowsOf,List.map_cons,List.map_nil,encT50_eq]
      have l:List.map (tell [0,0,1,4]) (rowsOf encT50 ([(T50.mk v8 v9 p o),(T50.mk q s t u),(T50.mk v w y x)]:List T50))=rowsOf encT50 ([(T50.mk v8 v9 p o),(T50.mk q s t u),(T50.mk v w y x)]:List T50):=by first | rfl | simp only [jB,rowsOf,List.map_cons,List.map_nil,encT50_eq]
      obtain ⟨o32,aq,a⟩:=bs a
      have e:=f33_ok k (([(T50.mk v8 v9 p o),(T50.mk q s t u),(T50.mk v w y x)]:List T50)) _ aq
      cases o32 with
      | o0 ar au av aw =>
       (try dsimp only at a)
       (try simp only [NM,EE,R33.st] at e)
       simp (disch:=first|apply D;decide|apply K;kernel_rfl) only [W,simprocAttr,xk B14 [2,2,2,2] .sq rfl,rg B14 [1,2,2,2,2] 7 true rfl,hr 14 7 rfl,callStep,CL,gv,List.contains,fieldAddrV,t_26,t_3,t_47,convV,t_22,buildSliceV,fillRows,sm_50,t_48,t_50,g,h,b,c,d,j,l,e]
       obtain ⟨o39,ax,a⟩:=bs a
       have f:=f31_ok k ar au av aw _ ax
       cases o39 with
       | o0 ay a4 =>
        (try dsimp only at a)
        (try simp only [NM,EE,R31.st] at f)
        simp (disch:=first|apply D;decide|apply K;kernel_rfl) only [W,simprocAttr,xk B14 [2,2,2,2,2] .sq rfl,xk B14 [1,2,2,2,2,2] .sq rfl,rg B14 [1,1,2,2,2,2,2] 8 false rfl,hr 14 8 rfl,xk B14 [2,1,2,2,2,2,2] (.cd 58) rfl,g,h,b,c,d,j,l,e,f]
        rcases cond_some a with ⟨ag,a⟩ | ⟨ag,a⟩
        ·cases a
         simp (disch:=first|apply D;decide|apply K;kernel_rfl) only [W,simprocAttr,xk B14 [2,2,1,2,2,2,2,2] .sq rfl,rg B14 [1,2,2,1,2,2,2,2,2] 9 false rfl,hr_14_9,xk B14 [2,2,2,1,2,2,2,2,2] .rt rfl,fin14,R14.st,g,h,b,c,d,j,l,e,f,ag]
        ·have hJ:=f14_j3_ok k ay false _ a
         simp (disch:=first|apply D;decide|apply K;kernel_rfl) only [W,simprocAttr,xk B14 [3,2,1,2,2,2,2,2] .sk rfl,g,h,b,c,d,j,l,e,f,ag]
         try simp only [NM,EE] at hJ
         exact hJ
       | o1 a5 az =>
        (try dsimp only at a)
        (try simp only [NM,EE,R31.st] at f)
        simp (disch:=first|apply D;decide|apply K;kernel_rfl) only [W,simprocAttr,xk B14 [2,2,2,2,2] .sq rfl,xk B14 [1,2,2,2,2,2] .sq rfl,rg B14 [1,1,2,2,2,2,2] 8 false rfl,hr 14 8 rfl,xk B14 [2,1,2,2,2,2,2] (.cd 58) rfl,g,h,b,c,d,j,l,e,f]
        rcases cond_some a with ⟨ah,a⟩ | ⟨ah,a⟩
        ·cases a
         simp (disch:=first|apply D;decide|apply K;kernel_rfl) only [W,simprocAttr,xk B14 [2,2,1,2,2,2,2,2] .sq rfl,rg B14 [1,2,2,1,2,2,2,2,2] 9 false rfl,hr_14_9,xk B14 [2,2,2,1,2,2,2,2,2] .rt rfl,fin14,R14.st,g,h,b,c,d,j,l,e,f,ah]
        ·have hJ:=f14_j4_ok k false az _ a
         simp (disch:=first|apply D;decide|apply K;kernel_rfl) only [W,simprocAttr,xk B14 [3,2,1,2,2,2,2,2] .sk rfl,g,h,b,c,d,j,l,e,f,ah]
         try simp only [NM,EE] at hJ
         exact hJ
noncomputable def f14_j5 (k:Nat) (af:Bool) (m1 z r n aa ab b ac ad ae:Int) (a c:List Int):Option R14 :=
 Option.bind (f35 k c) fun o1 =>
  match o1 with
  | .o0 v4 =>
   Option.bind (f34 k v4) fun o5 =>
    match o5 with
    | .o0 v8 v9 d e =>
     Option.bind (f36 k (IntKind.u64.wrap b)) fun o12 =>
      match o12 with
      | .o0 f g h i =>
       Option.bind (f37 k a) fun o19 =>
        match o19 with
        | .o0 j =>
         Option.bind (f34 k j) fun o23 =>
          match o23 with
          | .o0 l m o p =>
           Option.bind (f33 k (([(T50.mk v8 v9 e d),(T50.mk f g h i),(T50.mk l m p o)]:List T50))) fun o32 =>
            match o32 with
            | .o0 q s t u =>
             Option.bind (f31 k q s t u) fun o39 =>
              match o39 with
              | .o0 v w =>
               cond ((w != 0))
                (some (.o0 [] 190))
                (f14_j3 k v false)
              | .o1 x y =>
               cond ((x != 0))
                (some (.o0 [] 190))
                (f14_j4 k false y)
theorem f14_j5_ok (k aj m1 z n aa ab ac m ad ae af i ag r) (a:f14_j5 k aj m1 z n aa ab ac m ad ae af i ag=some r):finK Tryd.prog Tryd.f14 0 (EX 14 k (nav B14 [2,2,2,2]) (⟨60,[(1,.ptr 1 0),(5,.own 35),(39,jT aj)],[(1,.box 26 [jI m1,jI z,jU n,jI aa,jI ab,jI ac,jI m,jI ad,jI ae,jI af,jB i]),(35,.row true 1 5 (rowsOf (encI .u8) ag))]⟩:St))=some r.st:=by
 unfold f14_j5 at a
 obtain ⟨o1,h2,a⟩:=bs a
 have g:=f35_ok k ag _ h2
 cases o1 with
 | o0 v4 =>
  (try dsimp only at a)
  (try simp only [NM,EE,R35.st] at g)
  obtain ⟨o5,h6,a⟩:=bs a
  have h:=f34_ok k v4 _ h6
  cases o5 with
  | o0 v8 v9 o p =>
   (try dsimp only at a)
   (try simp only [NM,EE,R34.st] at h)
   obtain ⟨o12,am,a⟩:=bs a
   have b:=f36_ok k (IntKind.u64.wrap m) _ am
   cases o12 with
   | o0 q s t u =>
    (try dsimp only at a)
    (try simp only [NM,EE,R36.st] at b)
    obtain ⟨o19,an,a⟩:=bs a
    have c:=f37_ok k i _ an
    cases o19 with
    | o0 ao =>
     (try dsimp only at a)
     (try simp only [NM,EE,R37.st] at c)
     obtain ⟨o23,ap,a⟩:=bs a
     have d:=f34_ok k ao _ ap
     cases o23 with
     | o0 v w x y =>
      (try dsimp only at a)
      (try simp only [NM,EE,R34.st] at d)
      have j:[[jI v8,jL v9,jB p,.sl 4 (rowsOf encT50 o)],[jI q,jL s,jB t,.sl 4 (rowsOf encT50 u)],[jI v,jL w,jB y,.sl 4 (rowsOf encT50 x)]]=rowsOf encT50 ([(T50.mk v8 v9 p o),(T50.mk q s t u),(T50.mk v w y x)]:List T50):=by first | rfl | simp only [jB,rowsOf,List.map_cons,List.map_nil,encT50_eq]
      have l:List.map (tell [0,0,1,4]) (rowsOf encT50 ([(T50.mk v8 v9 p o),(T50.mk q s t u),(T50.mk v w y x)]:List T50))=rowsOf encT50 ([(T50.mk v8 v9 p o),(T50.mk q s t u),(T50.mk v w y x)]:List T50):=by first | rfl | simp only [jB,rowsOf,List.map_cons,List.map_nil,encT50_eq]
      obtain ⟨o32,aq,a⟩:=bs a
      have e:=f33_ok k (([(T50.mk v8 v9 p o),(T50.mk q s t u),(T50.mk v w y x)]:List T50)) _ aq
      cases o32 with
      | o0 ar au av aw =>
       (try dsimp only at a)
       (try simp only [NM,EE,R33.st] at e)
       simp (disch:=first|apply D;decide|apply K;kernel_rfl) only [W,simprocAttr,xk B14 [2,2,2,2] .sq rfl,rg B14 [1,2,2,2,2] 7 true rfl,hr 14 7 rfl,callStep,CL,gv,List.contains,fieldAddrV,t_26,t_3,t_47,convV,t_22,buildSliceV,fillRows,sm_50,t_48,t_50,g,h,b,c,d,j,l,e]
       obtain ⟨o39,ax,a⟩:=bs a
       have f:=f31_ok k ar au av aw _ ax
       cases o39 with
       | o0 ay a4 =>
        (try dsimp only at a)
        (try simp only [NM,EE,R31.st] at f)
        simp (disch:=first|apply D;decide|apply K;kernel_rfl) only [W,simprocAttr,xk B14 [2,2,2,2,2] .sq rfl,xk B14 [1,2,2,2,2,2] .sq rfl,rg B14 [1,1,2,2,2,2,2] 8 false rfl,hr 14 8 rfl,xk B14 [2,1,2,2,2,2,2] (.cd 58) rfl,g,h,b,c,d,j,l,e,f]
        rcases cond_some a with ⟨ah,a⟩ | ⟨ah,a⟩
        ·cases a
         simp (disch:=first|apply D;decide|apply K;kernel_rfl) only [W,simprocAttr,xk B14 [2,2,1,2,2,2,2,2] .sq rfl,rg B14 [1,2,2,1,2,2,2,2,2] 9 false rfl,hr_14_9,xk B14 [2,2,2,1,2,2,2,2,2] .rt rfl,fin14,R14.st,g,h,b,c,d,j,l,e,f,ah]
        ·have hJ:=f14_j3_ok k ay false _ a
         simp (disch:=first|apply D;decide|apply K;kernel_rfl) only [W,simprocAttr,xk B14 [3,2,1,2,2,2,2,2] .sk rfl,g,h,b,c,d,j,l,e,f,ah]
         try simp only [NM,EE] at hJ
         exact hJ
       | o1 a5 az =>
        (try dsimp only at a)
        (try simp only [NM,EE,R31.st] at f)
        simp (disch:=first|apply D;decide|apply K;kernel_rfl) only [W,simprocAttr,xk B14 [2,2,2,2,2] .sq rfl,xk B14 [1,2,2,2,2,2] .sq rfl,rg B14 [1,1,2,2,2,2,2] 8 false rfl,hr 14 8 rfl,xk B14 [2,1,2,2,2,2,2] (.cd 58) rfl,g,h,b,c,d,j,l,e,f]
        rcases cond_some a with ⟨ai,a⟩ | ⟨ai,a⟩
        ·cases a
         simp (disch:=first|apply D;decide|apply K;kernel_rfl) only [W,simprocAttr,xk B14 [2,2,1,2,2,2,2,2] .sq rfl,rg B14 [1,2,2,1,2,2,2,2,2] 9 false rfl,hr_14_9,xk B14 [2,2,2,1,2,2,2,2,2] .rt rfl,fin14,R14.st,g,h,b,c,d,j,l,e,f,ai]
        ·have hJ:=f14_j4_ok k false az _ a
         simp (disch:=first|apply D;decide|apply K;kernel_rfl) only [W,simprocAttr,xk B14 [3,2,1,2,2,2,2,2] .sk rfl,g,h,b,c,d,j,l,e,f,ai]
         try simp only [NM,EE] at hJ
         exact hJ
noncomputable def f14_j1 (k:Nat) (x:Int) (s:Bool) (l a b c d e j f g h:Int) (i:List Int):Option R14 :=
 Option.bind (f32 k ([7,a,l,(IntKind.i64.wrap b),c,d,g,h,f,e]:List Int)) fun o3 =>
  match o3 with
  | .o0 t u v w =>
   Option.bind (f31 k t u v w) fun o10 =>
    match o10 with
    | .o0 m o =>
     cond ((o != 0))
      (some (.o0 [] 190))
      (f14_j2 k m false l a b c d e j f g h i)
    | .o1 p q =>
     cond ((p != 0))
      (some (.o0 [] 190))
      (f14_j5 k false l a b c d e j f g h i q)
theorem f14_j1_ok (k z v p a b c d e o f g h j r) (l:f14_j1 k z v p a b c d e o f g h j=some r):finK Tryd.prog Tryd.f14 0 (EX 14 k (nav B14 [2,2]) (⟨60,[(1,.ptr 1 0),(4,jI z),(11,jT v)],[(1,.box 26 [jI p,jI a,jU b,jI c,jI d,jI e,jI o,jI f,jI g,jI h,jB j])]⟩:St))=some r.st:=by
 unfold f14_j1 at l
 have q:[[jI 7],[jI a],[jI p],[(jI (IntKind.i64.wrap b))],[jI c],[jI d],[jI g],[jI h],[jI f],[jI e]]=rowsOf (encI .i64) ([7,a,p,(IntKind.i64.wrap b),c,d,g,h,f,e]:List Int):=rfl
 have s:List.map (tell [0]) (rowsOf (encI .i64) ([7,a,p,(IntKind.i64.wrap b),c,d,g,h,f,e]:List Int))=rowsOf (encI .i64) ([7,a,p,(IntKind.i64.wrap b),c,d,g,h,f,e]:List Int):=rfl
 obtain ⟨o3,n,l⟩:=bs l
 have m:=f32_ok k ([7,a,p,(IntKind.i64.wrap b),c,d,g,h,f,e]:List Int) _ n
 cases o3 with
 | o0 v6 v7 v8 v9 =>
  (try dsimp only at l)
  (try simp only [NM,EE,R32.st] at m)
  simp (disch:=first|apply D;decide|apply K;kernel_rfl) only [W,simprocAttr,xk B14 [2,2] .sq rfl,rg B14 [1,2,2] 4 false rfl,hr 14 4 rfl,fieldAddrV,t_26,t_3,t_24,convV,buildSliceV,fillRows,sm_3,t_66,callStep,CL,gv,List.contains,q,s,m]
  obtain ⟨o10,w,l⟩:=bs l
  have i:=f31_ok k v6 v7 v8 v9 _ w
  cases o10 with
  | o0 x ae =>
   (try dsimp only at l)
   (try simp only [NM,EE,R31.st] at i)
   simp (disch:=first|apply D;decide|apply K;kernel_rfl) only [W,simprocAttr,xk B14 [2,2,2] .sq rfl,xk B14 [1,2,2,2] .sq rfl,rg B14 [1,1,2,2,2] 5 false rfl,hr 14 5 rfl,xk B14 [2,1,2,2,2] (.cd 39) rfl,q,s,m,i]
   rcases cond_some l with ⟨t,l⟩ | ⟨t,l⟩
   ·cases l
    simp (disch:=first|apply D;decide|apply K;kernel_rfl) only [W,simprocAttr,xk B14 [2,2,1,2,2,2] .sq rfl,rg B14 [1,2,2,1,2,2,2] 6 false rfl,hr_14_6,xk B14 [2,2,2,1,2,2,2] .rt rfl,fin14,R14.st,q,s,m,i,t]
   ·have hJ:=f14_j2_ok k x false p a b c d e o f g h j _ l
    simp (disch:=first|apply D;decide|apply K;kernel_rfl) only [W,simprocAttr,xk B14 [3,2,1,2,2,2] .sk rfl,q,s,m,i,t]
    try simp only [NM,EE] at hJ
    exact hJ
  | o1 af y =>
   (try dsimp only at l)
   (try simp only [NM,EE,R31.st] at i)
   simp (disch:=first|apply D;decide|apply K;kernel_rfl) only [W,simprocAttr,xk B14 [2,2,2] .sq rfl,xk B14 [1,2,2,2] .sq rfl,rg B14 [1,1,2,2,2] 5 false rfl,hr 14 5 rfl,xk B14 [2,1,2,2,2] (.cd 39) rfl,q,s,m,i]
   rcases cond_some l with ⟨u,l⟩ | ⟨u,l⟩
   ·cases l
    simp (disch:=first|apply D;decide|apply K;kernel_rfl) only [W,simprocAttr,xk B14 [2,2,1,2,2,2] .sq rfl,rg B14 [1,2,2,1,2,2,2] 6 false rfl,hr_14_6,xk B14 [2,2,2,1,2,2,2] .rt rfl,fin14,R14.st,q,s,m,i,u]
   ·have hJ:=f14_j5_ok k false p a b c d e o f g h j y _ l
    simp (disch:=first|apply D;decide|apply K;kernel_rfl) only [W,simprocAttr,xk B14 [3,2,1,2,2,2] .sk rfl,q,s,m,i,u]
    try simp only [NM,EE] at hJ
    exact hJ
noncomputable def f14_e (k:Nat) (m b c d e f g h i j:Int) (a:List Int):Option R14 :=
 Option.bind (f16 k m b c d e f g h i j a) fun o1 =>
  match o1 with
  | .o0 l =>
   cond ((l != 0))
    (some (.o0 [] l))
    (f14_j1 k l false m b c d e f g h i j a)
theorem f14_e_ok (k o b c d e f g h i j a r) (l:f14_e k o b c d e f g h i j a=some r):finK Tryd.prog Tryd.f14 0 (EX 14 k (nav B14 []) (⟨60,[(0,.agg [jI o,jI b,jU c,jI d,jI e,jI f,jI g,jI h,jI i,jI j,jB a])],[]⟩:St))=some r.st:=by
 unfold f14_e at l
 obtain ⟨o1,q,l⟩:=bs l
 have m:=f16_ok k o b c d e f g h i j a _ q
 cases o1 with
 | o0 s =>
  (try dsimp only at l)
  (try simp only [NM,EE,R16.st] at m)
  simp (disch:=first|apply D;decide|apply K;kernel_rfl) only [W,simprocAttr,xk B14 [] .sq rfl,rg B14 [1] 0 false rfl,hr 14 0 rfl,xk B14 [2] .sq rfl,xk B14 [1,2] .sq rfl,rg B14 [1,1,2] 1 false rfl,hr 14 1 rfl,t_26,callStep,CL,gv,List.contains,xk B14 [2,1,2] .sq rfl,rg B14 [1,2,1,2] 2 false rfl,hr 14 2 rfl,xk B14 [2,2,1,2] (.cd 11) rfl,m]
  rcases cond_some l with ⟨p,l⟩ | ⟨p,l⟩
  ·cases l
   simp (disch:=first|apply D;decide|apply K;kernel_rfl) only [W,simprocAttr,xk B14 [2,2,2,1,2] .sq rfl,rg B14 [1,2,2,2,1,2] 3 false rfl,hr_14_3,xk B14 [2,2,2,2,1,2] .rt rfl,fin14,R14.st,m,p]
  ·have hJ:=f14_j1_ok k s false o b c d e f g h i j a _ l
   simp (disch:=first|apply D;decide|apply K;kernel_rfl) only [W,simprocAttr,xk B14 [3,2,2,1,2] .sk rfl,m,p]
   try simp only [NM,EE] at hJ
   exact hJ
noncomputable def f14 (k:Nat) (l b c d e f g h i j:Int) (a:List Int):Option R14:=match k with | 0=>none | k+1=>f14_e k l b c d e f g h i j a
theorem f14_ok (k m b d e f g h i j l a r) (o:f14 k m b d e f g h i j l a=some r):CV k 14 [.agg [jI m,jI b,jU d,jI e,jI f,jI g,jI h,jI i,jI j,jI l,jB a]] []=some r.st:=by
 cases k with
 | zero=>cases o
 | succ k =>
  unfold CV
  rw [ev_call (F:=Tryd.f14) (c:=(nav B14 [])) rfl Tryd.func14 rfl rfl rfl rfl]
  exact f14_e_ok k m b d e f g h i j l a r o
-- f21: f21 heliograph/octet.Equal
inductive R21 where
 | o0 (y:Bool)
noncomputable def R21.st:R21→V×List O×List O
 | .o0 y=>(jT y,[],[])
noncomputable def f21_e (k:Nat) (a b:List Int):Option R21 :=
 Option.bind (f43 k a b) fun o1 =>
  match o1 with
  | .o0 c =>
   some (.o0 c)
theorem f21_e_ok (k c d r) (a:f21_e k c d=some r):finK Tryd.prog Tryd.f21 0 (EX 21 k (nav B21 []) (⟨8,[(0,jB c),(1,jB d)],[]⟩:St))=some r.st:=by
 unfold f21_e at a
 obtain ⟨o1,e,a⟩:=bs a
 have b:=f43_ok k c d _ e
 cases o1 with
 | o0 f =>
  (try dsimp only at a)
  (try simp only [NM,EE,R43.st] at b)
  cases a
  simp (disch:=first|apply D;decide|apply K;kernel_rfl) only [W,simprocAttr,xk B21 [] .sq rfl,rg B21 [1] 0 false rfl,hr 21 0 rfl,xk B21 [2] .sq rfl,rg B21 [1,2] 1 false rfl,hr 21 1 rfl,callStep,CL,gv,List.contains,xk B21 [2,2] .rt rfl,fin21,R21.st,b]
noncomputable def f21 (k:Nat) (a b:List Int):Option R21:=match k with | 0=>none | k+1=>f21_e k a b
theorem f21_ok (k a b r) (d:f21 k a b=some r):CV k 21 [jB a,jB b] []=some r.st:=by
 cases k with
 | zero=>cases d
 | succ k =>
  unfold CV
  rw [ev_call (F:=Tryd.f21) (c:=(nav B21 [])) rfl Tryd.func21 rfl rfl rfl rfl]
  exact f21_e_ok k a b r d
end Go.Proofs.YtbnnmplkbpgcaaaDoorV