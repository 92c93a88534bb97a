/- What the program's functions answer: plain functions,and that the interpreter answers what they do. Written by a program of this session,out of the translation. -/
import Derived.Test.YticggdfaehneeaaVP7
namespace Go.Proofs.YticggdfaehneeaaV
open Go
set_option linter.unusedVariables false
set_option linter.unusedSimpArgs false
set_option maxRecDepth 8000
set_option maxHeartbeats 4000000
-- f9: f9 heliograph/agent.Make
inductive R9 where
 | o0 (y a:Int) (b:List T65) (c:List T39) (d:Int) (e:List T39)
 | o1 (y a b:Int) (c:List T65) (d e:List T39)
noncomputable def R9.st:R9→V×List O×List O
 | .o0 y a b c d e=>(V.tup [.agg [jI y,jU a,.sl 4 (rowsOf encT65 b),.own 2000000],.sl 11 (rowsOf encT39 c),jI d],[],[.row true 11 39 (rowsOf encT39 e)])
 | .o1 y a b c d e=>(V.tup [.agg [jI y,jU a,.own 2000000,.own 2000001],.own 2000002,jI b],[],[.row true 4 65 (rowsOf encT65 c),.row true 11 39 (rowsOf encT39 d),.row true 11 39 (rowsOf encT39 e)])
noncomputable def f9_j3 (k:Nat) (g:Int) (h:Bool) (i a:Int) (b:List T65) (c:List T39) (p e:Int) (f:List T65) (q d:List T39):Option R9 :=
 Option.bind (f26 k i a b c) fun o1 =>
  match o1 with
  | .o0 j l m o =>
   some (.o1 j (IntKind.u32.wrap (l+(1:Int))) 0 m o d)
theorem f9_j3_ok (k f g l a b c m d e o h r) (i:f9_j3 k f g l a b c m d e o h=some r):finK Try.prog Try.f9 0 (EX 9 k (nav B9 [2,2,2,2,2,2]) (⟨86,[(4,.ptr 4 0),(8,.ptr 8 0),(13,.own 71),(14,jI f),(75,.p (.bool g))],[(4,.box 26 [jI l,jU a,.sl 4 (rowsOf encT65 b),.sl 11 (rowsOf encT39 c)]),(8,.box 26 [jI m,jU d,.sl 4 (rowsOf encT65 e),.own 700001]),(700001,.row true 11 39 (rowsOf encT39 o)),(71,.row true 11 39 (rowsOf encT39 h))]⟩:St))=some r.st:=by
 unfold f9_j3 at i
 obtain ⟨o1,p,i⟩:=bs i
 have j:=f26_ok k l a b c _ p
 cases o1 with
 | o0 q s t u =>
  (try dsimp only at i)
  (try simp only [NM,EE,R26.st] at j)
  cases i
  simp (disch:=first|apply D;decide|apply K;kernel_rfl) only [E,EE,↓reduceIte,simprocAttr,xk B9 [2,2,2,2,2,2] .sq rfl,rg B9 [1,2,2,2,2,2,2] 12 false rfl,hr 9 12 rfl,t_26,callStep,CL,gv,List.contains,xk B9 [2,2,2,2,2,2,2] .sq rfl,rg B9 [1,2,2,2,2,2,2,2] 13 false rfl,hr 9 13 rfl,fieldAddrV,t_22,xk B9 [2,2,2,2,2,2,2,2] .sq rfl,rg B9 [1,2,2,2,2,2,2,2,2] 14 false rfl,hr 9 14 rfl,xk B9 [2,2,2,2,2,2,2,2,2] .rt rfl,fin9,R9.st,j]
noncomputable def f9_j2 (k:Nat) (y:Bool) (z l:Int) (m:List T65) (o:List T39) (m5 v w x p r q:Int) (s:List T65) (n:List T39) (t b c d e f g h i j:Int) (a:List Int):Option R9 :=
 Option.bind (f25 k t b c d e f g h i j a p) fun o1 =>
  match o1 with
  | .o0 u v5 =>
   cond ((u != 0))
    (some (.o0 0 0 [] [] u []))
    (f9_j3 k u false z l m o r q s n v5)
theorem f9_j2_ok (k z n l m o m5 v w x p m8 q s s1 y b c d e f g h i j a r) (t:f9_j2 k z n l m o m5 v w x p m8 q s s1 y b c d e f g h i j a=some r):finK Try.prog Try.f9 0 (EX 9 k (nav B9 [2,2,2,2]) (⟨86,[(4,.ptr 4 0),(5,.ptr 5 0),(8,.ptr 8 0),(12,.ptr 12 0),(62,.p (.bool z))],[(4,.box 26 [jI n,jU l,.sl 4 (rowsOf encT65 m),.sl 11 (rowsOf encT39 o)]),(5,.box 28 [jI m5,jI v,jI w,jI x,jI p]),(8,.box 26 [jI m8,jU q,.sl 4 (rowsOf encT65 s),.own 700001]),(700001,.row true 11 39 (rowsOf encT39 s1)),(12,.box 39 [jI y,jI b,jU c,jI d,jI e,jI f,jI g,jI h,jI i,jI j,.sl 1 (rowsOf (encI .u8) a)])]⟩:St))=some r.st:=by
 unfold f9_j2 at t
 obtain ⟨o1,h2,t⟩:=bs t
 have u:=f25_ok k y b c d e f g h i j a p _ h2
 cases o1 with
 | o0 v4 v5 =>
  (try dsimp only at t)
  (try simp only [NM,EE,R25.st] at u)
  simp (disch:=first|apply D;decide|apply K;kernel_rfl) only [E,EE,↓reduceIte,simprocAttr,xk B9 [2,2,2,2] .sq rfl,rg B9 [1,2,2,2,2] 9 false rfl,hr 9 9 rfl,t_39,fieldAddrV,t_28,t_3,callStep,CL,gv,List.contains,xk B9 [2,2,2,2,2] .sq rfl,xk B9 [1,2,2,2,2,2] .sq rfl,rg B9 [1,1,2,2,2,2,2] 10 false rfl,hr 9 10 rfl,xk B9 [2,1,2,2,2,2,2] (.cd 75) rfl,u]
  rcases cond_some t with ⟨h6,t⟩ | ⟨h6,t⟩
  ·cases t
   simp (disch:=first|apply D;decide|apply K;kernel_rfl) only [E,EE,↓reduceIte,simprocAttr,xk B9 [2,2,1,2,2,2,2,2] .sq rfl,rg B9 [1,2,2,1,2,2,2,2,2] 11 false rfl,hr_9_11,bl_26,t_26,xk B9 [2,2,2,1,2,2,2,2,2] .rt rfl,fin9,R9.st,u,h6]
  ·have hJ:=f9_j3_ok k v4 false n l m o m8 q s s1 v5 _ t
   simp (disch:=first|apply D;decide|apply K;kernel_rfl) only [E,EE,↓reduceIte,simprocAttr,xk B9 [3,2,1,2,2,2,2,2] .sk rfl,u,h6]
   try simp only [NM,EE] at hJ
   exact hJ
noncomputable def f9_j1 (k:Nat) (l:List Int) (q s:Int) (t:Bool) (m a:Int) (f:List T65) (g:List T39) (h b c d e u i:Int) (j:List T65) (v:List T39):Option R9 :=
 Option.bind (f23 k h 1 6) fun o1 =>
  match o1 with
  | .o0 w =>
   cond ((!w))
    (some (.o0 0 0 [] [] 2 []))
    (
     cond ((h==m))
      (some (.o0 0 0 [] [] 2 []))
      (
       Option.bind (f23 k e 1 400) fun o7 =>
        match o7 with
        | .o0 o =>
         cond ((!o))
          (some (.o0 0 0 [] [] 2 []))
          (
           Option.bind (f24 k m h a q b c 0 d 0 ((List.length l):Int) l) fun o12 =>
            match o12 with
            | .o0 p =>
             cond ((p != 0))
              (some (.o0 0 0 [] [] 2 []))
              (
               cond ((a==4294967295))
                (some (.o0 0 0 [] [] 6 []))
                (f9_j2 k false m a f g h b c d e u i j v m h a q b c 0 d 0 ((List.length l):Int) l)))))
theorem f9_j1_ok (k v n x y z d l m w e f g j m8 o p s1 r) (a:f9_j1 k v n x y z d l m w e f g j m8 o p s1=some r):finK Try.prog Try.f9 0 (EX 9 k (nav B9 [2,2]) (⟨86,[(2,.sl 1 (rowsOf (encI .u8) v)),(3,jI n),(4,.ptr 4 0),(5,.ptr 5 0),(8,.ptr 8 0),(11,jI x),(18,.p (.bool y))],[(4,.box 26 [jI z,jU d,.sl 4 (rowsOf encT65 l),.sl 11 (rowsOf encT39 m)]),(5,.box 28 [jI w,jI e,jI f,jI g,jI j]),(8,.box 26 [jI m8,jU o,.sl 4 (rowsOf encT65 p),.own 700001]),(700001,.row true 11 39 (rowsOf encT39 s1))]⟩:St))=some r.st:=by
 unfold f9_j1 at a
 obtain ⟨o1,h2,a⟩:=bs a
 have b:=f23_ok k w 1 6 _ h2
 cases o1 with
 | o0 v4 =>
  (try dsimp only at a)
  (try simp only [NM,EE,R23.st] at b)
  simp (disch:=first|apply D;decide|apply K;kernel_rfl) only [E,EE,↓reduceIte,simprocAttr,xk B9 [2,2] .sq rfl,rg B9 [1,2,2] 4 false rfl,hr 9 4 rfl,fieldAddrV,t_26,t_3,t_28,t_22,t_29,bl_39,t_39,xk B9 [2,2,2] .sq rfl,xk B9 [1,2,2,2] (.bk 0) rfl,xk B9 [2,1,2,2,2] .sq rfl,rg B9 [1,2,1,2,2,2] 5 false rfl,hr 9 5 rfl,callStep,CL,gv,List.contains,b]
  rcases cond_some a with ⟨q,a⟩ | ⟨q,a⟩
  ·cases a
   simp (disch:=first|apply D;decide|apply K;kernel_rfl) only [E,EE,↓reduceIte,simprocAttr,xk B9 [2,2,1,2,2,2] (.cd 38) rfl,xk B9 [2,2,2,1,2,2,2] .sq rfl,rg B9 [1,2,2,2,1,2,2,2] 6 false rfl,hr_9_6,bl_26,t_26,xk B9 [2,2,2,2,1,2,2,2] .rt rfl,fin9,R9.st,b,q]
  ·simp (disch:=first|apply D;decide|apply K;kernel_rfl) only [E,EE,↓reduceIte,simprocAttr,fieldAddrV,t_28,t_3,t_26,b,q]
   rcases cond_some a with ⟨t,a⟩ | ⟨t,a⟩
   ·cases a
    simp (disch:=first|apply D;decide|apply K;kernel_rfl) only [E,EE,↓reduceIte,simprocAttr,xk B9 [2,2,1,2,2,2] (.cd 38) rfl,xk B9 [2,2,2,1,2,2,2] .sq rfl,rg B9 [1,2,2,2,1,2,2,2] 6 false rfl,hr_9_6,bl_26,t_26,xk B9 [2,2,2,2,1,2,2,2] .rt rfl,fin9,R9.st,b,q,t]
   ·obtain ⟨o7,h8,a⟩:=bs a
    have h:=f23_ok k j 1 400 _ h8
    cases o7 with
    | o0 af =>
     (try dsimp only at a)
     (try simp only [NM,EE,R23.st] at h)
     simp (disch:=first|apply D;decide|apply K;kernel_rfl) only [E,EE,↓reduceIte,simprocAttr,fieldAddrV,t_28,t_3,callStep,CL,gv,List.contains,b,q,t,h]
     rcases cond_some a with ⟨i,a⟩ | ⟨i,a⟩
     ·cases a
      simp (disch:=first|apply D;decide|apply K;kernel_rfl) only [E,EE,↓reduceIte,simprocAttr,xk B9 [2,2,1,2,2,2] (.cd 38) rfl,xk B9 [2,2,2,1,2,2,2] .sq rfl,rg B9 [1,2,2,2,1,2,2,2] 6 false rfl,hr_9_6,bl_26,t_26,xk B9 [2,2,2,2,1,2,2,2] .rt rfl,fin9,R9.st,b,q,t,h,i]
     ·obtain ⟨o12,ac,a⟩:=bs a
      have c:=f24_ok k z w d n e f 0 g 0 ((List.length v):Int) v _ ac
      cases o12 with
      | o0 ag =>
       (try dsimp only at a)
       (try simp only [NM,EE,R24.st] at c)
       simp (disch:=first|apply D;decide|apply K;kernel_rfl) only [E,EE,↓reduceIte,simprocAttr,t_39,callStep,CL,gv,List.contains,xk B9 [2,2,1,2,2,2] (.cd 38) rfl,b,q,t,h,i,c]
       rcases cond_some a with ⟨s,a⟩ | ⟨s,a⟩
       ·cases a
        simp (disch:=first|apply D;decide|apply K;kernel_rfl) only [E,EE,↓reduceIte,simprocAttr,xk B9 [2,2,2,1,2,2,2] .sq rfl,rg B9 [1,2,2,2,1,2,2,2] 6 false rfl,hr_9_6,bl_26,t_26,xk B9 [2,2,2,2,1,2,2,2] .rt rfl,fin9,R9.st,b,q,t,h,i,c,s]
       ·simp (disch:=first|apply D;decide|apply K;kernel_rfl) only [E,EE,↓reduceIte,simprocAttr,xk B9 [3,2,2,1,2,2,2] .sq rfl,rg B9 [1,3,2,2,1,2,2,2] 7 false rfl,hr 9 7 rfl,fieldAddrV,t_26,t_22,xk B9 [2,3,2,2,1,2,2,2] (.cd 62) rfl,b,q,t,h,i,c,s]
        rcases cond_some a with ⟨u,a⟩ | ⟨u,a⟩
        ·cases a
         simp (disch:=first|apply D;decide|apply K;kernel_rfl) only [E,EE,↓reduceIte,simprocAttr,xk B9 [2,2,3,2,2,1,2,2,2] .sq rfl,rg B9 [1,2,2,3,2,2,1,2,2,2] 8 false rfl,hr_9_8,bl_26,t_26,xk B9 [2,2,2,3,2,2,1,2,2,2] .rt rfl,fin9,R9.st,b,q,t,h,i,c,s,u]
        ·have hJ:=f9_j2_ok k false z d l m w e f g j m8 o p s1 z w d n e f 0 g 0 ((List.length v):Int) v _ a
         simp (disch:=first|apply D;decide|apply K;kernel_rfl) only [E,EE,↓reduceIte,simprocAttr,xk B9 [3,2,3,2,2,1,2,2,2] .sk rfl,b,q,t,h,i,c,s,u]
         try simp only [NM,EE] at hJ
         exact hJ
noncomputable def f9_e (k:Nat) (i a:Int) (b:List T65) (c:List T39) (j d e f g:Int) (l:List Int) (m:Int):Option R9 :=
 Option.bind (f19 k i a b c) fun o1 =>
  match o1 with
  | .o0 h =>
   cond ((h != 0))
    (some (.o0 0 0 [] [] h []))
    (f9_j1 k l m h false i a b c j d e f g 0 0 [] [])
theorem f9_e_ok (k j a b c l d e f g m o r) (h:f9_e k j a b c l d e f g m o=some r):finK Try.prog Try.f9 0 (EX 9 k (nav B9 []) (⟨86,[(0,.agg [jI j,jU a,.sl 4 (rowsOf encT65 b),.sl 11 (rowsOf encT39 c)]),(1,.agg [jI l,jI d,jI e,jI f,jI g]),(2,.sl 1 (rowsOf (encI .u8) m)),(3,jI o)],[]⟩:St))=some r.st:=by
 unfold f9_e at h
 obtain ⟨o1,q,h⟩:=bs h
 have i:=f19_ok k j a b c _ q
 cases o1 with
 | o0 s =>
  (try dsimp only at h)
  (try simp only [NM,EE,R19.st] at i)
  simp (disch:=first|apply D;decide|apply K;kernel_rfl) only [E,EE,↓reduceIte,simprocAttr,xk B9 [] .sq rfl,rg B9 [1] 0 false rfl,hr_9_0,t_26,xk B9 [2] .sq rfl,xk B9 [1,2] .sq rfl,rg B9 [1,1,2] 1 false rfl,hr 9 1 rfl,callStep,CL,gv,List.contains,xk B9 [2,1,2] .sq rfl,rg B9 [1,2,1,2] 2 false rfl,hr 9 2 rfl,xk B9 [2,2,1,2] (.cd 18) rfl,i]
  rcases cond_some h with ⟨p,h⟩ | ⟨p,h⟩
  ·cases h
   simp (disch:=first|apply D;decide|apply K;kernel_rfl) only [E,EE,↓reduceIte,simprocAttr,xk B9 [2,2,2,1,2] .sq rfl,rg B9 [1,2,2,2,1,2] 3 false rfl,hr_9_3,bl_26,t_26,xk B9 [2,2,2,2,1,2] .rt rfl,fin9,R9.st,i,p]
  ·have hJ:=f9_j1_ok k m o s false j a b c l d e f g 0 0 [] [] _ h
   simp (disch:=first|apply D;decide|apply K;kernel_rfl) only [E,EE,↓reduceIte,simprocAttr,xk B9 [3,2,2,1,2] .sk rfl,i,p]
   try simp only [NM,EE] at hJ
   exact hJ
noncomputable def f9 (k:Nat) (h a:Int) (b:List T65) (c:List T39) (i d e f g:Int) (j:List Int) (l:Int):Option R9:=match k with | 0=>none | k+1=>f9_e k h a b c i d e f g j l
theorem f9_ok (k i a b d j e f g h l m r) (o:f9 k i a b d j e f g h l m=some r):CV k 9 [.agg [jI i,jU a,.sl 4 (rowsOf encT65 b),.sl 11 (rowsOf encT39 d)],.agg [jI j,jI e,jI f,jI g,jI h],.sl 1 (rowsOf (encI .u8) l),jI m] []=some r.st:=by
 cases k with
 | zero=>cases o
 | succ k =>
  unfold CV
  rw [ev_call (F:=Try.f9) (c:=(nav B9 [])) rfl Try.func9 rfl rfl rfl rfl]
  exact f9_e_ok k i a b d j e f g h l m r o
-- f51: f51 heliograph/agent.judge$1
inductive R51 where
 | o0 (y c d e f g h i j l a:Int) (b:List Int)
noncomputable def R51.st:R51→V×List O×List O
 | .o0 y c d e f g h i j l a b=>(.agg [jI y,jI c,jI d,jU e,jI f,jI g,jI h,jI i,jI j,jI l,jI a,.sl 1 (rowsOf (encI .u8) b)],[],[])
noncomputable def f51_e (k:Nat) (a:Int):Option R51 :=
 some (.o0 a 0 0 0 0 0 0 0 0 0 0 [])
theorem f51_e_ok (k a r) (b:f51_e k a=some r):finK Try.prog Try.f51 0 (EX 51 k (nav B51 []) (⟨5,[(0,jI a)],[]⟩:St))=some r.st:=by
 unfold f51_e at b
 cases b
 simp (disch:=first|apply D;decide|apply K;kernel_rfl) only [E,EE,↓reduceIte,simprocAttr,xk B51 [] .sq rfl,rg B51 [1] 0 false rfl,hr_51_0,t_48,xk B51 [2] .sq rfl,rg B51 [1,2] 1 false rfl,hr_51_1,bl_48,xk B51 [2,2] .rt rfl,fin51,R51.st]
noncomputable def f51 (k:Nat) (a:Int):Option R51:=match k with | 0=>none | k+1=>f51_e k a
theorem f51_ok (k a r) (b:f51 k a=some r):CV k 51 [jI a] []=some r.st:=by
 cases k with
 | zero=>cases b
 | succ k =>
  unfold CV
  rw [ev_call (F:=Try.f51) (c:=(nav B51 [])) rfl Try.func51 rfl rfl rfl rfl]
  exact f51_e_ok k a r b
-- f44: f44 heliograph/bundle.Expired
inductive R44 where
 | o0 (y:Bool)
noncomputable def R44.st:R44→V×List O×List O
 | .o0 y=>(.p (.bool y),[],[])
noncomputable def f44_e (k:Nat) (l d e a b f g h i j:Int) (c:List Int) (m:Int):Option R44 :=
 Option.bind (f24 k l d e a b f g h i j c) fun o1 =>
  match o1 with
  | .o0 o =>
   cond ((o==0))
    (some (.o0 (decide (m≥(IntKind.i64.wrap (a+b))))))
    (some (.o0 false))
theorem f44_e_ok (k o b c d e f g h i j a q r) (l:f44_e k o b c d e f g h i j a q=some r):finK Try.prog Try.f44 0 (EX 44 k (nav B44 []) (⟨17,[(0,.agg [jI o,jI b,jU c,jI d,jI e,jI f,jI g,jI h,jI i,jI j,.sl 1 (rowsOf (encI .u8) a)]),(1,jI q)],[]⟩:St))=some r.st:=by
 unfold f44_e at l
 obtain ⟨o1,s,l⟩:=bs l
 have m:=f24_ok k o b c d e f g h i j a _ s
 cases o1 with
 | o0 t =>
  (try dsimp only at l)
  (try simp only [NM,EE,R24.st] at m)
  simp (disch:=first|apply D;decide|apply K;kernel_rfl) only [E,EE,↓reduceIte,simprocAttr,xk B44 [] .sq rfl,rg B44 [1] 0 false rfl,hr 44 0 rfl,xk B44 [2] .sq rfl,rg B44 [1,2] 1 false rfl,hr 44 1 rfl,t_39,callStep,CL,gv,List.contains,m]
  rcases cond_some l with ⟨p,l⟩ | ⟨p,l⟩
  ·cases l
   simp (disch:=first|apply D;decide|apply K;kernel_rfl) only [E,EE,↓reduceIte,simprocAttr,fieldAddrV,t_39,t_3,xk B44 [2,2] .rt rfl,fin44,R44.st,m,p]
  ·cases l
   simp (disch:=first|apply D;decide|apply K;kernel_rfl) only [E,EE,↓reduceIte,simprocAttr,xk B44 [2,2] .rt rfl,fin44,R44.st,m,p]
noncomputable def f44 (k:Nat) (l b c d e f g h i j:Int) (a:List Int) (m:Int):Option R44:=match k with | 0=>none | k+1=>f44_e k l b c d e f g h i j a m
theorem f44_ok (k m b d e f g h i j l a o r) (p:f44 k m b d e f g h i j l a o=some r):CV k 44 [.agg [jI m,jI b,jU d,jI e,jI f,jI g,jI h,jI i,jI j,jI l,.sl 1 (rowsOf (encI .u8) a)],jI o] []=some r.st:=by
 cases k with
 | zero=>cases p
 | succ k =>
  unfold CV
  rw [ev_call (F:=Try.f44) (c:=(nav B44 [])) rfl Try.func44 rfl rfl rfl rfl]
  exact f44_e_ok k m b d e f g h i j l a o r p
-- f63: f63 heliograph/custody.Key
inductive R63 where
 | o0 (y a b:Int)
noncomputable def R63.st:R63→V×List O×List O
 | .o0 y a b=>(.agg [jI y,jU a,jI b],[],[])
noncomputable def f63_e (k:Nat) (l d a e f g h i b j:Int) (c:List Int):Option R63 :=
 some (.o0 l a b)
theorem f63_e_ok (k l b c d e f g h i j a r) (m:f63_e k l b c d e f g h i j a=some r):finK Try.prog Try.f63 0 (EX 63 k (nav B63 []) (⟨10,[(0,.agg [jI l,jI b,jU c,jI d,jI e,jI f,jI g,jI h,jI i,jI j,.sl 1 (rowsOf (encI .u8) a)])],[]⟩:St))=some r.st:=by
 unfold f63_e at m
 cases m
 simp (disch:=first|apply D;decide|apply K;kernel_rfl) only [E,EE,↓reduceIte,simprocAttr,xk B63 [] .sq rfl,rg B63 [1] 0 false rfl,hr 63 0 rfl,t_63,xk B63 [2] .sq rfl,rg B63 [1,2] 1 false rfl,hr 63 1 rfl,fieldAddrV,t_39,t_3,t_22,bl_63,xk B63 [2,2] .rt rfl,fin63,R63.st]
noncomputable def f63 (k:Nat) (l b c d e f g h i j:Int) (a:List Int):Option R63:=match k with | 0=>none | k+1=>f63_e k l b c d e f g h i j a
theorem f63_ok (k m b d e f g h i j l a r) (o:f63 k m b d e f g h i j l a=some r):CV k 63 [.agg [jI m,jI b,jU d,jI e,jI f,jI g,jI h,jI i,jI j,jI l,.sl 1 (rowsOf (encI .u8) a)]] []=some r.st:=by
 cases k with
 | zero=>cases o
 | succ k =>
  unfold CV
  rw [ev_call (F:=Try.f63) (c:=(nav B63 [])) rfl Try.func63 rfl rfl rfl rfl]
  exact f63_e_ok k m b d e f g h i j l a r o
-- f53: f53 heliograph/agent.seen
inductive R53 where
 | o0 (y a b c:Int)
noncomputable def R53.st:R53→V×List O×List O
 | .o0 y a b c=>(.agg [jI y,jU a,jI b,jI c],[],[])
noncomputable def f53_e (k:Nat) (l b c d e f g h i j:Int) (a:List Int):Option R53 :=
 Option.bind (f63 k l b c d e f g h i j a) fun o1 =>
  match o1 with
  | .o0 m o p =>
   some (.o0 m o p ((List.length a):Int))
theorem f53_e_ok (k o b c d e f g h i j a r) (l:f53_e k o b c d e f g h i j a=some r):finK Try.prog Try.f53 0 (EX 53 k (nav B53 []) (⟨9,[(0,.agg [jI o,jI b,jU c,jI d,jI e,jI f,jI g,jI h,jI i,jI j,.sl 1 (rowsOf (encI .u8) a)])],[]⟩:St))=some r.st:=by
 unfold f53_e at l
 obtain ⟨o1,p,l⟩:=bs l
 have m:=f63_ok k o b c d e f g h i j a _ p
 cases o1 with
 | o0 q s t =>
  (try dsimp only at l)
  (try simp only [NM,EE,R63.st] at m)
  cases l
  simp (disch:=first|apply D;decide|apply K;kernel_rfl) only [E,EE,↓reduceIte,simprocAttr,xk B53 [] .sq rfl,rg B53 [1] 0 false rfl,hr 53 0 rfl,t_65,xk B53 [2] .sq rfl,rg B53 [1,2] 1 true rfl,hr 53 1 rfl,t_39,callStep,CL,gv,List.contains,fieldAddrV,t_29,bl_65,xk B53 [2,2] .rt rfl,fin53,R53.st,m]
noncomputable def f53 (k:Nat) (l b c d e f g h i j:Int) (a:List Int):Option R53:=match k with | 0=>none | k+1=>f53_e k l b c d e f g h i j a
theorem f53_ok (k m b d e f g h i j l a r) (o:f53 k m b d e f g h i j l a=some r):CV k 53 [.agg [jI m,jI b,jU d,jI e,jI f,jI g,jI h,jI i,jI j,jI l,.sl 1 (rowsOf (encI .u8) a)]] []=some r.st:=by
 cases k with
 | zero=>cases o
 | succ k =>
  unfold CV
  rw [ev_call (F:=Try.f53) (c:=(nav B53 [])) rfl Try.func53 rfl rfl rfl rfl]
  exact f53_e_ok k m b d e f g h i j l a r o
-- f52: f52 slices.Contains[[]heliograph/api.Seen,heliograph/api.Seen]
inductive R52 where
 | o0 (y:Bool)
noncomputable def R52.st:R52→V×List O×List O
 | .o0 y=>(.p (.bool y),[],[])
noncomputable def f52_e (k:Nat) (d:List T65) (e a b c:Int):Option R52 :=
 Option.bind (f33 k d e a b c) fun o1 =>
  match o1 with
  | .o0 f =>
   some (.o0 (decide (f≥0)))
theorem f52_e_ok (k f g a b c r) (d:f52_e k f g a b c=some r):finK Try.prog Try.f52 0 (EX 52 k (nav B52 []) (⟨9,[(0,.sl 4 (rowsOf encT65 f)),(1,.agg [jI g,jU a,jI b,jI c])],[]⟩:St))=some r.st:=by
 unfold f52_e at d
 obtain ⟨o1,h,d⟩:=bs d
 have e:=f33_ok k f g a b c _ h
 cases o1 with
 | o0 i =>
  (try dsimp only at d)
  (try simp only [NM,EE,R33.st] at e)
  cases d
  simp (disch:=first|apply D;decide|apply K;kernel_rfl) only [E,EE,↓reduceIte,simprocAttr,xk B52 [] .sq rfl,rg B52 [1] 0 false rfl,hr 52 0 rfl,xk B52 [2] .sq rfl,rg B52 [1,2] 1 false rfl,hr 52 1 rfl,t_65,callStep,CL,gv,List.contains,xk B52 [2,2] .rt rfl,fin52,R52.st,e]
noncomputable def f52 (k:Nat) (d:List T65) (e a b c:Int):Option R52:=match k with | 0=>none | k+1=>f52_e k d e a b c
theorem f52_ok (k e f a b d r) (g:f52 k e f a b d=some r):CV k 52 [.sl 4 (rowsOf encT65 e),.agg [jI f,jU a,jI b,jI d]] []=some r.st:=by
 cases k with
 | zero=>cases g
 | succ k =>
  unfold CV
  rw [ev_call (F:=Try.f52) (c:=(nav B52 [])) rfl Try.func52 rfl rfl rfl rfl]
  exact f52_e_ok k e f a b d r g
-- f64: f64 slices.Delete[[]heliograph/api.Seen,heliograph/api.Seen]
inductive R64 where
 | o0 (y:List T65)
 | o1 (y a:Nat) (b:List T65)
noncomputable def R64.st:R64→V×List O×List O
 | .o0 y=>(.own 1000000,[.row true 4 65 (rowsOf encT65 y)],[])
 | .o1 y a b=>(V.cut 1000000 4 y a,[.row true 4 65 (rowsOf encT65 b)],[])
noncomputable def f64_j1 (k:Nat) (c b:Int) (d:Bool) (a:List T65):Option R64 :=
 ifE ((0:Int)≤c) (
  ifE ((Int.toNat c)≤(List.length a)) (
   ifE ((0:Int)≤b) (
    ifE ((Int.toNat b)≤(List.length a)) (
     ifE (((Int.toNat b)+((List.length a) - (Int.toNat b)))≤(List.length a)) (
      ifE (((Int.toNat c)+(List.length ((List.take (((List.length a) - (Int.toNat b))) (List.drop (Int.toNat b) a)))))≤(List.length a)) (
       ifE (0<(List.length ((List.take (((List.length a) - (Int.toNat b))) (List.drop (Int.toNat b) a))))) (
        ifE ((0:Int)≤((((Int.toNat c)+(List.length ((List.take (((List.length a) - (Int.toNat b))) (List.drop (Int.toNat b) a))))):Nat):Int)) (
         ifE ((0:Int)≤((List.length a):Int)) (
          ifE ((Int.toNat (((((Int.toNat c)+(List.length ((List.take (((List.length a) - (Int.toNat b))) (List.drop (Int.toNat b) a))))):Nat):Int)))≤(Int.toNat ((List.length a):Int))) (
           ifE ((Int.toNat ((List.length a):Int))≤(max (((Int.toNat c)+(List.length ((List.take (((List.length a) - (Int.toNat b))) (List.drop (Int.toNat b) a)))))) (List.length (((List.take (Int.toNat c) a)++((List.take (((List.length a) - (Int.toNat b))) (List.drop (Int.toNat b) a))++(List.drop (((Int.toNat c)+(List.length ((List.take (((List.length a) - (Int.toNat b))) (List.drop (Int.toNat b) a)))))) a))))))) (
            ifE (((Int.toNat (((((Int.toNat c)+(List.length ((List.take (((List.length a) - (Int.toNat b))) (List.drop (Int.toNat b) a))))):Nat):Int)))+((Int.toNat ((List.length a):Int)) - (Int.toNat (((((Int.toNat c)+(List.length ((List.take (((List.length a) - (Int.toNat b))) (List.drop (Int.toNat b) a))))):Nat):Int)))))≤(List.length (((List.take (Int.toNat c) a)++((List.take (((List.length a) - (Int.toNat b))) (List.drop (Int.toNat b) a))++(List.drop (((Int.toNat c)+(List.length ((List.take (((List.length a) - (Int.toNat b))) (List.drop (Int.toNat b) a)))))) a)))))) (
             some (.o1 0 (((Int.toNat c)+(List.length ((List.take (((List.length a) - (Int.toNat b))) (List.drop (Int.toNat b) a)))))) (((List.take ((Int.toNat (((((Int.toNat c)+(List.length ((List.take (((List.length a) - (Int.toNat b))) (List.drop (Int.toNat b) a))))):Nat):Int)))) (((List.take (Int.toNat c) a)++((List.take (((List.length a) - (Int.toNat b))) (List.drop (Int.toNat b) a))++(List.drop (((Int.toNat c)+(List.length ((List.take (((List.length a) - (Int.toNat b))) (List.drop (Int.toNat b) a)))))) a)))))++(List.replicate (((Int.toNat ((List.length a):Int)) - (Int.toNat (((((Int.toNat c)+(List.length ((List.take (((List.length a) - (Int.toNat b))) (List.drop (Int.toNat b) a))))):Nat):Int))))) ((T65.mk 0 0 0 0):T65)++(List.drop (((Int.toNat (((((Int.toNat c)+(List.length ((List.take (((List.length a) - (Int.toNat b))) (List.drop (Int.toNat b) a))))):Nat):Int)))+((Int.toNat ((List.length a):Int)) - (Int.toNat (((((Int.toNat c)+(List.length ((List.take (((List.length a) - (Int.toNat b))) (List.drop (Int.toNat b) a))))):Nat):Int)))))) (((List.take (Int.toNat c) a)++((List.take (((List.length a) - (Int.toNat b))) (List.drop (Int.toNat b) a))++(List.drop (((Int.toNat c)+(List.length ((List.take (((List.length a) - (Int.toNat b))) (List.drop (Int.toNat b) a)))))) a)))))))))))))))))))))
theorem f64_j1_ok (k d c e b r) (a:f64_j1 k d c e b=some r):finK Try.prog Try.f64 1 (EX 64 k (nav B64 [2,2,2]) (⟨33,[(0,.own 1000000),(1,jI d),(2,jI c),(16,.p (.bool e))],[(1000000,.row true 4 65 (rowsOf encT65 b))]⟩:St))=some r.st:=by
 unfold f64_j1 at a
 obtain ⟨j,a⟩:=ifE_some.1 a
 obtain ⟨l,a⟩:=ifE_some.1 a
 obtain ⟨m,a⟩:=ifE_some.1 a
 obtain ⟨o,a⟩:=ifE_some.1 a
 obtain ⟨p,a⟩:=ifE_some.1 a
 obtain ⟨q,a⟩:=ifE_some.1 a
 obtain ⟨s,a⟩:=ifE_some.1 a
 obtain ⟨t,a⟩:=ifE_some.1 a
 obtain ⟨u,a⟩:=ifE_some.1 a
 obtain ⟨f,a⟩:=ifE_some.1 a
 obtain ⟨g,a⟩:=ifE_some.1 a
 obtain ⟨h,a⟩:=ifE_some.1 a
 have i:List.replicate (((Int.toNat ((List.length b):Int)) - (Int.toNat (((((Int.toNat d)+(List.length ((List.take (((List.length b) - (Int.toNat c))) (List.drop (Int.toNat c) b))))):Nat):Int))))) [jI 0,jU 0,jI 0,jI 0]=rowsOf encT65 (List.replicate (((Int.toNat ((List.length b):Int)) - (Int.toNat (((((Int.toNat d)+(List.length ((List.take (((List.length b) - (Int.toNat c))) (List.drop (Int.toNat c) b))))):Nat):Int))))) ((T65.mk 0 0 0 0):T65)):=(rowsOf_replicate (enc:=encT65) (n:=(((Int.toNat ((List.length b):Int)) - (Int.toNat (((((Int.toNat d)+(List.length ((List.take (((List.length b) - (Int.toNat c))) (List.drop (Int.toNat c) b))))):Nat):Int)))))) (x:=((T65.mk 0 0 0 0):T65))).symm
 cases a
 simp (disch:=first|apply D;decide|apply K;kernel_rfl) only [E,EE,↓reduceIte,simprocAttr,xk B64 [2,2,2] .sq rfl,rg B64 [1,2,2,2] 4 false rfl,hr 64 4 rfl,t_23,xk B64 [2,2,2,2] .sq rfl,rg B64 [1,2,2,2,2] 5 true rfl,hr 64 5 rfl,sliceV,bound,t_65,appendV,content,xk B64 [2,2,2,2,2] .sq rfl,rg B64 [1,2,2,2,2,2] 6 false rfl,hr 64 6 rfl,clearV,sm_65,xk B64 [2,2,2,2,2,2] .sq rfl,rg B64 [1,2,2,2,2,2,2] 7 false rfl,hr 64 7 rfl,xk B64 [2,2,2,2,2,2,2] .rt rfl,fin64,R64.st,j,l,m,o,p,q,s,t,u,f,g,h,i]
noncomputable def f64_e (k:Nat) (c b:Int) (a:List T65):Option R64 :=
 ifE ((0:Int)≤c) (
  ifE ((0:Int)≤b) (
   ifE ((0:Int)≤((List.length a):Int)) (
    ifE ((Int.toNat c)≤(Int.toNat b)) (
     ifE ((Int.toNat b)≤(Int.toNat ((List.length a):Int))) (
      ifE ((Int.toNat ((List.length a):Int))≤(List.length a)) (
       cond ((c==b))
        (some (.o0 a))
        (f64_j1 k c b false a)))))))
theorem f64_e_ok (k b c d r) (a:f64_e k b c d=some r):finK Try.prog Try.f64 1 (EX 64 k (nav B64 []) (⟨33,[(0,.own 1000000),(1,jI b),(2,jI c)],[(1000000,.row true 4 65 (rowsOf encT65 d))]⟩:St))=some r.st:=by
 unfold f64_e at a
 obtain ⟨e,a⟩:=ifE_some.1 a
 obtain ⟨f,a⟩:=ifE_some.1 a
 obtain ⟨g,a⟩:=ifE_some.1 a
 obtain ⟨h,a⟩:=ifE_some.1 a
 obtain ⟨i,a⟩:=ifE_some.1 a
 obtain ⟨j,a⟩:=ifE_some.1 a
 simp (disch:=first|apply D;decide|apply K;kernel_rfl) only [E,EE,↓reduceIte,simprocAttr,xk B64 [] .sq rfl,rg B64 [1] 0 false rfl,hr 64 0 rfl,xk B64 [2] .sq rfl,rg B64 [1,2] 1 false rfl,hr 64 1 rfl,t_23,sliceV,bound,t_65,xk B64 [2,2] .sq rfl,xk B64 [1,2,2] .sq rfl,rg B64 [1,1,2,2] 2 false rfl,hr 64 2 rfl,xk B64 [2,1,2,2] (.cd 16) rfl,e,f,g,h,i,j]
 rcases cond_some a with ⟨l,a⟩ | ⟨l,a⟩
 ·cases a
  simp (disch:=first|apply D;decide|apply K;kernel_rfl) only [E,EE,↓reduceIte,simprocAttr,xk B64 [2,2,1,2,2] .sq rfl,rg B64 [1,2,2,1,2,2] 3 false rfl,hr 64 3 rfl,xk B64 [2,2,2,1,2,2] .rt rfl,fin64,R64.st,e,f,g,h,i,j,l]
 ·have hJ:=f64_j1_ok k b c false d _ a
  simp (disch:=first|apply D;decide|apply K;kernel_rfl) only [E,EE,↓reduceIte,simprocAttr,xk B64 [3,2,1,2,2] .sk rfl,e,f,g,h,i,j,l]
  try simp only [NM,EE] at hJ
  exact hJ
noncomputable def f64 (k:Nat) (a b:Int) (c:List T65):Option R64:=match k with | 0=>none | k+1=>f64_e k a b c
theorem f64_ok (k a b d r) (e:f64 k a b d=some r):CV k 64 [.own 1000000,jI a,jI b] [.row true 4 65 (rowsOf encT65 d)]=some r.st:=by
 cases k with
 | zero=>cases e
 | succ k =>
  unfold CV
  rw [ev_call (F:=Try.f64) (c:=(nav B64 [])) rfl Try.func64 rfl rfl rfl rfl]
  exact f64_e_ok k a b d r e
-- f54b: f54 heliograph/agent.remember
inductive R54b where
 | o0 (y a:Int) (b:List T39) (c:List T65)
 | o1 (y a:Int) (b c:Nat) (d:List T39) (e:List T65)
noncomputable def R54b.st:R54b→V×List O×List O
 | .o0 y a b c=>(V.tup [],[.box 26 [jI y,jU a,.own 2000000,.own 1000002],.dead,.row true 11 39 (rowsOf encT39 b)],[.row true 4 65 (rowsOf encT65 c)])
 | .o1 y a b c d e=>(V.tup [],[.box 26 [jI y,jU a,V.cut 2000000 4 b c,.own 1000002],.dead,.row true 11 39 (rowsOf encT39 d)],[.row true 4 65 (rowsOf encT65 e)])
noncomputable def f54b_e (k:Nat) (z c d e f g h i j l:Int) (b:List Int) (t a:Int) (m:List T65) (u:List T39):Option R54b :=
 Option.bind (f53 k z c d e f g h i j l b) fun o1 =>
  match o1 with
  | .o0 o p q s =>
   ifE (((List.length m)+1) * 32≤roomy) (
    cond ((decide ((IntKind.i64.wrap (((List.length (m++([(T65.mk o p q s)]:List T65))):Int) - (64:Int)))>0)))
     (
      Option.bind (f64 k 0 ((IntKind.i64.wrap (((List.length (m++([(T65.mk o p q s)]:List T65))):Int) - (64:Int)))) (m++([(T65.mk o p q s)]:List T65))) fun o12 =>
       match o12 with
       | .o0 v =>
        some (.o0 t a u v)
       | .o1 w x y =>
        some (.o1 t a w x u y))
     (some (.o0 t a u (m++([(T65.mk o p q s)]:List T65)))))
theorem f54b_e_ok (k n e f g h i j l m o b e0 s z e2 r) (a:f54b_e k n e f g h i j l m o b e0 s z e2=some r):finK Try.prog Try.f54 3 (EX 54 k (nav B54 []) (⟨33,[(0,.ptr 1000000 0),(1,.agg [jI n,jI e,jU f,jI g,jI h,jI i,jI j,jI l,jI m,jI o,.sl 1 (rowsOf (encI .u8) b)])],[(1000000,.box 26 [jI e0,jU s,.own 1000001,.own 1000002]),(1000001,.row true 4 65 (rowsOf encT65 z)),(1000002,.row true 11 39 (rowsOf encT39 e2))]⟩:St))=some r.st:=by
 unfold f54b_e at a
 obtain ⟨o1,h2,a⟩:=bs a
 have d:=f53_ok k n e f g h i j l m o b _ h2
 cases o1 with
 | o0 t u v w =>
  (try dsimp only at a)
  (try simp only [NM,EE,R53.st] at d)
  have x:[[jI t,jU u,jI v,jI w]]=rowsOf encT65 ([(T65.mk t u v w)]:List T65):=rfl
  have y:List.map (tell [0,0,0,0]) (rowsOf encT65 ([(T65.mk t u v w)]:List T65))=rowsOf encT65 ([(T65.mk t u v w)]:List T65):=rfl
  obtain ⟨p,a⟩:=ifE_some.1 a
  simp (disch:=first|apply D;decide|apply K;kernel_rfl) only [E,EE,↓reduceIte,simprocAttr,xk B54 [] .sq rfl,rg B54 [1] 0 false rfl,hr 54 0 rfl,xk B54 [2] .sq rfl,rg B54 [1,2] 1 true rfl,hr 54 1 rfl,fieldAddrV,t_26,t_23,t_39,callStep,CL,gv,List.contains,buildSliceV,fillRows,sm_65,t_65,appendV,content,xk B54 [2,2] .sq rfl,rg B54 [1,2,2] 2 false rfl,hr 54 2 rfl,xk B54 [2,2,2] .sq rfl,rg B54 [1,2,2,2] 3 false rfl,hr 54 3 rfl,xk B54 [2,2,2,2] (.cd 23) rfl,d,x,y,p]
  rcases cond_some a with ⟨q,a⟩ | ⟨q,a⟩
  ·simp (disch:=first|apply D;decide|apply K;kernel_rfl) only [E,EE,↓reduceIte,simprocAttr,rg B54 [2,2,2,2,2] 4 false rfl,hr 54 4 rfl,fieldAddrV,t_26,t_23,callStep,CL,gv,List.contains,d,x,y,p,q]
   obtain ⟨o12,aa,a⟩:=bs a
   have c:=f64_ok k 0 ((IntKind.i64.wrap (((List.length (z++([(T65.mk t u v w)]:List T65))):Int) - (64:Int)))) (z++([(T65.mk t u v w)]:List T65)) _ aa
   cases o12 with
   | o0 ae =>
    (try dsimp only at a)
    (try simp only [NM,EE,R64.st] at c)
    cases a
    simp (disch:=first|apply D;decide|apply K;kernel_rfl) only [E,EE,↓reduceIte,simprocAttr,fieldAddrV,t_26,t_23,fin54,R54b.st,d,x,y,p,q,c]
   | o1 af ag ah =>
    (try dsimp only at a)
    (try simp only [NM,EE,R64.st] at c)
    cases a
    simp (disch:=first|apply D;decide|apply K;kernel_rfl) only [E,EE,↓reduceIte,simprocAttr,fieldAddrV,t_26,t_23,fin54,R54b.st,d,x,y,p,q,c]
  ·cases a
   simp (disch:=first|apply D;decide|apply K;kernel_rfl) only [E,EE,↓reduceIte,simprocAttr,xk B54 [3,2,2,2,2] .sk rfl,fin54,R54b.st,d,x,y,p,q]
noncomputable def f54b (k:Nat) (m b c d e f g h i j:Int) (a:List Int) (o l:Int) (p:List T65) (q:List T39):Option R54b:=match k with | 0=>none | k+1=>f54b_e k m b c d e f g h i j a o l p q
theorem f54b_ok (k o b d e f g h i j l a p m q s r) (t:f54b k o b d e f g h i j l a p m q s=some r):CV k 54 [.ptr 1000000 0,.agg [jI o,jI b,jU d,jI e,jI f,jI g,jI h,jI i,jI j,jI l,.sl 1 (rowsOf (encI .u8) a)]] [.box 26 [jI p,jU m,.own 1000001,.own 1000002],.row true 4 65 (rowsOf encT65 q),.row true 11 39 (rowsOf encT39 s)]=some r.st:=by
 cases k with
 | zero=>cases t
 | succ k =>
  unfold CV
  rw [ev_call (F:=Try.f54) (c:=(nav B54 [])) rfl Try.func54 rfl rfl rfl rfl]
  exact f54b_e_ok k o b d e f g h i j l a p m q s r t
-- f55: f55 heliograph/agent.judge$2
inductive R55 where
 | o0 (y:Bool) (a b:Int)
noncomputable def R55.st:R55→V×List O×List O
 | .o0 y a b=>(.p (.bool y),[.box 79 [jI a,jU b]],[])
noncomputable def f55_e (k:Nat) (o c d e f g h i j l:Int) (b:List Int) (m a:Int):Option R55 :=
 Option.bind (f37 k o c d e f g h i j l b) fun o1 =>
  match o1 with
  | .o0 p q =>
   some (.o0 (((p==m)&&(q==a))) m a)
theorem f55_e_ok (k p b c d e f g h i j a q l r) (m:f55_e k p b c d e f g h i j a q l=some r):finK Try.prog Try.f55 1 (EX 55 k (nav B55 []) (⟨8,[(0,.agg [jI p,jI b,jU c,jI d,jI e,jI f,jI g,jI h,jI i,jI j,.sl 1 (rowsOf (encI .u8) a)]),(1,.ptr 1000000 0)],[(1000000,.box 79 [jI q,jU l])]⟩:St))=some r.st:=by
 unfold f55_e at m
 obtain ⟨o1,s,m⟩:=bs m
 have o:=f37_ok k p b c d e f g h i j a _ s
 cases o1 with
 | o0 t u =>
  (try dsimp only at m)
  (try simp only [NM,EE,R37.st] at o)
  cases m
  simp (disch:=first|apply D;decide|apply K;kernel_rfl) only [E,EE,↓reduceIte,simprocAttr,xk B55 [] .sq rfl,rg B55 [1] 0 false rfl,hr 55 0 rfl,xk B55 [2] .sq rfl,rg B55 [1,2] 1 true rfl,hr 55 1 rfl,t_39,callStep,CL,gv,List.contains,t_79,ag_79,t_3,t_22,xk B55 [2,2] .rt rfl,fin55,R55.st,o]
noncomputable def f55 (k:Nat) (m b c d e f g h i j:Int) (a:List Int) (o l:Int):Option R55:=match k with | 0=>none | k+1=>f55_e k m b c d e f g h i j a o l
theorem f55_ok (k o b d e f g h i j l a p m r) (q:f55 k o b d e f g h i j l a p m=some r):CV k 55 [.agg [jI o,jI b,jU d,jI e,jI f,jI g,jI h,jI i,jI j,jI l,.sl 1 (rowsOf (encI .u8) a)],.ptr 1000000 0] [.box 79 [jI p,jU m]]=some r.st:=by
 cases k with
 | zero=>cases q
 | succ k =>
  unfold CV
  rw [ev_call (F:=Try.f55) (c:=(nav B55 [])) rfl Try.func55 rfl rfl rfl rfl]
  exact f55_e_ok k o b d e f g h i j l a p m r q
-- f61a: f61 slices.IndexFunc[[]heliograph/api.Bundle,heliograph/api.Bundle]
inductive R61a where
 | o0 (y:Int) (a:List T39) (b c:Int)
noncomputable def R61a.st:R61a→V×List O×List O
 | .o0 y a b c=>((jI y),[.row true 11 39 (rowsOf encT39 a),.box 79 [jI b,jU c]],[])
inductive R61a_l1 where
 | o0 (y:Int) (a:List T39) (b c:Int)
 | o1 (y a:Int) (b:List T39) (c d:Int)
 | o2 (y a:Int) (b:Bool) (c:List T39) (d e:Int)
noncomputable def R61a_l1.st:R61a_l1→Out×St
 | .o0 y a b c=>(.ret,(⟨19,[(4,jI y)],[(1000000,.row true 11 39 (rowsOf encT39 a)),(1000001,.box 79 [jI b,jU c])]⟩:St))
 | .o1 y a b c d=>(.norm,(⟨19,[(0,.own 1000000),(1,V.fn 55 [.ptr 1000001 0]),(7,jI y),(8,jI a)],[(1000000,.row true 11 39 (rowsOf encT39 b)),(1000001,.box 79 [jI c,jU d])]⟩:St))
 | .o2 y a b c d e=>(.exit 0,(⟨19,[(0,.own 1000000),(1,V.fn 55 [.ptr 1000001 0]),(7,jI y),(8,jI a),(9,.p (.bool b))],[(1000000,.row true 11 39 (rowsOf encT39 c)),(1000001,.box 79 [jI d,jU e])]⟩:St))
noncomputable def f61a_l1_j2 (k:Nat) (g b c:Int) (d:Bool) (e:List T39) (f a:Int):Option R61a_l1 :=
 some (.o1 b (IntKind.i64.wrap (c+(1:Int))) e f a)
theorem f61a_l1_j2_ok (k c d e b f g a r) (h:f61a_l1_j2 k c d e b f g a=some r):EX 61 k (nav B61 [2,2,2,1,2,2,1,2]) (⟨19,[(0,.own 1000000),(1,V.fn 55 [.ptr 1000001 0]),(5,jI c),(7,jI d),(8,jI e),(16,.p (.bool b))],[(1000000,.row true 11 39 (rowsOf encT39 f)),(1000001,.box 79 [jI g,jU a])]⟩:St)=some r.st:=by
 unfold f61a_l1_j2 at h
 cases h
 simp (disch:=first|apply D;decide|apply K;kernel_rfl) only [E,EE,↓reduceIte,simprocAttr,rg B61 [2,2,2,1,2,2,1,2] 6 false rfl,hr 61 6 rfl,R61a_l1.st]
noncomputable def f61a_l1_j1 (k:Nat) (g b:Int) (j:Bool) (e:List T39) (h c:Int):Option R61a_l1 :=
 ifE ((0:Int)≤b) (
  ifE (b<((List.length e):Int)) (
   Option.bind (e[(Int.toNat b)]?) fun a =>
    Option.bind (f55 k a.Source a.Dest a.Seq a.Created a.Lifetime a.HopLimit a.Hops a.Priority a.Offset a.Total a.Payload h c) fun o5 =>
     match o5 with
     | .o0 i f d =>
      cond (i)
       (some (.o0 b e f d))
       (f61a_l1_j2 k b g b false e f d)))
theorem f61a_l1_j1_ok (k g f p h i b r) (a:f61a_l1_j1 k g f p h i b=some r):EX 61 k (nav B61 [2,2,1,2,2,1,2]) (⟨19,[(0,.own 1000000),(1,V.fn 55 [.ptr 1000001 0]),(7,jI g),(8,jI f),(9,.p (.bool p))],[(1000000,.row true 11 39 (rowsOf encT39 h)),(1000001,.box 79 [jI i,jU b])]⟩:St)=some r.st:=by
 unfold f61a_l1_j1 at a
 obtain ⟨j,a⟩:=ifE_some.1 a
 obtain ⟨l,a⟩:=ifE_some.1 a
 obtain ⟨c,m,a⟩:=bs a
 obtain ⟨o5,q,a⟩:=bs a
 have d:=f55_ok k c.Source c.Dest c.Seq c.Created c.Lifetime c.HopLimit c.Hops c.Priority c.Offset c.Total c.Payload i b _ q
 cases o5 with
 | o0 t s o =>
  (try dsimp only at a)
  (try simp only [NM,EE,R55.st] at d)
  simp (disch:=first|apply D;decide|apply K;kernel_rfl) only [E,EE,↓reduceIte,simprocAttr,xk B61 [2,2,1,2,2,1,2] .sq rfl,xk B61 [1,2,2,1,2,2,1,2] (.bk 1) rfl,xk B61 [2,1,2,2,1,2,2,1,2] .sq rfl,rg B61 [1,2,1,2,2,1,2,2,1,2] 3 false rfl,hr 61 3 rfl,xk B61 [2,2,1,2,2,1,2,2,1,2] .sq rfl,rg B61 [1,2,2,1,2,2,1,2,2,1,2] 4 false rfl,hr 61 4 rfl,indexAddrV,t_24,t_39,encT39_eq,callStep,CL,gv,List.contains,xk B61 [2,2,2,1,2,2,1,2,2,1,2] (.cd 16) rfl,j,l,m,d]
  rcases cond_some a with ⟨e,a⟩ | ⟨e,a⟩
  ·cases a
   simp (disch:=first|apply D;decide|apply K;kernel_rfl) only [E,EE,↓reduceIte,simprocAttr,xk B61 [2,2,2,2,1,2,2,1,2,2,1,2] .sq rfl,rg B61 [1,2,2,2,2,1,2,2,1,2,2,1,2] 5 false rfl,hr 61 5 rfl,xk B61 [2,2,2,2,2,1,2,2,1,2,2,1,2] .rt rfl,R61a_l1.st,j,l,m,d,e]
  ·have hJ:=f61a_l1_j2_ok k f g f false h s o _ a
   simp (disch:=first|apply D;decide|apply K;kernel_rfl) only [E,EE,↓reduceIte,simprocAttr,xk B61 [3,2,2,2,1,2,2,1,2,2,1,2] .sk rfl,j,l,m,d,e]
   try simp only [NM,EE] at hJ
   exact hJ
noncomputable def f61a_l1_b (k:Nat) (b c:Int) (d:List T39) (e a:Int):Option R61a_l1 :=
 cond ((decide (c<b)))
  (f61a_l1_j1 k b c true d e a)
  (some (.o2 b c false d e a))
theorem f61a_l1_b_ok (k c d e f a r) (b:f61a_l1_b k c d e f a=some r):EX 61 k (nav B61 [1,2,2,1,2]) (⟨19,[(0,.own 1000000),(1,V.fn 55 [.ptr 1000001 0]),(7,jI c),(8,jI d)],[(1000000,.row true 11 39 (rowsOf encT39 e)),(1000001,.box 79 [jI f,jU a])]⟩:St)=some r.st:=by
 unfold f61a_l1_b at b
 simp (disch:=first|apply D;decide|apply K;kernel_rfl) only [E,EE,↓reduceIte,simprocAttr,xk B61 [1,2,2,1,2] .sq rfl,rg B61 [1,1,2,2,1,2] 2 false rfl,hr 61 2 rfl,xk B61 [2,1,2,2,1,2] .sq rfl,xk B61 [1,2,1,2,2,1,2] (.cd 9) rfl]
 rcases cond_some b with ⟨g,b⟩ | ⟨g,b⟩
 ·have hJ:=f61a_l1_j1_ok k c d true e f a _ b
  simp (disch:=first|apply D;decide|apply K;kernel_rfl) only [E,EE,↓reduceIte,simprocAttr,xk B61 [2,1,2,1,2,2,1,2] .sk rfl,g]
  try simp only [NM,EE] at hJ
  exact hJ
 ·cases b
  simp (disch:=first|apply D;decide|apply K;kernel_rfl) only [E,EE,↓reduceIte,simprocAttr,xk B61 [3,1,2,1,2,2,1,2] (.ex 0) rfl,R61a_l1.st,g]
noncomputable def f61a_l1 (k:Nat):Nat→Int→Int→(List T39)→Int→Int→Option R61a_l1
 | 0,_,_,_,_,_=>none
 | n+1,g,h,i,j,e=>Option.bind (f61a_l1_b k g h i j e) fun o =>
  match o with
  | .o0 y a b c=>some (.o0 y a b c)
  | .o1 y a b c d=>f61a_l1 k n y a b c d
  | .o2 y a b c d f=>some (.o2 y a b c d f)
theorem f61a_l1_ok (k n:Nat):∀ (f g:Int) (i:List T39) (j a:Int) (r:R61a_l1) (b:f61a_l1 k n f g i j a=some r) (σ:St) (hσ:headR (hints.head 61 2) (hints.canon 61 2) σ=some (⟨19,[(0,.own 1000000),(1,V.fn 55 [.ptr 1000001 0]),(7,jI f),(8,jI g)],[(1000000,.row true 11 39 (rowsOf encT39 i)),(1000001,.box 79 [jI j,jU a])]⟩:St)),LP 61 k (nav B61 [1,2,2,1,2]) n σ=some r.st:=by
 induction n with
 | zero=>intro f g i j a r b;cases b
 | succ n m =>
  intro f g i j a r b σ hσ
  rw [f61a_l1] at b
  obtain ⟨o,h,b⟩:=Option.bind_eq_some_iff.1 b
  have hB:=f61a_l1_b_ok k f g i j a o h
  unfold LP at m ⊢
  unfold EX at hB
  rw [loopK_succ,show firstReg (nav B61 [1,2,2,1,2])=2 from rfl,hσ,headK_some,hB]
  cases o with
  | o0 y c d e=>cases b;rfl
  | o1 y c d e l =>
   refine m y c d e l r b _ ?_
   simp (disch:=first|apply D;decide|apply K;kernel_rfl) only [E,EE,↓reduceIte,simprocAttr,hh_61_2,hc_61_2]
  | o2 y c d e l p=>cases b;rfl
noncomputable def f61a_j2 (k:Nat) (d e:Int) (f:Bool) (b:List T39) (c a:Int):Option R61a :=
 some (.o0 (-1) b c a)
theorem f61a_j2_ok (k b c d e f a r) (g:f61a_j2 k b c d e f a=some r):finK Try.prog Try.f61 2 (EX 61 k (nav B61 [2,2]) (⟨19,[(0,.own 1000000),(1,V.fn 55 [.ptr 1000001 0]),(7,jI b),(8,jI c),(9,.p (.bool d))],[(1000000,.row true 11 39 (rowsOf encT39 e)),(1000001,.box 79 [jI f,jU a])]⟩:St))=some r.st:=by
 unfold f61a_j2 at g
 cases g
 simp (disch:=first|apply D;decide|apply K;kernel_rfl) only [E,EE,↓reduceIte,simprocAttr,xk B61 [2,2] .sq rfl,rg B61 [1,2,2] 7 false rfl,hr 61 7 rfl,xk B61 [2,2,2] .rt rfl,fin61,R61a.st]
noncomputable def f61a_e (k:Nat) (f:List T39) (g a:Int):Option R61a :=
 Option.bind (f61a_l1 k k ((List.length f):Int) 0 f g a) fun o1 =>
  match o1 with
  | .o0 h i j l =>
   some (.o0 h i j l)
  | .o1 _ _ _ _ _ =>
   none
  | .o2 m o b c d e =>
   f61a_j2 k m o b c d e
theorem f61a_e_ok (k d e a r) (b:f61a_e k d e a=some r):finK Try.prog Try.f61 2 (EX 61 k (nav B61 []) (⟨19,[(0,.own 1000000),(1,V.fn 55 [.ptr 1000001 0])],[(1000000,.row true 11 39 (rowsOf encT39 d)),(1000001,.box 79 [jI e,jU a])]⟩:St))=some r.st:=by
 unfold f61a_e at b
 obtain ⟨o1,j,b⟩:=bs b
 have c:=f61a_l1_ok k k ((List.length d):Int) 0 d e a _ j
 simp (disch:=first|apply D;decide|apply K;kernel_rfl) only [E,EE,↓reduceIte,simprocAttr,xk B61 [] .sq rfl,rg B61 [1] 0 false rfl,hr 61 0 rfl,xk B61 [2] .sq rfl,xk B61 [1,2] .sq rfl,rg B61 [1,1,2] 1 false rfl,hr 61 1 rfl,t_24,xk B61 [2,1,2] (.bk 0) rfl,xk B61 [2,2,1,2] .lp rfl,hh_61_2,hc_61_2]
 (try simp only [NM,EE] at c)
 rw [c _ (by simp (disch:=first|apply D;decide|apply K;kernel_rfl) only [E,EE,↓reduceIte,simprocAttr,hh_61_2,hc_61_2])]
 clear c
 cases o1 with
 | o0 o p q s =>
  (try dsimp only at b)
  cases b
  simp (disch:=first|apply D;decide|apply K;kernel_rfl) only [E,EE,↓reduceIte,simprocAttr,R61a_l1.st,fin61,R61a.st]
 | o1 _ _ _ _ _ =>
  (try dsimp only at b)
  cases b
 | o2 l m f g h i =>
  (try dsimp only at b)
  have hJ:=f61a_j2_ok k l m f g h i _ b
  simp (disch:=first|apply D;decide|apply K;kernel_rfl) only [E,EE,↓reduceIte,simprocAttr,R61a_l1.st]
  try simp only [NM,EE] at hJ
  exact hJ
noncomputable def f61a (k:Nat) (b:List T39) (c a:Int):Option R61a:=match k with | 0=>none | k+1=>f61a_e k b c a
theorem f61a_ok (k b d a r) (e:f61a k b d a=some r):CV k 61 [.own 1000000,V.fn 55 [.ptr 1000001 0]] [.row true 11 39 (rowsOf encT39 b),.box 79 [jI d,jU a]]=some r.st:=by
 cases k with
 | zero=>cases e
 | succ k =>
  unfold CV
  rw [ev_call (F:=Try.f61) (c:=(nav B61 [])) rfl Try.func61 rfl rfl rfl rfl]
  exact f61a_e_ok k b d a r e
end Go.Proofs.YticggdfaehneeaaV