/- What the program's functions answer: plain functions,and that the interpreter answers what they do. Written by a program of this session,out of the translation. -/
import Derived.Test.YtiompmmbjpjjeaaDoorVP16
namespace Go.Proofs.YtiompmmbjpjjeaaDoorV
open Go
set_option linter.unusedVariables false
set_option linter.unusedSimpArgs false
set_option maxRecDepth 8000
set_option maxHeartbeats 4000000
-- f11: f11 heliograph/queue.Choose
inductive R11 where
 | o0 (y:Int) (a:List T56) (b c:List T44) (d:List Int)
noncomputable def R11.st:R11→V×List O×List O
 | .o0 y a b c d=>(V.tup [.agg [.own 2000000,.own 2000001,.own 2000002,.own 2000003],jI y],[],[.row true 5 56 (rowsOf encT56 a),.row true 3 44 (rowsOf encT44 b),.row true 3 44 (rowsOf encT44 c),.row true 1 3 (rowsOf (encI .i64) d)])
noncomputable def f11_e (k:Nat) (g a:Int) (b:List T54) (c:List Int) (d:Int) (e:List T44) (f:Int) (h:List T47):Option R11 :=
 Option.bind (f25 k g a b c d e f h) fun o1 =>
  match o1 with
  | .o0 i j l m o p =>
   some (.o0 i j l m o)
theorem f11_e_ok (k i a b c d e f j r) (g:f11_e k i a b c d e f j=some r):finK Tryd.prog Tryd.f11 0 (EX 11 k (nav B11 []) (⟨18,[(0,.agg [jI i,jI a,.sl 6 (rowsOf encT54 b),.sl 1 (rowsOf (encI .i64) c),jI d,.sl 3 (rowsOf encT44 e),jI f]),(1,.agg [.sl 11 (rowsOf encT47 j)])],[]⟩:St))=some r.st:=by
 unfold f11_e at g
 obtain ⟨o1,l,g⟩:=bs g
 have h:=f25_ok k i a b c d e f j _ l
 cases o1 with
 | o0 m o p q s t =>
  (try dsimp only at g)
  (try simp only [NM,EE,R25.st] at h)
  cases g
  simp only [W,simprocAttr,xk B11 [] .sq rfl,rg B11 [1] 0 false rfl,hr_11_0,t_37,sr 11 1 B11 [2] rfl rfl rfl,t_28,t_31,callStep,CL,gv,List.contains,sr 11 2 B11 [2,2] rfl rfl rfl,xk B11 [2,2,2] .rt rfl,fin11,R11.st,h]
noncomputable def f11 (k:Nat) (g a:Int) (b:List T54) (c:List Int) (d:Int) (e:List T44) (f:Int) (h:List T47):Option R11:=match k with | 0=>none | k+1=>f11_e k g a b c d e f h
theorem f11_ok (k h a b d e f g i r) (j:f11 k h a b d e f g i=some r):CV k 11 [.agg [jI h,jI a,.sl 6 (rowsOf encT54 b),.sl 1 (rowsOf (encI .i64) d),jI e,.sl 3 (rowsOf encT44 f),jI g],.agg [.sl 11 (rowsOf encT47 i)]] []=some r.st:=by
 cases k with
 | zero=>cases j
 | succ k =>
  unfold CV
  rw [ev_call (F:=Tryd.f11) (c:=(nav B11 [])) rfl Tryd.func11 rfl rfl rfl rfl]
  exact f11_e_ok k h a b d e f g i r j
-- f16: f16 heliograph/queue.Spend
inductive R16 where
 | o0 (y:List Int) (a:Int)
 | o1 (y:Int) (a:List Int)
noncomputable def R16.st:R16→V×List O×List O
 | .o0 y a=>(V.tup [.sl 1 (rowsOf (encI .i64) y),jI a],[],[])
 | .o1 y a=>(V.tup [.own 2000000,jI y],[],[.row true 1 3 (rowsOf (encI .i64) a)])
noncomputable def f16_j1 (k:Nat) (c:List Int) (a d:Int) (e:Bool):Option R16 :=
 Option.bind (f42 k c) fun o1 =>
  match o1 with
  | .o0 b =>
   ifE ((0:Int)≤a) (
    ifE (a<((List.length b):Int)) (
     Option.bind (b[(Int.toNat a)]?) fun f =>
      some (.o1 0 ((List.set b (Int.toNat a) (IntKind.i64.wrap (f - d)))))))
theorem f16_j1_ok (k f b c d r) (a:f16_j1 k f b c d=some r):finK Tryd.prog Tryd.f16 0 (EX 16 k (nav B16 [2,2]) (⟨48,[(1,.sl 1 (rowsOf (encI .i64) f)),(2,jI b),(3,jI c),(31,jT d)],[]⟩:St))=some r.st:=by
 unfold f16_j1 at a
 obtain ⟨o1,j,a⟩:=bs a
 have e:=f42_ok k f _ j
 cases o1 with
 | o0 g =>
  (try dsimp only at a)
  (try simp only [NM,EE,R42.st] at e)
  obtain ⟨m,a⟩:=ifE_some.1 a
  obtain ⟨o,a⟩:=ifE_some.1 a
  obtain ⟨h,p,a⟩:=bs a
  have q:List.set (rowsOf (encI .i64) g) (Int.toNat b) [(jI (IntKind.i64.wrap (h - c)))]=rowsOf (encI .i64) (List.set g (Int.toNat b) (IntKind.i64.wrap (h - c))):=(rowsOf_set (enc:=(encI .i64)) (l:=g) (i:=(Int.toNat b)) (x:=(IntKind.i64.wrap (h - c)))).symm
  cases a
  simp only [W,simprocAttr,sr 16 7 B16 [2,2] rfl rfl rfl,callStep,CL,gv,List.contains,sr 16 8 B16 [2,2,2] rfl rfl rfl,indexAddrV,t_25,t_3,encI_eq,sm_3,sr 16 9 B16 [2,2,2,2] rfl rfl rfl,xk B16 [2,2,2,2,2] .rt rfl,fin16,R16.st,e,m,o,p,q]
noncomputable def f16_e (k:Nat) (g:Int) (a:List T54) (b:List Int) (c d:Int):Option R16 :=
 Option.bind (f33 k g a) fun o1 =>
  match o1 with
  | .o0 h =>
   cond ((h != 0))
    (some (.o0 [] 230))
    (
     Option.bind (f40 k g a b) fun o6 =>
      match o6 with
      | .o0 i =>
       cond ((!i))
        (some (.o0 [] 2))
        (
         Option.bind (f41 k c 0 ((IntKind.i64.wrap (((List.length b):Int) - (1:Int))))) fun o11 =>
          match o11 with
          | .o0 e =>
           cond ((!e))
            (some (.o0 [] 2))
            (
             cond ((decide (d<0)))
              (some (.o0 [] 2))
              (
               ifE ((0:Int)≤c) (
                Option.bind (b[(Int.toNat c)]?) fun f =>
                 cond ((decide (d>f)))
                  (some (.o0 [] 6))
                  (f16_j1 k b c d false))))))
theorem f16_e_ok (k p g o q s r) (a:f16_e k p g o q s=some r):finK Tryd.prog Tryd.f16 0 (EX 16 k (nav B16 []) (⟨48,[(0,.agg [jI p,.sl 6 (rowsOf encT54 g)]),(1,.sl 1 (rowsOf (encI .i64) o)),(2,jI q),(3,jI s)],[]⟩:St))=some r.st:=by
 unfold f16_e at a
 obtain ⟨o1,u,a⟩:=bs a
 have c:=f33_ok k p g _ u
 cases o1 with
 | o0 y =>
  (try dsimp only at a)
  (try simp only [NM,EE,R33.st] at c)
  simp only [W,simprocAttr,sr 16 0 B16 [] rfl rfl rfl,xk B16 [2] .sq rfl,xk B16 [1,2] (.bk 0) rfl,sr 16 1 B16 [2,1,2] rfl rfl rfl,t_24,callStep,CL,gv,List.contains,xk B16 [2,2,1,2] (.cd 10) rfl,c]
  rcases cond_some a with ⟨h,a⟩ | ⟨h,a⟩
  ·cases a
   simp only [W,simprocAttr,xk B16 [2,2,2,1,2] .sq rfl,rg B16 [1,2,2,2,1,2] 2 false rfl,hr_16_2,xk B16 [2,2,2,2,1,2] .rt rfl,fin16,R16.st,c,h]
  ·obtain ⟨o6,v,a⟩:=bs a
   have d:=f40_ok k p g o _ v
   cases o6 with
   | o0 z =>
    (try dsimp only at a)
    (try simp only [NM,EE,R40.st] at d)
    simp only [W,simprocAttr,sr 16 3 B16 [3,2,2,1,2] rfl rfl rfl,t_24,callStep,CL,gv,List.contains,c,h,d]
    rcases cond_some a with ⟨e,a⟩ | ⟨e,a⟩
    ·cases a
     simp only [W,simprocAttr,xk B16 [2,3,2,2,1,2] (.cd 14) rfl,xk B16 [2,2,3,2,2,1,2] .sq rfl,rg B16 [1,2,2,3,2,2,1,2] 4 false rfl,hr_16_4,xk B16 [2,2,2,3,2,2,1,2] .rt rfl,fin16,R16.st,c,h,d,e]
    ·obtain ⟨o11,t,a⟩:=bs a
     have b:=f41_ok k q 0 ((IntKind.i64.wrap (((List.length o):Int) - (1:Int)))) _ t
     cases o11 with
     | o0 w =>
      (try dsimp only at a)
      (try simp only [NM,EE,R41.st] at b)
      simp only [W,simprocAttr,t_25,callStep,CL,gv,List.contains,c,h,d,e,b]
      rcases cond_some a with ⟨f,a⟩ | ⟨f,a⟩
      ·cases a
       simp only [W,simprocAttr,xk B16 [2,3,2,2,1,2] (.cd 14) rfl,xk B16 [2,2,3,2,2,1,2] .sq rfl,rg B16 [1,2,2,3,2,2,1,2] 4 false rfl,hr_16_4,xk B16 [2,2,2,3,2,2,1,2] .rt rfl,fin16,R16.st,c,h,d,e,b,f]
      ·simp only [W,simprocAttr,xk B16 [2,3,2,2,1,2] (.cd 14) rfl,c,h,d,e,b,f]
       rcases cond_some a with ⟨i,a⟩ | ⟨i,a⟩
       ·cases a
        simp only [W,simprocAttr,xk B16 [2,2,3,2,2,1,2] .sq rfl,rg B16 [1,2,2,3,2,2,1,2] 4 false rfl,hr_16_4,xk B16 [2,2,2,3,2,2,1,2] .rt rfl,fin16,R16.st,c,h,d,e,b,f,i]
       ·obtain ⟨j,a⟩:=ifE_some.1 a
        obtain ⟨x,l,a⟩:=bs a
        simp only [W,simprocAttr,sr 16 5 B16 [3,2,3,2,2,1,2] rfl rfl rfl,indexAddrV,t_25,t_3,encI_eq,xk B16 [2,3,2,3,2,2,1,2] (.cd 31) rfl,c,h,d,e,b,f,i,j,l]
        rcases cond_some a with ⟨m,a⟩ | ⟨m,a⟩
        ·cases a
         simp only [W,simprocAttr,xk B16 [2,2,3,2,3,2,2,1,2] .sq rfl,rg B16 [1,2,2,3,2,3,2,2,1,2] 6 false rfl,hr_16_6,xk B16 [2,2,2,3,2,3,2,2,1,2] .rt rfl,fin16,R16.st,c,h,d,e,b,f,i,j,l,m]
        ·have hJ:=f16_j1_ok k o q s false _ a
         simp only [W,simprocAttr,xk B16 [3,2,3,2,3,2,2,1,2] .sk rfl,c,h,d,e,b,f,i,j,l,m]
         try simp only [NM,EE] at hJ
         exact hJ
noncomputable def f16 (k:Nat) (b:Int) (a:List T54) (c:List Int) (d e:Int):Option R16:=match k with | 0=>none | k+1=>f16_e k b a c d e
theorem f16_ok (k b a d e f r) (g:f16 k b a d e f=some r):CV k 16 [.agg [jI b,.sl 6 (rowsOf encT54 a)],.sl 1 (rowsOf (encI .i64) d),jI e,jI f] []=some r.st:=by
 cases k with
 | zero=>cases g
 | succ k =>
  unfold CV
  rw [ev_call (F:=Tryd.f16) (c:=(nav B16 [])) rfl Tryd.func16 rfl rfl rfl rfl]
  exact f16_e_ok k b a d e f r g
end Go.Proofs.YtiompmmbjpjjeaaDoorV