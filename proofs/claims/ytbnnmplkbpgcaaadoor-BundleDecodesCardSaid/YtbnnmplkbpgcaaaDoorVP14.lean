/- What the program's functions answer: plain functions,and that the interpreter answers what they do. Written by a program of this session,out of the translation. -/
import Derived.Test.YtbnnmplkbpgcaaaDoorVP13
namespace Go.Proofs.YtbnnmplkbpgcaaaDoorV
open Go
set_option linter.unusedVariables false
set_option linter.unusedSimpArgs false
set_option maxRecDepth 8000
set_option maxHeartbeats 4000000
-- f15: f15 heliograph/heliographref09.Right
inductive R15 where
 | o0 (y:Bool)
noncomputable def R15.st:R15→V×List O×List O
 | .o0 y=>(jT y,[],[])
noncomputable def f15_j2 (k:Nat) (l:Bool) (m d e f g h i j b c:Int) (a:List Int):Option R15 :=
 cond ((decide (((List.length a):Int)≥1)))
  (
   cond ((decide (((List.length a):Int)≤c)))
    (
     cond ((decide (b≥0)))
      (some (.o0 (decide (b≤(IntKind.i64.wrap (c - ((List.length a):Int)))))))
      (some (.o0 false)))
    (some (.o0 false)))
  (some (.o0 false))
theorem f15_j2_ok (k o s c d e f g h i j l b r) (a:f15_j2 k o s c d e f g h i j l b=some r):finK Tryd.prog Tryd.f15 0 (EX 15 k (nav B15 [2,2,2]) (⟨114,[(1,.ptr 1 0),(85,jT o)],[(1,.box 26 [jI s,jI c,jU d,jI e,jI f,jI g,jI h,jI i,jI j,jI l,jB b])]⟩:St))=some r.st:=by
 unfold f15_j2 at a
 simp (disch:=first|apply D;decide|apply K;kernel_rfl) only [W,simprocAttr,xk B15 [2,2,2] .sq rfl,rg B15 [1,2,2,2] 5 false rfl,hr 15 5 rfl,fieldAddrV,t_26,t_22]
 rcases cond_some a with ⟨m,a⟩ | ⟨m,a⟩
 ·simp (disch:=first|apply D;decide|apply K;kernel_rfl) only [W,simprocAttr,fieldAddrV,t_26,t_22,t_3,m]
  rcases cond_some a with ⟨p,a⟩ | ⟨p,a⟩
  ·simp (disch:=first|apply D;decide|apply K;kernel_rfl) only [W,simprocAttr,fieldAddrV,t_26,t_3,m,p]
   rcases cond_some a with ⟨q,a⟩ | ⟨q,a⟩
   ·cases a
    simp (disch:=first|apply D;decide|apply K;kernel_rfl) only [W,simprocAttr,fieldAddrV,t_26,t_3,t_22,xk B15 [2,2,2,2] .rt rfl,fin15,R15.st,m,p,q]
   ·cases a
    simp (disch:=first|apply D;decide|apply K;kernel_rfl) only [W,simprocAttr,xk B15 [2,2,2,2] .rt rfl,fin15,R15.st,m,p,q]
  ·cases a
   simp (disch:=first|apply D;decide|apply K;kernel_rfl) only [W,simprocAttr,xk B15 [2,2,2,2] .rt rfl,fin15,R15.st,m,p]
 ·cases a
  simp (disch:=first|apply D;decide|apply K;kernel_rfl) only [W,simprocAttr,xk B15 [2,2,2,2] .rt rfl,fin15,R15.st,m]
noncomputable def f15_j1 (k:Nat) (l:Bool) (m f g h i a b c j d:Int) (e:List Int):Option R15 :=
 cond ((decide (a<1)))
  (some (.o0 false))
  (
   cond ((decide (a>16)))
    (some (.o0 false))
    (
     cond ((decide (b<0)))
      (some (.o0 false))
      (
       cond ((decide (b>a)))
        (some (.o0 false))
        (
         cond ((decide (c<0)))
          (some (.o0 false))
          (
           cond ((decide (c>2)))
            (some (.o0 false))
            (
             cond ((decide (d<1)))
              (some (.o0 false))
              (
               cond ((decide (d>400)))
                (some (.o0 false))
                (f15_j2 k false m f g h i a b c j d e))))))))
theorem f15_j1_ok (k u w f g h i j l m o p c r) (a:f15_j1 k u w f g h i j l m o p c=some r):finK Tryd.prog Tryd.f15 0 (EX 15 k (nav B15 [2,2]) (⟨114,[(1,.ptr 1 0),(45,jT u)],[(1,.box 26 [jI w,jI f,jU g,jI h,jI i,jI j,jI l,jI m,jI o,jI p,jB c])]⟩:St))=some r.st:=by
 unfold f15_j1 at a
 simp (disch:=first|apply D;decide|apply K;kernel_rfl) only [W,simprocAttr,xk B15 [2,2] .sq rfl,xk B15 [1,2,2] .sq rfl,rg B15 [1,1,2,2] 3 false rfl,hr 15 3 rfl,fieldAddrV,t_26,t_3]
 rcases cond_some a with ⟨b,a⟩ | ⟨b,a⟩
 ·cases a
  simp (disch:=first|apply D;decide|apply K;kernel_rfl) only [W,simprocAttr,xk B15 [2,1,2,2] (.cd 85) rfl,xk B15 [2,2,1,2,2] .sq rfl,rg B15 [1,2,2,1,2,2] 4 false rfl,hr 15 4 rfl,xk B15 [2,2,2,1,2,2] .rt rfl,fin15,R15.st,b]
 ·simp (disch:=first|apply D;decide|apply K;kernel_rfl) only [W,simprocAttr,fieldAddrV,t_26,t_3,b]
  rcases cond_some a with ⟨d,a⟩ | ⟨d,a⟩
  ·cases a
   simp (disch:=first|apply D;decide|apply K;kernel_rfl) only [W,simprocAttr,xk B15 [2,1,2,2] (.cd 85) rfl,xk B15 [2,2,1,2,2] .sq rfl,rg B15 [1,2,2,1,2,2] 4 false rfl,hr 15 4 rfl,xk B15 [2,2,2,1,2,2] .rt rfl,fin15,R15.st,b,d]
  ·simp (disch:=first|apply D;decide|apply K;kernel_rfl) only [W,simprocAttr,fieldAddrV,t_26,t_3,b,d]
   rcases cond_some a with ⟨e,a⟩ | ⟨e,a⟩
   ·cases a
    simp (disch:=first|apply D;decide|apply K;kernel_rfl) only [W,simprocAttr,xk B15 [2,1,2,2] (.cd 85) rfl,xk B15 [2,2,1,2,2] .sq rfl,rg B15 [1,2,2,1,2,2] 4 false rfl,hr 15 4 rfl,xk B15 [2,2,2,1,2,2] .rt rfl,fin15,R15.st,b,d,e]
   ·simp (disch:=first|apply D;decide|apply K;kernel_rfl) only [W,simprocAttr,fieldAddrV,t_26,t_3,b,d,e]
    rcases cond_some a with ⟨q,a⟩ | ⟨q,a⟩
    ·cases a
     simp (disch:=first|apply D;decide|apply K;kernel_rfl) only [W,simprocAttr,xk B15 [2,1,2,2] (.cd 85) rfl,xk B15 [2,2,1,2,2] .sq rfl,rg B15 [1,2,2,1,2,2] 4 false rfl,hr 15 4 rfl,xk B15 [2,2,2,1,2,2] .rt rfl,fin15,R15.st,b,d,e,q]
    ·simp (disch:=first|apply D;decide|apply K;kernel_rfl) only [W,simprocAttr,fieldAddrV,t_26,t_3,b,d,e,q]
     rcases cond_some a with ⟨s,a⟩ | ⟨s,a⟩
     ·cases a
      simp (disch:=first|apply D;decide|apply K;kernel_rfl) only [W,simprocAttr,xk B15 [2,1,2,2] (.cd 85) rfl,xk B15 [2,2,1,2,2] .sq rfl,rg B15 [1,2,2,1,2,2] 4 false rfl,hr 15 4 rfl,xk B15 [2,2,2,1,2,2] .rt rfl,fin15,R15.st,b,d,e,q,s]
     ·simp (disch:=first|apply D;decide|apply K;kernel_rfl) only [W,simprocAttr,fieldAddrV,t_26,t_3,b,d,e,q,s]
      rcases cond_some a with ⟨t,a⟩ | ⟨t,a⟩
      ·cases a
       simp (disch:=first|apply D;decide|apply K;kernel_rfl) only [W,simprocAttr,xk B15 [2,1,2,2] (.cd 85) rfl,xk B15 [2,2,1,2,2] .sq rfl,rg B15 [1,2,2,1,2,2] 4 false rfl,hr 15 4 rfl,xk B15 [2,2,2,1,2,2] .rt rfl,fin15,R15.st,b,d,e,q,s,t]
      ·simp (disch:=first|apply D;decide|apply K;kernel_rfl) only [W,simprocAttr,fieldAddrV,t_26,t_3,b,d,e,q,s,t]
       rcases cond_some a with ⟨v,a⟩ | ⟨v,a⟩
       ·cases a
        simp (disch:=first|apply D;decide|apply K;kernel_rfl) only [W,simprocAttr,xk B15 [2,1,2,2] (.cd 85) rfl,xk B15 [2,2,1,2,2] .sq rfl,rg B15 [1,2,2,1,2,2] 4 false rfl,hr 15 4 rfl,xk B15 [2,2,2,1,2,2] .rt rfl,fin15,R15.st,b,d,e,q,s,t,v]
       ·simp (disch:=first|apply D;decide|apply K;kernel_rfl) only [W,simprocAttr,fieldAddrV,t_26,t_3,xk B15 [2,1,2,2] (.cd 85) rfl,b,d,e,q,s,t,v]
        rcases cond_some a with ⟨x,a⟩ | ⟨x,a⟩
        ·cases a
         simp (disch:=first|apply D;decide|apply K;kernel_rfl) only [W,simprocAttr,xk B15 [2,2,1,2,2] .sq rfl,rg B15 [1,2,2,1,2,2] 4 false rfl,hr 15 4 rfl,xk B15 [2,2,2,1,2,2] .rt rfl,fin15,R15.st,b,d,e,q,s,t,v,x]
        ·have hJ:=f15_j2_ok k false w f g h i j l m o p c _ a
         simp (disch:=first|apply D;decide|apply K;kernel_rfl) only [W,simprocAttr,xk B15 [3,2,1,2,2] .sk rfl,b,d,e,q,s,t,v,x]
         try simp only [NM,EE] at hJ
         exact hJ
noncomputable def f15_e (k:Nat) (l a d b c f g h i j:Int) (e:List Int):Option R15 :=
 cond ((decide (l<1)))
  (some (.o0 false))
  (
   cond ((decide (l>6)))
    (some (.o0 false))
    (
     cond ((decide (a<1)))
      (some (.o0 false))
      (
       cond ((decide (a>6)))
        (some (.o0 false))
        (
         cond ((d==0))
          (some (.o0 false))
          (
           cond ((decide (b<0)))
            (some (.o0 false))
            (
             cond ((decide (b>1048576)))
              (some (.o0 false))
              (
               cond ((decide (c<1)))
                (some (.o0 false))
                (
                 cond ((decide (c>1048576)))
                  (some (.o0 false))
                  (f15_j1 k false l a d b c f g h i j e)))))))))
theorem f15_e_ok (k w g h i j l m o p q d r) (a:f15_e k w g h i j l m o p q d=some r):finK Tryd.prog Tryd.f15 0 (EX 15 k (nav B15 []) (⟨114,[(0,.agg [jI w,jI g,jU h,jI i,jI j,jI l,jI m,jI o,jI p,jI q,jB d])],[]⟩:St))=some r.st:=by
 unfold f15_e at a
 simp (disch:=first|apply D;decide|apply K;kernel_rfl) only [W,simprocAttr,xk B15 [] .sq rfl,rg B15 [1] 0 false rfl,hr 15 0 rfl,xk B15 [2] .sq rfl,xk B15 [1,2] .sq rfl,rg B15 [1,1,2] 1 false rfl,hr 15 1 rfl,fieldAddrV,t_26,t_3]
 rcases cond_some a with ⟨b,a⟩ | ⟨b,a⟩
 ·cases a
  simp (disch:=first|apply D;decide|apply K;kernel_rfl) only [W,simprocAttr,xk B15 [2,1,2] (.cd 45) rfl,xk B15 [2,2,1,2] .sq rfl,rg B15 [1,2,2,1,2] 2 false rfl,hr 15 2 rfl,xk B15 [2,2,2,1,2] .rt rfl,fin15,R15.st,b]
 ·simp (disch:=first|apply D;decide|apply K;kernel_rfl) only [W,simprocAttr,fieldAddrV,t_26,t_3,b]
  rcases cond_some a with ⟨c,a⟩ | ⟨c,a⟩
  ·cases a
   simp (disch:=first|apply D;decide|apply K;kernel_rfl) only [W,simprocAttr,xk B15 [2,1,2] (.cd 45) rfl,xk B15 [2,2,1,2] .sq rfl,rg B15 [1,2,2,1,2] 2 false rfl,hr 15 2 rfl,xk B15 [2,2,2,1,2] .rt rfl,fin15,R15.st,b,c]
  ·simp (disch:=first|apply D;decide|apply K;kernel_rfl) only [W,simprocAttr,fieldAddrV,t_26,t_3,b,c]
   rcases cond_some a with ⟨e,a⟩ | ⟨e,a⟩
   ·cases a
    simp (disch:=first|apply D;decide|apply K;kernel_rfl) only [W,simprocAttr,xk B15 [2,1,2] (.cd 45) rfl,xk B15 [2,2,1,2] .sq rfl,rg B15 [1,2,2,1,2] 2 false rfl,hr 15 2 rfl,xk B15 [2,2,2,1,2] .rt rfl,fin15,R15.st,b,c,e]
   ·simp (disch:=first|apply D;decide|apply K;kernel_rfl) only [W,simprocAttr,fieldAddrV,t_26,t_3,b,c,e]
    rcases cond_some a with ⟨f,a⟩ | ⟨f,a⟩
    ·cases a
     simp (disch:=first|apply D;decide|apply K;kernel_rfl) only [W,simprocAttr,xk B15 [2,1,2] (.cd 45) rfl,xk B15 [2,2,1,2] .sq rfl,rg B15 [1,2,2,1,2] 2 false rfl,hr 15 2 rfl,xk B15 [2,2,2,1,2] .rt rfl,fin15,R15.st,b,c,e,f]
    ·simp (disch:=first|apply D;decide|apply K;kernel_rfl) only [W,simprocAttr,fieldAddrV,t_26,t_24,b,c,e,f]
     rcases cond_some a with ⟨s,a⟩ | ⟨s,a⟩
     ·cases a
      simp (disch:=first|apply D;decide|apply K;kernel_rfl) only [W,simprocAttr,xk B15 [2,1,2] (.cd 45) rfl,xk B15 [2,2,1,2] .sq rfl,rg B15 [1,2,2,1,2] 2 false rfl,hr 15 2 rfl,xk B15 [2,2,2,1,2] .rt rfl,fin15,R15.st,b,c,e,f,s]
     ·simp (disch:=first|apply D;decide|apply K;kernel_rfl) only [W,simprocAttr,fieldAddrV,t_26,t_3,b,c,e,f,s]
      rcases cond_some a with ⟨t,a⟩ | ⟨t,a⟩
      ·cases a
       simp (disch:=first|apply D;decide|apply K;kernel_rfl) only [W,simprocAttr,xk B15 [2,1,2] (.cd 45) rfl,xk B15 [2,2,1,2] .sq rfl,rg B15 [1,2,2,1,2] 2 false rfl,hr 15 2 rfl,xk B15 [2,2,2,1,2] .rt rfl,fin15,R15.st,b,c,e,f,s,t]
      ·simp (disch:=first|apply D;decide|apply K;kernel_rfl) only [W,simprocAttr,fieldAddrV,t_26,t_3,b,c,e,f,s,t]
       rcases cond_some a with ⟨u,a⟩ | ⟨u,a⟩
       ·cases a
        simp (disch:=first|apply D;decide|apply K;kernel_rfl) only [W,simprocAttr,xk B15 [2,1,2] (.cd 45) rfl,xk B15 [2,2,1,2] .sq rfl,rg B15 [1,2,2,1,2] 2 false rfl,hr 15 2 rfl,xk B15 [2,2,2,1,2] .rt rfl,fin15,R15.st,b,c,e,f,s,t,u]
       ·simp (disch:=first|apply D;decide|apply K;kernel_rfl) only [W,simprocAttr,fieldAddrV,t_26,t_3,b,c,e,f,s,t,u]
        rcases cond_some a with ⟨v,a⟩ | ⟨v,a⟩
        ·cases a
         simp (disch:=first|apply D;decide|apply K;kernel_rfl) only [W,simprocAttr,xk B15 [2,1,2] (.cd 45) rfl,xk B15 [2,2,1,2] .sq rfl,rg B15 [1,2,2,1,2] 2 false rfl,hr 15 2 rfl,xk B15 [2,2,2,1,2] .rt rfl,fin15,R15.st,b,c,e,f,s,t,u,v]
        ·simp (disch:=first|apply D;decide|apply K;kernel_rfl) only [W,simprocAttr,fieldAddrV,t_26,t_3,xk B15 [2,1,2] (.cd 45) rfl,b,c,e,f,s,t,u,v]
         rcases cond_some a with ⟨x,a⟩ | ⟨x,a⟩
         ·cases a
          simp (disch:=first|apply D;decide|apply K;kernel_rfl) only [W,simprocAttr,xk B15 [2,2,1,2] .sq rfl,rg B15 [1,2,2,1,2] 2 false rfl,hr 15 2 rfl,xk B15 [2,2,2,1,2] .rt rfl,fin15,R15.st,b,c,e,f,s,t,u,v,x]
         ·have hJ:=f15_j1_ok k false w g h i j l m o p q d _ a
          simp (disch:=first|apply D;decide|apply K;kernel_rfl) only [W,simprocAttr,xk B15 [3,2,1,2] .sk rfl,b,c,e,f,s,t,u,v,x]
          try simp only [NM,EE] at hJ
          exact hJ
noncomputable def f15 (k:Nat) (l b c d e f g h i j:Int) (a:List Int):Option R15:=match k with | 0=>none | k+1=>f15_e k l b c d e f g h i j a
theorem f15_ok (k m b d e f g h i j l a r) (o:f15 k m b d e f g h i j l a=some r):CV k 15 [.agg [jI m,jI b,jU d,jI e,jI f,jI g,jI h,jI i,jI j,jI l,jB a]] []=some r.st:=by
 cases k with
 | zero=>cases o
 | succ k =>
  unfold CV
  rw [ev_call (F:=Tryd.f15) (c:=(nav B15 [])) rfl Tryd.func15 rfl rfl rfl rfl]
  exact f15_e_ok k m b d e f g h i j l a r o
-- f18: f18 heliograph/heliographref09.Bytes
inductive R18 where
 | o0 (y:List Int)
noncomputable def R18.st:R18→V×List O×List O
 | .o0 y=>(.own 2000000,[],[.row true 1 5 (rowsOf (encI .u8) y)])
inductive R18_l1 where
 | o0 (y e f g h i j l m o a:Int) (b c d:List Int)
 | o1 (y:Int) (e:Bool) (f g h i j l m o a b:Int) (c d p:List Int)
noncomputable def R18_l1.st:R18_l1→Out×St
 | .o0 y e f g h i j l m o a b c d=>(.norm,(⟨70,[(1,.ptr 30000 0),(3,.own 42),(4,.own 30002),(5,jI y)],[(30000,.box 26 [jI e,jI f,jU g,jI h,jI i,jI j,jI l,jI m,jI o,jI a,jB b]),(42,.row true 1 5 (rowsOf (encI .u8) c)),(30002,.row true 1 3 (rowsOf (encI .i64) d))]⟩:St))
 | .o1 y e f g h i j l m o a b c d p=>(.exit 0,(⟨70,[(1,.ptr 30000 0),(3,.own 30001),(4,.own 30002),(5,jI y),(32,jT e)],[(30000,.box 26 [jI f,jI g,jU h,jI i,jI j,jI l,jI m,jI o,jI a,jI b,jB c]),(30001,.row true 1 5 (rowsOf (encI .u8) d)),(30002,.row true 1 3 (rowsOf (encI .i64) p))]⟩:St))
noncomputable def f18_l1_j2 (k:Nat) (p l b c d e f g h i j:Int) (a m o:List Int):Option R18_l1 :=
 some (.o0 (IntKind.i64.wrap (p+(1:Int))) l b c d e f g h i j a m o)
theorem f18_l1_j2_ok (k p l b c d e f g h i j a m o r) (q:f18_l1_j2 k p l b c d e f g h i j a m o=some r):EX 18 k (nav B18 [2,2,1,2,2,1,2,2,2]) (⟨70,[(1,.ptr 30000 0),(3,.own 42),(4,.own 30002),(5,jI p)],[(30000,.box 26 [jI l,jI b,jU c,jI d,jI e,jI f,jI g,jI h,jI i,jI j,jB a]),(42,.row true 1 5 (rowsOf (encI .u8) m)),(30002,.row true 1 3 (rowsOf (encI .i64) o))]⟩:St)=some r.st:=by
 unfold f18_l1_j2 at q
 cases q
 simp (disch:=first|apply D;decide|apply K;kernel_rfl) only [W,simprocAttr,rg B18 [2,2,1,2,2,1,2,2,2] 5 false rfl,hr 18 5 rfl,R18_l1.st]
noncomputable def f18_l1_j1 (k:Nat) (m:Int) (s:Bool) (o b c d e f g h i j:Int) (a p l:List Int):Option R18_l1 :=
 ifE ((0:Int)≤m) (
  ifE (m<((List.length l):Int)) (
   Option.bind (l[(Int.toNat m)]?) fun t =>
    Option.bind (f39 k 0 (IntKind.u64.wrap t)) fun o5 =>
     match o5 with
     | .o0 u =>
      Option.bind (f40b k p u) fun o9 =>
       match o9 with
       | .o0 q =>
        f18_l1_j2 k m o b c d e f g h i j a q l))
theorem f18_l1_j1_ok (k u s o b c d e f g h i j a p q r) (l:f18_l1_j1 k u s o b c d e f g h i j a p q=some r):EX 18 k (nav B18 [2,1,2,2,1,2,2,2]) (⟨70,[(1,.ptr 30000 0),(3,.own 30001),(4,.own 30002),(5,jI u),(32,jT s)],[(30000,.box 26 [jI o,jI b,jU c,jI d,jI e,jI f,jI g,jI h,jI i,jI j,jB a]),(30001,.row true 1 5 (rowsOf (encI .u8) p)),(30002,.row true 1 3 (rowsOf (encI .i64) q))]⟩:St)=some r.st:=by
 unfold f18_l1_j1 at l
 obtain ⟨x,l⟩:=ifE_some.1 l
 obtain ⟨y,l⟩:=ifE_some.1 l
 obtain ⟨z,n,l⟩:=bs l
 obtain ⟨o5,h6,l⟩:=bs l
 have t:=f39_ok k 0 (IntKind.u64.wrap z) _ h6
 cases o5 with
 | o0 v8 =>
  (try dsimp only at l)
  (try simp only [NM,EE,R39.st] at t)
  obtain ⟨o9,v,l⟩:=bs l
  have m:=f40b_ok k p v8 _ v
  cases o9 with
  | o0 w =>
   (try dsimp only at l)
   (try simp only [NM,EE,R40b.st] at m)
   have hJ:=f18_l1_j2_ok k u o b c d e f g h i j a w q _ l
   simp (disch:=first|apply D;decide|apply K;kernel_rfl) only [W,simprocAttr,xk B18 [2,1,2,2,1,2,2,2] .sq rfl,xk B18 [1,2,1,2,2,1,2,2,2] (.bk 1) rfl,rg B18 [2,1,2,1,2,2,1,2,2,2] 6 false rfl,hr 18 6 rfl,indexAddrV,t_66,t_3,encI_eq,t_47,convV,callStep,CL,gv,List.contains,x,y,n,t,m]
   try simp only [NM,EE] at hJ
   exact hJ
noncomputable def f18_l1_b (k:Nat) (p m b c d e f g h i j:Int) (a o l:List Int):Option R18_l1 :=
 cond ((decide (p<((List.length l):Int))))
  (f18_l1_j1 k p true m b c d e f g h i j a o l)
  (some (.o1 p false m b c d e f g h i j a o l))
theorem f18_l1_b_ok (k q l b c d e f g h i j a m o r) (p:f18_l1_b k q l b c d e f g h i j a m o=some r):EX 18 k (nav B18 [1,2,2,1,2,2,2]) (⟨70,[(1,.ptr 30000 0),(3,.own 30001),(4,.own 30002),(5,jI q)],[(30000,.box 26 [jI l,jI b,jU c,jI d,jI e,jI f,jI g,jI h,jI i,jI j,jB a]),(30001,.row true 1 5 (rowsOf (encI .u8) m)),(30002,.row true 1 3 (rowsOf (encI .i64) o))]⟩:St)=some r.st:=by
 unfold f18_l1_b at p
 simp (disch:=first|apply D;decide|apply K;kernel_rfl) only [W,simprocAttr,xk B18 [1,2,2,1,2,2,2] .sq rfl,xk B18 [1,1,2,2,1,2,2,2] .sq rfl,rg B18 [1,1,1,2,2,1,2,2,2] 4 false rfl,hr 18 4 rfl,t_66,xk B18 [2,1,1,2,2,1,2,2,2] (.cd 32) rfl]
 rcases cond_some p with ⟨s,p⟩ | ⟨s,p⟩
 ·have hJ:=f18_l1_j1_ok k q true l b c d e f g h i j a m o _ p
  simp (disch:=first|apply D;decide|apply K;kernel_rfl) only [W,simprocAttr,xk B18 [2,2,1,1,2,2,1,2,2,2] .sk rfl,s]
  try simp only [NM,EE] at hJ
  exact hJ
 ·cases p
  simp (disch:=first|apply D;decide|apply K;kernel_rfl) only [W,simprocAttr,xk B18 [3,2,1,1,2,2,1,2,2,2] (.ex 0) rfl,R18_l1.st,s]
noncomputable def f18_l1 (k:Nat):Nat→Int→Int→Int→Int→Int→Int→Int→Int→Int→Int→Int→(List Int)→(List Int)→(List Int)→Option R18_l1
 | 0,_,_,_,_,_,_,_,_,_,_,_,_,_,_=>none
 | n+1,x5,ac,f,g,h,i,j,l,m,p,q,e,ad,ae=>Option.bind (f18_l1_b k x5 ac f g h i j l m p q e ad ae) fun o =>
  match o with
  | .o0 y s t u v w x z r aa a b c d=>f18_l1 k n y s t u v w x z r aa a b c d
  | .o1 y s t u v w x z r aa a b c d ab=>some (.o1 y s t u v w x z r aa a b c d ab)
theorem f18_l1_ok (k n:Nat):∀ (x m b c d e f g i j l:Int) (a p q:List Int) (r:R18_l1) (s:f18_l1 k n x m b c d e f g i j l a p q=some r) (σ:St) (hσ:headR (hints.head 18 4) (hints.canon 18 4) σ=some (⟨70,[(1,.ptr 30000 0),(3,.own 30001),(4,.own 30002),(5,jI x)],[(30000,.box 26 [jI m,jI b,jU c,jI d,jI e,jI f,jI g,jI i,jI j,jI l,jB a]),(30001,.row true 1 5 (rowsOf (encI .u8) p)),(30002,.row true 1 3 (rowsOf (encI .i64) q))]⟩:St)),LP 18 k (nav B18 [1,2,2,1,2,2,2]) n σ=some r.st:=by
 induction n with
 | zero=>intro x m b c d e f g i j l a p q r s;cases s
 | succ n ih =>
  intro x m b c d e f g i j l a p q r s σ hσ
  rw [f18_l1] at s
  obtain ⟨o,h,s⟩:=Option.bind_eq_some_iff.1 s
  have hB:=f18_l1_b_ok k x m b c d e f g i j l a p q o h
  unfold LP at ih ⊢
  unfold EX at hB
  rw [loopK_succ,show firstReg (nav B18 [1,2,2,1,2,2,2])=4 from rfl,hσ,headK_some,hB]
  cases o with
  | o0 y z aa ab ac ad ae af ag ah t u v w =>
   refine ih y z aa ab ac ad ae af ag ah t u v w r s _ ?_
   simp (disch:=first|apply D;decide|apply K;kernel_rfl) only [W,simprocAttr,hh_18_4,hc_18_4]
  | o1 y z aa ab ac ad ae af ag ah t u v w aj=>cases s;rfl
noncomputable def f18_j2 (k:Nat) (x5:Int) (z:Bool) (r c d e f g b h i j:Int) (a l n:List Int):Option R18 :=
 Option.bind (f41 k l 16) fun o1 =>
  match o1 with
  | .o0 x =>
   Option.bind (f41 k a 32) fun o5 =>
    match o5 with
    | .o0 y =>
     Option.bind (f39 k 4 3) fun o9 =>
      match o9 with
      | .o0 m =>
       Option.bind (f39 k 2 (IntKind.u64.wrap ((List.length x):Int))) fun o13 =>
        match o13 with
        | .o0 o =>
         Option.bind (f40b k o x) fun o17 =>
          match o17 with
          | .o0 p =>
           Option.bind (f40b k m p) fun o21 =>
            match o21 with
            | .o0 q =>
             Option.bind (f39 k 0 (IntKind.u64.wrap b)) fun o25 =>
              match o25 with
              | .o0 s =>
               Option.bind (f40b k q s) fun o29 =>
                match o29 with
                | .o0 t =>
                 Option.bind (f39 k 2 (IntKind.u64.wrap ((List.length y):Int))) fun o33 =>
                  match o33 with
                  | .o0 u =>
                   Option.bind (f40b k u y) fun o37 =>
                    match o37 with
                    | .o0 v =>
                     Option.bind (f40b k t v) fun o41 =>
                      match o41 with
                      | .o0 w =>
                       some (.o0 w)
theorem f18_j2_ok (k x5 y z d e f g h c i j l b x n r) (a:f18_j2 k x5 y z d e f g h c i j l b x n=some r):finK Tryd.prog Tryd.f18 0 (EX 18 k (nav B18 [2,2,2,2]) (⟨70,[(1,.ptr 30000 0),(3,.own 30001),(4,.own 30002),(5,jI x5),(32,jT y)],[(30000,.box 26 [jI z,jI d,jU e,jI f,jI g,jI h,jI c,jI i,jI j,jI l,jB b]),(30001,.row true 1 5 (rowsOf (encI .u8) x)),(30002,.row true 1 3 (rowsOf (encI .i64) n))]⟩:St))=some r.st:=by
 unfold f18_j2 at a
 obtain ⟨o1,h2,a⟩:=bs a
 have aa:=f41_ok k x 16 _ h2
 cases o1 with
 | o0 v4 =>
  (try dsimp only at a)
  (try simp only [NM,EE,R41.st] at aa)
  obtain ⟨o5,h6,a⟩:=bs a
  have ab:=f41_ok k b 32 _ h6
  cases o5 with
  | o0 v8 =>
   (try dsimp only at a)
   (try simp only [NM,EE,R41.st] at ab)
   obtain ⟨o9,ac,a⟩:=bs a
   have m:=f39_ok k 4 3 _ ac
   cases o9 with
   | o0 ad =>
    (try dsimp only at a)
    (try simp only [NM,EE,R39.st] at m)
    obtain ⟨o13,ae,a⟩:=bs a
    have o:=f39_ok k 2 (IntKind.u64.wrap ((List.length v4):Int)) _ ae
    cases o13 with
    | o0 af =>
     (try dsimp only at a)
     (try simp only [NM,EE,R39.st] at o)
     obtain ⟨o17,ag,a⟩:=bs a
     have p:=f40b_ok k af v4 _ ag
     cases o17 with
     | o0 ah =>
      (try dsimp only at a)
      (try simp only [NM,EE,R40b.st] at p)
      obtain ⟨o21,ai,a⟩:=bs a
      have q:=f40b_ok k ad ah _ ai
      cases o21 with
      | o0 aj =>
       (try dsimp only at a)
       (try simp only [NM,EE,R40b.st] at q)
       obtain ⟨o25,ak,a⟩:=bs a
       have s:=f39_ok k 0 (IntKind.u64.wrap c) _ ak
       cases o25 with
       | o0 al =>
        (try dsimp only at a)
        (try simp only [NM,EE,R39.st] at s)
        obtain ⟨o29,am,a⟩:=bs a
        have t:=f40b_ok k aj al _ am
        cases o29 with
        | o0 an =>
         (try dsimp only at a)
         (try simp only [NM,EE,R40b.st] at t)
         obtain ⟨o33,ao,a⟩:=bs a
         have u:=f39_ok k 2 (IntKind.u64.wrap ((List.length v8):Int)) _ ao
         cases o33 with
         | o0 ap =>
          (try dsimp only at a)
          (try simp only [NM,EE,R39.st] at u)
          obtain ⟨o37,aq,a⟩:=bs a
          have v:=f40b_ok k ap v8 _ aq
          cases o37 with
          | o0 ar =>
           (try dsimp only at a)
           (try simp only [NM,EE,R40b.st] at v)
           obtain ⟨o41,au,a⟩:=bs a
           have w:=f40b_ok k an ar _ au
           cases o41 with
           | o0 a0 =>
            (try dsimp only at a)
            (try simp only [NM,EE,R40b.st] at w)
            cases a
            simp (disch:=first|apply D;decide|apply K;kernel_rfl) only [W,simprocAttr,xk B18 [2,2,2,2] .sq rfl,rg B18 [1,2,2,2,2] 7 false rfl,hr 18 7 rfl,callStep,CL,gv,List.contains,xk B18 [2,2,2,2,2] .sq rfl,rg B18 [1,2,2,2,2,2] 8 false rfl,hr 18 8 rfl,fieldAddrV,t_26,t_22,xk B18 [2,2,2,2,2,2] .sq rfl,rg B18 [1,2,2,2,2,2,2] 9 false rfl,hr 18 9 rfl,t_3,t_47,convV,xk B18 [2,2,2,2,2,2,2] .sq rfl,rg B18 [1,2,2,2,2,2,2,2] 10 false rfl,hr 18 10 rfl,xk B18 [2,2,2,2,2,2,2,2] .sq rfl,rg B18 [1,2,2,2,2,2,2,2,2] 11 false rfl,hr 18 11 rfl,xk B18 [2,2,2,2,2,2,2,2,2] .rt rfl,fin18,R18.st,aa,ab,m,o,p,q,s,t,u,v,w]
noncomputable def f18_e (k:Nat) (a0 a b c d e j f g h:Int) (i:List Int):Option R18 :=
 Option.bind (f39 k 4 10) fun o1 =>
  match o1 with
  | .o0 v4 =>
   Option.bind (f18_l1 k k 0 a0 a b c d e j f g h i v4 ([7,a,a0,(IntKind.i64.wrap b),c,d,g,h,f,e]:List Int)) fun o7 =>
    match o7 with
    | .o0 _ _ _ _ _ _ _ _ _ _ _ _ _ _ =>
     none
    | .o1 l m o p q s t u v w x y z r n =>
     f18_j2 k l m o p q s t u v w x y z r n
theorem f18_e_ok (k o a b c d e j f g h i r) (l:f18_e k o a b c d e j f g h i=some r):finK Tryd.prog Tryd.f18 0 (EX 18 k (nav B18 []) (⟨70,[(0,.agg [jI o,jI a,jU b,jI c,jI d,jI e,jI j,jI f,jI g,jI h,jB i])],[]⟩:St))=some r.st:=by
 unfold f18_e at l
 obtain ⟨o1,h2,l⟩:=bs l
 have m:=f39_ok k 4 10 _ h2
 cases o1 with
 | o0 v4 =>
  (try dsimp only at l)
  (try simp only [NM,EE,R39.st] at m)
  have q:[[jI 7],[jI a],[jI o],[(jI (IntKind.i64.wrap b))],[jI c],[jI d],[jI g],[jI h],[jI f],[jI e]]=rowsOf (encI .i64) ([7,a,o,(IntKind.i64.wrap b),c,d,g,h,f,e]:List Int):=rfl
  have s:List.map (tell [0]) (rowsOf (encI .i64) ([7,a,o,(IntKind.i64.wrap b),c,d,g,h,f,e]:List Int))=rowsOf (encI .i64) ([7,a,o,(IntKind.i64.wrap b),c,d,g,h,f,e]:List Int):=rfl
  obtain ⟨o7,h8,l⟩:=bs l
  have p:=f18_l1_ok k k 0 o a b c d e j f g h i v4 ([7,a,o,(IntKind.i64.wrap b),c,d,g,h,f,e]:List Int) _ h8
  simp (disch:=first|apply D;decide|apply K;kernel_rfl) only [W,simprocAttr,xk B18 [] .sq rfl,rg B18 [1] 0 false rfl,hr 18 0 rfl,xk B18 [2] .sq rfl,rg B18 [1,2] 1 false rfl,hr 18 1 rfl,callStep,CL,gv,List.contains,xk B18 [2,2] .sq rfl,rg B18 [1,2,2] 2 false rfl,hr 18 2 rfl,fieldAddrV,t_26,t_3,t_24,convV,buildSliceV,fillRows,sm_3,t_66,xk B18 [2,2,2] .sq rfl,xk B18 [1,2,2,2] .sq rfl,rg B18 [1,1,2,2,2] 3 false rfl,hr 18 3 rfl,xk B18 [2,1,2,2,2] (.bk 0) rfl,xk B18 [2,2,1,2,2,2] .lp rfl,hh_18_4,hc_18_4,m,q,s]
  (try simp only [NM,EE] at p)
  rw [p _ (by simp (disch:=first|apply D;decide|apply K;kernel_rfl) only [W,simprocAttr,hh_18_4,hc_18_4,m,q,s])]
  clear p
  cases o7 with
  | o0 _ _ _ _ _ _ _ _ _ _ _ _ _ _ =>
   (try dsimp only at l)
   cases l
  | o1 t u v w x y z n aa ab ac ad ae af ag =>
   (try dsimp only at l)
   have hJ:=f18_j2_ok k t u v w x y z n aa ab ac ad ae af ag _ l
   simp (disch:=first|apply D;decide|apply K;kernel_rfl) only [W,simprocAttr,R18_l1.st,m,q,s]
   try simp only [NM,EE] at hJ
   exact hJ
noncomputable def f18 (k:Nat) (l b c d e f g h i j:Int) (a:List Int):Option R18:=match k with | 0=>none | k+1=>f18_e k l b c d e f g h i j a
theorem f18_ok (k m b d e f g h i j l a r) (o:f18 k m b d e f g h i j l a=some r):CV k 18 [.agg [jI m,jI b,jU d,jI e,jI f,jI g,jI h,jI i,jI j,jI l,jB a]] []=some r.st:=by
 cases k with
 | zero=>cases o
 | succ k =>
  unfold CV
  rw [ev_call (F:=Tryd.f18) (c:=(nav B18 [])) rfl Tryd.func18 rfl rfl rfl rfl]
  exact f18_e_ok k m b d e f g h i j l a r o
end Go.Proofs.YtbnnmplkbpgcaaaDoorV