/- What the program's functions answer: plain functions,and that the interpreter answers what they do. Written by a program of this session,out of the translation. -/
import Derived.Test.YtlelaenalbkbmaaDoorVP1
namespace Go.Proofs.YtlelaenalbkbmaaDoorV
open Go
set_option linter.unusedVariables false
set_option linter.unusedSimpArgs false
set_option maxRecDepth 8000
set_option maxHeartbeats 4000000
-- f38: f38 unicode/utf8.Valid
inductive R38 where
 | o0 (y:Bool)
noncomputable def R38.st:R38→V×List O×List O
 | .o0 y=>(.p (.bool y),[],[])
inductive R38_l1_l2 where
 | o0 (y:List Int)
 | o1 (y:List Int) (a:Bool)
noncomputable def R38_l1_l2.st:R38_l1_l2→Out×St
 | .o0 y=>(.norm,(⟨188,[(0,.sl 1 (rowsOf (encI .u8) y))],[]⟩:St))
 | .o1 y a=>(.exit 2,(⟨188,[(0,.sl 1 (rowsOf (encI .u8) y)),(69,.p (.bool a))],[]⟩:St))
noncomputable def f38_l1_l2_j1 (k:Nat) (a:List Int) (b:Bool):Option R38_l1_l2 :=
 ifE (32≤(List.length a)) (
  some (R38_l1_l2.o0 (List.drop 32 (List.take (List.length a) a))))
theorem f38_l1_l2_j1_ok (k c a r) (b:f38_l1_l2_j1 k c a=some r):EX 38 k (nav B38 [2,1,2,2,2,2,2,2,2,1,2,2,2,1,2,2,2,1,2,1,2,2]) (⟨188,[(0,.sl 1 (rowsOf (encI .u8) c)),(69,.p (.bool a))],[]⟩:St)=some r.st:=by
 unfold f38_l1_l2_j1 at b
 obtain ⟨d,b⟩:=ifE_some.1 b
 cases b
 simp (disch:=first|apply D;decide|apply K;kernel_rfl) only [E,EE,↓reduceIte,simprocAttr,xk B38 [2,1,2,2,2,2,2,2,2,1,2,2,2,1,2,2,2,1,2,1,2,2] (.bk 3) rfl,rg B38 [2,2,1,2,2,2,2,2,2,2,1,2,2,2,1,2,2,2,1,2,1,2,2] 11 false rfl,hr 38 11 rfl,sliceV,bound,t_25,t_5,R38_l1_l2.st,d]
noncomputable def f38_l1_l2_b (k:Nat) (a:List Int):Option R38_l1_l2 :=
 cond ((decide (((List.length a):Int)>32)))
  (
   Option.bind (f47 k a) fun o2 =>
    match o2 with
    | .o0 e =>
     ifE (8≤(List.length a)) (
      Option.bind (f47 k (List.drop 8 (List.take (List.length a) a))) fun o7 =>
       match o7 with
       | .o0 b =>
        ifE (16≤(List.length a)) (
         Option.bind (f47 k (List.drop 16 (List.take (List.length a) a))) fun o12 =>
          match o12 with
          | .o0 c =>
           ifE (24≤(List.length a)) (
            Option.bind (f47 k (List.drop 24 (List.take (List.length a) a))) fun o17 =>
             match o17 with
             | .o0 d =>
              cond (((IntKind.u64.wrap ((BitVec.ofInt (IntKind.bits .u64) (IntKind.u64.wrap ((BitVec.ofInt (IntKind.bits .u64) (IntKind.u64.wrap ((BitVec.ofInt (IntKind.bits .u64) e ||| BitVec.ofInt (IntKind.bits .u64) b).toNat:Nat)) ||| BitVec.ofInt (IntKind.bits .u64) (IntKind.u64.wrap ((BitVec.ofInt (IntKind.bits .u64) c ||| BitVec.ofInt (IntKind.bits .u64) d).toNat:Nat))).toNat:Nat)) &&& BitVec.ofInt (IntKind.bits .u64) (9259542123273814144:Int)).toNat:Nat))==0))
               (f38_l1_l2_j1 k a true)
               (some (R38_l1_l2.o1 a false))))))
  (some (R38_l1_l2.o1 a false))
theorem f38_l1_l2_b_ok (k d r) (a:f38_l1_l2_b k d=some r):EX 38 k (nav B38 [1,2,2,2,2,2,2,2,1,2,2,2,1,2,2,2,1,2,1,2,2]) (⟨188,[(0,.sl 1 (rowsOf (encI .u8) d))],[]⟩:St)=some r.st:=by
 unfold f38_l1_l2_b at a
 simp (disch:=first|apply D;decide|apply K;kernel_rfl) only [E,EE,↓reduceIte,simprocAttr,xk B38 [1,2,2,2,2,2,2,2,1,2,2,2,1,2,2,2,1,2,1,2,2] .sq rfl,xk B38 [1,1,2,2,2,2,2,2,2,1,2,2,2,1,2,2,2,1,2,1,2,2] .sq rfl,rg B38 [1,1,1,2,2,2,2,2,2,2,1,2,2,2,1,2,2,2,1,2,1,2,2] 10 true rfl,hr 38 10 rfl,t_25]
 rcases cond_some a with ⟨j,a⟩ | ⟨j,a⟩
 ·obtain ⟨o2,p,a⟩:=bs a
  have e:=f47_ok k d _ p
  cases o2 with
  | o0 v =>
   (try dsimp only at a)
   (try simp only [NM,EE,R47.st] at e)
   obtain ⟨l,a⟩:=ifE_some.1 a
   obtain ⟨o7,q,a⟩:=bs a
   have f:=f47_ok k (List.drop 8 (List.take (List.length d) d)) _ q
   cases o7 with
   | o0 s =>
    (try dsimp only at a)
    (try simp only [NM,EE,R47.st] at f)
    obtain ⟨g,a⟩:=ifE_some.1 a
    obtain ⟨o12,m,a⟩:=bs a
    have b:=f47_ok k (List.drop 16 (List.take (List.length d) d)) _ m
    cases o12 with
    | o0 t =>
     (try dsimp only at a)
     (try simp only [NM,EE,R47.st] at b)
     obtain ⟨h,a⟩:=ifE_some.1 a
     obtain ⟨o17,o,a⟩:=bs a
     have c:=f47_ok k (List.drop 24 (List.take (List.length d) d)) _ o
     cases o17 with
     | o0 u =>
      (try dsimp only at a)
      (try simp only [NM,EE,R47.st] at c)
      simp (disch:=first|apply D;decide|apply K;kernel_rfl) only [E,EE,↓reduceIte,simprocAttr,callStep,CL,gv,List.contains,sliceV,bound,t_25,t_5,xk B38 [2,1,1,2,2,2,2,2,2,2,1,2,2,2,1,2,2,2,1,2,1,2,2] (.cd 69) rfl,j,e,l,f,g,b,h,c]
      rcases cond_some a with ⟨i,a⟩ | ⟨i,a⟩
      ·have hJ:=f38_l1_l2_j1_ok k d true _ a
       simp (disch:=first|apply D;decide|apply K;kernel_rfl) only [E,EE,↓reduceIte,simprocAttr,xk B38 [2,2,1,1,2,2,2,2,2,2,2,1,2,2,2,1,2,2,2,1,2,1,2,2] .sk rfl,j,e,l,f,g,b,h,c,i]
       try simp only [NM,EE] at hJ
       exact hJ
      ·cases a
       simp (disch:=first|apply D;decide|apply K;kernel_rfl) only [E,EE,↓reduceIte,simprocAttr,xk B38 [3,2,1,1,2,2,2,2,2,2,2,1,2,2,2,1,2,2,2,1,2,1,2,2] (.ex 2) rfl,R38_l1_l2.st,j,e,l,f,g,b,h,c,i]
 ·cases a
  simp (disch:=first|apply D;decide|apply K;kernel_rfl) only [E,EE,↓reduceIte,simprocAttr,xk B38 [2,1,1,2,2,2,2,2,2,2,1,2,2,2,1,2,2,2,1,2,1,2,2] (.cd 69) rfl,xk B38 [3,2,1,1,2,2,2,2,2,2,2,1,2,2,2,1,2,2,2,1,2,1,2,2] (.ex 2) rfl,R38_l1_l2.st,j]
noncomputable def f38_l1_l2 (k:Nat):Nat→(List Int)→Option R38_l1_l2
 | 0,_=>none
 | n+1,b=>Option.bind (f38_l1_l2_b k b) fun o =>
  match o with
  | .o0 y=>f38_l1_l2 k n y
  | .o1 y a=>some (.o1 y a)
theorem f38_l1_l2_ok (k n:Nat):∀ (b:List Int) (r:R38_l1_l2) (a:f38_l1_l2 k n b=some r) (σ:St) (hσ:headR (hints.head 38 10) (hints.canon 38 10) σ=some (⟨188,[(0,.sl 1 (rowsOf (encI .u8) b))],[]⟩:St)),LP 38 k (nav B38 [1,2,2,2,2,2,2,2,1,2,2,2,1,2,2,2,1,2,1,2,2]) n σ=some r.st:=by
 induction n with
 | zero=>intro b r a;cases a
 | succ n c =>
  intro b r a σ hσ
  rw [f38_l1_l2] at a
  obtain ⟨o,h,a⟩:=Option.bind_eq_some_iff.1 a
  have hB:=f38_l1_l2_b_ok k b o h
  unfold LP at c ⊢
  unfold EX at hB
  rw [loopK_succ,show firstReg (nav B38 [1,2,2,2,2,2,2,2,1,2,2,2,1,2,2,2,1,2,1,2,2])=10 from rfl,hσ,headK_some,hB]
  cases o with
  | o0 y =>
   refine c y r a _ ?_
   simp (disch:=first|apply D;decide|apply K;kernel_rfl) only [E,EE,↓reduceIte,simprocAttr,hh_38_10,hc_38_10]
  | o1 y d=>cases a;rfl
inductive R38_l1 where
 | o0 (y:List Int) (a:Bool)
 | o1 (y:List Int) (a:Bool)
 | o2 (y:List Int) (a:Bool)
 | o3 (y:Bool)
 | o4 (y:List Int)
 | o5 (y:List Int) (a:Bool)
noncomputable def R38_l1.st:R38_l1→Out×St
 | .o0 y a=>(.norm,(⟨188,[(0,.sl 1 (rowsOf (encI .u8) y)),(69,.p (.bool a))],[]⟩:St))
 | .o1 y a=>(.norm,(⟨188,[(0,.sl 1 (rowsOf (encI .u8) y)),(46,.p (.bool a))],[]⟩:St))
 | .o2 y a=>(.norm,(⟨188,[(0,.sl 1 (rowsOf (encI .u8) y)),(31,.p (.bool a))],[]⟩:St))
 | .o3 y=>(.ret,(⟨188,[(2,.p (.bool y))],[]⟩:St))
 | .o4 y=>(.norm,(⟨188,[(0,.sl 1 (rowsOf (encI .u8) y))],[]⟩:St))
 | .o5 y a=>(.exit 0,(⟨188,[(0,.sl 1 (rowsOf (encI .u8) y)),(15,.p (.bool a))],[]⟩:St))
noncomputable def f38_l1_j3 (k:Nat) (b:List Int) (a:Bool):Option R38_l1 :=
 some (.o0 b a)
theorem f38_l1_j3_ok (k b a r) (c:f38_l1_j3 k b a=some r):blockK 1 (SQ 38 k (nav B38 [2,2,2,2,1,2,1,2,2]) (EX 38 k (nav B38 [2,2,2,2,1,2,2,2,1,2,1,2,2]) (⟨188,[(0,.sl 1 (rowsOf (encI .u8) b)),(69,.p (.bool a))],[]⟩:St)))=some r.st:=by
 unfold f38_l1_j3 at c
 cases c
 simp (disch:=first|apply D;decide|apply K;kernel_rfl) only [E,EE,↓reduceIte,simprocAttr,xk B38 [2,2,2,2,1,2,2,2,1,2,1,2,2] (.ex 1) rfl,R38_l1.st]
noncomputable def f38_l1_j4 (k:Nat) (b:List Int) (a:Bool):Option R38_l1 :=
 some (.o1 b a)
theorem f38_l1_j4_ok (k b a r) (c:f38_l1_j4 k b a=some r):blockK 1 (SQ 38 k (nav B38 [2,2,2,2,1,2,1,2,2]) (EX 38 k (nav B38 [2,2,2,2,1,2,2,2,1,2,1,2,2]) (⟨188,[(0,.sl 1 (rowsOf (encI .u8) b)),(46,.p (.bool a))],[]⟩:St)))=some r.st:=by
 unfold f38_l1_j4 at c
 cases c
 simp (disch:=first|apply D;decide|apply K;kernel_rfl) only [E,EE,↓reduceIte,simprocAttr,xk B38 [2,2,2,2,1,2,2,2,1,2,1,2,2] (.ex 1) rfl,R38_l1.st]
noncomputable def f38_l1_j5 (k:Nat) (b:List Int) (a:Bool):Option R38_l1 :=
 some (.o2 b a)
theorem f38_l1_j5_ok (k b a r) (c:f38_l1_j5 k b a=some r):blockK 1 (SQ 38 k (nav B38 [2,2,2,2,1,2,1,2,2]) (EX 38 k (nav B38 [2,2,2,2,1,2,2,2,1,2,1,2,2]) (⟨188,[(0,.sl 1 (rowsOf (encI .u8) b)),(31,.p (.bool a))],[]⟩:St)))=some r.st:=by
 unfold f38_l1_j5 at c
 cases c
 simp (disch:=first|apply D;decide|apply K;kernel_rfl) only [E,EE,↓reduceIte,simprocAttr,xk B38 [2,2,2,2,1,2,2,2,1,2,1,2,2] (.ex 1) rfl,R38_l1.st]
noncomputable def f38_l1_j7 (k:Nat) (a:List Int) (b:Bool):Option R38_l1 :=
 ifE (2≤(List.length a)) (
  some (.o4 (List.drop 2 (List.take (List.length a) a))))
theorem f38_l1_j7_ok (k c a r) (b:f38_l1_j7 k c a=some r):blockK 1 (blockK 4 (EX 38 k (nav B38 [2,2,2,2,2,2,2,2,2,2,2,2,1,2,1,2,2]) (⟨188,[(0,.sl 1 (rowsOf (encI .u8) c)),(103,.p (.bool a))],[]⟩:St)))=some r.st:=by
 unfold f38_l1_j7 at b
 obtain ⟨d,b⟩:=ifE_some.1 b
 cases b
 simp (disch:=first|apply D;decide|apply K;kernel_rfl) only [E,EE,↓reduceIte,simprocAttr,rg B38 [2,2,2,2,2,2,2,2,2,2,2,2,1,2,1,2,2] 20 false rfl,hr 38 20 rfl,sliceV,bound,t_25,t_5,R38_l1.st,d]
noncomputable def f38_l1_j8 (k:Nat) (a:List Int) (b:Bool):Option R38_l1 :=
 ifE (3≤(List.length a)) (
  some (.o4 (List.drop 3 (List.take (List.length a) a))))
theorem f38_l1_j8_ok (k c a r) (b:f38_l1_j8 k c a=some r):blockK 1 (blockK 4 (EX 38 k (nav B38 [2,2,2,3,2,2,2,2,2,2,2,2,2,2,1,2,1,2,2]) (⟨188,[(0,.sl 1 (rowsOf (encI .u8) c)),(138,.p (.bool a))],[]⟩:St)))=some r.st:=by
 unfold f38_l1_j8 at b
 obtain ⟨d,b⟩:=ifE_some.1 b
 cases b
 simp (disch:=first|apply D;decide|apply K;kernel_rfl) only [E,EE,↓reduceIte,simprocAttr,rg B38 [2,2,2,3,2,2,2,2,2,2,2,2,2,2,1,2,1,2,2] 24 false rfl,hr 38 24 rfl,sliceV,bound,t_25,t_5,R38_l1.st,d]
noncomputable def f38_l1_j9 (k:Nat) (a:List Int) (b:Bool):Option R38_l1 :=
 ifE (4≤(List.length a)) (
  some (.o4 (List.drop 4 (List.take (List.length a) a))))
theorem f38_l1_j9_ok (k c a r) (b:f38_l1_j9 k c a=some r):blockK 1 (blockK 4 (EX 38 k (nav B38 [2,2,2,3,2,3,2,2,2,2,2,2,2,2,2,2,1,2,1,2,2]) (⟨188,[(0,.sl 1 (rowsOf (encI .u8) c)),(185,.p (.bool a))],[]⟩:St)))=some r.st:=by
 unfold f38_l1_j9 at b
 obtain ⟨d,b⟩:=ifE_some.1 b
 cases b
 simp (disch:=first|apply D;decide|apply K;kernel_rfl) only [E,EE,↓reduceIte,simprocAttr,rg B38 [2,2,2,3,2,3,2,2,2,2,2,2,2,2,2,2,1,2,1,2,2] 28 false rfl,hr 38 28 rfl,sliceV,bound,t_25,t_5,R38_l1.st,d]
noncomputable def f38_l1_j6 (k:Nat) (a:List Int) (i:Int) (m:Bool):Option R38_l1 :=
 ifE ((0:Int)≤i) (
  ifE (i<256) (
   Option.bind (List.head? (List.drop (Int.toNat i) tabFirst)) fun b =>
    ifE ((0:Int)≤(Int.fdiv b (2 ^ (min 4 (IntKind.bits .u8))))) (
     ifE ((Int.fdiv b (2 ^ (min 4 (IntKind.bits .u8))))<16) (
      ifE (2≤(List.length (List.drop ((Int.toNat (Int.fdiv b (2 ^ (min 4 (IntKind.bits .u8))))) * 2) tabAcc))) (
       Option.bind ((List.drop ((Int.toNat (Int.fdiv b (2 ^ (min 4 (IntKind.bits .u8))))) * 2) tabAcc)[0]?) fun j =>
        Option.bind ((List.drop ((Int.toNat (Int.fdiv b (2 ^ (min 4 (IntKind.bits .u8))))) * 2) tabAcc)[1]?) fun l =>
         cond (((IntKind.i64.wrap (IntKind.u8.wrap ((BitVec.ofInt (IntKind.bits .u8) b &&& BitVec.ofInt (IntKind.bits .u8) (7:Int)).toNat:Nat)))==2))
          (
           cond ((decide (((List.length a):Int)<2)))
            (some (.o3 false))
            (
             Option.bind (a[1]?) fun c =>
              cond ((decide (c<j)))
               (some (.o3 false))
               (
                cond ((decide (l<c)))
                 (some (.o3 false))
                 (f38_l1_j7 k a false))))
          (
           cond (((IntKind.i64.wrap (IntKind.u8.wrap ((BitVec.ofInt (IntKind.bits .u8) b &&& BitVec.ofInt (IntKind.bits .u8) (7:Int)).toNat:Nat)))==3))
            (
             cond ((decide (((List.length a):Int)<3)))
              (some (.o3 false))
              (
               Option.bind (a[1]?) fun d =>
                cond ((decide (d<j)))
                 (some (.o3 false))
                 (
                  cond ((decide (l<d)))
                   (some (.o3 false))
                   (
                    Option.bind (a[2]?) fun e =>
                     cond ((decide (e<128)))
                      (some (.o3 false))
                      (
                       cond ((decide ((191:Int)<e)))
                        (some (.o3 false))
                        (f38_l1_j8 k a false))))))
            (
             cond (((IntKind.i64.wrap (IntKind.u8.wrap ((BitVec.ofInt (IntKind.bits .u8) b &&& BitVec.ofInt (IntKind.bits .u8) (7:Int)).toNat:Nat)))==4))
              (
               cond ((decide (((List.length a):Int)<4)))
                (some (.o3 false))
                (
                 Option.bind (a[1]?) fun f =>
                  cond ((decide (f<j)))
                   (some (.o3 false))
                   (
                    cond ((decide (l<f)))
                     (some (.o3 false))
                     (
                      Option.bind (a[2]?) fun g =>
                       cond ((decide (g<128)))
                        (some (.o3 false))
                        (
                         cond ((decide ((191:Int)<g)))
                          (some (.o3 false))
                          (
                           Option.bind (a[3]?) fun h =>
                            cond ((decide (h<128)))
                             (some (.o3 false))
                             (
                              cond ((decide ((191:Int)<h)))
                               (some (.o3 false))
                               (f38_l1_j9 k a false))))))))
              (some (.o3 false)))))))))
theorem f38_l1_j6_ok (k x0 x3 am r) (a:f38_l1_j6 k x0 x3 am=some r):blockK 1 (EX 38 k (nav B38 [2,2,2,2,1,2,1,2,2]) (⟨188,[(0,.sl 1 (rowsOf (encI .u8) x0)),(3,.p (.int .u8 x3)),(20,.p (.bool am))],[]⟩:St))=some r.st:=by
 unfold f38_l1_j6 at a
 obtain ⟨i,a⟩:=ifE_some.1 a
 obtain ⟨j,a⟩:=ifE_some.1 a
 obtain ⟨v3,l,a⟩:=bs a
 obtain ⟨m,a⟩:=ifE_some.1 a
 obtain ⟨o,a⟩:=ifE_some.1 a
 obtain ⟨d,a⟩:=ifE_some.1 a
 obtain ⟨v7,h,a⟩:=bs a
 obtain ⟨v9,b,a⟩:=bs a
 have e:=arr_pair (c:=(cI .u8)) h b
 simp (disch:=first|apply D;decide|apply K;kernel_rfl) only [E,EE,↓reduceIte,simprocAttr,xk B38 [2,2,2,2,1,2,1,2,2] .sq rfl,rg B38 [1,2,2,2,2,1,2,1,2,2] 12 false rfl,hr 38 12 rfl,gl_0,indexAddrV,t_81,t_5,xk B38 [2,2,2,2,2,1,2,1,2,2] .sq rfl,rg B38 [1,2,2,2,2,2,1,2,1,2,2] 13 false rfl,hr 38 13 rfl,t_3,convV,xk B38 [2,2,2,2,2,2,1,2,1,2,2] .sq rfl,rg B38 [1,2,2,2,2,2,2,1,2,1,2,2] 14 false rfl,hr 38 14 rfl,gl_1,shiftV,t_84,t_83,xk B38 [2,2,2,2,2,2,2,1,2,1,2,2] .sq rfl,rg B38 [1,2,2,2,2,2,2,2,1,2,1,2,2] 15 false rfl,hr 38 15 rfl,xk B38 [2,2,2,2,2,2,2,2,1,2,1,2,2] (.bk 4) rfl,xk B38 [2,2,2,2,2,2,2,2,2,1,2,1,2,2] .sq rfl,rg B38 [1,2,2,2,2,2,2,2,2,2,1,2,1,2,2] 17 false rfl,hr 38 17 rfl,xk B38 [2,2,2,2,2,2,2,2,2,2,1,2,1,2,2] (.cd 83) rfl,i,j,l,m,o,d,h,b,e]
 rcases cond_some a with ⟨f,a⟩ | ⟨f,a⟩
 ·simp (disch:=first|apply D;decide|apply K;kernel_rfl) only [E,EE,↓reduceIte,simprocAttr,xk B38 [2,2,2,2,2,2,2,2,2,2,2,1,2,1,2,2] .sq rfl,xk B38 [1,2,2,2,2,2,2,2,2,2,2,2,1,2,1,2,2] .sq rfl,rg B38 [1,1,2,2,2,2,2,2,2,2,2,2,2,1,2,1,2,2] 18 true rfl,hr 38 18 rfl,t_25,i,j,l,m,o,d,h,b,e,f]
  rcases cond_some a with ⟨n,a⟩ | ⟨n,a⟩
  ·cases a
   simp (disch:=first|apply D;decide|apply K;kernel_rfl) only [E,EE,↓reduceIte,simprocAttr,xk B38 [2,1,2,2,2,2,2,2,2,2,2,2,2,1,2,1,2,2] (.cd 103) rfl,xk B38 [2,2,1,2,2,2,2,2,2,2,2,2,2,2,1,2,1,2,2] .sq rfl,rg B38 [1,2,2,1,2,2,2,2,2,2,2,2,2,2,2,1,2,1,2,2] 19 false rfl,hr 38 19 rfl,xk B38 [2,2,2,1,2,2,2,2,2,2,2,2,2,2,2,1,2,1,2,2] .rt rfl,R38_l1.st,i,j,l,m,o,d,h,b,e,f,n]
  ·obtain ⟨ao,ac,a⟩:=bs a
   simp (disch:=first|apply D;decide|apply K;kernel_rfl) only [E,EE,↓reduceIte,simprocAttr,indexAddrV,t_25,t_5,encI_eq,fieldAddrV,t_83,i,j,l,m,o,d,h,b,e,f,n,ac]
   rcases cond_some a with ⟨ad,a⟩ | ⟨ad,a⟩
   ·cases a
    simp (disch:=first|apply D;decide|apply K;kernel_rfl) only [E,EE,↓reduceIte,simprocAttr,xk B38 [2,1,2,2,2,2,2,2,2,2,2,2,2,1,2,1,2,2] (.cd 103) rfl,xk B38 [2,2,1,2,2,2,2,2,2,2,2,2,2,2,1,2,1,2,2] .sq rfl,rg B38 [1,2,2,1,2,2,2,2,2,2,2,2,2,2,2,1,2,1,2,2] 19 false rfl,hr 38 19 rfl,xk B38 [2,2,2,1,2,2,2,2,2,2,2,2,2,2,2,1,2,1,2,2] .rt rfl,R38_l1.st,i,j,l,m,o,d,h,b,e,f,n,ac,ad]
   ·simp (disch:=first|apply D;decide|apply K;kernel_rfl) only [E,EE,↓reduceIte,simprocAttr,fieldAddrV,t_83,t_5,indexAddrV,t_25,encI_eq,xk B38 [2,1,2,2,2,2,2,2,2,2,2,2,2,1,2,1,2,2] (.cd 103) rfl,i,j,l,m,o,d,h,b,e,f,n,ac,ad]
    rcases cond_some a with ⟨ai,a⟩ | ⟨ai,a⟩
    ·cases a
     simp (disch:=first|apply D;decide|apply K;kernel_rfl) only [E,EE,↓reduceIte,simprocAttr,xk B38 [2,2,1,2,2,2,2,2,2,2,2,2,2,2,1,2,1,2,2] .sq rfl,rg B38 [1,2,2,1,2,2,2,2,2,2,2,2,2,2,2,1,2,1,2,2] 19 false rfl,hr 38 19 rfl,xk B38 [2,2,2,1,2,2,2,2,2,2,2,2,2,2,2,1,2,1,2,2] .rt rfl,R38_l1.st,i,j,l,m,o,d,h,b,e,f,n,ac,ad,ai]
    ·have hJ:=f38_l1_j7_ok k x0 false _ a
     simp (disch:=first|apply D;decide|apply K;kernel_rfl) only [E,EE,↓reduceIte,simprocAttr,xk B38 [3,2,1,2,2,2,2,2,2,2,2,2,2,2,1,2,1,2,2] .sk rfl,i,j,l,m,o,d,h,b,e,f,n,ac,ad,ai]
     try simp only [NM,EE] at hJ
     exact hJ
 ·simp (disch:=first|apply D;decide|apply K;kernel_rfl) only [E,EE,↓reduceIte,simprocAttr,xk B38 [3,2,2,2,2,2,2,2,2,2,2,1,2,1,2,2] .sq rfl,rg B38 [1,3,2,2,2,2,2,2,2,2,2,2,1,2,1,2,2] 21 false rfl,hr 38 21 rfl,xk B38 [2,3,2,2,2,2,2,2,2,2,2,2,1,2,1,2,2] (.cd 106) rfl,i,j,l,m,o,d,h,b,e,f]
  rcases cond_some a with ⟨g,a⟩ | ⟨g,a⟩
  ·simp (disch:=first|apply D;decide|apply K;kernel_rfl) only [E,EE,↓reduceIte,simprocAttr,xk B38 [2,2,3,2,2,2,2,2,2,2,2,2,2,1,2,1,2,2] .sq rfl,xk B38 [1,2,2,3,2,2,2,2,2,2,2,2,2,2,1,2,1,2,2] .sq rfl,rg B38 [1,1,2,2,3,2,2,2,2,2,2,2,2,2,2,1,2,1,2,2] 22 true rfl,hr 38 22 rfl,t_25,i,j,l,m,o,d,h,b,e,f,g]
   rcases cond_some a with ⟨u,a⟩ | ⟨u,a⟩
   ·cases a
    simp (disch:=first|apply D;decide|apply K;kernel_rfl) only [E,EE,↓reduceIte,simprocAttr,xk B38 [2,1,2,2,3,2,2,2,2,2,2,2,2,2,2,1,2,1,2,2] (.cd 138) rfl,xk B38 [2,2,1,2,2,3,2,2,2,2,2,2,2,2,2,2,1,2,1,2,2] .sq rfl,rg B38 [1,2,2,1,2,2,3,2,2,2,2,2,2,2,2,2,2,1,2,1,2,2] 23 false rfl,hr 38 23 rfl,xk B38 [2,2,2,1,2,2,3,2,2,2,2,2,2,2,2,2,2,1,2,1,2,2] .rt rfl,R38_l1.st,i,j,l,m,o,d,h,b,e,f,g,u]
   ·obtain ⟨ap,w,a⟩:=bs a
    simp (disch:=first|apply D;decide|apply K;kernel_rfl) only [E,EE,↓reduceIte,simprocAttr,indexAddrV,t_25,t_5,encI_eq,fieldAddrV,t_83,i,j,l,m,o,d,h,b,e,f,g,u,w]
    rcases cond_some a with ⟨x,a⟩ | ⟨x,a⟩
    ·cases a
     simp (disch:=first|apply D;decide|apply K;kernel_rfl) only [E,EE,↓reduceIte,simprocAttr,xk B38 [2,1,2,2,3,2,2,2,2,2,2,2,2,2,2,1,2,1,2,2] (.cd 138) rfl,xk B38 [2,2,1,2,2,3,2,2,2,2,2,2,2,2,2,2,1,2,1,2,2] .sq rfl,rg B38 [1,2,2,1,2,2,3,2,2,2,2,2,2,2,2,2,2,1,2,1,2,2] 23 false rfl,hr 38 23 rfl,xk B38 [2,2,2,1,2,2,3,2,2,2,2,2,2,2,2,2,2,1,2,1,2,2] .rt rfl,R38_l1.st,i,j,l,m,o,d,h,b,e,f,g,u,w,x]
    ·simp (disch:=first|apply D;decide|apply K;kernel_rfl) only [E,EE,↓reduceIte,simprocAttr,fieldAddrV,t_83,t_5,indexAddrV,t_25,encI_eq,i,j,l,m,o,d,h,b,e,f,g,u,w,x]
     rcases cond_some a with ⟨aa,a⟩ | ⟨aa,a⟩
     ·cases a
      simp (disch:=first|apply D;decide|apply K;kernel_rfl) only [E,EE,↓reduceIte,simprocAttr,xk B38 [2,1,2,2,3,2,2,2,2,2,2,2,2,2,2,1,2,1,2,2] (.cd 138) rfl,xk B38 [2,2,1,2,2,3,2,2,2,2,2,2,2,2,2,2,1,2,1,2,2] .sq rfl,rg B38 [1,2,2,1,2,2,3,2,2,2,2,2,2,2,2,2,2,1,2,1,2,2] 23 false rfl,hr 38 23 rfl,xk B38 [2,2,2,1,2,2,3,2,2,2,2,2,2,2,2,2,2,1,2,1,2,2] .rt rfl,R38_l1.st,i,j,l,m,o,d,h,b,e,f,g,u,w,x,aa]
     ·obtain ⟨aq,ae,a⟩:=bs a
      simp (disch:=first|apply D;decide|apply K;kernel_rfl) only [E,EE,↓reduceIte,simprocAttr,indexAddrV,t_25,t_5,encI_eq,i,j,l,m,o,d,h,b,e,f,g,u,w,x,aa,ae]
      rcases cond_some a with ⟨af,a⟩ | ⟨af,a⟩
      ·cases a
       simp (disch:=first|apply D;decide|apply K;kernel_rfl) only [E,EE,↓reduceIte,simprocAttr,xk B38 [2,1,2,2,3,2,2,2,2,2,2,2,2,2,2,1,2,1,2,2] (.cd 138) rfl,xk B38 [2,2,1,2,2,3,2,2,2,2,2,2,2,2,2,2,1,2,1,2,2] .sq rfl,rg B38 [1,2,2,1,2,2,3,2,2,2,2,2,2,2,2,2,2,1,2,1,2,2] 23 false rfl,hr 38 23 rfl,xk B38 [2,2,2,1,2,2,3,2,2,2,2,2,2,2,2,2,2,1,2,1,2,2] .rt rfl,R38_l1.st,i,j,l,m,o,d,h,b,e,f,g,u,w,x,aa,ae,af]
      ·simp (disch:=first|apply D;decide|apply K;kernel_rfl) only [E,EE,↓reduceIte,simprocAttr,indexAddrV,t_25,t_5,encI_eq,xk B38 [2,1,2,2,3,2,2,2,2,2,2,2,2,2,2,1,2,1,2,2] (.cd 138) rfl,i,j,l,m,o,d,h,b,e,f,g,u,w,x,aa,ae,af]
       rcases cond_some a with ⟨aj,a⟩ | ⟨aj,a⟩
       ·cases a
        simp (disch:=first|apply D;decide|apply K;kernel_rfl) only [E,EE,↓reduceIte,simprocAttr,xk B38 [2,2,1,2,2,3,2,2,2,2,2,2,2,2,2,2,1,2,1,2,2] .sq rfl,rg B38 [1,2,2,1,2,2,3,2,2,2,2,2,2,2,2,2,2,1,2,1,2,2] 23 false rfl,hr 38 23 rfl,xk B38 [2,2,2,1,2,2,3,2,2,2,2,2,2,2,2,2,2,1,2,1,2,2] .rt rfl,R38_l1.st,i,j,l,m,o,d,h,b,e,f,g,u,w,x,aa,ae,af,aj]
       ·have hJ:=f38_l1_j8_ok k x0 false _ a
        simp (disch:=first|apply D;decide|apply K;kernel_rfl) only [E,EE,↓reduceIte,simprocAttr,xk B38 [3,2,1,2,2,3,2,2,2,2,2,2,2,2,2,2,1,2,1,2,2] .sk rfl,i,j,l,m,o,d,h,b,e,f,g,u,w,x,aa,ae,af,aj]
        try simp only [NM,EE] at hJ
        exact hJ
  ·simp (disch:=first|apply D;decide|apply K;kernel_rfl) only [E,EE,↓reduceIte,simprocAttr,xk B38 [3,2,3,2,2,2,2,2,2,2,2,2,2,1,2,1,2,2] .sq rfl,rg B38 [1,3,2,3,2,2,2,2,2,2,2,2,2,2,1,2,1,2,2] 25 false rfl,hr 38 25 rfl,xk B38 [2,3,2,3,2,2,2,2,2,2,2,2,2,2,1,2,1,2,2] (.cd 141) rfl,i,j,l,m,o,d,h,b,e,f,g]
   rcases cond_some a with ⟨p,a⟩ | ⟨p,a⟩
   ·simp (disch:=first|apply D;decide|apply K;kernel_rfl) only [E,EE,↓reduceIte,simprocAttr,xk B38 [2,2,3,2,3,2,2,2,2,2,2,2,2,2,2,1,2,1,2,2] .sq rfl,xk B38 [1,2,2,3,2,3,2,2,2,2,2,2,2,2,2,2,1,2,1,2,2] .sq rfl,rg B38 [1,1,2,2,3,2,3,2,2,2,2,2,2,2,2,2,2,1,2,1,2,2] 26 true rfl,hr 38 26 rfl,t_25,i,j,l,m,o,d,h,b,e,f,g,p]
    rcases cond_some a with ⟨q,a⟩ | ⟨q,a⟩
    ·cases a
     simp (disch:=first|apply D;decide|apply K;kernel_rfl) only [E,EE,↓reduceIte,simprocAttr,xk B38 [2,1,2,2,3,2,3,2,2,2,2,2,2,2,2,2,2,1,2,1,2,2] (.cd 185) rfl,xk B38 [2,2,1,2,2,3,2,3,2,2,2,2,2,2,2,2,2,2,1,2,1,2,2] .sq rfl,rg B38 [1,2,2,1,2,2,3,2,3,2,2,2,2,2,2,2,2,2,2,1,2,1,2,2] 27 false rfl,hr 38 27 rfl,xk B38 [2,2,2,1,2,2,3,2,3,2,2,2,2,2,2,2,2,2,2,1,2,1,2,2] .rt rfl,R38_l1.st,i,j,l,m,o,d,h,b,e,f,g,p,q]
    ·obtain ⟨ar,s,a⟩:=bs a
     simp (disch:=first|apply D;decide|apply K;kernel_rfl) only [E,EE,↓reduceIte,simprocAttr,indexAddrV,t_25,t_5,encI_eq,fieldAddrV,t_83,i,j,l,m,o,d,h,b,e,f,g,p,q,s]
     rcases cond_some a with ⟨t,a⟩ | ⟨t,a⟩
     ·cases a
      simp (disch:=first|apply D;decide|apply K;kernel_rfl) only [E,EE,↓reduceIte,simprocAttr,xk B38 [2,1,2,2,3,2,3,2,2,2,2,2,2,2,2,2,2,1,2,1,2,2] (.cd 185) rfl,xk B38 [2,2,1,2,2,3,2,3,2,2,2,2,2,2,2,2,2,2,1,2,1,2,2] .sq rfl,rg B38 [1,2,2,1,2,2,3,2,3,2,2,2,2,2,2,2,2,2,2,1,2,1,2,2] 27 false rfl,hr 38 27 rfl,xk B38 [2,2,2,1,2,2,3,2,3,2,2,2,2,2,2,2,2,2,2,1,2,1,2,2] .rt rfl,R38_l1.st,i,j,l,m,o,d,h,b,e,f,g,p,q,s,t]
     ·simp (disch:=first|apply D;decide|apply K;kernel_rfl) only [E,EE,↓reduceIte,simprocAttr,fieldAddrV,t_83,t_5,indexAddrV,t_25,encI_eq,i,j,l,m,o,d,h,b,e,f,g,p,q,s,t]
      rcases cond_some a with ⟨v,a⟩ | ⟨v,a⟩
      ·cases a
       simp (disch:=first|apply D;decide|apply K;kernel_rfl) only [E,EE,↓reduceIte,simprocAttr,xk B38 [2,1,2,2,3,2,3,2,2,2,2,2,2,2,2,2,2,1,2,1,2,2] (.cd 185) rfl,xk B38 [2,2,1,2,2,3,2,3,2,2,2,2,2,2,2,2,2,2,1,2,1,2,2] .sq rfl,rg B38 [1,2,2,1,2,2,3,2,3,2,2,2,2,2,2,2,2,2,2,1,2,1,2,2] 27 false rfl,hr 38 27 rfl,xk B38 [2,2,2,1,2,2,3,2,3,2,2,2,2,2,2,2,2,2,2,1,2,1,2,2] .rt rfl,R38_l1.st,i,j,l,m,o,d,h,b,e,f,g,p,q,s,t,v]
      ·obtain ⟨au,y,a⟩:=bs a
       simp (disch:=first|apply D;decide|apply K;kernel_rfl) only [E,EE,↓reduceIte,simprocAttr,indexAddrV,t_25,t_5,encI_eq,i,j,l,m,o,d,h,b,e,f,g,p,q,s,t,v,y]
       rcases cond_some a with ⟨z,a⟩ | ⟨z,a⟩
       ·cases a
        simp (disch:=first|apply D;decide|apply K;kernel_rfl) only [E,EE,↓reduceIte,simprocAttr,xk B38 [2,1,2,2,3,2,3,2,2,2,2,2,2,2,2,2,2,1,2,1,2,2] (.cd 185) rfl,xk B38 [2,2,1,2,2,3,2,3,2,2,2,2,2,2,2,2,2,2,1,2,1,2,2] .sq rfl,rg B38 [1,2,2,1,2,2,3,2,3,2,2,2,2,2,2,2,2,2,2,1,2,1,2,2] 27 false rfl,hr 38 27 rfl,xk B38 [2,2,2,1,2,2,3,2,3,2,2,2,2,2,2,2,2,2,2,1,2,1,2,2] .rt rfl,R38_l1.st,i,j,l,m,o,d,h,b,e,f,g,p,q,s,t,v,y,z]
       ·simp (disch:=first|apply D;decide|apply K;kernel_rfl) only [E,EE,↓reduceIte,simprocAttr,indexAddrV,t_25,t_5,encI_eq,i,j,l,m,o,d,h,b,e,f,g,p,q,s,t,v,y,z]
        rcases cond_some a with ⟨ab,a⟩ | ⟨ab,a⟩
        ·cases a
         simp (disch:=first|apply D;decide|apply K;kernel_rfl) only [E,EE,↓reduceIte,simprocAttr,xk B38 [2,1,2,2,3,2,3,2,2,2,2,2,2,2,2,2,2,1,2,1,2,2] (.cd 185) rfl,xk B38 [2,2,1,2,2,3,2,3,2,2,2,2,2,2,2,2,2,2,1,2,1,2,2] .sq rfl,rg B38 [1,2,2,1,2,2,3,2,3,2,2,2,2,2,2,2,2,2,2,1,2,1,2,2] 27 false rfl,hr 38 27 rfl,xk B38 [2,2,2,1,2,2,3,2,3,2,2,2,2,2,2,2,2,2,2,1,2,1,2,2] .rt rfl,R38_l1.st,i,j,l,m,o,d,h,b,e,f,g,p,q,s,t,v,y,z,ab]
        ·obtain ⟨av,ag,a⟩:=bs a
         simp (disch:=first|apply D;decide|apply K;kernel_rfl) only [E,EE,↓reduceIte,simprocAttr,indexAddrV,t_25,t_5,encI_eq,i,j,l,m,o,d,h,b,e,f,g,p,q,s,t,v,y,z,ab,ag]
         rcases cond_some a with ⟨ah,a⟩ | ⟨ah,a⟩
         ·cases a
          simp (disch:=first|apply D;decide|apply K;kernel_rfl) only [E,EE,↓reduceIte,simprocAttr,xk B38 [2,1,2,2,3,2,3,2,2,2,2,2,2,2,2,2,2,1,2,1,2,2] (.cd 185) rfl,xk B38 [2,2,1,2,2,3,2,3,2,2,2,2,2,2,2,2,2,2,1,2,1,2,2] .sq rfl,rg B38 [1,2,2,1,2,2,3,2,3,2,2,2,2,2,2,2,2,2,2,1,2,1,2,2] 27 false rfl,hr 38 27 rfl,xk B38 [2,2,2,1,2,2,3,2,3,2,2,2,2,2,2,2,2,2,2,1,2,1,2,2] .rt rfl,R38_l1.st,i,j,l,m,o,d,h,b,e,f,g,p,q,s,t,v,y,z,ab,ag,ah]
         ·simp (disch:=first|apply D;decide|apply K;kernel_rfl) only [E,EE,↓reduceIte,simprocAttr,indexAddrV,t_25,t_5,encI_eq,xk B38 [2,1,2,2,3,2,3,2,2,2,2,2,2,2,2,2,2,1,2,1,2,2] (.cd 185) rfl,i,j,l,m,o,d,h,b,e,f,g,p,q,s,t,v,y,z,ab,ag,ah]
          rcases cond_some a with ⟨ak,a⟩ | ⟨ak,a⟩
          ·cases a
           simp (disch:=first|apply D;decide|apply K;kernel_rfl) only [E,EE,↓reduceIte,simprocAttr,xk B38 [2,2,1,2,2,3,2,3,2,2,2,2,2,2,2,2,2,2,1,2,1,2,2] .sq rfl,rg B38 [1,2,2,1,2,2,3,2,3,2,2,2,2,2,2,2,2,2,2,1,2,1,2,2] 27 false rfl,hr 38 27 rfl,xk B38 [2,2,2,1,2,2,3,2,3,2,2,2,2,2,2,2,2,2,2,1,2,1,2,2] .rt rfl,R38_l1.st,i,j,l,m,o,d,h,b,e,f,g,p,q,s,t,v,y,z,ab,ag,ah,ak]
          ·have hJ:=f38_l1_j9_ok k x0 false _ a
           simp (disch:=first|apply D;decide|apply K;kernel_rfl) only [E,EE,↓reduceIte,simprocAttr,xk B38 [3,2,1,2,2,3,2,3,2,2,2,2,2,2,2,2,2,2,1,2,1,2,2] .sk rfl,i,j,l,m,o,d,h,b,e,f,g,p,q,s,t,v,y,z,ab,ag,ah,ak]
           try simp only [NM,EE] at hJ
           exact hJ
   ·cases a
    simp (disch:=first|apply D;decide|apply K;kernel_rfl) only [E,EE,↓reduceIte,simprocAttr,xk B38 [3,2,3,2,3,2,2,2,2,2,2,2,2,2,2,1,2,1,2,2] .sq rfl,rg B38 [1,3,2,3,2,3,2,2,2,2,2,2,2,2,2,2,1,2,1,2,2] 16 false rfl,hr 38 16 rfl,xk B38 [2,3,2,3,2,3,2,2,2,2,2,2,2,2,2,2,1,2,1,2,2] .rt rfl,R38_l1.st,i,j,l,m,o,d,h,b,e,f,g,p]
noncomputable def f38_l1_j1 (k:Nat) (a:List Int) (g:Bool):Option R38_l1 :=
 Option.bind (a[0]?) fun f =>
  cond ((decide (f<128)))
   (
    ifE (1≤(List.length a)) (
     cond ((decide (((List.length (List.drop 1 (List.take (List.length a) a))):Int)>8)))
      (
       Option.bind (f47 k (List.drop 1 (List.take (List.length a) a))) fun o6 =>
        match o6 with
        | .o0 h =>
         cond (((IntKind.u64.wrap ((BitVec.ofInt (IntKind.bits .u64) h &&& BitVec.ofInt (IntKind.bits .u64) (9259542123273814144:Int)).toNat:Nat))==0))
          (
           ifE (8≤(List.length (List.drop 1 (List.take (List.length a) a)))) (
            cond ((decide (((List.length ((List.drop 8 ((List.take (List.length (List.drop 1 (List.take (List.length a) a))) (List.drop 1 (List.take (List.length a) a))))))):Int)>16)))
             (
              Option.bind (f47 k ((List.drop 8 ((List.take (List.length (List.drop 1 (List.take (List.length a) a))) (List.drop 1 (List.take (List.length a) a))))))) fun o13 =>
               match o13 with
               | .o0 b =>
                ifE (8≤(List.length ((List.drop 8 ((List.take (List.length (List.drop 1 (List.take (List.length a) a))) (List.drop 1 (List.take (List.length a) a)))))))) (
                 Option.bind (f47 k ((List.drop 8 ((List.take ((List.length ((List.drop 8 ((List.take (List.length (List.drop 1 (List.take (List.length a) a))) (List.drop 1 (List.take (List.length a) a)))))))) ((List.drop 8 ((List.take (List.length (List.drop 1 (List.take (List.length a) a))) (List.drop 1 (List.take (List.length a) a))))))))))) fun o18 =>
                  match o18 with
                  | .o0 c =>
                   cond (((IntKind.u64.wrap ((BitVec.ofInt (IntKind.bits .u64) (IntKind.u64.wrap ((BitVec.ofInt (IntKind.bits .u64) b ||| BitVec.ofInt (IntKind.bits .u64) c).toNat:Nat)) &&& BitVec.ofInt (IntKind.bits .u64) (9259542123273814144:Int)).toNat:Nat))==0))
                    (
                     ifE (16≤(List.length ((List.drop 8 ((List.take (List.length (List.drop 1 (List.take (List.length a) a))) (List.drop 1 (List.take (List.length a) a)))))))) (
                      Option.bind (f38_l1_l2 k k ((List.drop 16 ((List.take ((List.length ((List.drop 8 ((List.take (List.length (List.drop 1 (List.take (List.length a) a))) (List.drop 1 (List.take (List.length a) a)))))))) ((List.drop 8 ((List.take (List.length (List.drop 1 (List.take (List.length a) a))) (List.drop 1 (List.take (List.length a) a))))))))))) fun o24 =>
                       match o24 with
                       | .o0 _ =>
                        none
                       | .o1 d e =>
                        f38_l1_j3 k d e))
                    (f38_l1_j4 k ((List.drop 8 ((List.take (List.length (List.drop 1 (List.take (List.length a) a))) (List.drop 1 (List.take (List.length a) a)))))) false)))
             (f38_l1_j4 k ((List.drop 8 ((List.take (List.length (List.drop 1 (List.take (List.length a) a))) (List.drop 1 (List.take (List.length a) a)))))) false)))
          (f38_l1_j5 k (List.drop 1 (List.take (List.length a) a)) false))
      (f38_l1_j5 k (List.drop 1 (List.take (List.length a) a)) false)))
   (f38_l1_j6 k a f false)
theorem f38_l1_j1_ok (k b t r) (a:f38_l1_j1 k b t=some r):EX 38 k (nav B38 [2,1,2,1,2,2]) (⟨188,[(0,.sl 1 (rowsOf (encI .u8) b)),(15,.p (.bool t))],[]⟩:St)=some r.st:=by
 unfold f38_l1_j1 at a
 obtain ⟨z,i,a⟩:=bs a
 simp (disch:=first|apply D;decide|apply K;kernel_rfl) only [E,EE,↓reduceIte,simprocAttr,xk B38 [2,1,2,1,2,2] (.bk 1) rfl,xk B38 [2,2,1,2,1,2,2] .sq rfl,rg B38 [1,2,2,1,2,1,2,2] 3 false rfl,hr 38 3 rfl,indexAddrV,t_25,t_5,encI_eq,xk B38 [2,2,2,1,2,1,2,2] .sq rfl,xk B38 [1,2,2,2,1,2,1,2,2] .sq rfl,rg B38 [1,1,2,2,2,1,2,1,2,2] 4 false rfl,hr 38 4 rfl,xk B38 [2,1,2,2,2,1,2,1,2,2] (.cd 20) rfl,i]
 rcases cond_some a with ⟨j,a⟩ | ⟨j,a⟩
 ·obtain ⟨l,a⟩:=ifE_some.1 a
  simp (disch:=first|apply D;decide|apply K;kernel_rfl) only [E,EE,↓reduceIte,simprocAttr,xk B38 [2,2,1,2,2,2,1,2,1,2,2] .sq rfl,rg B38 [1,2,2,1,2,2,2,1,2,1,2,2] 5 false rfl,hr 38 5 rfl,sliceV,bound,t_25,t_5,xk B38 [2,2,2,1,2,2,2,1,2,1,2,2] .sq rfl,xk B38 [1,2,2,2,1,2,2,2,1,2,1,2,2] .sq rfl,rg B38 [1,1,2,2,2,1,2,2,2,1,2,1,2,2] 6 false rfl,hr 38 6 rfl,i,j,l]
  rcases cond_some a with ⟨m,a⟩ | ⟨m,a⟩
  ·obtain ⟨o6,n,a⟩:=bs a
   have c:=f47_ok k (List.drop 1 (List.take (List.length b) b)) _ n
   cases o6 with
   | o0 v9 =>
    (try dsimp only at a)
    (try simp only [NM,EE,R47.st] at c)
    simp (disch:=first|apply D;decide|apply K;kernel_rfl) only [E,EE,↓reduceIte,simprocAttr,callStep,CL,gv,List.contains,xk B38 [2,1,2,2,2,1,2,2,2,1,2,1,2,2] (.cd 31) rfl,i,j,l,m,c]
    rcases cond_some a with ⟨f,a⟩ | ⟨f,a⟩
    ·obtain ⟨g,a⟩:=ifE_some.1 a
     simp (disch:=first|apply D;decide|apply K;kernel_rfl) only [E,EE,↓reduceIte,simprocAttr,xk B38 [2,2,1,2,2,2,1,2,2,2,1,2,1,2,2] .sq rfl,rg B38 [1,2,2,1,2,2,2,1,2,2,2,1,2,1,2,2] 7 false rfl,hr 38 7 rfl,sliceV,bound,t_25,t_5,xk B38 [2,2,2,1,2,2,2,1,2,2,2,1,2,1,2,2] .sq rfl,rg B38 [1,2,2,2,1,2,2,2,1,2,2,2,1,2,1,2,2] 8 true rfl,hr 38 8 rfl,i,j,l,m,c,f,g]
     rcases cond_some a with ⟨h,a⟩ | ⟨h,a⟩
     ·obtain ⟨o13,u,a⟩:=bs a
      have d:=f47_ok k ((List.drop 8 ((List.take (List.length (List.drop 1 (List.take (List.length b) b))) (List.drop 1 (List.take (List.length b) b)))))) _ u
      cases o13 with
      | o0 aa =>
       (try dsimp only at a)
       (try simp only [NM,EE,R47.st] at d)
       obtain ⟨o,a⟩:=ifE_some.1 a
       obtain ⟨o18,v,a⟩:=bs a
       have e:=f47_ok k ((List.drop 8 ((List.take ((List.length ((List.drop 8 ((List.take (List.length (List.drop 1 (List.take (List.length b) b))) (List.drop 1 (List.take (List.length b) b)))))))) ((List.drop 8 ((List.take (List.length (List.drop 1 (List.take (List.length b) b))) (List.drop 1 (List.take (List.length b) b)))))))))) _ v
       cases o18 with
       | o0 ab =>
        (try dsimp only at a)
        (try simp only [NM,EE,R47.st] at e)
        simp (disch:=first|apply D;decide|apply K;kernel_rfl) only [E,EE,↓reduceIte,simprocAttr,callStep,CL,gv,List.contains,sliceV,bound,t_25,t_5,xk B38 [2,2,2,2,1,2,2,2,1,2,2,2,1,2,1,2,2] (.cd 46) rfl,i,j,l,m,c,f,g,h,d,o,e]
        rcases cond_some a with ⟨p,a⟩ | ⟨p,a⟩
        ·obtain ⟨s,a⟩:=ifE_some.1 a
         obtain ⟨o24,w,a⟩:=bs a
         have q:=f38_l1_l2_ok k k ((List.drop 16 ((List.take ((List.length ((List.drop 8 ((List.take (List.length (List.drop 1 (List.take (List.length b) b))) (List.drop 1 (List.take (List.length b) b)))))))) ((List.drop 8 ((List.take (List.length (List.drop 1 (List.take (List.length b) b))) (List.drop 1 (List.take (List.length b) b)))))))))) _ w
         simp (disch:=first|apply D;decide|apply K;kernel_rfl) only [E,EE,↓reduceIte,simprocAttr,xk B38 [2,2,2,2,2,1,2,2,2,1,2,2,2,1,2,1,2,2] .sq rfl,rg B38 [1,2,2,2,2,2,1,2,2,2,1,2,2,2,1,2,1,2,2] 9 false rfl,hr 38 9 rfl,sliceV,bound,t_25,t_5,xk B38 [2,2,2,2,2,2,1,2,2,2,1,2,2,2,1,2,1,2,2] (.bk 2) rfl,xk B38 [2,2,2,2,2,2,2,1,2,2,2,1,2,2,2,1,2,1,2,2] .lp rfl,hh_38_10,hc_38_10,i,j,l,m,c,f,g,h,d,o,e,p,s]
         (try simp only [NM,EE] at q)
         rw [q _ (by simp (disch:=first|apply D;decide|apply K;kernel_rfl) only [E,EE,↓reduceIte,simprocAttr,hh_38_10,hc_38_10,i,j,l,m,c,f,g,h,d,o,e,p,s])]
         clear q
         cases o24 with
         | o0 _ =>
          (try dsimp only at a)
          cases a
         | o1 x y =>
          (try dsimp only at a)
          have hJ:=f38_l1_j3_ok k x y _ a
          simp (disch:=first|apply D;decide|apply K;kernel_rfl) only [E,EE,↓reduceIte,simprocAttr,R38_l1_l2.st,i,j,l,m,c,f,g,h,d,o,e,p,s]
          try simp only [NM,EE] at hJ
          exact hJ
        ·have hJ:=f38_l1_j4_ok k ((List.drop 8 ((List.take (List.length (List.drop 1 (List.take (List.length b) b))) (List.drop 1 (List.take (List.length b) b)))))) false _ a
         simp (disch:=first|apply D;decide|apply K;kernel_rfl) only [E,EE,↓reduceIte,simprocAttr,xk B38 [3,2,2,2,2,1,2,2,2,1,2,2,2,1,2,1,2,2] .sk rfl,i,j,l,m,c,f,g,h,d,o,e,p]
         try simp only [NM,EE] at hJ
         exact hJ
     ·have hJ:=f38_l1_j4_ok k ((List.drop 8 ((List.take (List.length (List.drop 1 (List.take (List.length b) b))) (List.drop 1 (List.take (List.length b) b)))))) false _ a
      simp (disch:=first|apply D;decide|apply K;kernel_rfl) only [E,EE,↓reduceIte,simprocAttr,xk B38 [2,2,2,2,1,2,2,2,1,2,2,2,1,2,1,2,2] (.cd 46) rfl,xk B38 [3,2,2,2,2,1,2,2,2,1,2,2,2,1,2,1,2,2] .sk rfl,i,j,l,m,c,f,g,h]
      try simp only [NM,EE] at hJ
      exact hJ
    ·have hJ:=f38_l1_j5_ok k (List.drop 1 (List.take (List.length b) b)) false _ a
     simp (disch:=first|apply D;decide|apply K;kernel_rfl) only [E,EE,↓reduceIte,simprocAttr,xk B38 [3,2,1,2,2,2,1,2,2,2,1,2,1,2,2] .sk rfl,i,j,l,m,c,f]
     try simp only [NM,EE] at hJ
     exact hJ
  ·have hJ:=f38_l1_j5_ok k (List.drop 1 (List.take (List.length b) b)) false _ a
   simp (disch:=first|apply D;decide|apply K;kernel_rfl) only [E,EE,↓reduceIte,simprocAttr,xk B38 [2,1,2,2,2,1,2,2,2,1,2,1,2,2] (.cd 31) rfl,xk B38 [3,2,1,2,2,2,1,2,2,2,1,2,1,2,2] .sk rfl,i,j,l,m]
   try simp only [NM,EE] at hJ
   exact hJ
 ·have hJ:=f38_l1_j6_ok k b z false _ a
  simp (disch:=first|apply D;decide|apply K;kernel_rfl) only [E,EE,↓reduceIte,simprocAttr,xk B38 [3,2,1,2,2,2,1,2,1,2,2] .sk rfl,i,j]
  try simp only [NM,EE] at hJ
  exact hJ
noncomputable def f38_l1_b (k:Nat) (a:List Int):Option R38_l1 :=
 cond ((decide (((List.length a):Int)>0)))
  (f38_l1_j1 k a true)
  (some (.o5 a false))
theorem f38_l1_b_ok (k b r) (a:f38_l1_b k b=some r):EX 38 k (nav B38 [1,2,1,2,2]) (⟨188,[(0,.sl 1 (rowsOf (encI .u8) b))],[]⟩:St)=some r.st:=by
 unfold f38_l1_b at a
 simp (disch:=first|apply D;decide|apply K;kernel_rfl) only [E,EE,↓reduceIte,simprocAttr,xk B38 [1,2,1,2,2] .sq rfl,xk B38 [1,1,2,1,2,2] .sq rfl,rg B38 [1,1,1,2,1,2,2] 2 false rfl,hr 38 2 rfl,t_25,xk B38 [2,1,1,2,1,2,2] (.cd 15) rfl]
 rcases cond_some a with ⟨c,a⟩ | ⟨c,a⟩
 ·have hJ:=f38_l1_j1_ok k b true _ a
  simp (disch:=first|apply D;decide|apply K;kernel_rfl) only [E,EE,↓reduceIte,simprocAttr,xk B38 [2,2,1,1,2,1,2,2] .sk rfl,c]
  try simp only [NM,EE] at hJ
  exact hJ
 ·cases a
  simp (disch:=first|apply D;decide|apply K;kernel_rfl) only [E,EE,↓reduceIte,simprocAttr,xk B38 [3,2,1,1,2,1,2,2] (.ex 0) rfl,R38_l1.st,c]
noncomputable def f38_l1 (k:Nat):Nat→(List Int)→Option R38_l1
 | 0,_=>none
 | n+1,b=>Option.bind (f38_l1_b k b) fun o =>
  match o with
  | .o0 y a=>f38_l1 k n y
  | .o1 y a=>f38_l1 k n y
  | .o2 y a=>f38_l1 k n y
  | .o3 y=>some (.o3 y)
  | .o4 y=>f38_l1 k n y
  | .o5 y a=>some (.o5 y a)
theorem f38_l1_ok (k n:Nat):∀ (c:List Int) (r:R38_l1) (a:f38_l1 k n c=some r) (σ:St) (hσ:headR (hints.head 38 2) (hints.canon 38 2) σ=some (⟨188,[(0,.sl 1 (rowsOf (encI .u8) c))],[]⟩:St)),LP 38 k (nav B38 [1,2,1,2,2]) n σ=some r.st:=by
 induction n with
 | zero=>intro c r a;cases a
 | succ n d =>
  intro c r a σ hσ
  rw [f38_l1] at a
  obtain ⟨o,h,a⟩:=Option.bind_eq_some_iff.1 a
  have hB:=f38_l1_b_ok k c o h
  unfold LP at d ⊢
  unfold EX at hB
  rw [loopK_succ,show firstReg (nav B38 [1,2,1,2,2])=2 from rfl,hσ,headK_some,hB]
  cases o with
  | o0 y b =>
   refine d y r a _ ?_
   simp (disch:=first|apply D;decide|apply K;kernel_rfl) only [E,EE,↓reduceIte,simprocAttr,hh_38_2,hc_38_2]
  | o1 y b =>
   refine d y r a _ ?_
   simp (disch:=first|apply D;decide|apply K;kernel_rfl) only [E,EE,↓reduceIte,simprocAttr,hh_38_2,hc_38_2]
  | o2 y b =>
   refine d y r a _ ?_
   simp (disch:=first|apply D;decide|apply K;kernel_rfl) only [E,EE,↓reduceIte,simprocAttr,hh_38_2,hc_38_2]
  | o3 y=>cases a;rfl
  | o4 y =>
   refine d y r a _ ?_
   simp (disch:=first|apply D;decide|apply K;kernel_rfl) only [E,EE,↓reduceIte,simprocAttr,hh_38_2,hc_38_2]
  | o5 y b=>cases a;rfl
noncomputable def f38_j2 (k:Nat) (b:List Int) (a:Bool):Option R38 :=
 some (.o0 true)
theorem f38_j2_ok (k b a r) (c:f38_j2 k b a=some r):finK Tryd.prog Tryd.f38 0 (EX 38 k (nav B38 [2,2,2]) (⟨188,[(0,.sl 1 (rowsOf (encI .u8) b)),(15,.p (.bool a))],[]⟩:St))=some r.st:=by
 unfold f38_j2 at c
 cases c
 simp (disch:=first|apply D;decide|apply K;kernel_rfl) only [E,EE,↓reduceIte,simprocAttr,xk B38 [2,2,2] .sq rfl,rg B38 [1,2,2,2] 29 false rfl,hr 38 29 rfl,xk B38 [2,2,2,2] .rt rfl,fin38,R38.st]
noncomputable def f38_e (k:Nat) (a:List Int):Option R38 :=
 ifE ((0:Int)≤((List.length a):Int)) (
  ifE ((Int.toNat ((List.length a):Int))≤(List.length a)) (
   Option.bind (f38_l1 k k (List.take (Int.toNat ((List.length a):Int)) a)) fun o3 =>
    match o3 with
    | .o0 _ _ =>
     none
    | .o1 _ _ =>
     none
    | .o2 _ _ =>
     none
    | .o3 b =>
     some (.o0 b)
    | .o4 _ =>
     none
    | .o5 c d =>
     f38_j2 k c d))
theorem f38_e_ok (k c r) (a:f38_e k c=some r):finK Tryd.prog Tryd.f38 0 (EX 38 k (nav B38 []) (⟨188,[(0,.sl 1 (rowsOf (encI .u8) c))],[]⟩:St))=some r.st:=by
 unfold f38_e at a
 obtain ⟨d,a⟩:=ifE_some.1 a
 obtain ⟨e,a⟩:=ifE_some.1 a
 obtain ⟨o3,f,a⟩:=bs a
 have b:=f38_l1_ok k k (List.take (Int.toNat ((List.length c):Int)) c) _ f
 simp (disch:=first|apply D;decide|apply K;kernel_rfl) only [E,EE,↓reduceIte,simprocAttr,xk B38 [] .sq rfl,rg B38 [1] 0 false rfl,hr 38 0 rfl,xk B38 [2] .sq rfl,rg B38 [1,2] 1 false rfl,hr 38 1 rfl,t_25,sliceV,bound,t_5,xk B38 [2,2] .sq rfl,xk B38 [1,2,2] (.bk 0) rfl,xk B38 [2,1,2,2] .lp rfl,hh_38_2,hc_38_2,d,e]
 (try simp only [NM,EE] at b)
 rw [b _ (by simp (disch:=first|apply D;decide|apply K;kernel_rfl) only [E,EE,↓reduceIte,simprocAttr,hh_38_2,hc_38_2,d,e])]
 clear b
 cases o3 with
 | o0 _ _ =>
  (try dsimp only at a)
  cases a
 | o1 _ _ =>
  (try dsimp only at a)
  cases a
 | o2 _ _ =>
  (try dsimp only at a)
  cases a
 | o3 i =>
  (try dsimp only at a)
  cases a
  simp (disch:=first|apply D;decide|apply K;kernel_rfl) only [E,EE,↓reduceIte,simprocAttr,R38_l1.st,fin38,R38.st,d,e]
 | o4 _ =>
  (try dsimp only at a)
  cases a
 | o5 g h =>
  (try dsimp only at a)
  have hJ:=f38_j2_ok k g h _ a
  simp (disch:=first|apply D;decide|apply K;kernel_rfl) only [E,EE,↓reduceIte,simprocAttr,R38_l1.st,d,e]
  try simp only [NM,EE] at hJ
  exact hJ
noncomputable def f38 (k:Nat) (a:List Int):Option R38:=match k with | 0=>none | k+1=>f38_e k a
theorem f38_ok (k a r) (b:f38 k a=some r):CV k 38 [.sl 1 (rowsOf (encI .u8) a)] []=some r.st:=by
 cases k with
 | zero=>cases b
 | succ k =>
  unfold CV
  rw [ev_call (F:=Tryd.f38) (c:=(nav B38 [])) rfl Tryd.func38 rfl rfl rfl rfl]
  exact f38_e_ok k a r b
end Go.Proofs.YtlelaenalbkbmaaDoorV