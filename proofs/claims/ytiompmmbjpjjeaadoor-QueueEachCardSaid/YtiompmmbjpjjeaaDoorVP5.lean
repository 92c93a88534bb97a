/- What the program's functions answer: plain functions,and that the interpreter answers what they do. Written by a program of this session,out of the translation. -/
import Derived.Test.YtiompmmbjpjjeaaDoorVP4
namespace Go.Proofs.YtiompmmbjpjjeaaDoorV
open Go
set_option linter.unusedVariables false
set_option linter.unusedSimpArgs false
set_option maxRecDepth 8000
set_option maxHeartbeats 4000000
-- f82: f82 unicode/utf8.Valid
inductive R82 where
 | o0 (y:Bool)
noncomputable def R82.st:R82→V×List O×List O
 | .o0 y=>(jT y,[],[])
inductive R82_l1_l2 where
 | o0 (y:List Int)
 | o1 (y:List Int) (a:Bool)
noncomputable def R82_l1_l2.st:R82_l1_l2→Out×St
 | .o0 y=>(.norm,(⟨188,[(0,jB y)],[]⟩:St))
 | .o1 y a=>(.exit 2,(⟨188,[(0,jB y),(69,jT a)],[]⟩:St))
noncomputable def f82_l1_l2_j1 (k:Nat) (a:List Int) (b:Bool):Option R82_l1_l2 :=
 ifE (32≤(List.length a)) (
  some (R82_l1_l2.o0 (List.drop 32 (List.take (List.length a) a))))
theorem f82_l1_l2_j1_ok (k c a r) (b:f82_l1_l2_j1 k c a=some r):EX 82 k (nav B82 [2,1,2,2,2,2,2,2,2,1,2,2,2,1,2,2,2,1,2,1,2,2]) (⟨188,[(0,jB c),(69,jT a)],[]⟩:St)=some r.st:=by
 unfold f82_l1_l2_j1 at b
 obtain ⟨d,b⟩:=ifE_some.1 b
 cases b
 simp only [W,simprocAttr,xk B82 [2,1,2,2,2,2,2,2,2,1,2,2,2,1,2,2,2,1,2,1,2,2] (.bk 3) rfl,rg B82 [2,2,1,2,2,2,2,2,2,2,1,2,2,2,1,2,2,2,1,2,1,2,2] 11 false rfl,hr 82 11 rfl,sliceV,bound,t_45,t_5,R82_l1_l2.st,d]
noncomputable def f82_l1_l2_b (k:Nat) (a:List Int):Option R82_l1_l2 :=
 cond ((decide (((List.length a):Int)>32)))
  (
   Option.bind (f86 k a) fun o2 =>
    match o2 with
    | .o0 e =>
     ifE (8≤(List.length a)) (
      Option.bind (f86 k (List.drop 8 (List.take (List.length a) a))) fun o7 =>
       match o7 with
       | .o0 b =>
        ifE (16≤(List.length a)) (
         Option.bind (f86 k (List.drop 16 (List.take (List.length a) a))) fun o12 =>
          match o12 with
          | .o0 c =>
           ifE (24≤(List.length a)) (
            Option.bind (f86 k (List.drop 24 (List.take (List.length a) a))) fun o17 =>
             match o17 with
             | .o0 d =>
              cond (((IntKind.u64.wrap ((BitVec.ofInt (IntKind.bits .u64) (IntKind.u64.wrap ((BitVec.ofInt (IntKind.bits .u64) (IntKind.u64.wrap ((BitVec.ofInt (IntKind.bits .u64) e ||| BitVec.ofInt (IntKind.bits .u64) b).toNat:Nat)) ||| BitVec.ofInt (IntKind.bits .u64) (IntKind.u64.wrap ((BitVec.ofInt (IntKind.bits .u64) c ||| BitVec.ofInt (IntKind.bits .u64) d).toNat:Nat))).toNat:Nat)) &&& BitVec.ofInt (IntKind.bits .u64) (9259542123273814144:Int)).toNat:Nat))==0))
               (f82_l1_l2_j1 k a true)
               (some (R82_l1_l2.o1 a false))))))
  (some (R82_l1_l2.o1 a false))
theorem f82_l1_l2_b_ok (k d r) (a:f82_l1_l2_b k d=some r):EX 82 k (nav B82 [1,2,2,2,2,2,2,2,1,2,2,2,1,2,2,2,1,2,1,2,2]) (⟨188,[(0,jB d)],[]⟩:St)=some r.st:=by
 unfold f82_l1_l2_b at a
 simp (disch:=first|decide|apply K;kernel_rfl) only [W,simprocAttr,xk B82 [1,2,2,2,2,2,2,2,1,2,2,2,1,2,2,2,1,2,1,2,2] .sq rfl,xk B82 [1,1,2,2,2,2,2,2,2,1,2,2,2,1,2,2,2,1,2,1,2,2] .sq rfl,rg B82 [1,1,1,2,2,2,2,2,2,2,1,2,2,2,1,2,2,2,1,2,1,2,2] 10 true rfl,hr 82 10 rfl,t_45]
 rcases cond_some a with ⟨j,a⟩ | ⟨j,a⟩
 ·obtain ⟨o2,p,a⟩:=bs a
  have e:=f86_ok k d _ p
  cases o2 with
  | o0 v =>
   (try dsimp only at a)
   (try simp only [NM,EE,R86.st] at e)
   obtain ⟨l,a⟩:=ifE_some.1 a
   obtain ⟨o7,q,a⟩:=bs a
   have f:=f86_ok k (List.drop 8 (List.take (List.length d) d)) _ q
   cases o7 with
   | o0 s =>
    (try dsimp only at a)
    (try simp only [NM,EE,R86.st] at f)
    obtain ⟨g,a⟩:=ifE_some.1 a
    obtain ⟨o12,m,a⟩:=bs a
    have b:=f86_ok k (List.drop 16 (List.take (List.length d) d)) _ m
    cases o12 with
    | o0 t =>
     (try dsimp only at a)
     (try simp only [NM,EE,R86.st] at b)
     obtain ⟨h,a⟩:=ifE_some.1 a
     obtain ⟨o17,o,a⟩:=bs a
     have c:=f86_ok k (List.drop 24 (List.take (List.length d) d)) _ o
     cases o17 with
     | o0 u =>
      (try dsimp only at a)
      (try simp only [NM,EE,R86.st] at c)
      simp (disch:=first|decide|apply K;kernel_rfl) only [W,simprocAttr,callStep,CL,gv,List.contains,sliceV,bound,t_45,t_5,xk B82 [2,1,1,2,2,2,2,2,2,2,1,2,2,2,1,2,2,2,1,2,1,2,2] (.cd 69) rfl,j,e,l,f,g,b,h,c]
      rcases cond_some a with ⟨i,a⟩ | ⟨i,a⟩
      ·have hJ:=f82_l1_l2_j1_ok k d true _ a
       simp (disch:=first|decide|apply K;kernel_rfl) only [W,simprocAttr,xk B82 [2,2,1,1,2,2,2,2,2,2,2,1,2,2,2,1,2,2,2,1,2,1,2,2] .sk rfl,j,e,l,f,g,b,h,c,i]
       try simp only [NM,EE] at hJ
       exact hJ
      ·cases a
       simp (disch:=first|decide|apply K;kernel_rfl) only [W,simprocAttr,xk B82 [3,2,1,1,2,2,2,2,2,2,2,1,2,2,2,1,2,2,2,1,2,1,2,2] (.ex 2) rfl,R82_l1_l2.st,j,e,l,f,g,b,h,c,i]
 ·cases a
  simp (disch:=first|decide|apply K;kernel_rfl) only [W,simprocAttr,xk B82 [2,1,1,2,2,2,2,2,2,2,1,2,2,2,1,2,2,2,1,2,1,2,2] (.cd 69) rfl,xk B82 [3,2,1,1,2,2,2,2,2,2,2,1,2,2,2,1,2,2,2,1,2,1,2,2] (.ex 2) rfl,R82_l1_l2.st,j]
noncomputable def f82_l1_l2 (k:Nat):Nat→(List Int)→Option R82_l1_l2
 | 0,_=>none
 | n+1,b=>Option.bind (f82_l1_l2_b k b) fun o =>
  match o with
  | .o0 y=>f82_l1_l2 k n y
  | .o1 y a=>some (.o1 y a)
theorem f82_l1_l2_ok (k n:Nat):∀ (b:List Int) (r:R82_l1_l2) (a:f82_l1_l2 k n b=some r) (σ:St) (hσ:headR (hints.head 82 10) (hints.canon 82 10) σ=some (⟨188,[(0,jB b)],[]⟩:St)),LP 82 k (nav B82 [1,2,2,2,2,2,2,2,1,2,2,2,1,2,2,2,1,2,1,2,2]) n σ=some r.st:=by
 induction n with
 | zero=>intro b r a;cases a
 | succ n c =>
  intro b r a σ hσ
  rw [f82_l1_l2] at a
  obtain ⟨o,h,a⟩:=Option.bind_eq_some_iff.1 a
  have hB:=f82_l1_l2_b_ok k b o h
  unfold LP at c ⊢
  unfold EX at hB
  rw [loopK_succ,show firstReg (nav B82 [1,2,2,2,2,2,2,2,1,2,2,2,1,2,2,2,1,2,1,2,2])=10 from rfl,hσ,headK_some,hB]
  cases o with
  | o0 y =>
   refine c y r a _ ?_
   simp only [W,simprocAttr,hh_82_10,hc_82_10]
  | o1 y d=>cases a;rfl
inductive R82_l1 where
 | o0 (y:List Int) (a:Bool)
 | o1 (y:List Int) (a:Bool)
 | o2 (y:List Int) (a:Bool)
 | o3 (y:List Int) (a:Bool)
noncomputable def R82_l1.st:R82_l1→Out×St
 | .o0 y a=>(.norm,(⟨188,[(0,jB y),(69,jT a)],[]⟩:St))
 | .o1 y a=>(.norm,(⟨188,[(0,jB y),(46,jT a)],[]⟩:St))
 | .o2 y a=>(.norm,(⟨188,[(0,jB y),(31,jT a)],[]⟩:St))
 | .o3 y a=>(.exit 0,(⟨188,[(0,jB y),(15,jT a)],[]⟩:St))
noncomputable def f82_l1_j3 (k:Nat) (b:List Int) (a:Bool):Option R82_l1 :=
 some (.o0 b a)
theorem f82_l1_j3_ok (k b a r) (c:f82_l1_j3 k b a=some r):blockK 1 (SQ 82 k (nav B82 [2,2,2,2,1,2,1,2,2]) (EX 82 k (nav B82 [2,2,2,2,1,2,2,2,1,2,1,2,2]) (⟨188,[(0,jB b),(69,jT a)],[]⟩:St)))=some r.st:=by
 unfold f82_l1_j3 at c
 cases c
 simp only [W,simprocAttr,xk B82 [2,2,2,2,1,2,2,2,1,2,1,2,2] (.ex 1) rfl,R82_l1.st]
noncomputable def f82_l1_j4 (k:Nat) (b:List Int) (a:Bool):Option R82_l1 :=
 some (.o1 b a)
theorem f82_l1_j4_ok (k b a r) (c:f82_l1_j4 k b a=some r):blockK 1 (SQ 82 k (nav B82 [2,2,2,2,1,2,1,2,2]) (EX 82 k (nav B82 [2,2,2,2,1,2,2,2,1,2,1,2,2]) (⟨188,[(0,jB b),(46,jT a)],[]⟩:St)))=some r.st:=by
 unfold f82_l1_j4 at c
 cases c
 simp only [W,simprocAttr,xk B82 [2,2,2,2,1,2,2,2,1,2,1,2,2] (.ex 1) rfl,R82_l1.st]
noncomputable def f82_l1_j5 (k:Nat) (b:List Int) (a:Bool):Option R82_l1 :=
 some (.o2 b a)
theorem f82_l1_j5_ok (k b a r) (c:f82_l1_j5 k b a=some r):blockK 1 (SQ 82 k (nav B82 [2,2,2,2,1,2,1,2,2]) (EX 82 k (nav B82 [2,2,2,2,1,2,2,2,1,2,1,2,2]) (⟨188,[(0,jB b),(31,jT a)],[]⟩:St)))=some r.st:=by
 unfold f82_l1_j5 at c
 cases c
 simp only [W,simprocAttr,xk B82 [2,2,2,2,1,2,2,2,1,2,1,2,2] (.ex 1) rfl,R82_l1.st]
noncomputable def f82_l1_j6 (k:Nat) (b:List Int) (c:Int) (a:Bool):Option R82_l1 :=
 none
theorem f82_l1_j6_ok (k b c a r) (d:f82_l1_j6 k b c a=some r):blockK 1 (EX 82 k (nav B82 [2,2,2,2,1,2,1,2,2]) (⟨188,[(0,jB b),(3,.p (.int .u8 c)),(20,jT a)],[]⟩:St))=some r.st:=by
 unfold f82_l1_j6 at d
 cases d
noncomputable def f82_l1_j1 (k:Nat) (a:List Int) (g:Bool):Option R82_l1 :=
 Option.bind (a[0]?) fun f =>
  cond ((decide (f<128)))
   (
    ifE (1≤(List.length a)) (
     cond ((decide (((List.length (List.drop 1 (List.take (List.length a) a))):Int)>8)))
      (
       Option.bind (f86 k (List.drop 1 (List.take (List.length a) a))) fun o6 =>
        match o6 with
        | .o0 h =>
         cond (((IntKind.u64.wrap ((BitVec.ofInt (IntKind.bits .u64) h &&& BitVec.ofInt (IntKind.bits .u64) (9259542123273814144:Int)).toNat:Nat))==0))
          (
           ifE (8≤(List.length (List.drop 1 (List.take (List.length a) a)))) (
            cond ((decide (((List.length ((List.drop 8 ((List.take (List.length (List.drop 1 (List.take (List.length a) a))) (List.drop 1 (List.take (List.length a) a))))))):Int)>16)))
             (
              Option.bind (f86 k ((List.drop 8 ((List.take (List.length (List.drop 1 (List.take (List.length a) a))) (List.drop 1 (List.take (List.length a) a))))))) fun o13 =>
               match o13 with
               | .o0 b =>
                ifE (8≤(List.length ((List.drop 8 ((List.take (List.length (List.drop 1 (List.take (List.length a) a))) (List.drop 1 (List.take (List.length a) a)))))))) (
                 Option.bind (f86 k ((List.drop 8 ((List.take ((List.length ((List.drop 8 ((List.take (List.length (List.drop 1 (List.take (List.length a) a))) (List.drop 1 (List.take (List.length a) a)))))))) ((List.drop 8 ((List.take (List.length (List.drop 1 (List.take (List.length a) a))) (List.drop 1 (List.take (List.length a) a))))))))))) fun o18 =>
                  match o18 with
                  | .o0 c =>
                   cond (((IntKind.u64.wrap ((BitVec.ofInt (IntKind.bits .u64) (IntKind.u64.wrap ((BitVec.ofInt (IntKind.bits .u64) b ||| BitVec.ofInt (IntKind.bits .u64) c).toNat:Nat)) &&& BitVec.ofInt (IntKind.bits .u64) (9259542123273814144:Int)).toNat:Nat))==0))
                    (
                     ifE (16≤(List.length ((List.drop 8 ((List.take (List.length (List.drop 1 (List.take (List.length a) a))) (List.drop 1 (List.take (List.length a) a)))))))) (
                      Option.bind (f82_l1_l2 k k ((List.drop 16 ((List.take ((List.length ((List.drop 8 ((List.take (List.length (List.drop 1 (List.take (List.length a) a))) (List.drop 1 (List.take (List.length a) a)))))))) ((List.drop 8 ((List.take (List.length (List.drop 1 (List.take (List.length a) a))) (List.drop 1 (List.take (List.length a) a))))))))))) fun o24 =>
                       match o24 with
                       | .o0 _ =>
                        none
                       | .o1 d e =>
                        f82_l1_j3 k d e))
                    (f82_l1_j4 k ((List.drop 8 ((List.take (List.length (List.drop 1 (List.take (List.length a) a))) (List.drop 1 (List.take (List.length a) a)))))) false)))
             (f82_l1_j4 k ((List.drop 8 ((List.take (List.length (List.drop 1 (List.take (List.length a) a))) (List.drop 1 (List.take (List.length a) a)))))) false)))
          (f82_l1_j5 k (List.drop 1 (List.take (List.length a) a)) false))
      (f82_l1_j5 k (List.drop 1 (List.take (List.length a) a)) false)))
   (f82_l1_j6 k a f false)
theorem f82_l1_j1_ok (k b t r) (a:f82_l1_j1 k b t=some r):EX 82 k (nav B82 [2,1,2,1,2,2]) (⟨188,[(0,jB b),(15,jT t)],[]⟩:St)=some r.st:=by
 unfold f82_l1_j1 at a
 obtain ⟨z,i,a⟩:=bs a
 simp (disch:=first|decide|apply K;kernel_rfl) only [W,simprocAttr,xk B82 [2,1,2,1,2,2] (.bk 1) rfl,sr 82 3 B82 [2,2,1,2,1,2,2] rfl rfl rfl,indexAddrV,t_45,t_5,encI_eq,xk B82 [2,2,2,1,2,1,2,2] .sq rfl,sr 82 4 B82 [1,2,2,2,1,2,1,2,2] rfl rfl rfl,xk B82 [2,1,2,2,2,1,2,1,2,2] (.cd 20) rfl,i]
 rcases cond_some a with ⟨j,a⟩ | ⟨j,a⟩
 ·obtain ⟨l,a⟩:=ifE_some.1 a
  simp (disch:=first|decide|apply K;kernel_rfl) only [W,simprocAttr,sr 82 5 B82 [2,2,1,2,2,2,1,2,1,2,2] rfl rfl rfl,sliceV,bound,t_45,t_5,xk B82 [2,2,2,1,2,2,2,1,2,1,2,2] .sq rfl,sr 82 6 B82 [1,2,2,2,1,2,2,2,1,2,1,2,2] rfl rfl rfl,i,j,l]
  rcases cond_some a with ⟨m,a⟩ | ⟨m,a⟩
  ·obtain ⟨o6,n,a⟩:=bs a
   have c:=f86_ok k (List.drop 1 (List.take (List.length b) b)) _ n
   cases o6 with
   | o0 v9 =>
    (try dsimp only at a)
    (try simp only [NM,EE,R86.st] at c)
    simp (disch:=first|decide|apply K;kernel_rfl) only [W,simprocAttr,callStep,CL,gv,List.contains,xk B82 [2,1,2,2,2,1,2,2,2,1,2,1,2,2] (.cd 31) rfl,i,j,l,m,c]
    rcases cond_some a with ⟨f,a⟩ | ⟨f,a⟩
    ·obtain ⟨g,a⟩:=ifE_some.1 a
     simp (disch:=first|decide|apply K;kernel_rfl) only [W,simprocAttr,sr 82 7 B82 [2,2,1,2,2,2,1,2,2,2,1,2,1,2,2] rfl rfl rfl,sliceV,bound,t_45,t_5,xk B82 [2,2,2,1,2,2,2,1,2,2,2,1,2,1,2,2] .sq rfl,rg B82 [1,2,2,2,1,2,2,2,1,2,2,2,1,2,1,2,2] 8 true rfl,hr 82 8 rfl,i,j,l,m,c,f,g]
     rcases cond_some a with ⟨h,a⟩ | ⟨h,a⟩
     ·obtain ⟨o13,u,a⟩:=bs a
      have d:=f86_ok k ((List.drop 8 ((List.take (List.length (List.drop 1 (List.take (List.length b) b))) (List.drop 1 (List.take (List.length b) b)))))) _ u
      cases o13 with
      | o0 aa =>
       (try dsimp only at a)
       (try simp only [NM,EE,R86.st] at d)
       obtain ⟨o,a⟩:=ifE_some.1 a
       obtain ⟨o18,v,a⟩:=bs a
       have e:=f86_ok k ((List.drop 8 ((List.take ((List.length ((List.drop 8 ((List.take (List.length (List.drop 1 (List.take (List.length b) b))) (List.drop 1 (List.take (List.length b) b)))))))) ((List.drop 8 ((List.take (List.length (List.drop 1 (List.take (List.length b) b))) (List.drop 1 (List.take (List.length b) b)))))))))) _ v
       cases o18 with
       | o0 ab =>
        (try dsimp only at a)
        (try simp only [NM,EE,R86.st] at e)
        simp (disch:=first|decide|apply K;kernel_rfl) only [W,simprocAttr,callStep,CL,gv,List.contains,sliceV,bound,t_45,t_5,xk B82 [2,2,2,2,1,2,2,2,1,2,2,2,1,2,1,2,2] (.cd 46) rfl,i,j,l,m,c,f,g,h,d,o,e]
        rcases cond_some a with ⟨p,a⟩ | ⟨p,a⟩
        ·obtain ⟨s,a⟩:=ifE_some.1 a
         obtain ⟨o24,w,a⟩:=bs a
         have q:=f82_l1_l2_ok k k ((List.drop 16 ((List.take ((List.length ((List.drop 8 ((List.take (List.length (List.drop 1 (List.take (List.length b) b))) (List.drop 1 (List.take (List.length b) b)))))))) ((List.drop 8 ((List.take (List.length (List.drop 1 (List.take (List.length b) b))) (List.drop 1 (List.take (List.length b) b)))))))))) _ w
         simp (disch:=first|decide|apply K;kernel_rfl) only [W,simprocAttr,sr 82 9 B82 [2,2,2,2,2,1,2,2,2,1,2,2,2,1,2,1,2,2] rfl rfl rfl,sliceV,bound,t_45,t_5,xk B82 [2,2,2,2,2,2,1,2,2,2,1,2,2,2,1,2,1,2,2] (.bk 2) rfl,xk B82 [2,2,2,2,2,2,2,1,2,2,2,1,2,2,2,1,2,1,2,2] .lp rfl,hh_82_10,hc_82_10,i,j,l,m,c,f,g,h,d,o,e,p,s]
         (try simp only [NM,EE] at q)
         rw [q _ (by simp (disch:=first|decide|apply K;kernel_rfl) only [W,simprocAttr,hh_82_10,hc_82_10,i,j,l,m,c,f,g,h,d,o,e,p,s])]
         clear q
         cases o24 with
         | o0 _ =>
          (try dsimp only at a)
          cases a
         | o1 x y =>
          (try dsimp only at a)
          have hJ:=f82_l1_j3_ok k x y _ a
          simp (disch:=first|decide|apply K;kernel_rfl) only [W,simprocAttr,R82_l1_l2.st,i,j,l,m,c,f,g,h,d,o,e,p,s]
          try simp only [NM,EE] at hJ
          exact hJ
        ·have hJ:=f82_l1_j4_ok k ((List.drop 8 ((List.take (List.length (List.drop 1 (List.take (List.length b) b))) (List.drop 1 (List.take (List.length b) b)))))) false _ a
         simp (disch:=first|decide|apply K;kernel_rfl) only [W,simprocAttr,xk B82 [3,2,2,2,2,1,2,2,2,1,2,2,2,1,2,1,2,2] .sk rfl,i,j,l,m,c,f,g,h,d,o,e,p]
         try simp only [NM,EE] at hJ
         exact hJ
     ·have hJ:=f82_l1_j4_ok k ((List.drop 8 ((List.take (List.length (List.drop 1 (List.take (List.length b) b))) (List.drop 1 (List.take (List.length b) b)))))) false _ a
      simp (disch:=first|decide|apply K;kernel_rfl) only [W,simprocAttr,xk B82 [2,2,2,2,1,2,2,2,1,2,2,2,1,2,1,2,2] (.cd 46) rfl,xk B82 [3,2,2,2,2,1,2,2,2,1,2,2,2,1,2,1,2,2] .sk rfl,i,j,l,m,c,f,g,h]
      try simp only [NM,EE] at hJ
      exact hJ
    ·have hJ:=f82_l1_j5_ok k (List.drop 1 (List.take (List.length b) b)) false _ a
     simp (disch:=first|decide|apply K;kernel_rfl) only [W,simprocAttr,xk B82 [3,2,1,2,2,2,1,2,2,2,1,2,1,2,2] .sk rfl,i,j,l,m,c,f]
     try simp only [NM,EE] at hJ
     exact hJ
  ·have hJ:=f82_l1_j5_ok k (List.drop 1 (List.take (List.length b) b)) false _ a
   simp (disch:=first|decide|apply K;kernel_rfl) only [W,simprocAttr,xk B82 [2,1,2,2,2,1,2,2,2,1,2,1,2,2] (.cd 31) rfl,xk B82 [3,2,1,2,2,2,1,2,2,2,1,2,1,2,2] .sk rfl,i,j,l,m]
   try simp only [NM,EE] at hJ
   exact hJ
 ·have hJ:=f82_l1_j6_ok k b z false _ a
  simp (disch:=first|decide|apply K;kernel_rfl) only [W,simprocAttr,xk B82 [3,2,1,2,2,2,1,2,1,2,2] .sk rfl,i,j]
  try simp only [NM,EE] at hJ
  exact hJ
noncomputable def f82_l1_b (k:Nat) (a:List Int):Option R82_l1 :=
 cond ((decide (((List.length a):Int)>0)))
  (f82_l1_j1 k a true)
  (some (.o3 a false))
theorem f82_l1_b_ok (k b r) (a:f82_l1_b k b=some r):EX 82 k (nav B82 [1,2,1,2,2]) (⟨188,[(0,jB b)],[]⟩:St)=some r.st:=by
 unfold f82_l1_b at a
 simp only [W,simprocAttr,xk B82 [1,2,1,2,2] .sq rfl,sr 82 2 B82 [1,1,2,1,2,2] rfl rfl rfl,t_45,xk B82 [2,1,1,2,1,2,2] (.cd 15) rfl]
 rcases cond_some a with ⟨c,a⟩ | ⟨c,a⟩
 ·have hJ:=f82_l1_j1_ok k b true _ a
  simp only [W,simprocAttr,xk B82 [2,2,1,1,2,1,2,2] .sk rfl,c]
  try simp only [NM,EE] at hJ
  exact hJ
 ·cases a
  simp only [W,simprocAttr,xk B82 [3,2,1,1,2,1,2,2] (.ex 0) rfl,R82_l1.st,c]
noncomputable def f82_l1 (k:Nat):Nat→(List Int)→Option R82_l1
 | 0,_=>none
 | n+1,b=>Option.bind (f82_l1_b k b) fun o =>
  match o with
  | .o0 y a=>f82_l1 k n y
  | .o1 y a=>f82_l1 k n y
  | .o2 y a=>f82_l1 k n y
  | .o3 y a=>some (.o3 y a)
theorem f82_l1_ok (k n:Nat):∀ (c:List Int) (r:R82_l1) (a:f82_l1 k n c=some r) (σ:St) (hσ:headR (hints.head 82 2) (hints.canon 82 2) σ=some (⟨188,[(0,jB c)],[]⟩:St)),LP 82 k (nav B82 [1,2,1,2,2]) n σ=some r.st:=by
 induction n with
 | zero=>intro c r a;cases a
 | succ n d =>
  intro c r a σ hσ
  rw [f82_l1] at a
  obtain ⟨o,h,a⟩:=Option.bind_eq_some_iff.1 a
  have hB:=f82_l1_b_ok k c o h
  unfold LP at d ⊢
  unfold EX at hB
  rw [loopK_succ,show firstReg (nav B82 [1,2,1,2,2])=2 from rfl,hσ,headK_some,hB]
  cases o with
  | o0 y b =>
   refine d y r a _ ?_
   simp only [W,simprocAttr,hh_82_2,hc_82_2]
  | o1 y b =>
   refine d y r a _ ?_
   simp only [W,simprocAttr,hh_82_2,hc_82_2]
  | o2 y b =>
   refine d y r a _ ?_
   simp only [W,simprocAttr,hh_82_2,hc_82_2]
  | o3 y b=>cases a;rfl
noncomputable def f82_j2 (k:Nat) (b:List Int) (a:Bool):Option R82 :=
 some (.o0 true)
theorem f82_j2_ok (k b a r) (c:f82_j2 k b a=some r):finK Tryd.prog Tryd.f82 0 (EX 82 k (nav B82 [2,2,2]) (⟨188,[(0,jB b),(15,jT a)],[]⟩:St))=some r.st:=by
 unfold f82_j2 at c
 cases c
 simp only [W,simprocAttr,sr 82 29 B82 [2,2,2] rfl rfl rfl,xk B82 [2,2,2,2] .rt rfl,fin82,R82.st]
noncomputable def f82_e (k:Nat) (a:List Int):Option R82 :=
 ifE ((0:Int)≤((List.length a):Int)) (
  ifE ((Int.toNat ((List.length a):Int))≤(List.length a)) (
   Option.bind (f82_l1 k k (List.take (Int.toNat ((List.length a):Int)) a)) fun o3 =>
    match o3 with
    | .o0 _ _ =>
     none
    | .o1 _ _ =>
     none
    | .o2 _ _ =>
     none
    | .o3 b c =>
     f82_j2 k b c))
theorem f82_e_ok (k c r) (a:f82_e k c=some r):finK Tryd.prog Tryd.f82 0 (EX 82 k (nav B82 []) (⟨188,[(0,jB c)],[]⟩:St))=some r.st:=by
 unfold f82_e at a
 obtain ⟨d,a⟩:=ifE_some.1 a
 obtain ⟨e,a⟩:=ifE_some.1 a
 obtain ⟨o3,f,a⟩:=bs a
 have b:=f82_l1_ok k k (List.take (Int.toNat ((List.length c):Int)) c) _ f
 simp only [W,simprocAttr,sr 82 0 B82 [] rfl rfl rfl,sr 82 1 B82 [2] rfl rfl rfl,t_45,sliceV,bound,t_5,xk B82 [2,2] .sq rfl,xk B82 [1,2,2] (.bk 0) rfl,xk B82 [2,1,2,2] .lp rfl,hh_82_2,hc_82_2,d,e]
 (try simp only [NM,EE] at b)
 rw [b _ (by simp only [W,simprocAttr,hh_82_2,hc_82_2,d,e])]
 clear b
 cases o3 with
 | o0 _ _ =>
  (try dsimp only at a)
  cases a
 | o1 _ _ =>
  (try dsimp only at a)
  cases a
 | o2 _ _ =>
  (try dsimp only at a)
  cases a
 | o3 g h =>
  (try dsimp only at a)
  have hJ:=f82_j2_ok k g h _ a
  simp only [W,simprocAttr,R82_l1.st,d,e]
  try simp only [NM,EE] at hJ
  exact hJ
noncomputable def f82 (k:Nat) (a:List Int):Option R82:=match k with | 0=>none | k+1=>f82_e k a
theorem f82_ok (k a r) (b:f82 k a=some r):CV k 82 [jB a] []=some r.st:=by
 cases k with
 | zero=>cases b
 | succ k =>
  unfold CV
  rw [ev_call (F:=Tryd.f82) (c:=(nav B82 [])) rfl Tryd.func82 rfl rfl rfl rfl]
  exact f82_e_ok k a r b
-- f75: f75 heliograph/cbor.may
inductive R75 where
 | o0 (y:Bool)
noncomputable def R75.st:R75→V×List O×List O
 | .o0 y=>(jT y,[],[])
inductive R75_l2 where
 | o0 (y:Bool)
 | o1 (y:Int) (a:List T113) (b c:Int)
 | o2 (y:Int) (a:List T113) (b c:Int) (d:Bool)
noncomputable def R75_l2.st:R75_l2→Out×St
 | .o0 y=>(.ret,(⟨50,[(4,jT y)],[]⟩:St))
 | .o1 y a b c=>(.norm,(⟨50,[(1,jI y),(38,.sl 4 (rowsOf encT113 a)),(39,jI b),(40,jI c)],[]⟩:St))
 | .o2 y a b c d=>(.exit 0,(⟨50,[(1,jI y),(38,.sl 4 (rowsOf encT113 a)),(39,jI b),(40,jI c),(41,jT d)],[]⟩:St))
abbrev Ff75_aiirrzi:=Int→Int→(List Int)→(List T113)→Int→Option R75
noncomputable def f75_l2_j2 (k:Nat) (Q:Ff75_aiirrzi) (d:Int) (a:List T113) (b c:Int) (e:Bool):Option R75_l2 :=
 some (.o1 d a b (IntKind.i64.wrap (c+(1:Int))))
def If75_aiirrzi (k:Nat) (Q:Ff75_aiirrzi):Prop:=∀ (h a:Int) (b:List Int) (c:List T113) (i:Int) (r:R75),Q h a b c i=some r→CV k 75 [.agg [jI h,jL a,jB b,.sl 4 (rowsOf encT113 c)],jI i] []=some r.st
theorem f75_l2_j2_ok (k Q) (H:If75_aiirrzi k Q) (j d e f g r) (l:f75_l2_j2 k Q j d e f g=some r):EX 75 k (nav B75 [2,2,2,1,2,2,1,2,2]) (⟨50,[(1,jI j),(38,.sl 4 (rowsOf encT113 d)),(39,jI e),(40,jI f),(48,jT g)],[]⟩:St)=some r.st:=by
 unfold f75_l2_j2 at l
 cases l
 simp only [W,simprocAttr,rg B75 [2,2,2,1,2,2,1,2,2] 8 false rfl,hr 75 8 rfl,R75_l2.st]
noncomputable def f75_l2_j1 (k:Nat) (Q:Ff75_aiirrzi) (e:Int) (b:List T113) (d a:Int) (f:Bool):Option R75_l2 :=
 ifE ((0:Int)≤a) (
  Option.bind (b[(Int.toNat a)]?) fun c =>
   Option.bind (Q c.Kind c.Num c.Bytes c.Items (IntKind.i64.wrap (e - (1:Int)))) fun o4 =>
    match o4 with
    | .o0 g =>
     cond ((!g))
      (some (.o0 false))
      (f75_l2_j2 k Q e b d a false))
theorem f75_l2_j1_ok (k Q) (H:If75_aiirrzi k Q) (j f g h i r) (a:f75_l2_j1 k Q j f g h i=some r):EX 75 k (nav B75 [2,2,1,2,2,1,2,2]) (⟨50,[(1,jI j),(38,.sl 4 (rowsOf encT113 f)),(39,jI g),(40,jI h),(41,jT i)],[]⟩:St)=some r.st:=by
 unfold f75_l2_j1 at a
 obtain ⟨m,a⟩:=ifE_some.1 a
 obtain ⟨l,o,a⟩:=bs a
 obtain ⟨o4,t,a⟩:=bs a
 have b:=H l.Kind l.Num l.Bytes l.Items (IntKind.i64.wrap (j - (1:Int))) _ t
 cases o4 with
 | o0 u =>
  (try dsimp only at a)
  (try simp only [NM,EE,R75.st] at b)
  simp only [W,simprocAttr,xk B75 [2,2,1,2,2,1,2,2] .sq rfl,xk B75 [1,2,2,1,2,2,1,2,2] (.bk 1) rfl,sr 75 5 B75 [2,1,2,2,1,2,2,1,2,2] rfl rfl rfl,indexAddrV,t_111,t_113,encT113_eq,sr 75 6 B75 [2,2,1,2,2,1,2,2,1,2,2] rfl rfl rfl,callStep,CL,gv,List.contains,xk B75 [2,2,2,1,2,2,1,2,2,1,2,2] (.cd 48) rfl,m,o,b]
  rcases cond_some a with ⟨p,a⟩ | ⟨p,a⟩
  ·cases a
   simp only [W,simprocAttr,sr 75 7 B75 [2,2,2,2,1,2,2,1,2,2,1,2,2] rfl rfl rfl,xk B75 [2,2,2,2,2,1,2,2,1,2,2,1,2,2] .rt rfl,R75_l2.st,m,o,b,p]
  ·have hJ:=f75_l2_j2_ok k Q H j f g h false _ a
   simp only [W,simprocAttr,xk B75 [3,2,2,2,1,2,2,1,2,2,1,2,2] .sk rfl,m,o,b,p]
   try simp only [NM,EE] at hJ
   exact hJ
noncomputable def f75_l2_b (k:Nat) (Q:Ff75_aiirrzi) (d:Int) (c:List T113) (a b:Int):Option R75_l2 :=
 cond ((decide (b<a)))
  (f75_l2_j1 k Q d c a b true)
  (some (.o2 d c a b false))
theorem f75_l2_b_ok (k Q) (H:If75_aiirrzi k Q) (h d e f r) (g:f75_l2_b k Q h d e f=some r):EX 75 k (nav B75 [1,2,2,1,2,2]) (⟨50,[(1,jI h),(38,.sl 4 (rowsOf encT113 d)),(39,jI e),(40,jI f)],[]⟩:St)=some r.st:=by
 unfold f75_l2_b at g
 simp only [W,simprocAttr,sr 75 4 B75 [1,2,2,1,2,2] rfl rfl rfl,xk B75 [2,1,2,2,1,2,2] .sq rfl,xk B75 [1,2,1,2,2,1,2,2] (.cd 41) rfl]
 rcases cond_some g with ⟨i,g⟩ | ⟨i,g⟩
 ·have hJ:=f75_l2_j1_ok k Q H h d e f true _ g
  simp only [W,simprocAttr,xk B75 [2,1,2,1,2,2,1,2,2] .sk rfl,i]
  try simp only [NM,EE] at hJ
  exact hJ
 ·cases g
  simp only [W,simprocAttr,xk B75 [3,1,2,1,2,2,1,2,2] (.ex 0) rfl,R75_l2.st,i]
noncomputable def f75_l2 (k:Nat) (Q:Ff75_aiirrzi):Nat→Int→(List T113)→Int→Int→Option R75_l2
 | 0,_,_,_,_=>none
 | n+1,h,d,e,f=>Option.bind (f75_l2_b k Q h d e f) fun o =>
  match o with
  | .o0 y=>some (.o0 y)
  | .o1 y a b c=>f75_l2 k Q n y a b c
  | .o2 y a b c g=>some (.o2 y a b c g)
theorem f75_l2_ok (k:Nat) (Q:Ff75_aiirrzi) (H:If75_aiirrzi k Q) (n:Nat):∀ (i:Int) (a:List T113) (b c:Int) (r:R75_l2) (d:f75_l2 k Q n i a b c=some r) (σ:St) (hσ:headR (hints.head 75 4) (hints.canon 75 4) σ=some (⟨50,[(1,jI i),(38,.sl 4 (rowsOf encT113 a)),(39,jI b),(40,jI c)],[]⟩:St)),LP 75 k (nav B75 [1,2,2,1,2,2]) n σ=some r.st:=by
 induction n with
 | zero=>intro i a b c r d;cases d
 | succ n s =>
  intro i a b c r d σ hσ
  rw [f75_l2] at d
  obtain ⟨o,h,d⟩:=Option.bind_eq_some_iff.1 d
  have hB:=f75_l2_b_ok k Q H i a b c o h
  unfold LP at s ⊢
  unfold EX at hB
  rw [loopK_succ,show firstReg (nav B75 [1,2,2,1,2,2])=4 from rfl,hσ,headK_some,hB]
  cases o with
  | o0 y=>cases d;rfl
  | o1 y j l m =>
   refine s y j l m r d _ ?_
   simp only [W,simprocAttr,hh_75_4,hc_75_4]
  | o2 y j l m t=>cases d;rfl
noncomputable def f75_j3 (k:Nat) (Q:Ff75_aiirrzi) (e:Int) (a:List T113) (b c:Int) (d:Bool):Option R75 :=
 some (.o0 true)
theorem f75_j3_ok (k Q) (H:If75_aiirrzi k Q) (j d e f g r) (l:f75_j3 k Q j d e f g=some r):finK Tryd.prog Tryd.f75 0 (EX 75 k (nav B75 [2,2,2]) (⟨50,[(1,jI j),(38,.sl 4 (rowsOf encT113 d)),(39,jI e),(40,jI f),(41,jT g)],[]⟩:St))=some r.st:=by
 unfold f75_j3 at l
 cases l
 simp only [W,simprocAttr,sr 75 9 B75 [2,2,2] rfl rfl rfl,xk B75 [2,2,2,2] .rt rfl,fin75,R75.st]
noncomputable def f75_j1 (k:Nat) (Q:Ff75_aiirrzi) (d:Int) (e:Bool) (m b:Int) (c:List Int) (a:List T113):Option R75 :=
 Option.bind (f75_l2 k Q k d a ((List.length a):Int) 0) fun o1 =>
  match o1 with
  | .o0 f =>
   some (.o0 f)
  | .o1 _ _ _ _ =>
   none
  | .o2 g h i j l =>
   f75_j3 k Q g h i j l
theorem f75_j1_ok (k Q) (H:If75_aiirrzi k Q) (j i o f g a r) (b:f75_j1 k Q j i o f g a=some r):finK Tryd.prog Tryd.f75 0 (EX 75 k (nav B75 [2,2]) (⟨50,[(1,jI j),(2,.ptr 2 0),(36,jT i)],[(2,.box 113 [jI o,jL f,jB g,.sl 4 (rowsOf encT113 a)])]⟩:St))=some r.st:=by
 unfold f75_j1 at b
 obtain ⟨o1,p,b⟩:=bs b
 have h:=f75_l2_ok k Q H k j a ((List.length a):Int) 0 _ p
 simp only [W,simprocAttr,xk B75 [2,2] .sq rfl,sr 75 3 B75 [1,2,2] rfl rfl rfl,fieldAddrV,t_113,t_111,xk B75 [2,1,2,2] (.bk 0) rfl,xk B75 [2,2,1,2,2] .lp rfl,hh_75_4,hc_75_4]
 (try simp only [NM,EE] at h)
 rw [h _ (by simp only [W,simprocAttr,hh_75_4,hc_75_4])]
 clear h
 cases o1 with
 | o0 w =>
  (try dsimp only at b)
  cases b
  simp only [W,simprocAttr,R75_l2.st,fin75,R75.st]
 | o1 _ _ _ _ =>
  (try dsimp only at b)
  cases b
 | o2 q s t u v =>
  (try dsimp only at b)
  have hJ:=f75_j3_ok k Q H q s t u v _ b
  simp only [W,simprocAttr,R75_l2.st]
  try simp only [NM,EE] at hJ
  exact hJ
noncomputable def f75_e (k:Nat) (Q:Ff75_aiirrzi) (d c:Int) (a:List Int) (b:List T113) (e:Int):Option R75 :=
 cond ((e==0))
  (some (.o0 false))
  (
   Option.bind (f81 k d c a b) fun o2 =>
    match o2 with
    | .o0 g =>
     cond ((!g))
      (some (.o0 false))
      (
       cond ((decide (((List.length a):Int)>512)))
        (some (.o0 false))
        (
         cond ((decide (((List.length b):Int)>64)))
          (some (.o0 false))
          (
           cond ((d==3))
            (
             Option.bind (f82 k a) fun o10 =>
              match o10 with
              | .o0 f =>
               cond ((!f))
                (some (.o0 false))
                (f75_j1 k Q e false d c a b))
            (f75_j1 k Q e false d c a b)))))
theorem f75_e_ok (k Q) (H:If75_aiirrzi k Q) (j c b d l r) (a:f75_e k Q j c b d l=some r):finK Tryd.prog Tryd.f75 0 (EX 75 k (nav B75 []) (⟨50,[(0,.agg [jI j,jL c,jB b,.sl 4 (rowsOf encT113 d)]),(1,jI l)],[]⟩:St))=some r.st:=by
 unfold f75_e at a
 simp only [W,simprocAttr,sr 75 0 B75 [] rfl rfl rfl,xk B75 [2] .sq rfl,sr 75 1 B75 [1,2] rfl rfl rfl]
 rcases cond_some a with ⟨g,a⟩ | ⟨g,a⟩
 ·cases a
  simp only [W,simprocAttr,xk B75 [2,1,2] (.cd 36) rfl,sr 75 2 B75 [2,2,1,2] rfl rfl rfl,xk B75 [2,2,2,1,2] .rt rfl,fin75,R75.st,g]
 ·obtain ⟨o2,s,a⟩:=bs a
  have e:=f81_ok k j c b d _ s
  cases o2 with
  | o0 u =>
   (try dsimp only at a)
   (try simp only [NM,EE,R81.st] at e)
   simp only [W,simprocAttr,t_113,callStep,CL,gv,List.contains,g,e]
   rcases cond_some a with ⟨h,a⟩ | ⟨h,a⟩
   ·cases a
    simp only [W,simprocAttr,xk B75 [2,1,2] (.cd 36) rfl,sr 75 2 B75 [2,2,1,2] rfl rfl rfl,xk B75 [2,2,2,1,2] .rt rfl,fin75,R75.st,g,e,h]
   ·simp only [W,simprocAttr,fieldAddrV,t_113,t_45,g,e,h]
    rcases cond_some a with ⟨i,a⟩ | ⟨i,a⟩
    ·cases a
     simp only [W,simprocAttr,xk B75 [2,1,2] (.cd 36) rfl,sr 75 2 B75 [2,2,1,2] rfl rfl rfl,xk B75 [2,2,2,1,2] .rt rfl,fin75,R75.st,g,e,h,i]
    ·simp only [W,simprocAttr,fieldAddrV,t_113,t_111,g,e,h,i]
     rcases cond_some a with ⟨m,a⟩ | ⟨m,a⟩
     ·cases a
      simp only [W,simprocAttr,xk B75 [2,1,2] (.cd 36) rfl,sr 75 2 B75 [2,2,1,2] rfl rfl rfl,xk B75 [2,2,2,1,2] .rt rfl,fin75,R75.st,g,e,h,i,m]
     ·simp only [W,simprocAttr,fieldAddrV,t_113,t_3,g,e,h,i,m]
      rcases cond_some a with ⟨p,a⟩ | ⟨p,a⟩
      ·obtain ⟨o10,q,a⟩:=bs a
       have f:=f82_ok k b _ q
       cases o10 with
       | o0 t =>
        (try dsimp only at a)
        (try simp only [NM,EE,R82.st] at f)
        simp only [W,simprocAttr,fieldAddrV,t_113,t_45,callStep,CL,gv,List.contains,xk B75 [2,1,2] (.cd 36) rfl,g,e,h,i,m,p,f]
        rcases cond_some a with ⟨o,a⟩ | ⟨o,a⟩
        ·cases a
         simp only [W,simprocAttr,sr 75 2 B75 [2,2,1,2] rfl rfl rfl,xk B75 [2,2,2,1,2] .rt rfl,fin75,R75.st,g,e,h,i,m,p,f,o]
        ·have hJ:=f75_j1_ok k Q H l false j c b d _ a
         simp only [W,simprocAttr,xk B75 [3,2,1,2] .sk rfl,g,e,h,i,m,p,f,o]
         try simp only [NM,EE] at hJ
         exact hJ
      ·have hJ:=f75_j1_ok k Q H l false j c b d _ a
       simp only [W,simprocAttr,xk B75 [2,1,2] (.cd 36) rfl,xk B75 [3,2,1,2] .sk rfl,g,e,h,i,m,p]
       try simp only [NM,EE] at hJ
       exact hJ
noncomputable def f75:Nat→Int→Int→(List Int)→(List T113)→Int→Option R75
 | 0,_,_,_,_,_=>none
 | k+1,d,a,b,c,e=>f75_e k (f75 k) d a b c e
theorem f75_all (k:Nat):(∀ (e a:Int) (b:List Int) (d:List T113) (f:Int) (r:R75),f75 k e a b d f=some r→CV k 75 [.agg [jI e,jL a,jB b,.sl 4 (rowsOf encT113 d)],jI f] []=some r.st):=by
 induction k with
 | zero=>exact (by intro e a b d f r g;rw [f75] at g;cases g)
 | succ k h =>
  have ih_f75_aiirrzi:=h
  exact (by intro e a b d f r g;rw [f75] at g;unfold CV;rw [ev_call (F:=Tryd.f75) (c:=(nav B75 [])) rfl Tryd.func75 rfl rfl rfl rfl];exact f75_e_ok k (f75 k) ih_f75_aiirrzi e a b d f r g)
theorem f75_ok (k d a b c e r) (f:f75 k d a b c e=some r):CV k 75 [.agg [jI d,jL a,jB b,.sl 4 (rowsOf encT113 c)],jI e] []=some r.st:=f75_all k d a b c e r f
-- f68: f68 heliograph/cbor.Check
inductive R68 where
 | o0 (y:Int)
noncomputable def R68.st:R68→V×List O×List O
 | .o0 y=>((jI y),[],[])
noncomputable def f68_j1 (k:Nat) (a:Bool):Option R68 :=
 some (.o0 0)
theorem f68_j1_ok (k a r) (b:f68_j1 k a=some r):finK Tryd.prog Tryd.f68 0 (EX 68 k (nav B68 [2,2]) (⟨6,[(5,jT a)],[]⟩:St))=some r.st:=by
 unfold f68_j1 at b
 cases b
 simp only [W,simprocAttr,sr 68 3 B68 [2,2] rfl rfl rfl,xk B68 [2,2,2] .rt rfl,fin68,R68.st]
noncomputable def f68_e (k:Nat) (d a:Int) (b:List Int) (c:List T113):Option R68 :=
 Option.bind (f75 k d a b c 4) fun o1 =>
  match o1 with
  | .o0 e =>
   cond ((!e))
    (some (.o0 170))
    (f68_j1 k false)
theorem f68_e_ok (k f a b c r) (d:f68_e k f a b c=some r):finK Tryd.prog Tryd.f68 0 (EX 68 k (nav B68 []) (⟨6,[(0,.agg [jI f,jL a,jB b,.sl 4 (rowsOf encT113 c)])],[]⟩:St))=some r.st:=by
 unfold f68_e at d
 obtain ⟨o1,h,d⟩:=bs d
 have e:=f75_ok k f a b c 4 _ h
 cases o1 with
 | o0 i =>
  (try dsimp only at d)
  (try simp only [NM,EE,R75.st] at e)
  simp only [W,simprocAttr,sr 68 0 B68 [] rfl rfl rfl,xk B68 [2] .sq rfl,sr 68 1 B68 [1,2] rfl rfl rfl,t_113,callStep,CL,gv,List.contains,xk B68 [2,1,2] (.cd 5) rfl,e]
  rcases cond_some d with ⟨g,d⟩ | ⟨g,d⟩
  ·cases d
   simp only [W,simprocAttr,sr 68 2 B68 [2,2,1,2] rfl rfl rfl,xk B68 [2,2,2,1,2] .rt rfl,fin68,R68.st,e,g]
  ·have hJ:=f68_j1_ok k false _ d
   simp only [W,simprocAttr,xk B68 [3,2,1,2] .sk rfl,e,g]
   try simp only [NM,EE] at hJ
   exact hJ
noncomputable def f68 (k:Nat) (d a:Int) (b:List Int) (c:List T113):Option R68:=match k with | 0=>none | k+1=>f68_e k d a b c
theorem f68_ok (k e a b d r) (f:f68 k e a b d=some r):CV k 68 [.agg [jI e,jL a,jB b,.sl 4 (rowsOf encT113 d)]] []=some r.st:=by
 cases k with
 | zero=>cases f
 | succ k =>
  unfold CV
  rw [ev_call (F:=Tryd.f68) (c:=(nav B68 [])) rfl Tryd.func68 rfl rfl rfl rfl]
  exact f68_e_ok k e a b d r f
-- f76: f76 heliograph/cbor.types
inductive R76 where
 | o0 (y:Int)
noncomputable def R76.st:R76→V×List O×List O
 | .o0 y=>(.p (.int .u8 y),[],[])
noncomputable def f76_e (k:Nat) (a:Int):Option R76 :=
 ifE ((0:Int)≤a) (
  ifE (a<5) (
   Option.bind (([0,0,2,3,4]:List Int)[(Int.toNat a)]?) fun b =>
    some (.o0 b)))
theorem f76_e_ok (k b r) (a:f76_e k b=some r):finK Tryd.prog Tryd.f76 0 (EX 76 k (nav B76 []) (⟨6,[(0,jI b)],[]⟩:St))=some r.st:=by
 unfold f76_e at a
 have c:[.p (.int .u8 0),.p (.int .u8 0),.p (.int .u8 2),.p (.int .u8 3),.p (.int .u8 4)]=arrC (cI .u8) ([0,0,2,3,4]:List Int):=rfl
 have d:overlay (arrC (cI .u8) ([0,0,2,3,4]:List Int)) 0 [.p (.int .u8 0)]=arrC (cI .u8) ([0,0,2,3,4]:List Int):=rfl
 have e:overlay (arrC (cI .u8) ([0,0,2,3,4]:List Int)) 1 [.p (.int .u8 0)]=arrC (cI .u8) ([0,0,2,3,4]:List Int):=rfl
 obtain ⟨f,a⟩:=ifE_some.1 a
 obtain ⟨g,a⟩:=ifE_some.1 a
 obtain ⟨i,h,a⟩:=bs a
 cases a
 simp only [W,simprocAttr,sr 76 0 B76 [] rfl rfl rfl,sr 76 1 B76 [2] rfl rfl rfl,bl_136,t_136,arrIdxV,t_5,xk B76 [2,2] .rt rfl,fin76,R76.st,c,d,e,f,g,h]
noncomputable def f76 (k:Nat) (a:Int):Option R76:=match k with | 0=>none | k+1=>f76_e k a
theorem f76_ok (k a r) (b:f76 k a=some r):CV k 76 [jI a] []=some r.st:=by
 cases k with
 | zero=>cases b
 | succ k =>
  unfold CV
  rw [ev_call (F:=Tryd.f76) (c:=(nav B76 [])) rfl Tryd.func76 rfl rfl rfl rfl]
  exact f76_e_ok k a r b
end Go.Proofs.YtiompmmbjpjjeaaDoorV