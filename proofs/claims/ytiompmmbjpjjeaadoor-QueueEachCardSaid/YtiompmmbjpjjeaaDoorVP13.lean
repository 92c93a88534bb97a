/- What the program's functions answer: plain functions,and that the interpreter answers what they do. Written by a program of this session,out of the translation. -/
import Derived.Test.YtiompmmbjpjjeaaDoorVP12
namespace Go.Proofs.YtiompmmbjpjjeaaDoorV
open Go
set_option linter.unusedVariables false
set_option linter.unusedSimpArgs false
set_option maxRecDepth 8000
set_option maxHeartbeats 4000000
-- f46: f46 heliograph/queue.has[heliograph/api.Key]
inductive R46 where
 | o0 (y:Bool)
noncomputable def R46.st:R46→V×List O×List O
 | .o0 y=>(jT y,[],[])
noncomputable def f46_e (k:Nat) (c:List T44) (d a b:Int):Option R46 :=
 Option.bind (f64 k c d a b) fun o1 =>
  match o1 with
  | .o0 e =>
   some (.o0 (decide (e≥0)))
theorem f46_e_ok (k e f a b r) (c:f46_e k e f a b=some r):finK Tryd.prog Tryd.f46 0 (EX 46 k (nav B46 []) (⟨9,[(0,.sl 3 (rowsOf encT44 e)),(1,.agg [jI f,jU a,jI b])],[]⟩:St))=some r.st:=by
 unfold f46_e at c
 obtain ⟨o1,g,c⟩:=bs c
 have d:=f64_ok k e f a b _ g
 cases o1 with
 | o0 h =>
  (try dsimp only at c)
  (try simp only [NM,EE,R64.st] at d)
  cases c
  simp only [W,simprocAttr,sr 46 0 B46 [] rfl rfl rfl,sr 46 1 B46 [2] rfl rfl rfl,t_44,callStep,CL,gv,List.contains,xk B46 [2,2] .rt rfl,fin46,R46.st,d]
noncomputable def f46 (k:Nat) (c:List T44) (d a b:Int):Option R46:=match k with | 0=>none | k+1=>f46_e k c d a b
theorem f46_ok (k d e a b r) (f:f46 k d e a b=some r):CV k 46 [.sl 3 (rowsOf encT44 d),.agg [jI e,jU a,jI b]] []=some r.st:=by
 cases k with
 | zero=>cases f
 | succ k =>
  unfold CV
  rw [ev_call (F:=Tryd.f46) (c:=(nav B46 [])) rfl Tryd.func46 rfl rfl rfl rfl]
  exact f46_e_ok k d e a b r f
-- f35: f35 heliograph/plan.Route$1
inductive R35 where
 | o0 (y:Bool)
noncomputable def R35.st:R35→V×List O×List O
 | .o0 y=>(jT y,[],[])
noncomputable def f35_e (k:Nat) (a:Int):Option R35 :=
 some (.o0 (decide (a<0)))
theorem f35_e_ok (k a r) (b:f35_e k a=some r):finK Tryd.prog Tryd.f35 0 (EX 35 k (nav B35 []) (⟨5,[(0,jI a)],[]⟩:St))=some r.st:=by
 unfold f35_e at b
 cases b
 simp only [W,simprocAttr,sr 35 0 B35 [] rfl rfl rfl,sr 35 1 B35 [2] rfl rfl rfl,xk B35 [2,2] .rt rfl,fin35,R35.st]
noncomputable def f35 (k:Nat) (a:Int):Option R35:=match k with | 0=>none | k+1=>f35_e k a
theorem f35_ok (k a r) (b:f35 k a=some r):CV k 35 [jI a] []=some r.st:=by
 cases k with
 | zero=>cases b
 | succ k =>
  unfold CV
  rw [ev_call (F:=Tryd.f35) (c:=(nav B35 [])) rfl Tryd.func35 rfl rfl rfl rfl]
  exact f35_e_ok k a r b
-- f54a: f54 slices.IndexFunc[[]int,int]
inductive R54a where
 | o0 (y:Int)
noncomputable def R54a.st:R54a→V×List O×List O
 | .o0 y=>((jI y),[],[])
inductive R54a_l1 where
 | o0 (y:Int)
 | o1 (y:List Int) (a b:Int)
 | o2 (y:List Int) (a b:Int) (c:Bool)
noncomputable def R54a_l1.st:R54a_l1→Out×St
 | .o0 y=>(.ret,(⟨19,[(4,jI y)],[]⟩:St))
 | .o1 y a b=>(.norm,(⟨19,[(0,.sl 1 (rowsOf (encI .i64) y)),(1,V.p (Value.func (Fn.func 35) #[] #[])),(7,jI a),(8,jI b)],[]⟩:St))
 | .o2 y a b c=>(.exit 0,(⟨19,[(0,.sl 1 (rowsOf (encI .i64) y)),(1,V.p (Value.func (Fn.func 35) #[] #[])),(7,jI a),(8,jI b),(9,jT c)],[]⟩:St))
noncomputable def f54a_l1_j2 (k:Nat) (a:List Int) (e b c:Int) (d:Bool):Option R54a_l1 :=
 some (.o1 a b (IntKind.i64.wrap (c+(1:Int))))
theorem f54a_l1_j2_ok (k b c d e a r) (f:f54a_l1_j2 k b c d e a=some r):EX 54 k (nav B54 [2,2,2,1,2,2,1,2]) (⟨19,[(0,.sl 1 (rowsOf (encI .i64) b)),(1,V.p (Value.func (Fn.func 35) #[] #[])),(5,jI c),(7,jI d),(8,jI e),(16,jT a)],[]⟩:St)=some r.st:=by
 unfold f54a_l1_j2 at f
 cases f
 simp only [W,simprocAttr,rg B54 [2,2,2,1,2,2,1,2] 6 false rfl,hr 54 6 rfl,R54a_l1.st]
noncomputable def f54a_l1_j1 (k:Nat) (b:List Int) (c a:Int) (f:Bool):Option R54a_l1 :=
 ifE ((0:Int)≤a) (
  Option.bind (b[(Int.toNat a)]?) fun d =>
   Option.bind (f35 k d) fun o4 =>
    match o4 with
    | .o0 e =>
     cond (e)
      (some (.o0 a))
      (f54a_l1_j2 k b a c a false))
theorem f54a_l1_j1_ok (k d e c i r) (a:f54a_l1_j1 k d e c i=some r):EX 54 k (nav B54 [2,2,1,2,2,1,2]) (⟨19,[(0,.sl 1 (rowsOf (encI .i64) d)),(1,V.p (Value.func (Fn.func 35) #[] #[])),(7,jI e),(8,jI c),(9,jT i)],[]⟩:St)=some r.st:=by
 unfold f54a_l1_j1 at a
 obtain ⟨f,a⟩:=ifE_some.1 a
 obtain ⟨j,g,a⟩:=bs a
 obtain ⟨o4,l,a⟩:=bs a
 have b:=f35_ok k j _ l
 cases o4 with
 | o0 m =>
  (try dsimp only at a)
  (try simp only [NM,EE,R35.st] at b)
  simp only [W,simprocAttr,xk B54 [2,2,1,2,2,1,2] .sq rfl,xk B54 [1,2,2,1,2,2,1,2] (.bk 1) rfl,sr 54 3 B54 [2,1,2,2,1,2,2,1,2] rfl rfl rfl,sr 54 4 B54 [2,2,1,2,2,1,2,2,1,2] rfl rfl rfl,indexAddrV,t_25,t_3,encI_eq,callStep,CL,gv,List.contains,xk B54 [2,2,2,1,2,2,1,2,2,1,2] (.cd 16) rfl,f,g,b]
  rcases cond_some a with ⟨h,a⟩ | ⟨h,a⟩
  ·cases a
   simp only [W,simprocAttr,sr 54 5 B54 [2,2,2,2,1,2,2,1,2,2,1,2] rfl rfl rfl,xk B54 [2,2,2,2,2,1,2,2,1,2,2,1,2] .rt rfl,R54a_l1.st,f,g,b,h]
  ·have hJ:=f54a_l1_j2_ok k d c e c false _ a
   simp only [W,simprocAttr,xk B54 [3,2,2,2,1,2,2,1,2,2,1,2] .sk rfl,f,g,b,h]
   try simp only [NM,EE] at hJ
   exact hJ
noncomputable def f54a_l1_b (k:Nat) (c:List Int) (a b:Int):Option R54a_l1 :=
 cond ((decide (b<a)))
  (f54a_l1_j1 k c a b true)
  (some (.o2 c a b false))
theorem f54a_l1_b_ok (k b c d r) (a:f54a_l1_b k b c d=some r):EX 54 k (nav B54 [1,2,2,1,2]) (⟨19,[(0,.sl 1 (rowsOf (encI .i64) b)),(1,V.p (Value.func (Fn.func 35) #[] #[])),(7,jI c),(8,jI d)],[]⟩:St)=some r.st:=by
 unfold f54a_l1_b at a
 simp only [W,simprocAttr,sr 54 2 B54 [1,2,2,1,2] rfl rfl rfl,xk B54 [2,1,2,2,1,2] .sq rfl,xk B54 [1,2,1,2,2,1,2] (.cd 9) rfl]
 rcases cond_some a with ⟨e,a⟩ | ⟨e,a⟩
 ·have hJ:=f54a_l1_j1_ok k b c d true _ a
  simp only [W,simprocAttr,xk B54 [2,1,2,1,2,2,1,2] .sk rfl,e]
  try simp only [NM,EE] at hJ
  exact hJ
 ·cases a
  simp only [W,simprocAttr,xk B54 [3,1,2,1,2,2,1,2] (.ex 0) rfl,R54a_l1.st,e]
noncomputable def f54a_l1 (k:Nat):Nat→(List Int)→Int→Int→Option R54a_l1
 | 0,_,_,_=>none
 | n+1,d,e,f=>Option.bind (f54a_l1_b k d e f) fun o =>
  match o with
  | .o0 y=>some (.o0 y)
  | .o1 y a b=>f54a_l1 k n y a b
  | .o2 y a b c=>some (.o2 y a b c)
theorem f54a_l1_ok (k n:Nat):∀ (b:List Int) (c d:Int) (r:R54a_l1) (a:f54a_l1 k n b c d=some r) (σ:St) (hσ:headR (hints.head 54 2) (hints.canon 54 2) σ=some (⟨19,[(0,.sl 1 (rowsOf (encI .i64) b)),(1,V.p (Value.func (Fn.func 35) #[] #[])),(7,jI c),(8,jI d)],[]⟩:St)),LP 54 k (nav B54 [1,2,2,1,2]) n σ=some r.st:=by
 induction n with
 | zero=>intro b c d r a;cases a
 | succ n g =>
  intro b c d r a σ hσ
  rw [f54a_l1] at a
  obtain ⟨o,h,a⟩:=Option.bind_eq_some_iff.1 a
  have hB:=f54a_l1_b_ok k b c d o h
  unfold LP at g ⊢
  unfold EX at hB
  rw [loopK_succ,show firstReg (nav B54 [1,2,2,1,2])=2 from rfl,hσ,headK_some,hB]
  cases o with
  | o0 y=>cases a;rfl
  | o1 y e f =>
   refine g y e f r a _ ?_
   simp only [W,simprocAttr,hh_54_2,hc_54_2]
  | o2 y e f i=>cases a;rfl
noncomputable def f54a_j2 (k:Nat) (a:List Int) (b c:Int) (d:Bool):Option R54a :=
 some (.o0 (-1))
theorem f54a_j2_ok (k a b c d r) (e:f54a_j2 k a b c d=some r):finK Tryd.prog Tryd.f54 0 (EX 54 k (nav B54 [2,2]) (⟨19,[(0,.sl 1 (rowsOf (encI .i64) a)),(1,V.p (Value.func (Fn.func 35) #[] #[])),(7,jI b),(8,jI c),(9,jT d)],[]⟩:St))=some r.st:=by
 unfold f54a_j2 at e
 cases e
 simp only [W,simprocAttr,sr 54 7 B54 [2,2] rfl rfl rfl,xk B54 [2,2,2] .rt rfl,fin54,R54a.st]
noncomputable def f54a_e (k:Nat) (a:List Int):Option R54a :=
 Option.bind (f54a_l1 k k a ((List.length a):Int) 0) fun o1 =>
  match o1 with
  | .o0 b =>
   some (.o0 b)
  | .o1 _ _ _ =>
   none
  | .o2 c d e f =>
   f54a_j2 k c d e f
theorem f54a_e_ok (k c r) (a:f54a_e k c=some r):finK Tryd.prog Tryd.f54 0 (EX 54 k (nav B54 []) (⟨19,[(0,.sl 1 (rowsOf (encI .i64) c)),(1,V.p (Value.func (Fn.func 35) #[] #[]))],[]⟩:St))=some r.st:=by
 unfold f54a_e at a
 obtain ⟨o1,d,a⟩:=bs a
 have b:=f54a_l1_ok k k c ((List.length c):Int) 0 _ d
 simp only [W,simprocAttr,sr 54 0 B54 [] rfl rfl rfl,xk B54 [2] .sq rfl,sr 54 1 B54 [1,2] rfl rfl rfl,t_25,xk B54 [2,1,2] (.bk 0) rfl,xk B54 [2,2,1,2] .lp rfl,hh_54_2,hc_54_2]
 (try simp only [NM,EE] at b)
 rw [b _ (by simp only [W,simprocAttr,hh_54_2,hc_54_2])]
 clear b
 cases o1 with
 | o0 i =>
  (try dsimp only at a)
  cases a
  simp only [W,simprocAttr,R54a_l1.st,fin54,R54a.st]
 | o1 _ _ _ =>
  (try dsimp only at a)
  cases a
 | o2 e f g h =>
  (try dsimp only at a)
  have hJ:=f54a_j2_ok k e f g h _ a
  simp only [W,simprocAttr,R54a_l1.st]
  try simp only [NM,EE] at hJ
  exact hJ
noncomputable def f54a (k:Nat) (a:List Int):Option R54a:=match k with | 0=>none | k+1=>f54a_e k a
theorem f54a_ok (k a r) (b:f54a k a=some r):CV k 54 [.sl 1 (rowsOf (encI .i64) a),V.p (Value.func (Fn.func 35) #[] #[])] []=some r.st:=by
 cases k with
 | zero=>cases b
 | succ k =>
  unfold CV
  rw [ev_call (F:=Tryd.f54) (c:=(nav B54 [])) rfl Tryd.func54 rfl rfl rfl rfl]
  exact f54a_e_ok k a r b
-- f34a: f34 slices.ContainsFunc[[]int,int]
inductive R34a where
 | o0 (y:Bool)
noncomputable def R34a.st:R34a→V×List O×List O
 | .o0 y=>(jT y,[],[])
noncomputable def f34a_e (k:Nat) (a:List Int):Option R34a :=
 Option.bind (f54a k a) fun o1 =>
  match o1 with
  | .o0 b =>
   some (.o0 (decide (b≥0)))
theorem f34a_e_ok (k c r) (a:f34a_e k c=some r):finK Tryd.prog Tryd.f34 0 (EX 34 k (nav B34 []) (⟨9,[(0,.sl 1 (rowsOf (encI .i64) c)),(1,V.p (Value.func (Fn.func 35) #[] #[]))],[]⟩:St))=some r.st:=by
 unfold f34a_e at a
 obtain ⟨o1,d,a⟩:=bs a
 have b:=f54a_ok k c _ d
 cases o1 with
 | o0 e =>
  (try dsimp only at a)
  (try simp only [NM,EE,R54a.st] at b)
  cases a
  simp only [W,simprocAttr,sr 34 0 B34 [] rfl rfl rfl,sr 34 1 B34 [2] rfl rfl rfl,callStep,CL,gv,List.contains,xk B34 [2,2] .rt rfl,fin34,R34a.st,b]
noncomputable def f34a (k:Nat) (a:List Int):Option R34a:=match k with | 0=>none | k+1=>f34a_e k a
theorem f34a_ok (k a r) (b:f34a k a=some r):CV k 34 [.sl 1 (rowsOf (encI .i64) a),V.p (Value.func (Fn.func 35) #[] #[])] []=some r.st:=by
 cases k with
 | zero=>cases b
 | succ k =>
  unfold CV
  rw [ev_call (F:=Tryd.f34) (c:=(nav B34 [])) rfl Tryd.func34 rfl rfl rfl rfl]
  exact f34a_e_ok k a r b
-- f37: f37 (heliograph/plan.search).from
inductive R37 where
 | o0 (y:Int) (a:List T54) (b:List Int) (c d e:Int)
noncomputable def R37.st:R37→V×List O×List O
 | .o0 y a b c d e=>(V.fn 55 [.ptr 2000000 0,.ptr 2000001 0,.ptr 2000002 0],[],[.box 85 [jI y,.sl 6 (rowsOf encT54 a),.sl 1 (rowsOf (encI .i64) b),jI c],.box 3 [jI d],.box 3 [jI e]])
noncomputable def f37_e (k:Nat) (d:Int) (a:List T54) (b:List Int) (c e f:Int):Option R37 :=
 some (.o0 d a b c e f)
theorem f37_e_ok (k d a b c e f r) (g:f37_e k d a b c e f=some r):finK Tryd.prog Tryd.f37 0 (EX 37 k (nav B37 []) (⟨8,[(0,.agg [jI d,.sl 6 (rowsOf encT54 a),.sl 1 (rowsOf (encI .i64) b),jI c]),(1,jI e),(2,jI f)],[]⟩:St))=some r.st:=by
 unfold f37_e at g
 cases g
 simp only [W,simprocAttr,sr 37 0 B37 [] rfl rfl rfl,sr 37 1 B37 [2] rfl rfl rfl,xk B37 [2,2] .rt rfl,fin37,R37.st]
noncomputable def f37 (k:Nat) (d:Int) (a:List T54) (b:List Int) (c e f:Int):Option R37:=match k with | 0=>none | k+1=>f37_e k d a b c e f
theorem f37_ok (k e a b d f g r) (h:f37 k e a b d f g=some r):CV k 37 [.agg [jI e,.sl 6 (rowsOf encT54 a),.sl 1 (rowsOf (encI .i64) b),jI d],jI f,jI g] []=some r.st:=by
 cases k with
 | zero=>cases h
 | succ k =>
  unfold CV
  rw [ev_call (F:=Tryd.f37) (c:=(nav B37 [])) rfl Tryd.func37 rfl rfl rfl rfl]
  exact f37_e_ok k e a b d f g r h
-- f999999999a: f38 (heliograph/plan.search).arrives
inductive R999999999a where
 | o0 (y:Int) (a:List T54) (b:List Int) (c:Int) (d:List Int) (e:List Bool)
noncomputable def R999999999a.st:R999999999a→V×List O×List O
 | .o0 y a b c d e=>(jT true,[O.lp 38 99 [(4,.ptr 1000001 0),(10,.ptr 1000002 0),(11,.ptr 1000003 0)] [68,69] (nav B38 [3,2,2,2,2,2,2,2,1,2,1,2,2,2,2,1,2]) (nav B38 [4,2,2,2,2,2,2,2,1,2,1,2,2,2,2,1,2]) 0 .norm,.box 85 [jI y,.sl 6 (rowsOf encT54 a),.sl 1 (rowsOf (encI .i64) b),jI c],.box 107 (arrC (cI .i64) d),.box 108 (arrC cB e)],[])
noncomputable def f999999999a_e (k:Nat) (j g h:Int) (b:List T54) (c:List Int) (d:Int) (e:List Int) (f:List Bool):Option R999999999a :=
 ifE ((0:Int)≤j) (
  Option.bind (b[(Int.toNat j)]?) fun a =>
   ifE ((0:Int)≤a.To) (
    ifE (a.To<7) (
     Option.bind (List.head? (List.drop (Int.toNat a.To) f)) fun l =>
      cond ((!l))
       (
        ifE (((Int.toNat a.To)+1)≤(List.length e)) (
         ifE (((Int.toNat a.To)+1)≤(List.length f)) (
          some (.o0 h b c d (((List.take (Int.toNat a.To) e)++(g::(List.drop ((Int.toNat a.To)+1) e)))) (((List.take (Int.toNat a.To) f)++(true::(List.drop ((Int.toNat a.To)+1) f))))))))
       (
        Option.bind (List.head? (List.drop (Int.toNat a.To) e)) fun i =>
         cond ((decide (g<i)))
          (
           ifE (((Int.toNat a.To)+1)≤(List.length e)) (
            ifE (((Int.toNat a.To)+1)≤(List.length f)) (
             some (.o0 h b c d (((List.take (Int.toNat a.To) e)++(g::(List.drop ((Int.toNat a.To)+1) e)))) (((List.take (Int.toNat a.To) f)++(true::(List.drop ((Int.toNat a.To)+1) f))))))))
          (some (.o0 h b c d e f))))))
theorem f999999999a_e_ok (k s t u b c d v w r) (a:f999999999a_e k s t u b c d v w=some r):roundB 1000000 4 (roundA Tryd.prog (callV Tryd.prog ctx hints k) hints 38 k 1000000 (nav B38 [4,2,2,2,2,2,2,2,1,2,1,2,2,2,2,1,2]) (EX 38 k (nav B38 [3,2,2,2,2,2,2,2,1,2,1,2,2,2,2,1,2]) (⟨99,[(69,jI t),(68,jI s),(4,.ptr 1000001 0),(10,.ptr 1000002 0),(11,.ptr 1000003 0)],[(1000000,O.lp 38 99 [(4,.ptr 1000001 0),(10,.ptr 1000002 0),(11,.ptr 1000003 0)] [68,69] (nav B38 [3,2,2,2,2,2,2,2,1,2,1,2,2,2,2,1,2]) (nav B38 [4,2,2,2,2,2,2,2,1,2,1,2,2,2,2,1,2]) 0 .norm),(1000001,.box 85 [jI u,.sl 6 (rowsOf encT54 b),.sl 1 (rowsOf (encI .i64) c),jI d]),(1000002,.box 107 (arrC (cI .i64) v)),(1000003,.box 108 (arrC cB w))]⟩:St)))=some r.st:=by
 unfold f999999999a_e at a
 obtain ⟨g,a⟩:=ifE_some.1 a
 obtain ⟨z,h,a⟩:=bs a
 obtain ⟨i,a⟩:=ifE_some.1 a
 obtain ⟨j,a⟩:=ifE_some.1 a
 obtain ⟨n,l,a⟩:=bs a
 simp only [W,simprocAttr,sr 38 13 B38 [3,2,2,2,2,2,2,2,1,2,1,2,2,2,2,1,2] rfl rfl rfl,rg B38 [2,3,2,2,2,2,2,2,2,1,2,1,2,2,2,2,1,2] 14 false rfl,hr 38 14 rfl,xk B38 [4,2,2,2,2,2,2,2,1,2,1,2,2,2,2,1,2] (.bk 5) rfl,sr 38 15 B38 [2,4,2,2,2,2,2,2,2,1,2,1,2,2,2,2,1,2] rfl rfl rfl,fieldAddrV,t_85,t_24,t_22,indexAddrV,t_54,encT54_eq,t_3,sr 38 16 B38 [2,2,4,2,2,2,2,2,2,2,1,2,1,2,2,2,2,1,2] rfl rfl rfl,t_108,t_4,g,h,i,j,l]
 rcases cond_some a with ⟨m,a⟩ | ⟨m,a⟩
 ·obtain ⟨x,a⟩:=ifE_some.1 a
  obtain ⟨o,a⟩:=ifE_some.1 a
  cases a
  simp only [W,simprocAttr,xk B38 [2,2,2,4,2,2,2,2,2,2,2,1,2,1,2,2,2,2,1,2] (.cd 87) rfl,rg B38 [2,2,2,2,4,2,2,2,2,2,2,2,1,2,1,2,2,2,2,1,2] 17 false rfl,hr 38 17 rfl,indexAddrV,t_107,t_3,t_108,t_4,R999999999a.st,g,h,i,j,l,m,x,o]
 ·obtain ⟨y,e,a⟩:=bs a
  simp only [W,simprocAttr,indexAddrV,t_107,t_3,xk B38 [2,2,2,4,2,2,2,2,2,2,2,1,2,1,2,2,2,2,1,2] (.cd 87) rfl,g,h,i,j,l,m,e]
  rcases cond_some a with ⟨f,a⟩ | ⟨f,a⟩
  ·obtain ⟨p,a⟩:=ifE_some.1 a
   obtain ⟨q,a⟩:=ifE_some.1 a
   cases a
   simp only [W,simprocAttr,rg B38 [2,2,2,2,4,2,2,2,2,2,2,2,1,2,1,2,2,2,2,1,2] 17 false rfl,hr 38 17 rfl,indexAddrV,t_107,t_3,t_108,t_4,R999999999a.st,g,h,i,j,l,m,e,f,p,q]
  ·cases a
   simp only [W,simprocAttr,xk B38 [3,2,2,2,4,2,2,2,2,2,2,2,1,2,1,2,2,2,2,1,2] .sk rfl,R999999999a.st,g,h,i,j,l,m,e,f]
noncomputable def f999999999a (k:Nat) (d e f:Int) (a:List T54) (b:List Int) (c:Int) (g:List Int) (h:List Bool):Option R999999999a:=match k with | 0=>none | k+1=>f999999999a_e k d e f a b c g h
theorem f999999999a_ok (k f g h c d e i j r) (l:f999999999a k f g h c d e i j=some r):CV k 999999999 [jI f,jI g,V.yld 1000000] [O.lp 38 99 [(4,.ptr 1000001 0),(10,.ptr 1000002 0),(11,.ptr 1000003 0)] [68,69] (nav B38 [3,2,2,2,2,2,2,2,1,2,1,2,2,2,2,1,2]) (nav B38 [4,2,2,2,2,2,2,2,1,2,1,2,2,2,2,1,2]) 0 .norm,.box 85 [jI h,.sl 6 (rowsOf encT54 c),.sl 1 (rowsOf (encI .i64) d),jI e],.box 107 (arrC (cI .i64) i),.box 108 (arrC cB j)]=some r.st:=by
 cases k with
 | zero=>cases l
 | succ k =>
  unfold CV
  rw [ev_round (id:=1000000) (fn:=38) (n:=99) (ps:=[68,69]) (a:=(nav B38 [3,2,2,2,2,2,2,2,1,2,1,2,2,2,2,1,2])) (b:=(nav B38 [4,2,2,2,2,2,2,2,1,2,1,2,2,2,2,1,2])) rfl rfl rfl rfl rfl (by kernel_rfl) (by kernel_rfl)]
  exact f999999999a_e_ok k f g h c d e i j r l
-- f55a: f55 (heliograph/plan.search).from$1
inductive R55a where
 | o0 (y:Int) (c:List T54) (d:List Int) (e:Int) (f:List Int) (g:List Bool) (h:Int) (i:List T54) (j:List Int) (l a b:Int)
noncomputable def R55a.st:R55a→V×List O×List O
 | .o0 y c d e f g h i j l a b=>(V.tup [],[O.lp 38 99 [(4,.ptr 1000001 0),(10,.ptr 1000002 0),(11,.ptr 1000003 0)] [68,69] (nav B38 [3,2,2,2,2,2,2,2,1,2,1,2,2,2,2,1,2]) (nav B38 [4,2,2,2,2,2,2,2,1,2,1,2,2,2,2,1,2]) 0 .norm,.box 85 [jI y,.sl 6 (rowsOf encT54 c),.sl 1 (rowsOf (encI .i64) d),jI e],.box 107 (arrC (cI .i64) f),.box 108 (arrC cB g),.box 85 [jI h,.sl 6 (rowsOf encT54 i),.sl 1 (rowsOf (encI .i64) j),jI l],.box 3 [jI a],.box 3 [jI b]],[])
inductive R55a_l1 where
 | o0 (y:List T54) (f g h:Int) (i:List T54) (j:List Int) (l:Int) (m:List Int) (o:List Bool) (p:Int) (a:List T54) (b:List Int) (c d e:Int)
 | o1 (y:List T54) (f g:Int) (h:Bool) (i:Int) (j:List T54) (l:List Int) (m:Int) (o:List Int) (p:List Bool) (a:Int) (b:List T54) (c:List Int) (d e q:Int)
noncomputable def R55a_l1.st:R55a_l1→Out×St
 | .o0 y f g h i j l m o p a b c d e=>(.norm,(⟨51,[(0,V.yld 1000000),(1,.ptr 1000004 0),(2,.ptr 1000005 0),(3,.ptr 1000006 0),(9,.sl 6 (rowsOf encT54 y)),(10,jI f),(11,jI g)],[(1000000,O.lp 38 99 [(4,.ptr 1000001 0),(10,.ptr 1000002 0),(11,.ptr 1000003 0)] [68,69] (nav B38 [3,2,2,2,2,2,2,2,1,2,1,2,2,2,2,1,2]) (nav B38 [4,2,2,2,2,2,2,2,1,2,1,2,2,2,2,1,2]) 0 .norm),(1000001,.box 85 [jI h,.sl 6 (rowsOf encT54 i),.sl 1 (rowsOf (encI .i64) j),jI l]),(1000002,.box 107 (arrC (cI .i64) m)),(1000003,.box 108 (arrC cB o)),(1000004,.box 85 [jI p,.sl 6 (rowsOf encT54 a),.sl 1 (rowsOf (encI .i64) b),jI c]),(1000005,.box 3 [jI d]),(1000006,.box 3 [jI e])]⟩:St))
 | .o1 y f g h i j l m o p a b c d e q=>(.exit 0,(⟨51,[(0,V.yld 1000000),(1,.ptr 1000004 0),(2,.ptr 1000005 0),(3,.ptr 1000006 0),(9,.sl 6 (rowsOf encT54 y)),(10,jI f),(11,jI g),(12,jT h)],[(1000000,O.lp 38 99 [(4,.ptr 1000001 0),(10,.ptr 1000002 0),(11,.ptr 1000003 0)] [68,69] (nav B38 [3,2,2,2,2,2,2,2,1,2,1,2,2,2,2,1,2]) (nav B38 [4,2,2,2,2,2,2,2,1,2,1,2,2,2,2,1,2]) 0 .norm),(1000001,.box 85 [jI i,.sl 6 (rowsOf encT54 j),.sl 1 (rowsOf (encI .i64) l),jI m]),(1000002,.box 107 (arrC (cI .i64) o)),(1000003,.box 108 (arrC cB p)),(1000004,.box 85 [jI a,.sl 6 (rowsOf encT54 b),.sl 1 (rowsOf (encI .i64) c),jI d]),(1000005,.box 3 [jI e]),(1000006,.box 3 [jI q])]⟩:St))
noncomputable def f55a_l1_j2 (k:Nat) (i:List T54) (g h:Int) (j:Bool) (l:Int) (a:List T54) (b:List Int) (c:Int) (m:List Int) (o:List Bool) (p:Int) (d:List T54) (e:List Int) (f q s:Int):Option R55a_l1 :=
 some (.o0 i g (IntKind.i64.wrap (h+(1:Int))) l a b c m o p d e f q s)
theorem f55a_l1_j2_ok (k j g h i l a b c m o p d e f q s r) (t:f55a_l1_j2 k j g h i l a b c m o p d e f q s=some r):EX 55 k (nav B55 [2,2,2,1,2,2]) (⟨51,[(0,V.yld 1000000),(1,.ptr 1000004 0),(2,.ptr 1000005 0),(3,.ptr 1000006 0),(9,.sl 6 (rowsOf encT54 j)),(10,jI g),(11,jI h),(49,jT i)],[(1000000,O.lp 38 99 [(4,.ptr 1000001 0),(10,.ptr 1000002 0),(11,.ptr 1000003 0)] [68,69] (nav B38 [3,2,2,2,2,2,2,2,1,2,1,2,2,2,2,1,2]) (nav B38 [4,2,2,2,2,2,2,2,1,2,1,2,2,2,2,1,2]) 0 .norm),(1000001,.box 85 [jI l,.sl 6 (rowsOf encT54 a),.sl 1 (rowsOf (encI .i64) b),jI c]),(1000002,.box 107 (arrC (cI .i64) m)),(1000003,.box 108 (arrC cB o)),(1000004,.box 85 [jI p,.sl 6 (rowsOf encT54 d),.sl 1 (rowsOf (encI .i64) e),jI f]),(1000005,.box 3 [jI q]),(1000006,.box 3 [jI s])]⟩:St)=some r.st:=by
 unfold f55a_l1_j2 at t
 cases t
 simp only [W,simprocAttr,rg B55 [2,2,2,1,2,2] 4 false rfl,hr 55 4 rfl,R55a_l1.st]
noncomputable def f55a_l1_j1 (k:Nat) (j:List T54) (h a:Int) (z:Bool) (o:Int) (d:List T54) (e:List Int) (f:Int) (p:List Int) (q:List Bool) (s:Int) (g:List T54) (b:List Int) (c l i:Int):Option R55a_l1 :=
 ifE ((0:Int)≤a) (
  Option.bind (j[(Int.toNat a)]?) fun m =>
   cond ((m.From==l))
    (
     Option.bind (b[(Int.toNat a)]?) fun r =>
      cond ((decide (c≤r)))
       (
        cond ((decide (i<m.End)))
         (
          Option.bind (f999999999a k a ((IntKind.i64.wrap ((IntKind.i64.wrap ((if m.Start>i then m.Start else i)+m.Delay))+(1:Int)))) o d e f p q) fun o9 =>
           match o9 with
           | .o0 t u v w x y =>
            f55a_l1_j2 k j h a false t u v w x y s g b c l i)
         (f55a_l1_j2 k j h a false o d e f p q s g b c l i))
       (f55a_l1_j2 k j h a false o d e f p q s g b c l i))
    (f55a_l1_j2 k j h a false o d e f p q s g b c l i))
theorem f55a_l1_j1_ok (k q i h x s b c d t u v e f g w j r) (a:f55a_l1_j1 k q i h x s b c d t u v e f g w j=some r):EX 55 k (nav B55 [2,2,1,2,2]) (⟨51,[(0,V.yld 1000000),(1,.ptr 1000004 0),(2,.ptr 1000005 0),(3,.ptr 1000006 0),(9,.sl 6 (rowsOf encT54 q)),(10,jI i),(11,jI h),(12,jT x)],[(1000000,O.lp 38 99 [(4,.ptr 1000001 0),(10,.ptr 1000002 0),(11,.ptr 1000003 0)] [68,69] (nav B38 [3,2,2,2,2,2,2,2,1,2,1,2,2,2,2,1,2]) (nav B38 [4,2,2,2,2,2,2,2,1,2,1,2,2,2,2,1,2]) 0 .norm),(1000001,.box 85 [jI s,.sl 6 (rowsOf encT54 b),.sl 1 (rowsOf (encI .i64) c),jI d]),(1000002,.box 107 (arrC (cI .i64) t)),(1000003,.box 108 (arrC cB u)),(1000004,.box 85 [jI v,.sl 6 (rowsOf encT54 e),.sl 1 (rowsOf (encI .i64) f),jI g]),(1000005,.box 3 [jI w]),(1000006,.box 3 [jI j])]⟩:St)=some r.st:=by
 unfold f55a_l1_j1 at a
 obtain ⟨m,a⟩:=ifE_some.1 a
 obtain ⟨n,o,a⟩:=bs a
 simp (disch:=first|decide|apply K;kernel_rfl) only [W,simprocAttr,xk B55 [2,2,1,2,2] .sq rfl,xk B55 [1,2,2,1,2,2] (.bk 1) rfl,sr 55 2 B55 [2,1,2,2,1,2,2] rfl rfl rfl,indexAddrV,t_22,t_54,encT54_eq,xk B55 [2,2,1,2,2,1,2,2] .sq rfl,rg B55 [1,2,2,1,2,2,1,2,2] 3 true rfl,hr 55 3 rfl,fieldAddrV,t_3,m,o]
 rcases cond_some a with ⟨p,a⟩ | ⟨p,a⟩
 ·obtain ⟨v5,y,a⟩:=bs a
  simp (disch:=first|decide|apply K;kernel_rfl) only [W,simprocAttr,fieldAddrV,t_85,t_3,t_25,indexAddrV,encI_eq,m,o,p,y]
  rcases cond_some a with ⟨z,a⟩ | ⟨z,a⟩
  ·simp (disch:=first|decide|apply K;kernel_rfl) only [W,simprocAttr,t_3,fieldAddrV,t_54,m,o,p,y,z]
   rcases cond_some a with ⟨h8,a⟩ | ⟨h8,a⟩
   ·obtain ⟨o9,ab,a⟩:=bs a
    have l:=f999999999a_ok k h ((IntKind.i64.wrap ((IntKind.i64.wrap ((if n.Start>j then n.Start else j)+n.Delay))+(1:Int)))) s b c d t u _ ab
    cases o9 with
    | o0 ac ad ae af ag ah =>
     (try dsimp only at a)
     (try simp only [NM,EE,R999999999a.st] at l)
     have hJ:=f55a_l1_j2_ok k q i h false ac ad ae af ag ah v e f g w j _ a
     simp (disch:=first|decide|apply K;kernel_rfl) only [W,simprocAttr,t_3,fieldAddrV,t_54,minmaxV,minmaxGo,callStep,CL,gv,List.contains,xk B55 [2,2,2,1,2,2,1,2,2] (.cd 49) rfl,xk B55 [3,2,2,2,1,2,2,1,2,2] .sk rfl,m,o,p,y,z,h8,l]
     try simp only [NM,EE] at hJ
     exact hJ
   ·have hJ:=f55a_l1_j2_ok k q i h false s b c d t u v e f g w j _ a
    simp (disch:=first|decide|apply K;kernel_rfl) only [W,simprocAttr,xk B55 [2,2,2,1,2,2,1,2,2] (.cd 49) rfl,xk B55 [3,2,2,2,1,2,2,1,2,2] .sk rfl,m,o,p,y,z,h8]
    try simp only [NM,EE] at hJ
    exact hJ
  ·have hJ:=f55a_l1_j2_ok k q i h false s b c d t u v e f g w j _ a
   simp (disch:=first|decide|apply K;kernel_rfl) only [W,simprocAttr,xk B55 [2,2,2,1,2,2,1,2,2] (.cd 49) rfl,xk B55 [3,2,2,2,1,2,2,1,2,2] .sk rfl,m,o,p,y,z]
   try simp only [NM,EE] at hJ
   exact hJ
 ·have hJ:=f55a_l1_j2_ok k q i h false s b c d t u v e f g w j _ a
  simp (disch:=first|decide|apply K;kernel_rfl) only [W,simprocAttr,xk B55 [2,2,2,1,2,2,1,2,2] (.cd 49) rfl,xk B55 [3,2,2,2,1,2,2,1,2,2] .sk rfl,m,o,p]
  try simp only [NM,EE] at hJ
  exact hJ
noncomputable def f55a_l1_b (k:Nat) (i:List T54) (g h j:Int) (a:List T54) (b:List Int) (c:Int) (l:List Int) (m:List Bool) (o:Int) (d:List T54) (e:List Int) (f p q:Int):Option R55a_l1 :=
 cond ((decide (h<g)))
  (f55a_l1_j1 k i g h true j a b c l m o d e f p q)
  (some (.o1 i g h false j a b c l m o d e f p q))
theorem f55a_l1_b_ok (k j g h l a b c m o p d e f q s r) (i:f55a_l1_b k j g h l a b c m o p d e f q s=some r):EX 55 k (nav B55 [1,2,2]) (⟨51,[(0,V.yld 1000000),(1,.ptr 1000004 0),(2,.ptr 1000005 0),(3,.ptr 1000006 0),(9,.sl 6 (rowsOf encT54 j)),(10,jI g),(11,jI h)],[(1000000,O.lp 38 99 [(4,.ptr 1000001 0),(10,.ptr 1000002 0),(11,.ptr 1000003 0)] [68,69] (nav B38 [3,2,2,2,2,2,2,2,1,2,1,2,2,2,2,1,2]) (nav B38 [4,2,2,2,2,2,2,2,1,2,1,2,2,2,2,1,2]) 0 .norm),(1000001,.box 85 [jI l,.sl 6 (rowsOf encT54 a),.sl 1 (rowsOf (encI .i64) b),jI c]),(1000002,.box 107 (arrC (cI .i64) m)),(1000003,.box 108 (arrC cB o)),(1000004,.box 85 [jI p,.sl 6 (rowsOf encT54 d),.sl 1 (rowsOf (encI .i64) e),jI f]),(1000005,.box 3 [jI q]),(1000006,.box 3 [jI s])]⟩:St)=some r.st:=by
 unfold f55a_l1_b at i
 simp only [W,simprocAttr,sr 55 1 B55 [1,2,2] rfl rfl rfl,xk B55 [2,1,2,2] .sq rfl,xk B55 [1,2,1,2,2] (.cd 12) rfl]
 rcases cond_some i with ⟨t,i⟩ | ⟨t,i⟩
 ·have hJ:=f55a_l1_j1_ok k j g h true l a b c m o p d e f q s _ i
  simp only [W,simprocAttr,xk B55 [2,1,2,1,2,2] .sk rfl,t]
  try simp only [NM,EE] at hJ
  exact hJ
 ·cases i
  simp only [W,simprocAttr,xk B55 [3,1,2,1,2,2] (.ex 0) rfl,R55a_l1.st,t]
noncomputable def f55a_l1 (k:Nat):Nat→(List T54)→Int→Int→Int→(List T54)→(List Int)→Int→(List Int)→(List Bool)→Int→(List T54)→(List Int)→Int→Int→Int→Option R55a_l1
 | 0,_,_,_,_,_,_,_,_,_,_,_,_,_,_,_=>none
 | n+1,x9,r,aa,e1,s,t,u,e2,e3,e4,v,w,x,e5,e6=>Option.bind (f55a_l1_b k x9 r aa e1 s t u e2 e3 e4 v w x e5 e6) fun o =>
  match o with
  | .o0 y f g h i j l m p q a b c d e=>f55a_l1 k n y f g h i j l m p q a b c d e
  | .o1 y f g h i j l m p q a b c d e z=>some (.o1 y f g h i j l m p q a b c d e z)
theorem f55a_l1_ok (k n:Nat):∀ (t:List T54) (g i u:Int) (a:List T54) (b:List Int) (c:Int) (v:List Int) (w:List Bool) (x:Int) (d:List T54) (e:List Int) (f z e6:Int) (r:R55a_l1) (j:f55a_l1 k n t g i u a b c v w x d e f z e6=some r) (σ:St) (hσ:headR (hints.head 55 1) (hints.canon 55 1) σ=some (⟨51,[(0,V.yld 1000000),(1,.ptr 1000004 0),(2,.ptr 1000005 0),(3,.ptr 1000006 0),(9,.sl 6 (rowsOf encT54 t)),(10,jI g),(11,jI i)],[(1000000,O.lp 38 99 [(4,.ptr 1000001 0),(10,.ptr 1000002 0),(11,.ptr 1000003 0)] [68,69] (nav B38 [3,2,2,2,2,2,2,2,1,2,1,2,2,2,2,1,2]) (nav B38 [4,2,2,2,2,2,2,2,1,2,1,2,2,2,2,1,2]) 0 .norm),(1000001,.box 85 [jI u,.sl 6 (rowsOf encT54 a),.sl 1 (rowsOf (encI .i64) b),jI c]),(1000002,.box 107 (arrC (cI .i64) v)),(1000003,.box 108 (arrC cB w)),(1000004,.box 85 [jI x,.sl 6 (rowsOf encT54 d),.sl 1 (rowsOf (encI .i64) e),jI f]),(1000005,.box 3 [jI z]),(1000006,.box 3 [jI e6])]⟩:St)),LP 55 k (nav B55 [1,2,2]) n σ=some r.st:=by
 induction n with
 | zero=>intro t g i u a b c v w x d e f z e6 r j;cases j
 | succ n ih =>
  intro t g i u a b c v w x d e f z e6 r j σ hσ
  rw [f55a_l1] at j
  obtain ⟨o,h,j⟩:=Option.bind_eq_some_iff.1 j
  have hB:=f55a_l1_b_ok k t g i u a b c v w x d e f z e6 o h
  unfold LP at ih ⊢
  unfold EX at hB
  rw [loopK_succ,show firstReg (nav B55 [1,2,2])=1 from rfl,hσ,headK_some,hB]
  cases o with
  | o0 y ab ac ad ae af ag ah ai aj l m p q s =>
   refine ih y ab ac ad ae af ag ah ai aj l m p q s r j _ ?_
   simp only [W,simprocAttr,hh_55_1,hc_55_1]
  | o1 y ab ac ad ae af ag ah ai aj l m p q s al=>cases j;rfl
noncomputable def f55a_e (k:Nat) (t:Int) (b:List T54) (c:List Int) (d:Int) (u:List Int) (v:List Bool) (w:Int) (a:List T54) (e:List Int) (f x y:Int):Option R55a :=
 Option.bind (f55a_l1 k k a ((List.length a):Int) 0 t b c d u v w a e f x y) fun o1 =>
  match o1 with
  | .o0 _ _ _ _ _ _ _ _ _ _ _ _ _ _ _ =>
   none
  | .o1 n v5 v6 v7 z r g h i j l m o p q s =>
   some (.o0 z r g h i j l m o p q s)
theorem f55a_e_ok (k i b c d j l m a e f o p r) (g:f55a_e k i b c d j l m a e f o p=some r):finK Tryd.prog Tryd.f55 7 (EX 55 k (nav B55 []) (⟨51,[(0,V.yld 1000000),(1,.ptr 1000004 0),(2,.ptr 1000005 0),(3,.ptr 1000006 0)],[(1000000,O.lp 38 99 [(4,.ptr 1000001 0),(10,.ptr 1000002 0),(11,.ptr 1000003 0)] [68,69] (nav B38 [3,2,2,2,2,2,2,2,1,2,1,2,2,2,2,1,2]) (nav B38 [4,2,2,2,2,2,2,2,1,2,1,2,2,2,2,1,2]) 0 .norm),(1000001,.box 85 [jI i,.sl 6 (rowsOf encT54 b),.sl 1 (rowsOf (encI .i64) c),jI d]),(1000002,.box 107 (arrC (cI .i64) j)),(1000003,.box 108 (arrC cB l)),(1000004,.box 85 [jI m,.sl 6 (rowsOf encT54 a),.sl 1 (rowsOf (encI .i64) e),jI f]),(1000005,.box 3 [jI o]),(1000006,.box 3 [jI p])]⟩:St))=some r.st:=by
 unfold f55a_e at g
 obtain ⟨o1,q,g⟩:=bs g
 have h:=f55a_l1_ok k k a ((List.length a):Int) 0 i b c d j l m a e f o p _ q
 simp only [W,simprocAttr,sr 55 0 B55 [] rfl rfl rfl,fieldAddrV,t_85,t_24,t_22,xk B55 [2] (.bk 0) rfl,xk B55 [2,2] .lp rfl,hh_55_1,hc_55_1]
 (try simp only [NM,EE] at h)
 rw [h _ (by simp only [W,simprocAttr,hh_55_1,hc_55_1])]
 clear h
 cases o1 with
 | o0 _ _ _ _ _ _ _ _ _ _ _ _ _ _ _ =>
  (try dsimp only at g)
  cases g
 | o1 v4 v5 v6 v7 v8 v9 s t u v w x y z n aa =>
  (try dsimp only at g)
  cases g
  simp only [W,simprocAttr,R55a_l1.st,fin55,R55a.st]
noncomputable def f55a (k:Nat) (g:Int) (a:List T54) (b:List Int) (c:Int) (h:List Int) (i:List Bool) (j:Int) (d:List T54) (e:List Int) (f l m:Int):Option R55a:=match k with | 0=>none | k+1=>f55a_e k g a b c h i j d e f l m
theorem f55a_ok (k h a b d i j l e f g m o r) (p:f55a k h a b d i j l e f g m o=some r):CV k 55 [V.yld 1000000,.ptr 1000004 0,.ptr 1000005 0,.ptr 1000006 0] [O.lp 38 99 [(4,.ptr 1000001 0),(10,.ptr 1000002 0),(11,.ptr 1000003 0)] [68,69] (nav B38 [3,2,2,2,2,2,2,2,1,2,1,2,2,2,2,1,2]) (nav B38 [4,2,2,2,2,2,2,2,1,2,1,2,2,2,2,1,2]) 0 .norm,.box 85 [jI h,.sl 6 (rowsOf encT54 a),.sl 1 (rowsOf (encI .i64) b),jI d],.box 107 (arrC (cI .i64) i),.box 108 (arrC cB j),.box 85 [jI l,.sl 6 (rowsOf encT54 e),.sl 1 (rowsOf (encI .i64) f),jI g],.box 3 [jI m],.box 3 [jI o]]=some r.st:=by
 cases k with
 | zero=>cases p
 | succ k =>
  unfold CV
  rw [ev_call (F:=Tryd.f55) (c:=(nav B55 [])) rfl Tryd.func55 rfl rfl rfl rfl]
  exact f55a_e_ok k h a b d i j l e f g m o r p
end Go.Proofs.YtiompmmbjpjjeaaDoorV