/- What the program's functions answer: plain functions,and that the interpreter answers what they do. Written by a program of this session,out of the translation. -/
import Derived.Test.YtiompmmbjpjjeaaDoorVP14
namespace Go.Proofs.YtiompmmbjpjjeaaDoorV
open Go
set_option linter.unusedVariables false
set_option linter.unusedSimpArgs false
set_option maxRecDepth 8000
set_option maxHeartbeats 4000000
-- f55b: f55 (heliograph/plan.search).from$1
inductive R55b where
 | o0 (y:Int) (f:List T54) (g h:Int) (i:List T54) (j:List Int) (l m o p:Int) (a:List T54) (b:List Int) (c d e:Int)
noncomputable def R55b.st:R55b→V×List O×List O
 | .o0 y f g h i j l m o p a b c d e=>(V.tup [],[O.lp 14 105 [(6,.ptr 1000001 0),(9,.ptr 1000002 0),(16,.ptr 1000003 0),(17,.ptr 1000004 0),(18,.ptr 1000005 0)] [74,75] (nav B14 [3,2,2,1,2,2,2,2,2]) (nav B14 [4,2,2,1,2,2,2,2,2]) 0 .norm,.box 24 [jI y,.sl 6 (rowsOf encT54 f)],.box 3 [jI g],.box 85 [jI h,.sl 6 (rowsOf encT54 i),.sl 1 (rowsOf (encI .i64) j),jI l],.box 3 [jI m],.box 3 [jI o],.box 85 [jI p,.sl 6 (rowsOf encT54 a),.sl 1 (rowsOf (encI .i64) b),jI c],.box 3 [jI d],.box 3 [jI e]],[])
inductive R55b_l1 where
 | o0 (y:List T54) (i j l:Int) (m:List T54) (o p:Int) (q:List T54) (s:List Int) (t a b c:Int) (d:List T54) (e:List Int) (f g h:Int)
 | o1 (y:List T54) (i j:Int) (l:Bool) (m:Int) (o:List T54) (p q:Int) (s:List T54) (t:List Int) (a b c d:Int) (e:List T54) (f:List Int) (g h u:Int)
noncomputable def R55b_l1.st:R55b_l1→Out×St
 | .o0 y i j l m o p q s t a b c d e f g h=>(.norm,(⟨51,[(0,V.yld 1000000),(1,.ptr 1000006 0),(2,.ptr 1000007 0),(3,.ptr 1000008 0),(9,.sl 6 (rowsOf encT54 y)),(10,jI i),(11,jI j)],[(1000000,O.lp 14 105 [(6,.ptr 1000001 0),(9,.ptr 1000002 0),(16,.ptr 1000003 0),(17,.ptr 1000004 0),(18,.ptr 1000005 0)] [74,75] (nav B14 [3,2,2,1,2,2,2,2,2]) (nav B14 [4,2,2,1,2,2,2,2,2]) 0 .norm),(1000001,.box 24 [jI l,.sl 6 (rowsOf encT54 m)]),(1000002,.box 3 [jI o]),(1000003,.box 85 [jI p,.sl 6 (rowsOf encT54 q),.sl 1 (rowsOf (encI .i64) s),jI t]),(1000004,.box 3 [jI a]),(1000005,.box 3 [jI b]),(1000006,.box 85 [jI c,.sl 6 (rowsOf encT54 d),.sl 1 (rowsOf (encI .i64) e),jI f]),(1000007,.box 3 [jI g]),(1000008,.box 3 [jI h])]⟩:St))
 | .o1 y i j l m o p q s t a b c d e f g h u=>(.exit 0,(⟨51,[(0,V.yld 1000000),(1,.ptr 1000006 0),(2,.ptr 1000007 0),(3,.ptr 1000008 0),(9,.sl 6 (rowsOf encT54 y)),(10,jI i),(11,jI j),(12,jT l)],[(1000000,O.lp 14 105 [(6,.ptr 1000001 0),(9,.ptr 1000002 0),(16,.ptr 1000003 0),(17,.ptr 1000004 0),(18,.ptr 1000005 0)] [74,75] (nav B14 [3,2,2,1,2,2,2,2,2]) (nav B14 [4,2,2,1,2,2,2,2,2]) 0 .norm),(1000001,.box 24 [jI m,.sl 6 (rowsOf encT54 o)]),(1000002,.box 3 [jI p]),(1000003,.box 85 [jI q,.sl 6 (rowsOf encT54 s),.sl 1 (rowsOf (encI .i64) t),jI a]),(1000004,.box 3 [jI b]),(1000005,.box 3 [jI c]),(1000006,.box 85 [jI d,.sl 6 (rowsOf encT54 e),.sl 1 (rowsOf (encI .i64) f),jI g]),(1000007,.box 3 [jI h]),(1000008,.box 3 [jI u])]⟩:St))
noncomputable def f55b_l1_j2 (k:Nat) (j:List T54) (h i:Int) (l:Bool) (m:Int) (a:List T54) (o p:Int) (b:List T54) (c:List Int) (d q s t:Int) (e:List T54) (f:List Int) (g u v:Int):Option R55b_l1 :=
 some (.o0 j h (IntKind.i64.wrap (i+(1:Int))) m a o p b c d q s t e f g u v)
theorem f55b_l1_j2_ok (k l h i j m a o p b c d q s t e f g u v r) (w:f55b_l1_j2 k l h i j m a o p b c d q s t e f g u v=some r):EX 55 k (nav B55 [2,2,2,1,2,2]) (⟨51,[(0,V.yld 1000000),(1,.ptr 1000006 0),(2,.ptr 1000007 0),(3,.ptr 1000008 0),(9,.sl 6 (rowsOf encT54 l)),(10,jI h),(11,jI i),(49,jT j)],[(1000000,O.lp 14 105 [(6,.ptr 1000001 0),(9,.ptr 1000002 0),(16,.ptr 1000003 0),(17,.ptr 1000004 0),(18,.ptr 1000005 0)] [74,75] (nav B14 [3,2,2,1,2,2,2,2,2]) (nav B14 [4,2,2,1,2,2,2,2,2]) 0 .norm),(1000001,.box 24 [jI m,.sl 6 (rowsOf encT54 a)]),(1000002,.box 3 [jI o]),(1000003,.box 85 [jI p,.sl 6 (rowsOf encT54 b),.sl 1 (rowsOf (encI .i64) c),jI d]),(1000004,.box 3 [jI q]),(1000005,.box 3 [jI s]),(1000006,.box 85 [jI t,.sl 6 (rowsOf encT54 e),.sl 1 (rowsOf (encI .i64) f),jI g]),(1000007,.box 3 [jI u]),(1000008,.box 3 [jI v])]⟩:St)=some r.st:=by
 unfold f55b_l1_j2 at w
 cases w
 simp only [W,simprocAttr,rg B55 [2,2,2,1,2,2] 4 false rfl,hr 55 4 rfl,R55b_l1.st]
noncomputable def f55b_l1_j1 (k:Nat) (l:List T54) (i a:Int) (ad:Bool) (p:Int) (d:List T54) (q s:Int) (e:List T54) (f:List Int) (g t u v:Int) (h:List T54) (b:List Int) (c m j:Int):Option R55b_l1 :=
 ifE ((0:Int)≤a) (
  Option.bind (l[(Int.toNat a)]?) fun o =>
   cond ((o.From==m))
    (
     Option.bind (b[(Int.toNat a)]?) fun v5 =>
      cond ((decide (c≤v5)))
       (
        cond ((decide (j<o.End)))
         (
          Option.bind (f999999999b k a ((IntKind.i64.wrap ((IntKind.i64.wrap ((if o.Start>j then o.Start else j)+o.Delay))+(1:Int)))) p d q s e f g t u) fun o9 =>
           match o9 with
           | .o0 w x y z r n aa ab ac =>
            f55b_l1_j2 k l i a false w x y z r n aa ab ac v h b c m j)
         (f55b_l1_j2 k l i a false p d q s e f g t u v h b c m j))
       (f55b_l1_j2 k l i a false p d q s e f g t u v h b c m j))
    (f55b_l1_j2 k l i a false p d q s e f g t u v h b c m j))
theorem f55b_l1_j1_ok (k s j i n t b u v c d e w x y f g h z l r) (a:f55b_l1_j1 k s j i n t b u v c d e w x y f g h z l=some r):EX 55 k (nav B55 [2,2,1,2,2]) (⟨51,[(0,V.yld 1000000),(1,.ptr 1000006 0),(2,.ptr 1000007 0),(3,.ptr 1000008 0),(9,.sl 6 (rowsOf encT54 s)),(10,jI j),(11,jI i),(12,jT n)],[(1000000,O.lp 14 105 [(6,.ptr 1000001 0),(9,.ptr 1000002 0),(16,.ptr 1000003 0),(17,.ptr 1000004 0),(18,.ptr 1000005 0)] [74,75] (nav B14 [3,2,2,1,2,2,2,2,2]) (nav B14 [4,2,2,1,2,2,2,2,2]) 0 .norm),(1000001,.box 24 [jI t,.sl 6 (rowsOf encT54 b)]),(1000002,.box 3 [jI u]),(1000003,.box 85 [jI v,.sl 6 (rowsOf encT54 c),.sl 1 (rowsOf (encI .i64) d),jI e]),(1000004,.box 3 [jI w]),(1000005,.box 3 [jI x]),(1000006,.box 85 [jI y,.sl 6 (rowsOf encT54 f),.sl 1 (rowsOf (encI .i64) g),jI h]),(1000007,.box 3 [jI z]),(1000008,.box 3 [jI l])]⟩:St)=some r.st:=by
 unfold f55b_l1_j1 at a
 obtain ⟨o,a⟩:=ifE_some.1 a
 obtain ⟨v2,p,a⟩:=bs a
 simp (disch:=first|decide|apply K;kernel_rfl) only [W,simprocAttr,xk B55 [2,2,1,2,2] .sq rfl,xk B55 [1,2,2,1,2,2] (.bk 1) rfl,sr 55 2 B55 [2,1,2,2,1,2,2] rfl rfl rfl,indexAddrV,t_22,t_54,encT54_eq,xk B55 [2,2,1,2,2,1,2,2] .sq rfl,rg B55 [1,2,2,1,2,2,1,2,2] 3 true rfl,hr 55 3 rfl,fieldAddrV,t_3,o,p]
 rcases cond_some a with ⟨q,a⟩ | ⟨q,a⟩
 ·obtain ⟨v5,h6,a⟩:=bs a
  simp (disch:=first|decide|apply K;kernel_rfl) only [W,simprocAttr,fieldAddrV,t_85,t_3,t_25,indexAddrV,encI_eq,o,p,q,h6]
  rcases cond_some a with ⟨h7,a⟩ | ⟨h7,a⟩
  ·simp (disch:=first|decide|apply K;kernel_rfl) only [W,simprocAttr,t_3,fieldAddrV,t_54,o,p,q,h6,h7]
   rcases cond_some a with ⟨h8,a⟩ | ⟨h8,a⟩
   ·obtain ⟨o9,ae,a⟩:=bs a
    have m:=f999999999b_ok k i ((IntKind.i64.wrap ((IntKind.i64.wrap ((if v2.Start>l then v2.Start else l)+v2.Delay))+(1:Int)))) t b u v c d e w x _ ae
    cases o9 with
    | o0 af ag ah ai aj ak al am an =>
     (try dsimp only at a)
     (try simp only [NM,EE,R999999999b.st] at m)
     have hJ:=f55b_l1_j2_ok k s j i false af ag ah ai aj ak al am an y f g h z l _ a
     simp (disch:=first|decide|apply K;kernel_rfl) only [W,simprocAttr,t_3,fieldAddrV,t_54,minmaxV,minmaxGo,callStep,CL,gv,List.contains,xk B55 [2,2,2,1,2,2,1,2,2] (.cd 49) rfl,xk B55 [3,2,2,2,1,2,2,1,2,2] .sk rfl,o,p,q,h6,h7,h8,m]
     try simp only [NM,EE] at hJ
     exact hJ
   ·have hJ:=f55b_l1_j2_ok k s j i false t b u v c d e w x y f g h z l _ a
    simp (disch:=first|decide|apply K;kernel_rfl) only [W,simprocAttr,xk B55 [2,2,2,1,2,2,1,2,2] (.cd 49) rfl,xk B55 [3,2,2,2,1,2,2,1,2,2] .sk rfl,o,p,q,h6,h7,h8]
    try simp only [NM,EE] at hJ
    exact hJ
  ·have hJ:=f55b_l1_j2_ok k s j i false t b u v c d e w x y f g h z l _ a
   simp (disch:=first|decide|apply K;kernel_rfl) only [W,simprocAttr,xk B55 [2,2,2,1,2,2,1,2,2] (.cd 49) rfl,xk B55 [3,2,2,2,1,2,2,1,2,2] .sk rfl,o,p,q,h6,h7]
   try simp only [NM,EE] at hJ
   exact hJ
 ·have hJ:=f55b_l1_j2_ok k s j i false t b u v c d e w x y f g h z l _ a
  simp (disch:=first|decide|apply K;kernel_rfl) only [W,simprocAttr,xk B55 [2,2,2,1,2,2,1,2,2] (.cd 49) rfl,xk B55 [3,2,2,2,1,2,2,1,2,2] .sk rfl,o,p,q]
  try simp only [NM,EE] at hJ
  exact hJ
noncomputable def f55b_l1_b (k:Nat) (j:List T54) (h i l:Int) (a:List T54) (m o:Int) (b:List T54) (c:List Int) (d p q s:Int) (e:List T54) (f:List Int) (g t u:Int):Option R55b_l1 :=
 cond ((decide (i<h)))
  (f55b_l1_j1 k j h i true l a m o b c d p q s e f g t u)
  (some (.o1 j h i false l a m o b c d p q s e f g t u))
theorem f55b_l1_b_ok (k l h i m a o p b c d q s t e f g u v r) (j:f55b_l1_b k l h i m a o p b c d q s t e f g u v=some r):EX 55 k (nav B55 [1,2,2]) (⟨51,[(0,V.yld 1000000),(1,.ptr 1000006 0),(2,.ptr 1000007 0),(3,.ptr 1000008 0),(9,.sl 6 (rowsOf encT54 l)),(10,jI h),(11,jI i)],[(1000000,O.lp 14 105 [(6,.ptr 1000001 0),(9,.ptr 1000002 0),(16,.ptr 1000003 0),(17,.ptr 1000004 0),(18,.ptr 1000005 0)] [74,75] (nav B14 [3,2,2,1,2,2,2,2,2]) (nav B14 [4,2,2,1,2,2,2,2,2]) 0 .norm),(1000001,.box 24 [jI m,.sl 6 (rowsOf encT54 a)]),(1000002,.box 3 [jI o]),(1000003,.box 85 [jI p,.sl 6 (rowsOf encT54 b),.sl 1 (rowsOf (encI .i64) c),jI d]),(1000004,.box 3 [jI q]),(1000005,.box 3 [jI s]),(1000006,.box 85 [jI t,.sl 6 (rowsOf encT54 e),.sl 1 (rowsOf (encI .i64) f),jI g]),(1000007,.box 3 [jI u]),(1000008,.box 3 [jI v])]⟩:St)=some r.st:=by
 unfold f55b_l1_b at j
 simp only [W,simprocAttr,sr 55 1 B55 [1,2,2] rfl rfl rfl,xk B55 [2,1,2,2] .sq rfl,xk B55 [1,2,1,2,2] (.cd 12) rfl]
 rcases cond_some j with ⟨w,j⟩ | ⟨w,j⟩
 ·have hJ:=f55b_l1_j1_ok k l h i true m a o p b c d q s t e f g u v _ j
  simp only [W,simprocAttr,xk B55 [2,1,2,1,2,2] .sk rfl,w]
  try simp only [NM,EE] at hJ
  exact hJ
 ·cases j
  simp only [W,simprocAttr,xk B55 [3,1,2,1,2,2] (.ex 0) rfl,R55b_l1.st,w]
noncomputable def f55b_l1 (k:Nat):Nat→(List T54)→Int→Int→Int→(List T54)→Int→Int→(List T54)→(List Int)→Int→Int→Int→Int→(List T54)→(List Int)→Int→Int→Int→Option R55b_l1
 | 0,_,_,_,_,_,_,_,_,_,_,_,_,_,_,_,_,_,_=>none
 | n+1,x9,ad,ae,e1,v,e2,e3,w,x,z,e4,e5,e6,r,aa,ab,e7,e8=>Option.bind (f55b_l1_b k x9 ad ae e1 v e2 e3 w x z e4 e5 e6 r aa ab e7 e8) fun o =>
  match o with
  | .o0 y i j l m p q s t u a b c d e f g h=>f55b_l1 k n y i j l m p q s t u a b c d e f g h
  | .o1 y i j l m p q s t u a b c d e f g h ac=>some (.o1 y i j l m p q s t u a b c d e f g h ac)
theorem f55b_l1_ok (k n:Nat):∀ (x:List T54) (i j z:Int) (a:List T54) (e2 e3:Int) (b:List T54) (c:List Int) (d e4 e5 e6:Int) (e:List T54) (f:List Int) (g e7 e8:Int) (r:R55b_l1) (l:f55b_l1 k n x i j z a e2 e3 b c d e4 e5 e6 e f g e7 e8=some r) (σ:St) (hσ:headR (hints.head 55 1) (hints.canon 55 1) σ=some (⟨51,[(0,V.yld 1000000),(1,.ptr 1000006 0),(2,.ptr 1000007 0),(3,.ptr 1000008 0),(9,.sl 6 (rowsOf encT54 x)),(10,jI i),(11,jI j)],[(1000000,O.lp 14 105 [(6,.ptr 1000001 0),(9,.ptr 1000002 0),(16,.ptr 1000003 0),(17,.ptr 1000004 0),(18,.ptr 1000005 0)] [74,75] (nav B14 [3,2,2,1,2,2,2,2,2]) (nav B14 [4,2,2,1,2,2,2,2,2]) 0 .norm),(1000001,.box 24 [jI z,.sl 6 (rowsOf encT54 a)]),(1000002,.box 3 [jI e2]),(1000003,.box 85 [jI e3,.sl 6 (rowsOf encT54 b),.sl 1 (rowsOf (encI .i64) c),jI d]),(1000004,.box 3 [jI e4]),(1000005,.box 3 [jI e5]),(1000006,.box 85 [jI e6,.sl 6 (rowsOf encT54 e),.sl 1 (rowsOf (encI .i64) f),jI g]),(1000007,.box 3 [jI e7]),(1000008,.box 3 [jI e8])]⟩:St)),LP 55 k (nav B55 [1,2,2]) n σ=some r.st:=by
 induction n with
 | zero=>intro x i j z a e2 e3 b c d e4 e5 e6 e f g e7 e8 r l;cases l
 | succ n ih =>
  intro x i j z a e2 e3 b c d e4 e5 e6 e f g e7 e8 r l σ hσ
  rw [f55b_l1] at l
  obtain ⟨o,h,l⟩:=Option.bind_eq_some_iff.1 l
  have hB:=f55b_l1_b_ok k x i j z a e2 e3 b c d e4 e5 e6 e f g e7 e8 o h
  unfold LP at ih ⊢
  unfold EX at hB
  rw [loopK_succ,show firstReg (nav B55 [1,2,2])=1 from rfl,hσ,headK_some,hB]
  cases o with
  | o0 y ah ai aj ak al am an ao ap m p q s t u v w =>
   refine ih y ah ai aj ak al am an ao ap m p q s t u v w r l _ ?_
   simp only [W,simprocAttr,hh_55_1,hc_55_1]
  | o1 y ah ai aj ak al am an ao ap m p q s t u v w ar=>cases l;rfl
noncomputable def f55b_e (k:Nat) (x:Int) (b:List T54) (y z:Int) (c:List T54) (d:List Int) (e r n e6:Int) (a:List T54) (f:List Int) (g e7 e8:Int):Option R55b :=
 Option.bind (f55b_l1 k k a ((List.length a):Int) 0 x b y z c d e r n e6 a f g e7 e8) fun o1 =>
  match o1 with
  | .o0 _ _ _ _ _ _ _ _ _ _ _ _ _ _ _ _ _ _ =>
   none
  | .o1 v4 v5 v6 v7 v8 v9 h i j l m o p q s t u v w =>
   some (.o0 v8 v9 h i j l m o p q s t u v w)
theorem f55b_e_ok (k j b l m c d e o p q a f g s t r) (h:f55b_e k j b l m c d e o p q a f g s t=some r):finK Tryd.prog Tryd.f55 9 (EX 55 k (nav B55 []) (⟨51,[(0,V.yld 1000000),(1,.ptr 1000006 0),(2,.ptr 1000007 0),(3,.ptr 1000008 0)],[(1000000,O.lp 14 105 [(6,.ptr 1000001 0),(9,.ptr 1000002 0),(16,.ptr 1000003 0),(17,.ptr 1000004 0),(18,.ptr 1000005 0)] [74,75] (nav B14 [3,2,2,1,2,2,2,2,2]) (nav B14 [4,2,2,1,2,2,2,2,2]) 0 .norm),(1000001,.box 24 [jI j,.sl 6 (rowsOf encT54 b)]),(1000002,.box 3 [jI l]),(1000003,.box 85 [jI m,.sl 6 (rowsOf encT54 c),.sl 1 (rowsOf (encI .i64) d),jI e]),(1000004,.box 3 [jI o]),(1000005,.box 3 [jI p]),(1000006,.box 85 [jI q,.sl 6 (rowsOf encT54 a),.sl 1 (rowsOf (encI .i64) f),jI g]),(1000007,.box 3 [jI s]),(1000008,.box 3 [jI t])]⟩:St))=some r.st:=by
 unfold f55b_e at h
 obtain ⟨o1,u,h⟩:=bs h
 have i:=f55b_l1_ok k k a ((List.length a):Int) 0 j b l m c d e o p q a f g s t _ u
 simp only [W,simprocAttr,sr 55 0 B55 [] rfl rfl rfl,fieldAddrV,t_85,t_24,t_22,xk B55 [2] (.bk 0) rfl,xk B55 [2,2] .lp rfl,hh_55_1,hc_55_1]
 (try simp only [NM,EE] at i)
 rw [i _ (by simp only [W,simprocAttr,hh_55_1,hc_55_1])]
 clear i
 cases o1 with
 | o0 _ _ _ _ _ _ _ _ _ _ _ _ _ _ _ _ _ _ =>
  (try dsimp only at h)
  cases h
 | o1 v4 v5 v6 v7 v8 v9 v w x y z n aa ab ac ad ae af ag =>
  (try dsimp only at h)
  cases h
  simp only [W,simprocAttr,R55b_l1.st,fin55,R55b.st]
noncomputable def f55b (k:Nat) (h:Int) (a:List T54) (i j:Int) (b:List T54) (c:List Int) (d l m o:Int) (e:List T54) (f:List Int) (g p q:Int):Option R55b:=match k with | 0=>none | k+1=>f55b_e k h a i j b c d l m o e f g p q
theorem f55b_ok (k i a j l b d e m o p f g h q s r) (t:f55b k i a j l b d e m o p f g h q s=some r):CV k 55 [V.yld 1000000,.ptr 1000006 0,.ptr 1000007 0,.ptr 1000008 0] [O.lp 14 105 [(6,.ptr 1000001 0),(9,.ptr 1000002 0),(16,.ptr 1000003 0),(17,.ptr 1000004 0),(18,.ptr 1000005 0)] [74,75] (nav B14 [3,2,2,1,2,2,2,2,2]) (nav B14 [4,2,2,1,2,2,2,2,2]) 0 .norm,.box 24 [jI i,.sl 6 (rowsOf encT54 a)],.box 3 [jI j],.box 85 [jI l,.sl 6 (rowsOf encT54 b),.sl 1 (rowsOf (encI .i64) d),jI e],.box 3 [jI m],.box 3 [jI o],.box 85 [jI p,.sl 6 (rowsOf encT54 f),.sl 1 (rowsOf (encI .i64) g),jI h],.box 3 [jI q],.box 3 [jI s]]=some r.st:=by
 cases k with
 | zero=>cases t
 | succ k =>
  unfold CV
  rw [ev_call (F:=Tryd.f55) (c:=(nav B55 [])) rfl Tryd.func55 rfl rfl rfl rfl]
  exact f55b_e_ok k i a j l b d e m o p f g h q s r t
-- f14: f14 heliograph/plan.Route
inductive R14 where
 | o0 (y a b:Int)
noncomputable def R14.st:R14→V×List O×List O
 | .o0 y a b=>(V.tup [jI y,jI a,jI b],[],[])
noncomputable def f14_j4 (k:Nat) (c:Bool) (a b:Int):Option R14 :=
 some (.o0 a b 0)
theorem f14_j4_ok (k a b c r) (d:f14_j4 k a b c=some r):finK Tryd.prog Tryd.f14 0 (EX 14 k (nav B14 [2,2,2,2,2,2,2]) (⟨105,[(17,.ptr 17 0),(18,.ptr 18 0),(102,jT a)],[(17,.box 3 [jI b]),(18,.box 3 [jI c])]⟩:St))=some r.st:=by
 unfold f14_j4 at d
 cases d
 simp (disch:=first|decide|apply K;kernel_rfl) only [W,simprocAttr,xk B14 [2,2,2,2,2,2,2] .sq rfl,rg B14 [1,2,2,2,2,2,2,2] 16 true rfl,hr 14 16 rfl,t_3,xk B14 [2,2,2,2,2,2,2,2] .rt rfl,fin14,R14.st]
noncomputable def f14_j3 (k:Nat) (a b:Int):Option R14 :=
 cond ((decide (a<0)))
  (some (.o0 0 0 4))
  (f14_j4 k false a b)
theorem f14_j3_ok (k a b r) (c:f14_j3 k a b=some r):finK Tryd.prog Tryd.f14 0 (EX 14 k (nav B14 [2,2,2,2,2,2]) (⟨105,[(17,.ptr 17 0),(18,.ptr 18 0)],[(17,.box 3 [jI a]),(18,.box 3 [jI b])]⟩:St))=some r.st:=by
 unfold f14_j3 at c
 simp only [W,simprocAttr,xk B14 [2,2,2,2,2,2] .sq rfl,sr 14 14 B14 [1,2,2,2,2,2,2] rfl rfl rfl,t_3,xk B14 [2,1,2,2,2,2,2,2] (.cd 102) rfl]
 rcases cond_some c with ⟨d,c⟩ | ⟨d,c⟩
 ·cases c
  simp only [W,simprocAttr,sr 14 15 B14 [2,2,1,2,2,2,2,2,2] rfl rfl rfl,xk B14 [2,2,2,1,2,2,2,2,2,2] .rt rfl,fin14,R14.st,d]
 ·have hJ:=f14_j4_ok k false a b _ c
  simp only [W,simprocAttr,xk B14 [3,2,1,2,2,2,2,2,2] .sk rfl,d]
  try simp only [NM,EE] at hJ
  exact hJ
noncomputable def f14_j2 (k:Nat) (e:List Int) (g h f:Int) (i:Bool) (b:Int) (a:List T54) (j:Int):Option R14 :=
 Option.bind (f37 k b a e f g h) fun o1 =>
  match o1 with
  | .o0 l m o p q s =>
   Option.bind (f55b k b a j b a e f (-1) 0 l m o p q s) fun o10 =>
    match o10 with
    | .o0 t u v w x y z c d r n aa ab ac ad =>
     f14_j3 k c d
theorem f14_j2_ok (k g i j h d e a l r) (b:f14_j2 k g i j h d e a l=some r):finK Tryd.prog Tryd.f14 0 (EX 14 k (nav B14 [2,2,2]) (⟨105,[(1,.sl 1 (rowsOf (encI .i64) g)),(2,jI i),(4,jI j),(5,jI h),(6,.ptr 6 0),(9,.ptr 9 0),(65,jT d)],[(6,.box 24 [jI e,.sl 6 (rowsOf encT54 a)]),(9,.box 3 [jI l])]⟩:St))=some r.st:=by
 unfold f14_j2 at b
 obtain ⟨o1,q,b⟩:=bs b
 have f:=f37_ok k e a g h i j _ q
 cases o1 with
 | o0 s t u v w x =>
  (try dsimp only at b)
  (try simp only [NM,EE,R37.st] at f)
  obtain ⟨o10,m,b⟩:=bs b
  have c:=f55b_ok k e a l e a g h (-1) 0 s t u v w x _ m
  cases o10 with
  | o0 y z n aa ab ac ad o p ae af ag ah ai aj =>
   (try dsimp only at b)
   (try simp only [NM,EE,R55b.st] at c)
   have hJ:=f14_j3_ok k o p _ b
   simp only [W,simprocAttr,sr 14 6 B14 [2,2,2] rfl rfl rfl,t_24,bl_85,t_85,sr 14 7 B14 [2,2,2,2] rfl rfl rfl,t_3,xk B14 [2,2,2,2,2] .sq rfl,sr 14 8 B14 [1,2,2,2,2,2] rfl rfl rfl,callStep,CL,gv,List.contains,xk B14 [2,1,2,2,2,2,2] (.bk 0) rfl,xk B14 [2,2,1,2,2,2,2,2] (.rf (.tmp 73) [74,75] 11) rfl,hh_14_1000011,hk_14_1000011,f,c]
   try simp only [NM,EE] at hJ
   exact hJ
noncomputable def f14_j1 (k:Nat) (b:List Int) (c i j l:Int) (m:Bool) (d:Int) (a:List T54) (e:Int):Option R14 :=
 cond ((((List.length b):Int) != ((List.length a):Int)))
  (some (.o0 0 0 2))
  (
   Option.bind (f34a k b) fun o2 =>
    match o2 with
    | .o0 o =>
     cond (o)
      (some (.o0 0 0 2))
      (
       cond ((decide (j<0)))
        (some (.o0 0 0 2))
        (
         cond ((c==e))
          (some (.o0 0 0 2))
          (
           Option.bind (f36 k c 1 d) fun o9 =>
            match o9 with
            | .o0 f =>
             cond ((!f))
              (some (.o0 0 0 2))
              (
               Option.bind (f36 k e 1 d) fun o14 =>
                match o14 with
                | .o0 g =>
                 cond ((!g))
                  (some (.o0 0 0 2))
                  (
                   Option.bind (f36 k i 0 1048576) fun o19 =>
                    match o19 with
                    | .o0 h =>
                     cond ((!h))
                      (some (.o0 0 0 2))
                      (f14_j2 k b c i j false d a e)))))))
theorem f14_j1_ok (k t u v x p q s i w r) (a:f14_j1 k t u v x p q s i w=some r):finK Tryd.prog Tryd.f14 0 (EX 14 k (nav B14 [2,2]) (⟨105,[(1,.sl 1 (rowsOf (encI .i64) t)),(2,jI u),(4,jI v),(5,jI x),(6,.ptr 6 0),(9,.ptr 9 0),(15,jI p),(26,jT q)],[(6,.box 24 [jI s,.sl 6 (rowsOf encT54 i)]),(9,.box 3 [jI w])]⟩:St))=some r.st:=by
 unfold f14_j1 at a
 simp only [W,simprocAttr,xk B14 [2,2] .sq rfl,sr 14 4 B14 [1,2,2] rfl rfl rfl,t_25,fieldAddrV,t_24,t_22]
 rcases cond_some a with ⟨f,a⟩ | ⟨f,a⟩
 ·cases a
  simp only [W,simprocAttr,xk B14 [2,1,2,2] (.cd 65) rfl,sr 14 5 B14 [2,2,1,2,2] rfl rfl rfl,xk B14 [2,2,2,1,2,2] .rt rfl,fin14,R14.st,f]
 ·obtain ⟨o2,h3,a⟩:=bs a
  have b:=f34a_ok k t _ h3
  cases o2 with
  | o0 v5 =>
   (try dsimp only at a)
   (try simp only [NM,EE,R34a.st] at b)
   simp only [W,simprocAttr,callStep,CL,gv,List.contains,f,b]
   rcases cond_some a with ⟨h,a⟩ | ⟨h,a⟩
   ·cases a
    simp only [W,simprocAttr,xk B14 [2,1,2,2] (.cd 65) rfl,sr 14 5 B14 [2,2,1,2,2] rfl rfl rfl,xk B14 [2,2,2,1,2,2] .rt rfl,fin14,R14.st,f,b,h]
   ·rcases cond_some a with ⟨j,a⟩ | ⟨j,a⟩
    ·cases a
     simp only [W,simprocAttr,xk B14 [2,1,2,2] (.cd 65) rfl,sr 14 5 B14 [2,2,1,2,2] rfl rfl rfl,xk B14 [2,2,2,1,2,2] .rt rfl,fin14,R14.st,f,b,h,j]
    ·simp only [W,simprocAttr,t_3,f,b,h,j]
     rcases cond_some a with ⟨m,a⟩ | ⟨m,a⟩
     ·cases a
      simp only [W,simprocAttr,xk B14 [2,1,2,2] (.cd 65) rfl,sr 14 5 B14 [2,2,1,2,2] rfl rfl rfl,xk B14 [2,2,2,1,2,2] .rt rfl,fin14,R14.st,f,b,h,j,m]
     ·obtain ⟨o9,y,a⟩:=bs a
      have c:=f36_ok k u 1 s _ y
      cases o9 with
      | o0 ab =>
       (try dsimp only at a)
       (try simp only [NM,EE,R36.st] at c)
       simp only [W,simprocAttr,fieldAddrV,t_24,t_3,callStep,CL,gv,List.contains,f,b,h,j,m,c]
       rcases cond_some a with ⟨e,a⟩ | ⟨e,a⟩
       ·cases a
        simp only [W,simprocAttr,xk B14 [2,1,2,2] (.cd 65) rfl,sr 14 5 B14 [2,2,1,2,2] rfl rfl rfl,xk B14 [2,2,2,1,2,2] .rt rfl,fin14,R14.st,f,b,h,j,m,c,e]
       ·obtain ⟨o14,z,a⟩:=bs a
        have d:=f36_ok k w 1 s _ z
        cases o14 with
        | o0 ac =>
         (try dsimp only at a)
         (try simp only [NM,EE,R36.st] at d)
         simp only [W,simprocAttr,t_3,fieldAddrV,t_24,callStep,CL,gv,List.contains,f,b,h,j,m,c,e,d]
         rcases cond_some a with ⟨l,a⟩ | ⟨l,a⟩
         ·cases a
          simp only [W,simprocAttr,xk B14 [2,1,2,2] (.cd 65) rfl,sr 14 5 B14 [2,2,1,2,2] rfl rfl rfl,xk B14 [2,2,2,1,2,2] .rt rfl,fin14,R14.st,f,b,h,j,m,c,e,d,l]
         ·obtain ⟨o19,n,a⟩:=bs a
          have g:=f36_ok k v 0 1048576 _ n
          cases o19 with
          | o0 ad =>
           (try dsimp only at a)
           (try simp only [NM,EE,R36.st] at g)
           simp only [W,simprocAttr,callStep,CL,gv,List.contains,xk B14 [2,1,2,2] (.cd 65) rfl,f,b,h,j,m,c,e,d,l,g]
           rcases cond_some a with ⟨o,a⟩ | ⟨o,a⟩
           ·cases a
            simp only [W,simprocAttr,sr 14 5 B14 [2,2,1,2,2] rfl rfl rfl,xk B14 [2,2,2,1,2,2] .rt rfl,fin14,R14.st,f,b,h,j,m,c,e,d,l,g,o]
           ·have hJ:=f14_j2_ok k t u v x false s i w _ a
            simp only [W,simprocAttr,xk B14 [3,2,1,2,2] .sk rfl,f,b,h,j,m,c,e,d,l,g,o]
            try simp only [NM,EE] at hJ
            exact hJ
noncomputable def f14_e (k:Nat) (c:Int) (a:List T54) (d:List Int) (e f g h:Int):Option R14 :=
 Option.bind (f33 k c a) fun o1 =>
  match o1 with
  | .o0 b =>
   cond ((b != 0))
    (some (.o0 0 0 b))
    (f14_j1 k d e g h b false c a f)
theorem f14_e_ok (k d a e f g h i r) (b:f14_e k d a e f g h i=some r):finK Tryd.prog Tryd.f14 0 (EX 14 k (nav B14 []) (⟨105,[(0,.agg [jI d,.sl 6 (rowsOf encT54 a)]),(1,.sl 1 (rowsOf (encI .i64) e)),(2,jI f),(3,jI g),(4,jI h),(5,jI i)],[]⟩:St))=some r.st:=by
 unfold f14_e at b
 obtain ⟨o1,l,b⟩:=bs b
 have c:=f33_ok k d a _ l
 cases o1 with
 | o0 m =>
  (try dsimp only at b)
  (try simp only [NM,EE,R33.st] at c)
  simp only [W,simprocAttr,sr 14 0 B14 [] rfl rfl rfl,xk B14 [2] .sq rfl,sr 14 1 B14 [1,2] rfl rfl rfl,t_24,callStep,CL,gv,List.contains,sr 14 2 B14 [2,1,2] rfl rfl rfl,xk B14 [2,2,1,2] (.cd 26) rfl,c]
  rcases cond_some b with ⟨j,b⟩ | ⟨j,b⟩
  ·cases b
   simp only [W,simprocAttr,sr 14 3 B14 [2,2,2,1,2] rfl rfl rfl,xk B14 [2,2,2,2,1,2] .rt rfl,fin14,R14.st,c,j]
  ·have hJ:=f14_j1_ok k e f h i m false d a g _ b
   simp only [W,simprocAttr,xk B14 [3,2,2,1,2] .sk rfl,c,j]
   try simp only [NM,EE] at hJ
   exact hJ
noncomputable def f14 (k:Nat) (b:Int) (a:List T54) (c:List Int) (d e f g:Int):Option R14:=match k with | 0=>none | k+1=>f14_e k b a c d e f g
theorem f14_ok (k b a d e f g h r) (i:f14 k b a d e f g h=some r):CV k 14 [.agg [jI b,.sl 6 (rowsOf encT54 a)],.sl 1 (rowsOf (encI .i64) d),jI e,jI f,jI g,jI h] []=some r.st:=by
 cases k with
 | zero=>cases i
 | succ k =>
  unfold CV
  rw [ev_call (F:=Tryd.f14) (c:=(nav B14 [])) rfl Tryd.func14 rfl rfl rfl rfl]
  exact f14_e_ok k b a d e f g h r i
-- f47: f47 heliograph/queue.open
inductive R47 where
 | o0 (y:Bool)
noncomputable def R47.st:R47→V×List O×List O
 | .o0 y=>(jT y,[],[])
noncomputable def f47_e (k:Nat) (g c a b d e f:Int):Option R47 :=
 cond ((decide (a≤f)))
  (some (.o0 (decide (f<b))))
  (some (.o0 false))
theorem f47_e_ok (k h a b c d e i r) (f:f47_e k h a b c d e i=some r):finK Tryd.prog Tryd.f47 0 (EX 47 k (nav B47 []) (⟨15,[(0,.agg [jI h,jI a,jI b,jI c,jI d,jI e]),(1,jI i)],[]⟩:St))=some r.st:=by
 unfold f47_e at f
 simp only [W,simprocAttr,sr 47 0 B47 [] rfl rfl rfl,sr 47 1 B47 [2] rfl rfl rfl,fieldAddrV,t_54,t_3]
 rcases cond_some f with ⟨g,f⟩ | ⟨g,f⟩
 ·cases f
  simp only [W,simprocAttr,fieldAddrV,t_54,t_3,xk B47 [2,2] .rt rfl,fin47,R47.st,g]
 ·cases f
  simp only [W,simprocAttr,xk B47 [2,2] .rt rfl,fin47,R47.st,g]
noncomputable def f47 (k:Nat) (f a b c d e g:Int):Option R47:=match k with | 0=>none | k+1=>f47_e k f a b c d e g
theorem f47_ok (k g a b d e f h r) (i:f47 k g a b d e f h=some r):CV k 47 [.agg [jI g,jI a,jI b,jI d,jI e,jI f],jI h] []=some r.st:=by
 cases k with
 | zero=>cases i
 | succ k =>
  unfold CV
  rw [ev_call (F:=Tryd.f47) (c:=(nav B47 [])) rfl Tryd.func47 rfl rfl rfl rfl]
  exact f47_e_ok k g a b d e f h r i
end Go.Proofs.YtiompmmbjpjjeaaDoorV