/- What the program's functions answer: plain functions,and that the interpreter answers what they do. Written by a program of this session,out of the translation. -/
import Derived.Test.YticggdfaehneeaaVP6
namespace Go.Proofs.YticggdfaehneeaaV
open Go
set_option linter.unusedVariables false
set_option linter.unusedSimpArgs false
set_option maxRecDepth 8000
set_option maxHeartbeats 4000000
-- f62: f62 heliograph/pieces.parts$1
inductive R62 where
 | o0 (y e f g h i j l m o:Int) (a:List Int) (b:List T39) (c:List Int) (d:Int)
 | o1 (y e f g h i j l m o:Int) (a b:List Int) (c:Int) (d:List T39)
noncomputable def R62.st:R62→V×List O×List O
 | .o0 y e f g h i j l m o a b c d=>(V.tup [],[O.lp 25 37 [(2,.ptr 1000001 0),(6,.ptr 1000002 0)] [21,22] (nav B25 [3,2,2,1,2,2,2]) (nav B25 [4,2,2,1,2,2,2]) 0 .norm,.box 39 [jI y,jI e,jU f,jI g,jI h,jI i,jI j,jI l,jI m,jI o,.sl 1 (rowsOf (encI .u8) a)],.box 24 [.own 1000003],.row true 11 39 (rowsOf encT39 b),.box 29 [.sl 1 (rowsOf (encI .u8) c)],.box 3 [jI d]],[])
 | .o1 y e f g h i j l m o a b c d=>(V.tup [],[O.lp 25 37 [(2,.ptr 1000001 0),(6,.ptr 1000002 0)] [21,22] (nav B25 [3,2,2,1,2,2,2]) (nav B25 [4,2,2,1,2,2,2]) 0 .norm,.box 39 [jI y,jI e,jU f,jI g,jI h,jI i,jI j,jI l,jI m,jI o,.sl 1 (rowsOf (encI .u8) a)],.box 24 [.own 2000000],.dead,.box 29 [.sl 1 (rowsOf (encI .u8) b)],.box 3 [jI c]],[.row true 11 39 (rowsOf encT39 d)])
inductive R62_l1 where
 | o0 (y f g h i j l m o p a:Int) (b:List Int) (c:List T39) (d:List Int) (e:Int)
 | o1 (y:Int) (f:Bool) (g h i j l m o p a b:Int) (c:List Int) (d:List T39) (e:List Int) (q:Int)
 | o2 (y:Int) (f:Bool) (g h i j l m o p a b:Int) (c:List Int) (d:List T39) (e:List Int) (q:Int)
noncomputable def R62_l1.st:R62_l1→Out×St
 | .o0 y f g h i j l m o p a b c d e=>(.norm,(⟨28,[(0,V.yld 1000000),(1,.ptr 1000004 0),(2,.ptr 1000005 0),(4,jI y)],[(1000000,O.lp 25 37 [(2,.ptr 1000001 0),(6,.ptr 1000002 0)] [21,22] (nav B25 [3,2,2,1,2,2,2]) (nav B25 [4,2,2,1,2,2,2]) 0 .norm),(1000001,.box 39 [jI f,jI g,jU h,jI i,jI j,jI l,jI m,jI o,jI p,jI a,.sl 1 (rowsOf (encI .u8) b)]),(1000002,.box 24 [.own 25]),(25,.row true 11 39 (rowsOf encT39 c)),(1000004,.box 29 [.sl 1 (rowsOf (encI .u8) d)]),(1000005,.box 3 [jI e]),(1000003,.dead)]⟩:St))
 | .o1 y f g h i j l m o p a b c d e q=>(.exit 0,(⟨28,[(0,V.yld 1000000),(1,.ptr 1000004 0),(2,.ptr 1000005 0),(4,jI y),(9,.p (.bool f))],[(1000000,O.lp 25 37 [(2,.ptr 1000001 0),(6,.ptr 1000002 0)] [21,22] (nav B25 [3,2,2,1,2,2,2]) (nav B25 [4,2,2,1,2,2,2]) 0 .norm),(1000001,.box 39 [jI g,jI h,jU i,jI j,jI l,jI m,jI o,jI p,jI a,jI b,.sl 1 (rowsOf (encI .u8) c)]),(1000002,.box 24 [.own 1000003]),(1000003,.row true 11 39 (rowsOf encT39 d)),(1000004,.box 29 [.sl 1 (rowsOf (encI .u8) e)]),(1000005,.box 3 [jI q])]⟩:St))
 | .o2 y f g h i j l m o p a b c d e q=>(.exit 0,(⟨28,[(0,V.yld 1000000),(1,.ptr 1000004 0),(2,.ptr 1000005 0),(4,jI y),(9,.p (.bool f))],[(1000000,O.lp 25 37 [(2,.ptr 1000001 0),(6,.ptr 1000002 0)] [21,22] (nav B25 [3,2,2,1,2,2,2]) (nav B25 [4,2,2,1,2,2,2]) 0 .norm),(1000001,.box 39 [jI g,jI h,jU i,jI j,jI l,jI m,jI o,jI p,jI a,jI b,.sl 1 (rowsOf (encI .u8) c)]),(1000002,.box 24 [.own 30003]),(30003,.row true 11 39 (rowsOf encT39 d)),(1000004,.box 29 [.sl 1 (rowsOf (encI .u8) e)]),(1000005,.box 3 [jI q]),(1000003,.dead)]⟩:St))
noncomputable def f62_l1_j2 (k:Nat) (m:Int) (o:Bool) (p b c d e f g h i j:Int) (a:List Int) (l:List T39) (q:List Int) (s:Int):Option R62_l1 :=
 some (.o0 m p b c d e f g h i j a l q s)
theorem f62_l1_j2_ok (k o l p b c d e f g h i j a m q s r) (t:f62_l1_j2 k o l p b c d e f g h i j a m q s=some r):blockK 1 (EX 62 k (nav B62 [2,2,2,2,1,2,2]) (⟨28,[(0,V.yld 1000000),(1,.ptr 1000004 0),(2,.ptr 1000005 0),(5,jI o),(26,.p (.bool l))],[(1000000,O.lp 25 37 [(2,.ptr 1000001 0),(6,.ptr 1000002 0)] [21,22] (nav B25 [3,2,2,1,2,2,2]) (nav B25 [4,2,2,1,2,2,2]) 0 .norm),(1000001,.box 39 [jI p,jI b,jU c,jI d,jI e,jI f,jI g,jI h,jI i,jI j,.sl 1 (rowsOf (encI .u8) a)]),(1000002,.box 24 [.own 25]),(25,.row true 11 39 (rowsOf encT39 m)),(1000004,.box 29 [.sl 1 (rowsOf (encI .u8) q)]),(1000005,.box 3 [jI s]),(1000003,.dead)]⟩:St))=some r.st:=by
 unfold f62_l1_j2 at t
 cases t
 simp (disch:=first|apply D;decide|apply K;kernel_rfl) only [E,EE,↓reduceIte,simprocAttr,rg B62 [2,2,2,2,1,2,2] 4 false rfl,hr 62 4 rfl,R62_l1.st]
noncomputable def f62_l1_j1 (k:Nat) (a:Int) (x9:Bool) (r e f g h i j l m o:Int) (d:List Int) (n:List T39) (b:List Int) (c:Int):Option R62_l1 :=
 ifE ((0:Int)≤a) (
  ifE ((0:Int)≤(IntKind.i64.wrap ((if (IntKind.i64.wrap (((List.length b):Int) - a))<c then (IntKind.i64.wrap (((List.length b):Int) - a)) else c)+a))) (
   ifE ((Int.toNat a)≤(Int.toNat ((IntKind.i64.wrap ((if (IntKind.i64.wrap (((List.length b):Int) - a))<c then (IntKind.i64.wrap (((List.length b):Int) - a)) else c)+a))))) (
    ifE ((Int.toNat ((IntKind.i64.wrap ((if (IntKind.i64.wrap (((List.length b):Int) - a))<c then (IntKind.i64.wrap (((List.length b):Int) - a)) else c)+a))))≤(List.length b)) (
     Option.bind (f999999999 k a ((List.drop (Int.toNat a) ((List.take ((Int.toNat ((IntKind.i64.wrap ((if (IntKind.i64.wrap (((List.length b):Int) - a))<c then (IntKind.i64.wrap (((List.length b):Int) - a)) else c)+a))))) b)))) r e f g h i j l m o d n) fun o5 =>
      match o5 with
      | .o0 v8 v9 p q s t u v w x y z =>
       f62_l1_j2 k ((IntKind.i64.wrap ((if (IntKind.i64.wrap (((List.length b):Int) - a))<c then (IntKind.i64.wrap (((List.length b):Int) - a)) else c)+a))) false v8 v9 p q s t u v w x y z b c))))
theorem f62_l1_j1_ok (k m x9 s c d e f g h i j l a t o p r) (b:f62_l1_j1 k m x9 s c d e f g h i j l a t o p=some r):EX 62 k (nav B62 [2,1,2,2]) (⟨28,[(0,V.yld 1000000),(1,.ptr 1000004 0),(2,.ptr 1000005 0),(4,jI m),(9,.p (.bool x9))],[(1000000,O.lp 25 37 [(2,.ptr 1000001 0),(6,.ptr 1000002 0)] [21,22] (nav B25 [3,2,2,1,2,2,2]) (nav B25 [4,2,2,1,2,2,2]) 0 .norm),(1000001,.box 39 [jI s,jI c,jU d,jI e,jI f,jI g,jI h,jI i,jI j,jI l,.sl 1 (rowsOf (encI .u8) a)]),(1000002,.box 24 [.own 1000003]),(1000003,.row true 11 39 (rowsOf encT39 t)),(1000004,.box 29 [.sl 1 (rowsOf (encI .u8) o)]),(1000005,.box 3 [jI p])]⟩:St)=some r.st:=by
 unfold f62_l1_j1 at b
 obtain ⟨h1,b⟩:=ifE_some.1 b
 obtain ⟨h2,b⟩:=ifE_some.1 b
 obtain ⟨h3,b⟩:=ifE_some.1 b
 obtain ⟨h4,b⟩:=ifE_some.1 b
 obtain ⟨o5,h6,b⟩:=bs b
 have q:=f999999999_ok k m ((List.drop (Int.toNat m) ((List.take ((Int.toNat ((IntKind.i64.wrap ((if (IntKind.i64.wrap (((List.length o):Int) - m))<p then (IntKind.i64.wrap (((List.length o):Int) - m)) else p)+m))))) o)))) s c d e f g h i j l a t _ h6
 cases o5 with
 | o0 v8 v9 u v w x y z n aa ab ac =>
  (try dsimp only at b)
  (try simp only [NM,EE,R999999999.st] at q)
  have hJ:=f62_l1_j2_ok k ((IntKind.i64.wrap ((if (IntKind.i64.wrap (((List.length o):Int) - m))<p then (IntKind.i64.wrap (((List.length o):Int) - m)) else p)+m))) false v8 v9 u v w x y z n aa ab ac o p _ b
  simp (disch:=first|apply D;decide|apply K;kernel_rfl) only [E,EE,↓reduceIte,simprocAttr,xk B62 [2,1,2,2] (.bk 1) rfl,xk B62 [2,2,1,2,2] .sq rfl,rg B62 [1,2,2,1,2,2] 2 false rfl,hr 62 2 rfl,t_3,t_29,minmaxV,minmaxGo,xk B62 [2,2,2,1,2,2] .sq rfl,xk B62 [1,2,2,2,1,2,2] .sq rfl,rg B62 [1,1,2,2,2,1,2,2] 3 false rfl,hr 62 3 rfl,sliceV,bound,t_5,callStep,CL,gv,List.contains,xk B62 [2,1,2,2,2,1,2,2] (.cd 26) rfl,xk B62 [3,2,1,2,2,2,1,2,2] .sk rfl,h1,h2,h3,h4,q]
  try simp only [NM,EE] at hJ
  exact hJ
noncomputable def f62_l1_b (k:Nat) (l o b c d e f g h i j:Int) (a:List Int) (p:List T39) (m:List Int) (q:Int):Option R62_l1 :=
 cond ((decide (l<((List.length m):Int))))
  (f62_l1_j1 k l true o b c d e f g h i j a p m q)
  (some (.o1 l false o b c d e f g h i j a p m q))
theorem f62_l1_b_ok (k m o b c d e f g h i j a p q s r) (l:f62_l1_b k m o b c d e f g h i j a p q s=some r):EX 62 k (nav B62 [1,2,2]) (⟨28,[(0,V.yld 1000000),(1,.ptr 1000004 0),(2,.ptr 1000005 0),(4,jI m)],[(1000000,O.lp 25 37 [(2,.ptr 1000001 0),(6,.ptr 1000002 0)] [21,22] (nav B25 [3,2,2,1,2,2,2]) (nav B25 [4,2,2,1,2,2,2]) 0 .norm),(1000001,.box 39 [jI o,jI b,jU c,jI d,jI e,jI f,jI g,jI h,jI i,jI j,.sl 1 (rowsOf (encI .u8) a)]),(1000002,.box 24 [.own 1000003]),(1000003,.row true 11 39 (rowsOf encT39 p)),(1000004,.box 29 [.sl 1 (rowsOf (encI .u8) q)]),(1000005,.box 3 [jI s])]⟩:St)=some r.st:=by
 unfold f62_l1_b at l
 simp (disch:=first|apply D;decide|apply K;kernel_rfl) only [E,EE,↓reduceIte,simprocAttr,xk B62 [1,2,2] .sq rfl,xk B62 [1,1,2,2] .sq rfl,rg B62 [1,1,1,2,2] 1 false rfl,hr 62 1 rfl,t_29,xk B62 [2,1,1,2,2] (.cd 9) rfl]
 rcases cond_some l with ⟨t,l⟩ | ⟨t,l⟩
 ·have hJ:=f62_l1_j1_ok k m true o b c d e f g h i j a p q s _ l
  simp (disch:=first|apply D;decide|apply K;kernel_rfl) only [E,EE,↓reduceIte,simprocAttr,xk B62 [2,2,1,1,2,2] .sk rfl,t]
  try simp only [NM,EE] at hJ
  exact hJ
 ·cases l
  simp (disch:=first|apply D;decide|apply K;kernel_rfl) only [E,EE,↓reduceIte,simprocAttr,xk B62 [3,2,1,1,2,2] (.ex 0) rfl,R62_l1.st,t]
inductive R62_l2 where
 | o0 (y f g h i j l m o p a:Int) (b:List Int) (c:List T39) (d:List Int) (e:Int)
 | o1 (y:Int) (f:Bool) (g h i j l m o p a b:Int) (c:List Int) (d:List T39) (e:List Int) (q:Int)
noncomputable def R62_l2.st:R62_l2→Out×St
 | .o0 y f g h i j l m o p a b c d e=>(.norm,(⟨28,[(0,V.yld 1000000),(1,.ptr 1000004 0),(2,.ptr 1000005 0),(4,jI y)],[(1000000,O.lp 25 37 [(2,.ptr 1000001 0),(6,.ptr 1000002 0)] [21,22] (nav B25 [3,2,2,1,2,2,2]) (nav B25 [4,2,2,1,2,2,2]) 0 .norm),(1000001,.box 39 [jI f,jI g,jU h,jI i,jI j,jI l,jI m,jI o,jI p,jI a,.sl 1 (rowsOf (encI .u8) b)]),(1000002,.box 24 [.own 25]),(25,.row true 11 39 (rowsOf encT39 c)),(1000004,.box 29 [.sl 1 (rowsOf (encI .u8) d)]),(1000005,.box 3 [jI e]),(1000003,.dead)]⟩:St))
 | .o1 y f g h i j l m o p a b c d e q=>(.exit 0,(⟨28,[(0,V.yld 1000000),(1,.ptr 1000004 0),(2,.ptr 1000005 0),(4,jI y),(9,.p (.bool f))],[(1000000,O.lp 25 37 [(2,.ptr 1000001 0),(6,.ptr 1000002 0)] [21,22] (nav B25 [3,2,2,1,2,2,2]) (nav B25 [4,2,2,1,2,2,2]) 0 .norm),(1000001,.box 39 [jI g,jI h,jU i,jI j,jI l,jI m,jI o,jI p,jI a,jI b,.sl 1 (rowsOf (encI .u8) c)]),(1000002,.box 24 [.own 30003]),(30003,.row true 11 39 (rowsOf encT39 d)),(1000004,.box 29 [.sl 1 (rowsOf (encI .u8) e)]),(1000005,.box 3 [jI q]),(1000003,.dead)]⟩:St))
noncomputable def f62_l2_j2 (k:Nat) (m:Int) (o:Bool) (p b c d e f g h i j:Int) (a:List Int) (l:List T39) (q:List Int) (s:Int):Option R62_l2 :=
 some (.o0 m p b c d e f g h i j a l q s)
theorem f62_l2_j2_ok (k o l p b c d e f g h i j a m q s r) (t:f62_l2_j2 k o l p b c d e f g h i j a m q s=some r):blockK 1 (EX 62 k (nav B62 [2,2,2,2,1,2,2]) (⟨28,[(0,V.yld 1000000),(1,.ptr 1000004 0),(2,.ptr 1000005 0),(5,jI o),(26,.p (.bool l))],[(1000000,O.lp 25 37 [(2,.ptr 1000001 0),(6,.ptr 1000002 0)] [21,22] (nav B25 [3,2,2,1,2,2,2]) (nav B25 [4,2,2,1,2,2,2]) 0 .norm),(1000001,.box 39 [jI p,jI b,jU c,jI d,jI e,jI f,jI g,jI h,jI i,jI j,.sl 1 (rowsOf (encI .u8) a)]),(1000002,.box 24 [.own 25]),(25,.row true 11 39 (rowsOf encT39 m)),(1000004,.box 29 [.sl 1 (rowsOf (encI .u8) q)]),(1000005,.box 3 [jI s]),(1000003,.dead)]⟩:St))=some r.st:=by
 unfold f62_l2_j2 at t
 cases t
 simp (disch:=first|apply D;decide|apply K;kernel_rfl) only [E,EE,↓reduceIte,simprocAttr,rg B62 [2,2,2,2,1,2,2] 4 false rfl,hr 62 4 rfl,R62_l2.st]
noncomputable def f62_l2_j1 (k:Nat) (a:Int) (x9:Bool) (n e f g h i j l m o:Int) (d:List Int) (p:List T39) (b:List Int) (c:Int):Option R62_l2 :=
 ifE ((0:Int)≤a) (
  ifE ((0:Int)≤(IntKind.i64.wrap ((if (IntKind.i64.wrap (((List.length b):Int) - a))<c then (IntKind.i64.wrap (((List.length b):Int) - a)) else c)+a))) (
   ifE ((Int.toNat a)≤(Int.toNat ((IntKind.i64.wrap ((if (IntKind.i64.wrap (((List.length b):Int) - a))<c then (IntKind.i64.wrap (((List.length b):Int) - a)) else c)+a))))) (
    ifE ((Int.toNat ((IntKind.i64.wrap ((if (IntKind.i64.wrap (((List.length b):Int) - a))<c then (IntKind.i64.wrap (((List.length b):Int) - a)) else c)+a))))≤(List.length b)) (
     Option.bind (f999999999 k a ((List.drop (Int.toNat a) ((List.take ((Int.toNat ((IntKind.i64.wrap ((if (IntKind.i64.wrap (((List.length b):Int) - a))<c then (IntKind.i64.wrap (((List.length b):Int) - a)) else c)+a))))) b)))) n e f g h i j l m o d p) fun o5 =>
      match o5 with
      | .o0 v8 v9 q s t u v w x y z r =>
       f62_l2_j2 k ((IntKind.i64.wrap ((if (IntKind.i64.wrap (((List.length b):Int) - a))<c then (IntKind.i64.wrap (((List.length b):Int) - a)) else c)+a))) false v8 v9 q s t u v w x y z r b c))))
theorem f62_l2_j1_ok (k m x9 t c d e f g h i j l a p o q r) (b:f62_l2_j1 k m x9 t c d e f g h i j l a p o q=some r):EX 62 k (nav B62 [2,1,2,2]) (⟨28,[(0,V.yld 1000000),(1,.ptr 1000004 0),(2,.ptr 1000005 0),(4,jI m),(9,.p (.bool x9))],[(1000000,O.lp 25 37 [(2,.ptr 1000001 0),(6,.ptr 1000002 0)] [21,22] (nav B25 [3,2,2,1,2,2,2]) (nav B25 [4,2,2,1,2,2,2]) 0 .norm),(1000001,.box 39 [jI t,jI c,jU d,jI e,jI f,jI g,jI h,jI i,jI j,jI l,.sl 1 (rowsOf (encI .u8) a)]),(1000002,.box 24 [.own 30003]),(30003,.row true 11 39 (rowsOf encT39 p)),(1000004,.box 29 [.sl 1 (rowsOf (encI .u8) o)]),(1000005,.box 3 [jI q]),(1000003,.dead)]⟩:St)=some r.st:=by
 unfold f62_l2_j1 at b
 obtain ⟨h1,b⟩:=ifE_some.1 b
 obtain ⟨h2,b⟩:=ifE_some.1 b
 obtain ⟨h3,b⟩:=ifE_some.1 b
 obtain ⟨h4,b⟩:=ifE_some.1 b
 obtain ⟨o5,h6,b⟩:=bs b
 have s:=f999999999_ok k m ((List.drop (Int.toNat m) ((List.take ((Int.toNat ((IntKind.i64.wrap ((if (IntKind.i64.wrap (((List.length o):Int) - m))<q then (IntKind.i64.wrap (((List.length o):Int) - m)) else q)+m))))) o)))) t c d e f g h i j l a p _ h6
 cases o5 with
 | o0 v8 v9 u v w x y z n aa ab ac =>
  (try dsimp only at b)
  (try simp only [NM,EE,R999999999.st] at s)
  have hJ:=f62_l2_j2_ok k ((IntKind.i64.wrap ((if (IntKind.i64.wrap (((List.length o):Int) - m))<q then (IntKind.i64.wrap (((List.length o):Int) - m)) else q)+m))) false v8 v9 u v w x y z n aa ab ac o q _ b
  simp (disch:=first|apply D;decide|apply K;kernel_rfl) only [E,EE,↓reduceIte,simprocAttr,xk B62 [2,1,2,2] (.bk 1) rfl,xk B62 [2,2,1,2,2] .sq rfl,rg B62 [1,2,2,1,2,2] 2 false rfl,hr 62 2 rfl,t_3,t_29,minmaxV,minmaxGo,xk B62 [2,2,2,1,2,2] .sq rfl,xk B62 [1,2,2,2,1,2,2] .sq rfl,rg B62 [1,1,2,2,2,1,2,2] 3 false rfl,hr 62 3 rfl,sliceV,bound,t_5,callStep,CL,gv,List.contains,xk B62 [2,1,2,2,2,1,2,2] (.cd 26) rfl,xk B62 [3,2,1,2,2,2,1,2,2] .sk rfl,h1,h2,h3,h4,s]
  try simp only [NM,EE] at hJ
  exact hJ
noncomputable def f62_l2_b (k:Nat) (m p b c d e f g h i j:Int) (a:List Int) (l:List T39) (o:List Int) (q:Int):Option R62_l2 :=
 cond ((decide (m<((List.length o):Int))))
  (f62_l2_j1 k m true p b c d e f g h i j a l o q)
  (some (.o1 m false p b c d e f g h i j a l o q))
theorem f62_l2_b_ok (k o p b c d e f g h i j a l q s r) (m:f62_l2_b k o p b c d e f g h i j a l q s=some r):EX 62 k (nav B62 [1,2,2]) (⟨28,[(0,V.yld 1000000),(1,.ptr 1000004 0),(2,.ptr 1000005 0),(4,jI o)],[(1000000,O.lp 25 37 [(2,.ptr 1000001 0),(6,.ptr 1000002 0)] [21,22] (nav B25 [3,2,2,1,2,2,2]) (nav B25 [4,2,2,1,2,2,2]) 0 .norm),(1000001,.box 39 [jI p,jI b,jU c,jI d,jI e,jI f,jI g,jI h,jI i,jI j,.sl 1 (rowsOf (encI .u8) a)]),(1000002,.box 24 [.own 30003]),(30003,.row true 11 39 (rowsOf encT39 l)),(1000004,.box 29 [.sl 1 (rowsOf (encI .u8) q)]),(1000005,.box 3 [jI s]),(1000003,.dead)]⟩:St)=some r.st:=by
 unfold f62_l2_b at m
 simp (disch:=first|apply D;decide|apply K;kernel_rfl) only [E,EE,↓reduceIte,simprocAttr,xk B62 [1,2,2] .sq rfl,xk B62 [1,1,2,2] .sq rfl,rg B62 [1,1,1,2,2] 1 false rfl,hr 62 1 rfl,t_29,xk B62 [2,1,1,2,2] (.cd 9) rfl]
 rcases cond_some m with ⟨t,m⟩ | ⟨t,m⟩
 ·have hJ:=f62_l2_j1_ok k o true p b c d e f g h i j a l q s _ m
  simp (disch:=first|apply D;decide|apply K;kernel_rfl) only [E,EE,↓reduceIte,simprocAttr,xk B62 [2,2,1,1,2,2] .sk rfl,t]
  try simp only [NM,EE] at hJ
  exact hJ
 ·cases m
  simp (disch:=first|apply D;decide|apply K;kernel_rfl) only [E,EE,↓reduceIte,simprocAttr,xk B62 [3,2,1,1,2,2] (.ex 0) rfl,R62_l2.st,t]
noncomputable def f62_l2 (k:Nat):Nat→Int→Int→Int→Int→Int→Int→Int→Int→Int→Int→Int→(List Int)→(List T39)→(List Int)→Int→Option R62_l2
 | 0,_,_,_,_,_,_,_,_,_,_,_,_,_,_,_=>none
 | n+1,x4,e1,t,u,v,w,x,z,r,aa,ab,f,ad,e4,e5=>Option.bind (f62_l2_b k x4 e1 t u v w x z r aa ab f ad e4 e5) fun o =>
  match o with
  | .o0 y g h i j l m p q s a b c d e=>f62_l2 k n y g h i j l m p q s a b c d e
  | .o1 y g h i j l m p q s a b c d e ac=>some (.o1 y g h i j l m p q s a b c d e ac)
theorem f62_l2_ok (k n:Nat):∀ (w x b c d e f g i j l:Int) (a:List Int) (m:List T39) (z:List Int) (e5:Int) (r:R62_l2) (p:f62_l2 k n w x b c d e f g i j l a m z e5=some r) (σ:St) (hσ:headR (hints.head 62 1) (hints.canon 62 1) σ=some (⟨28,[(0,V.yld 1000000),(1,.ptr 1000004 0),(2,.ptr 1000005 0),(4,jI w)],[(1000000,O.lp 25 37 [(2,.ptr 1000001 0),(6,.ptr 1000002 0)] [21,22] (nav B25 [3,2,2,1,2,2,2]) (nav B25 [4,2,2,1,2,2,2]) 0 .norm),(1000001,.box 39 [jI x,jI b,jU c,jI d,jI e,jI f,jI g,jI i,jI j,jI l,.sl 1 (rowsOf (encI .u8) a)]),(1000002,.box 24 [.own 30003]),(30003,.row true 11 39 (rowsOf encT39 m)),(1000004,.box 29 [.sl 1 (rowsOf (encI .u8) z)]),(1000005,.box 3 [jI e5]),(1000003,.dead)]⟩:St)),LP 62 k (nav B62 [1,2,2]) n σ=some r.st:=by
 induction n with
 | zero=>intro w x b c d e f g i j l a m z e5 r p;cases p
 | succ n ih =>
  intro w x b c d e f g i j l a m z e5 r p σ hσ
  rw [f62_l2] at p
  obtain ⟨o,h,p⟩:=Option.bind_eq_some_iff.1 p
  have hB:=f62_l2_b_ok k w x b c d e f g i j l a m z e5 o h
  unfold LP at ih ⊢
  unfold EX at hB
  rw [loopK_succ,show firstReg (nav B62 [1,2,2])=1 from rfl,hσ,headK_some,hB]
  cases o with
  | o0 y ab ac ad ae af ag ah ai aj q s t u v =>
   refine ih y ab ac ad ae af ag ah ai aj q s t u v r p _ ?_
   simp (disch:=first|apply D;decide|apply K;kernel_rfl) only [E,EE,↓reduceIte,simprocAttr,hh_62_1,hc_62_1]
  | o1 y ab ac ad ae af ag ah ai aj q s t u v al=>cases p;rfl
noncomputable def f62_l1 (k:Nat):Nat→Int→Int→Int→Int→Int→Int→Int→Int→Int→Int→Int→(List Int)→(List T39)→(List Int)→Int→Option R62_l1
 | 0,_,_,_,_,_,_,_,_,_,_,_,_,_,_,_=>none
 | n+1,x4,e1,u,v,w,x,z,r,aa,ab,ac,t,e3,e4,e5=>Option.bind (f62_l1_b k x4 e1 u v w x z r aa ab ac t e3 e4 e5) fun o =>
  match o with
  | .o0 y f g h i j l m p q a b c d e=>Option.bind (f62_l2 k n y f g h i j l m p q a b c d e) fun o2 =>
   match o2 with
   | .o0 z0 z1 z2 z3 z4 z5 z6 z7 z8 z9 ad ae af ag ah=>none
   | .o1 z0 z1 z2 z3 z4 z5 z6 z7 z8 z9 ad ae af ag ah ai=>some (.o2 z0 z1 z2 z3 z4 z5 z6 z7 z8 z9 ad ae af ag ah ai)
  | .o1 y f g h i j l m p q a b c d e s=>some (.o1 y f g h i j l m p q a b c d e s)
  | .o2 y f g h i j l m p q a b c d e s=>some (.o2 y f g h i j l m p q a b c d e s)
theorem f62_l1_ok (k n:Nat):∀ (x4 e1 b c d e f g i j l:Int) (a:List Int) (e3:List T39) (e4:List Int) (e5:Int) (r:R62_l1) (m:f62_l1 k n x4 e1 b c d e f g i j l a e3 e4 e5=some r) (σ:St) (hσ:headR (hints.head 62 1) (hints.canon 62 1) σ=some (⟨28,[(0,V.yld 1000000),(1,.ptr 1000004 0),(2,.ptr 1000005 0),(4,jI x4)],[(1000000,O.lp 25 37 [(2,.ptr 1000001 0),(6,.ptr 1000002 0)] [21,22] (nav B25 [3,2,2,1,2,2,2]) (nav B25 [4,2,2,1,2,2,2]) 0 .norm),(1000001,.box 39 [jI e1,jI b,jU c,jI d,jI e,jI f,jI g,jI i,jI j,jI l,.sl 1 (rowsOf (encI .u8) a)]),(1000002,.box 24 [.own 1000003]),(1000003,.row true 11 39 (rowsOf encT39 e3)),(1000004,.box 29 [.sl 1 (rowsOf (encI .u8) e4)]),(1000005,.box 3 [jI e5])]⟩:St)),LP 62 k (nav B62 [1,2,2]) n σ=some r.st:=by
 induction n with
 | zero=>intro x4 e1 b c d e f g i j l a e3 e4 e5 r m;cases m
 | succ n ih =>
  intro x4 e1 b c d e f g i j l a e3 e4 e5 r m σ hσ
  rw [f62_l1] at m
  obtain ⟨o,h,m⟩:=Option.bind_eq_some_iff.1 m
  have hB:=f62_l1_b_ok k x4 e1 b c d e f g i j l a e3 e4 e5 o h
  unfold LP at ih ⊢
  unfold EX at hB
  rw [loopK_succ,show firstReg (nav B62 [1,2,2])=1 from rfl,hσ,headK_some,hB]
  cases o with
  | o0 y v w x z aa ab ac ad ae p q s t u =>
   obtain ⟨o2,h2,m⟩:=bs m
   refine Eq.trans (f62_l2_ok k n y v w x z aa ab ac ad ae p q s t u o2 h2 _ ?_) ?_
   ·simp (disch:=first|apply D;decide|apply K;kernel_rfl) only [E,EE,↓reduceIte,simprocAttr,hh_62_1,hc_62_1]
   ·cases o2<;>first | (cases m;rfl) | cases m
  | o1 y v w x z aa ab ac ad ae p q s t u ak=>cases m;rfl
  | o2 y v w x z aa ab ac ad ae p q s t u ak=>cases m;rfl
noncomputable def f62_e (k:Nat) (e1 b c d e f g h i j:Int) (a:List Int) (e3:List T39) (e4:List Int) (e5:Int):Option R62 :=
 Option.bind (f62_l1 k k 0 e1 b c d e f g h i j a e3 e4 e5) fun o1 =>
  match o1 with
  | .o0 _ _ _ _ _ _ _ _ _ _ _ _ _ _ _ =>
   none
  | .o1 v4 v5 v6 v7 v8 v9 l m o p q s t u v w =>
   some (.o0 v6 v7 v8 v9 l m o p q s t u v w)
  | .o2 ar au x y z r n aa ab ac ad ae af ag ah ai =>
   some (.o1 x y z r n aa ab ac ad ae af ah ai ag)
theorem f62_e_ok (k o b c d e f g h i j a p q s r) (l:f62_e k o b c d e f g h i j a p q s=some r):finK Try.prog Try.f62 6 (EX 62 k (nav B62 []) (⟨28,[(0,V.yld 1000000),(1,.ptr 1000004 0),(2,.ptr 1000005 0)],[(1000000,O.lp 25 37 [(2,.ptr 1000001 0),(6,.ptr 1000002 0)] [21,22] (nav B25 [3,2,2,1,2,2,2]) (nav B25 [4,2,2,1,2,2,2]) 0 .norm),(1000001,.box 39 [jI o,jI b,jU c,jI d,jI e,jI f,jI g,jI h,jI i,jI j,.sl 1 (rowsOf (encI .u8) a)]),(1000002,.box 24 [.own 1000003]),(1000003,.row true 11 39 (rowsOf encT39 p)),(1000004,.box 29 [.sl 1 (rowsOf (encI .u8) q)]),(1000005,.box 3 [jI s])]⟩:St))=some r.st:=by
 unfold f62_e at l
 obtain ⟨o1,t,l⟩:=bs l
 have m:=f62_l1_ok k k 0 o b c d e f g h i j a p q s _ t
 simp (disch:=first|apply D;decide|apply K;kernel_rfl) only [E,EE,↓reduceIte,simprocAttr,xk B62 [] .sq rfl,rg B62 [1] 0 false rfl,hr 62 0 rfl,xk B62 [2] (.bk 0) rfl,xk B62 [2,2] .lp rfl,hh_62_1,hc_62_1]
 (try simp only [NM,EE] at m)
 rw [m _ (by simp (disch:=first|apply D;decide|apply K;kernel_rfl) only [E,EE,↓reduceIte,simprocAttr,hh_62_1,hc_62_1])]
 clear m
 cases o1 with
 | o0 _ _ _ _ _ _ _ _ _ _ _ _ _ _ _ =>
  (try dsimp only at l)
  cases l
 | o1 v4 v5 v6 v7 v8 v9 u v w x y z n aa ab ac =>
  (try dsimp only at l)
  cases l
  simp (disch:=first|apply D;decide|apply K;kernel_rfl) only [E,EE,↓reduceIte,simprocAttr,R62_l1.st,fin62,R62.st]
 | o2 ad ae af ag ah ai aj ak al am an ao ap aq ar au =>
  (try dsimp only at l)
  cases l
  simp (disch:=first|apply D;decide|apply K;kernel_rfl) only [E,EE,↓reduceIte,simprocAttr,R62_l1.st,fin62,R62.st]
noncomputable def f62 (k:Nat) (l b c d e f g h i j:Int) (a:List Int) (m:List T39) (o:List Int) (p:Int):Option R62:=match k with | 0=>none | k+1=>f62_e k l b c d e f g h i j a m o p
theorem f62_ok (k m b d e f g h i j l a o p q r) (s:f62 k m b d e f g h i j l a o p q=some r):CV k 62 [V.yld 1000000,.ptr 1000004 0,.ptr 1000005 0] [O.lp 25 37 [(2,.ptr 1000001 0),(6,.ptr 1000002 0)] [21,22] (nav B25 [3,2,2,1,2,2,2]) (nav B25 [4,2,2,1,2,2,2]) 0 .norm,.box 39 [jI m,jI b,jU d,jI e,jI f,jI g,jI h,jI i,jI j,jI l,.sl 1 (rowsOf (encI .u8) a)],.box 24 [.own 1000003],.row true 11 39 (rowsOf encT39 o),.box 29 [.sl 1 (rowsOf (encI .u8) p)],.box 3 [jI q]]=some r.st:=by
 cases k with
 | zero=>cases s
 | succ k =>
  unfold CV
  rw [ev_call (F:=Try.f62) (c:=(nav B62 [])) rfl Try.func62 rfl rfl rfl rfl]
  exact f62_e_ok k m b d e f g h i j l a o p q r s
-- f25: f25 heliograph/pieces.Cut
inductive R25 where
 | o0 (y:Int) (a:List T39)
noncomputable def R25.st:R25→V×List O×List O
 | .o0 y a=>(V.tup [.own 2000000,jI y],[],[.row true 11 39 (rowsOf encT39 a)])
noncomputable def f25_j2 (k:Nat) (a:List T39):Option R25 :=
 some (.o0 0 a)
theorem f25_j2_ok (k a r) (b:f25_j2 k a=some r):finK Try.prog Try.f25 0 (EX 25 k (nav B25 [2,2,2,2]) (⟨37,[(6,.ptr 6 0)],[(6,.box 24 [.own 700320]),(700320,.row true 11 39 (rowsOf encT39 a))]⟩:St))=some r.st:=by
 unfold f25_j2 at b
 cases b
 simp (disch:=first|apply D;decide|apply K;kernel_rfl) only [E,EE,↓reduceIte,simprocAttr,xk B25 [2,2,2,2] .sq rfl,rg B25 [1,2,2,2,2] 13 false rfl,hr 25 13 rfl,t_24,xk B25 [2,2,2,2,2] .rt rfl,fin25,R25.st]
noncomputable def f25_j3 (k:Nat) (a:List T39):Option R25 :=
 some (.o0 0 a)
theorem f25_j3_ok (k a r) (b:f25_j3 k a=some r):finK Try.prog Try.f25 0 (EX 25 k (nav B25 [2,2,2,2]) (⟨37,[(6,.ptr 6 0)],[(6,.box 24 [.own 500009]),(500009,.row true 11 39 (rowsOf encT39 a))]⟩:St))=some r.st:=by
 unfold f25_j3 at b
 cases b
 simp (disch:=first|apply D;decide|apply K;kernel_rfl) only [E,EE,↓reduceIte,simprocAttr,xk B25 [2,2,2,2] .sq rfl,rg B25 [1,2,2,2,2] 13 false rfl,hr 25 13 rfl,t_24,xk B25 [2,2,2,2,2] .rt rfl,fin25,R25.st]
noncomputable def f25_j1 (k:Nat) (o:Int) (p:Bool) (q b c d e f g h i j:Int) (a:List Int):Option R25 :=
 Option.bind (f46 k a o) fun o1 =>
  match o1 with
  | .o0 s t =>
   Option.bind (f62 k q b c d e f g h i j a [] s t) fun o6 =>
    match o6 with
    | .o0 v9 u v w x y z r n aa ab l ac ad =>
     f25_j2 k l
    | .o1 ae af ag ah ai aj ak al am an ao ap aq m =>
     f25_j3 k m
theorem f25_j1_ok (k q p s b c d e f g h i j a r) (l:f25_j1 k q p s b c d e f g h i j a=some r):finK Try.prog Try.f25 0 (EX 25 k (nav B25 [2,2]) (⟨37,[(1,jI q),(2,.ptr 2 0),(14,.p (.bool p))],[(2,.box 39 [jI s,jI b,jU c,jI d,jI e,jI f,jI g,jI h,jI i,jI j,.sl 1 (rowsOf (encI .u8) a)])]⟩:St))=some r.st:=by
 unfold f25_j1 at l
 obtain ⟨o1,v,l⟩:=bs l
 have m:=f46_ok k a q _ v
 cases o1 with
 | o0 w x =>
  (try dsimp only at l)
  (try simp only [NM,EE,R46.st] at m)
  simp (disch:=first|apply D;decide|apply K;kernel_rfl) only [E,EE,↓reduceIte,simprocAttr,xk B25 [2,2] .sq rfl,rg B25 [1,2,2] 5 false rfl,hr_25_5,t_24,xk B25 [2,2,2] .sq rfl,xk B25 [1,2,2,2] .sq rfl,rg B25 [1,1,2,2,2] 6 false rfl,hr 25 6 rfl,fieldAddrV,t_39,t_29,callStep,CL,gv,List.contains,xk B25 [2,1,2,2,2] (.bk 1) rfl,xk B25 [2,2,1,2,2,2] (.rf (.tmp 20) [21,22] 9) rfl,hh_25_1000009,hk_25_1000009,m]
  obtain ⟨o6,y,l⟩:=bs l
  have o:=f62_ok k s b c d e f g h i j a [] w x _ y
  cases o6 with
  | o0 v9 z n aa ab ac ad ae af ag ah t ai aj =>
   (try dsimp only at l)
   (try simp only [NM,EE,R62.st] at o)
   have hJ:=f25_j2_ok k t _ l
   simp (disch:=first|apply D;decide|apply K;kernel_rfl) only [E,EE,↓reduceIte,simprocAttr,m,o]
   try simp only [NM,EE] at hJ
   exact hJ
  | o1 ak al am an ao ap aq ar au av aw ax ay u =>
   (try dsimp only at l)
   (try simp only [NM,EE,R62.st] at o)
   have hJ:=f25_j3_ok k u _ l
   simp (disch:=first|apply D;decide|apply K;kernel_rfl) only [E,EE,↓reduceIte,simprocAttr,m,o]
   try simp only [NM,EE] at hJ
   exact hJ
noncomputable def f25_e (k:Nat) (l b c d e f g h i j:Int) (a:List Int) (m:Int):Option R25 :=
 Option.bind (f24 k l b c d e f g h i j a) fun o1 =>
  match o1 with
  | .o0 o =>
   cond ((o != 0))
    (some (.o0 190 []))
    (
     cond ((decide (m<1)))
      (some (.o0 2 []))
      (f25_j1 k m false l b c d e f g h i j a))
theorem f25_e_ok (k p b c d e f g h i j a q r) (l:f25_e k p b c d e f g h i j a q=some r):finK Try.prog Try.f25 0 (EX 25 k (nav B25 []) (⟨37,[(0,.agg [jI p,jI b,jU c,jI d,jI e,jI f,jI g,jI h,jI i,jI j,.sl 1 (rowsOf (encI .u8) a)]),(1,jI q)],[]⟩:St))=some r.st:=by
 unfold f25_e at l
 obtain ⟨o1,t,l⟩:=bs l
 have m:=f24_ok k p b c d e f g h i j a _ t
 cases o1 with
 | o0 u =>
  (try dsimp only at l)
  (try simp only [NM,EE,R24.st] at m)
  simp (disch:=first|apply D;decide|apply K;kernel_rfl) only [E,EE,↓reduceIte,simprocAttr,xk B25 [] .sq rfl,rg B25 [1] 0 false rfl,hr 25 0 rfl,xk B25 [2] .sq rfl,xk B25 [1,2] (.bk 0) rfl,xk B25 [2,1,2] .sq rfl,rg B25 [1,2,1,2] 1 false rfl,hr 25 1 rfl,t_39,callStep,CL,gv,List.contains,xk B25 [2,2,1,2] (.cd 10) rfl,m]
  rcases cond_some l with ⟨o,l⟩ | ⟨o,l⟩
  ·cases l
   simp (disch:=first|apply D;decide|apply K;kernel_rfl) only [E,EE,↓reduceIte,simprocAttr,xk B25 [2,2,2,1,2] .sq rfl,rg B25 [1,2,2,2,1,2] 2 false rfl,hr_25_2,xk B25 [2,2,2,2,1,2] .rt rfl,fin25,R25.st,m,o]
  ·simp (disch:=first|apply D;decide|apply K;kernel_rfl) only [E,EE,↓reduceIte,simprocAttr,xk B25 [3,2,2,1,2] .sq rfl,rg B25 [1,3,2,2,1,2] 3 false rfl,hr 25 3 rfl,xk B25 [2,3,2,2,1,2] (.cd 14) rfl,m,o]
   rcases cond_some l with ⟨s,l⟩ | ⟨s,l⟩
   ·cases l
    simp (disch:=first|apply D;decide|apply K;kernel_rfl) only [E,EE,↓reduceIte,simprocAttr,xk B25 [2,2,3,2,2,1,2] .sq rfl,rg B25 [1,2,2,3,2,2,1,2] 4 false rfl,hr_25_4,xk B25 [2,2,2,3,2,2,1,2] .rt rfl,fin25,R25.st,m,o,s]
   ·have hJ:=f25_j1_ok k q false p b c d e f g h i j a _ l
    simp (disch:=first|apply D;decide|apply K;kernel_rfl) only [E,EE,↓reduceIte,simprocAttr,xk B25 [3,2,3,2,2,1,2] .sk rfl,m,o,s]
    try simp only [NM,EE] at hJ
    exact hJ
noncomputable def f25 (k:Nat) (l b c d e f g h i j:Int) (a:List Int) (m:Int):Option R25:=match k with | 0=>none | k+1=>f25_e k l b c d e f g h i j a m
theorem f25_ok (k m b d e f g h i j l a o r) (p:f25 k m b d e f g h i j l a o=some r):CV k 25 [.agg [jI m,jI b,jU d,jI e,jI f,jI g,jI h,jI i,jI j,jI l,.sl 1 (rowsOf (encI .u8) a)],jI o] []=some r.st:=by
 cases k with
 | zero=>cases p
 | succ k =>
  unfold CV
  rw [ev_call (F:=Try.f25) (c:=(nav B25 [])) rfl Try.func25 rfl rfl rfl rfl]
  exact f25_e_ok k m b d e f g h i j l a o r p
-- f48: f48 slices.Clone[[]heliograph/api.Seen,heliograph/api.Seen]
inductive R48 where
 | o0 (y:List T65)
noncomputable def R48.st:R48→V×List O×List O
 | .o0 y=>(.own 2000000,[],[.row true 4 65 (rowsOf encT65 y)])
noncomputable def f48 (k:Nat) (a:List T65):Option R48:=match k with | 0=>none | _+1=>ifE (a.length * 32≤roomy) (some (.o0 a))
theorem f48_ok (k b r) (a:f48 k b=some r):CV k 48 [.sl 4 (rowsOf encT65 b)] []=some r.st:=by
 cases k with
 | zero=>cases a
 | succ k =>
  obtain ⟨h,a⟩:=ifE_some.1 a
  cases a
  have h':((rowsOf encT65 b)).length * 32≤roomy:=by rw [rowsOf_length];exact h
  unfold CV
  rw [ev_ctx (show ctx 48=some (cloneS 4 65 32) from rfl) rfl]
  simp only [cloneS,h',and_self,if_true];rfl
-- f49: f49 slices.Clone[[]byte,byte]
inductive R49 where
 | o0 (y:List Int)
noncomputable def R49.st:R49→V×List O×List O
 | .o0 y=>(.own 2000000,[],[.row true 1 5 (rowsOf (encI .u8) y)])
noncomputable def f49 (k:Nat) (a:List Int):Option R49:=match k with | 0=>none | _+1=>ifE (a.length * 1≤roomy) (some (.o0 a))
theorem f49_ok (k b r) (a:f49 k b=some r):CV k 49 [.sl 1 (rowsOf (encI .u8) b)] []=some r.st:=by
 cases k with
 | zero=>cases a
 | succ k =>
  obtain ⟨h,a⟩:=ifE_some.1 a
  cases a
  have h':((rowsOf (encI .u8) b)).length * 1≤roomy:=by rw [rowsOf_length];exact h
  unfold CV
  rw [ev_ctx (show ctx 49=some (cloneS 1 5 1) from rfl) rfl]
  simp only [cloneS,h',and_self,if_true];rfl
-- f26: f26 heliograph/agent.own
inductive R26 where
 | o0 (y a:Int) (b:List T65) (c:List T39)
noncomputable def R26.st:R26→V×List O×List O
 | .o0 y a b c=>(.agg [jI y,jU a,.own 2000000,.own 2000001],[],[.row true 4 65 (rowsOf encT65 b),.row true 11 39 (rowsOf encT39 c)])
inductive R26_l1 where
 | o0 (y:List T39) (b c d e:Int) (f:List T65) (g:List T39) (h i:Int) (j:List T65) (a:List T39)
 | o1 (y:List T39) (b c:Int) (d:Bool) (e f:Int) (g:List T65) (h:List T39) (i j:Int) (a:List T65) (l:List T39)
noncomputable def R26_l1.st:R26_l1→Out×St
 | .o0 y b c d e f g h i j a=>(.norm,(⟨31,[(1,.ptr 30000 0),(2,.ptr 30003 0),(13,.sl 11 (rowsOf encT39 y)),(14,jI b),(15,jI c)],[(30000,.box 26 [jI d,jU e,.own 30001,.own 27]),(30001,.row true 4 65 (rowsOf encT65 f)),(27,.row true 11 39 (rowsOf encT39 g)),(30003,.box 26 [jI h,jU i,.own 30004,.own 30005]),(30004,.row true 4 65 (rowsOf encT65 j)),(30005,.row true 11 39 (rowsOf encT39 a))]⟩:St))
 | .o1 y b c d e f g h i j a l=>(.exit 0,(⟨31,[(1,.ptr 30000 0),(2,.ptr 30003 0),(13,.sl 11 (rowsOf encT39 y)),(14,jI b),(15,jI c),(16,.p (.bool d))],[(30000,.box 26 [jI e,jU f,.own 30001,.own 30002]),(30001,.row true 4 65 (rowsOf encT65 g)),(30002,.row true 11 39 (rowsOf encT39 h)),(30003,.box 26 [jI i,jU j,.own 30004,.own 30005]),(30004,.row true 4 65 (rowsOf encT65 a)),(30005,.row true 11 39 (rowsOf encT39 l))]⟩:St))
noncomputable def f26_l1_j2 (k:Nat) (c:List T39) (d e f a:Int) (g:List T65) (h:List T39) (i b:Int) (j:List T65) (l:List T39):Option R26_l1 :=
 some (.o0 c d (IntKind.i64.wrap (e+(1:Int))) f a g h i b j l)
theorem f26_l1_j2_ok (k c d e f a g h i b j l r) (m:f26_l1_j2 k c d e f a g h i b j l=some r):EX 26 k (nav B26 [2,2,2,1,2,2,1,2,2,2,2]) (⟨31,[(1,.ptr 30000 0),(2,.ptr 30003 0),(13,.sl 11 (rowsOf encT39 c)),(14,jI d),(15,jI e)],[(30000,.box 26 [jI f,jU a,.own 30001,.own 27]),(30001,.row true 4 65 (rowsOf encT65 g)),(27,.row true 11 39 (rowsOf encT39 h)),(30003,.box 26 [jI i,jU b,.own 30004,.own 30005]),(30004,.row true 4 65 (rowsOf encT65 j)),(30005,.row true 11 39 (rowsOf encT39 l))]⟩:St)=some r.st:=by
 unfold f26_l1_j2 at m
 cases m
 simp (disch:=first|apply D;decide|apply K;kernel_rfl) only [E,EE,↓reduceIte,simprocAttr,rg B26 [2,2,2,1,2,2,1,2,2,2,2] 9 false rfl,hr 26 9 rfl,R26_l1.st]
noncomputable def f26_l1_j1 (k:Nat) (e:List T39) (g b:Int) (o:Bool) (h c:Int) (i:List T65) (f:List T39) (j d:Int) (l:List T65) (m:List T39):Option R26_l1 :=
 ifE ((0:Int)≤b) (
  Option.bind (e[(Int.toNat b)]?) fun a =>
   Option.bind (f49 k a.Payload) fun o4 =>
    match o4 with
    | .o0 p =>
     ifE (((List.length f)+1) * 104≤roomy) (
      f26_l1_j2 k e g b h c i (f++([(T39.mk a.Source a.Dest a.Seq a.Created a.Lifetime a.HopLimit a.Hops a.Priority a.Offset a.Total p)]:List T39)) j d l m))
theorem f26_l1_j1_ok (k e f g p h b i j l c m o r) (d:f26_l1_j1 k e f g p h b i j l c m o=some r):EX 26 k (nav B26 [2,2,1,2,2,1,2,2,2,2]) (⟨31,[(1,.ptr 30000 0),(2,.ptr 30003 0),(13,.sl 11 (rowsOf encT39 e)),(14,jI f),(15,jI g),(16,.p (.bool p))],[(30000,.box 26 [jI h,jU b,.own 30001,.own 30002]),(30001,.row true 4 65 (rowsOf encT65 i)),(30002,.row true 11 39 (rowsOf encT39 j)),(30003,.box 26 [jI l,jU c,.own 30004,.own 30005]),(30004,.row true 4 65 (rowsOf encT65 m)),(30005,.row true 11 39 (rowsOf encT39 o))]⟩:St)=some r.st:=by
 unfold f26_l1_j1 at d
 obtain ⟨u,d⟩:=ifE_some.1 d
 obtain ⟨a,v,d⟩:=bs d
 obtain ⟨o4,w,d⟩:=bs d
 have q:=f49_ok k a.Payload _ w
 cases o4 with
 | o0 s =>
  (try dsimp only at d)
  (try simp only [NM,EE,R49.st] at q)
  have x:[[jI a.Source,jI a.Dest,jU a.Seq,jI a.Created,jI a.Lifetime,jI a.HopLimit,jI a.Hops,jI a.Priority,jI a.Offset,jI a.Total,.sl 1 (rowsOf (encI .u8) s)]]=rowsOf encT39 ([(T39.mk a.Source a.Dest a.Seq a.Created a.Lifetime a.HopLimit a.Hops a.Priority a.Offset a.Total s)]:List T39):=rfl
  have y:List.map (tell [0,0,0,0,0,0,0,0,0,0,1]) (rowsOf encT39 ([(T39.mk a.Source a.Dest a.Seq a.Created a.Lifetime a.HopLimit a.Hops a.Priority a.Offset a.Total s)]:List T39))=rowsOf encT39 ([(T39.mk a.Source a.Dest a.Seq a.Created a.Lifetime a.HopLimit a.Hops a.Priority a.Offset a.Total s)]:List T39):=rfl
  obtain ⟨t,d⟩:=ifE_some.1 d
  have hJ:=f26_l1_j2_ok k e f g h b i (j++([(T39.mk a.Source a.Dest a.Seq a.Created a.Lifetime a.HopLimit a.Hops a.Priority a.Offset a.Total s)]:List T39)) l c m o _ d
  simp (disch:=first|apply D;decide|apply K;kernel_rfl) only [E,EE,↓reduceIte,simprocAttr,xk B26 [2,2,1,2,2,1,2,2,2,2] .sq rfl,xk B26 [1,2,2,1,2,2,1,2,2,2,2] (.bk 1) rfl,xk B26 [2,1,2,2,1,2,2,1,2,2,2,2] .sq rfl,rg B26 [1,2,1,2,2,1,2,2,1,2,2,2,2] 6 false rfl,hr 26 6 rfl,indexAddrV,t_24,t_39,encT39_eq,xk B26 [2,2,1,2,2,1,2,2,1,2,2,2,2] .sq rfl,rg B26 [1,2,2,1,2,2,1,2,2,1,2,2,2,2] 7 false rfl,hr 26 7 rfl,fieldAddrV,t_29,callStep,CL,gv,List.contains,rg B26 [2,2,2,1,2,2,1,2,2,1,2,2,2,2] 8 false rfl,hr 26 8 rfl,t_26,buildSliceV,fillRows,sm_39,appendV,content,u,v,q,x,y,t]
  try simp only [NM,EE] at hJ
  exact hJ
noncomputable def f26_l1_b (k:Nat) (e:List T39) (c d f a:Int) (g:List T65) (h:List T39) (i b:Int) (j:List T65) (l:List T39):Option R26_l1 :=
 cond ((decide (d<c)))
  (f26_l1_j1 k e c d true f a g h i b j l)
  (some (.o1 e c d false f a g h i b j l))
theorem f26_l1_b_ok (k c d e f a g h i b j l r) (m:f26_l1_b k c d e f a g h i b j l=some r):EX 26 k (nav B26 [1,2,2,1,2,2,2,2]) (⟨31,[(1,.ptr 30000 0),(2,.ptr 30003 0),(13,.sl 11 (rowsOf encT39 c)),(14,jI d),(15,jI e)],[(30000,.box 26 [jI f,jU a,.own 30001,.own 30002]),(30001,.row true 4 65 (rowsOf encT65 g)),(30002,.row true 11 39 (rowsOf encT39 h)),(30003,.box 26 [jI i,jU b,.own 30004,.own 30005]),(30004,.row true 4 65 (rowsOf encT65 j)),(30005,.row true 11 39 (rowsOf encT39 l))]⟩:St)=some r.st:=by
 unfold f26_l1_b at m
 simp (disch:=first|apply D;decide|apply K;kernel_rfl) only [E,EE,↓reduceIte,simprocAttr,xk B26 [1,2,2,1,2,2,2,2] .sq rfl,rg B26 [1,1,2,2,1,2,2,2,2] 5 false rfl,hr 26 5 rfl,xk B26 [2,1,2,2,1,2,2,2,2] .sq rfl,xk B26 [1,2,1,2,2,1,2,2,2,2] (.cd 16) rfl]
 rcases cond_some m with ⟨o,m⟩ | ⟨o,m⟩
 ·have hJ:=f26_l1_j1_ok k c d e true f a g h i b j l _ m
  simp (disch:=first|apply D;decide|apply K;kernel_rfl) only [E,EE,↓reduceIte,simprocAttr,xk B26 [2,1,2,1,2,2,1,2,2,2,2] .sk rfl,o]
  try simp only [NM,EE] at hJ
  exact hJ
 ·cases m
  simp (disch:=first|apply D;decide|apply K;kernel_rfl) only [E,EE,↓reduceIte,simprocAttr,xk B26 [3,1,2,1,2,2,1,2,2,2,2] (.ex 0) rfl,R26_l1.st,o]
noncomputable def f26_l1 (k:Nat):Nat→(List T39)→Int→Int→Int→Int→(List T65)→(List T39)→Int→Int→(List T65)→(List T39)→Option R26_l1
 | 0,_,_,_,_,_,_,_,_,_,_,_=>none
 | n+1,q,s,t,u,b,v,w,x,c,z,r=>Option.bind (f26_l1_b k q s t u b v w x c z r) fun o =>
  match o with
  | .o0 y d e f g h i j l m a=>f26_l1 k n y d e f g h i j l m a
  | .o1 y d e f g h i j l m a p=>some (.o1 y d e f g h i j l m a p)
theorem f26_l1_ok (k n:Nat):∀ (c:List T39) (d e f a:Int) (g:List T65) (i:List T39) (j b:Int) (l:List T65) (m:List T39) (r:R26_l1) (p:f26_l1 k n c d e f a g i j b l m=some r) (σ:St) (hσ:headR (hints.head 26 5) (hints.canon 26 5) σ=some (⟨31,[(1,.ptr 30000 0),(2,.ptr 30003 0),(13,.sl 11 (rowsOf encT39 c)),(14,jI d),(15,jI e)],[(30000,.box 26 [jI f,jU a,.own 30001,.own 30002]),(30001,.row true 4 65 (rowsOf encT65 g)),(30002,.row true 11 39 (rowsOf encT39 i)),(30003,.box 26 [jI j,jU b,.own 30004,.own 30005]),(30004,.row true 4 65 (rowsOf encT65 l)),(30005,.row true 11 39 (rowsOf encT39 m))]⟩:St)),LP 26 k (nav B26 [1,2,2,1,2,2,2,2]) n σ=some r.st:=by
 induction n with
 | zero=>intro c d e f a g i j b l m r p;cases p
 | succ n ih =>
  intro c d e f a g i j b l m r p σ hσ
  rw [f26_l1] at p
  obtain ⟨o,h,p⟩:=Option.bind_eq_some_iff.1 p
  have hB:=f26_l1_b_ok k c d e f a g i j b l m o h
  unfold LP at ih ⊢
  unfold EX at hB
  rw [loopK_succ,show firstReg (nav B26 [1,2,2,1,2,2,2,2])=5 from rfl,hσ,headK_some,hB]
  cases o with
  | o0 y s t u v w x z aa ab q =>
   refine ih y s t u v w x z aa ab q r p _ ?_
   simp (disch:=first|apply D;decide|apply K;kernel_rfl) only [E,EE,↓reduceIte,simprocAttr,hh_26_5,hc_26_5]
  | o1 y s t u v w x z aa ab q ad=>cases p;rfl
noncomputable def f26_j2 (k:Nat) (f:List T39) (g h:Int) (i:Bool) (b a:Int) (c:List T65) (d:List T39) (j e:Int) (l:List T65) (m:List T39):Option R26 :=
 some (.o0 b a c d)
theorem f26_j2_ok (k c d e f g a h i j b l m r) (o:f26_j2 k c d e f g a h i j b l m=some r):finK Try.prog Try.f26 0 (EX 26 k (nav B26 [2,2,2,2,2]) (⟨31,[(1,.ptr 30000 0),(2,.ptr 30003 0),(13,.sl 11 (rowsOf encT39 c)),(14,jI d),(15,jI e),(16,.p (.bool f))],[(30000,.box 26 [jI g,jU a,.own 30001,.own 30002]),(30001,.row true 4 65 (rowsOf encT65 h)),(30002,.row true 11 39 (rowsOf encT39 i)),(30003,.box 26 [jI j,jU b,.own 30004,.own 30005]),(30004,.row true 4 65 (rowsOf encT65 l)),(30005,.row true 11 39 (rowsOf encT39 m))]⟩:St))=some r.st:=by
 unfold f26_j2 at o
 cases o
 simp (disch:=first|apply D;decide|apply K;kernel_rfl) only [E,EE,↓reduceIte,simprocAttr,xk B26 [2,2,2,2,2] .sq rfl,rg B26 [1,2,2,2,2,2] 10 false rfl,hr 26 10 rfl,t_26,xk B26 [2,2,2,2,2,2] .rt rfl,fin26,R26.st]
noncomputable def f26_e (k:Nat) (p b:Int) (c:List T65) (a:List T39):Option R26 :=
 Option.bind (f48 k c) fun o1 =>
  match o1 with
  | .o0 q =>
   Option.bind (f26_l1 k k a ((List.length a):Int) 0 p b q [] 0 0 [] []) fun o5 =>
    match o5 with
    | .o0 _ _ _ _ _ _ _ _ _ _ _ =>
     none
    | .o1 s t d e f g h i j l m o =>
     f26_j2 k s t d e f g h i j l m o
theorem f26_e_ok (k g b c a r) (d:f26_e k g b c a=some r):finK Try.prog Try.f26 0 (EX 26 k (nav B26 []) (⟨31,[(0,.agg [jI g,jU b,.sl 4 (rowsOf encT65 c),.sl 11 (rowsOf encT39 a)])],[]⟩:St))=some r.st:=by
 unfold f26_e at d
 obtain ⟨o1,u,d⟩:=bs d
 have e:=f48_ok k c _ u
 cases o1 with
 | o0 v =>
  (try dsimp only at d)
  (try simp only [NM,EE,R48.st] at e)
  obtain ⟨o5,w,d⟩:=bs d
  have f:=f26_l1_ok k k a ((List.length a):Int) 0 g b v [] 0 0 [] [] _ w
  simp (disch:=first|apply D;decide|apply K;kernel_rfl) only [E,EE,↓reduceIte,simprocAttr,xk B26 [] .sq rfl,rg B26 [1] 0 false rfl,hr_26_0,t_26,xk B26 [2] .sq rfl,rg B26 [1,2] 1 false rfl,hr 26 1 rfl,fieldAddrV,t_23,callStep,CL,gv,List.contains,xk B26 [2,2] .sq rfl,rg B26 [1,2,2] 2 false rfl,hr 26 2 rfl,t_24,xk B26 [2,2,2] .sq rfl,rg B26 [1,2,2,2] 3 false rfl,hr_26_3,xk B26 [2,2,2,2] .sq rfl,xk B26 [1,2,2,2,2] .sq rfl,rg B26 [1,1,2,2,2,2] 4 false rfl,hr 26 4 rfl,xk B26 [2,1,2,2,2,2] (.bk 0) rfl,xk B26 [2,2,1,2,2,2,2] .lp rfl,hh_26_5,hc_26_5,e]
  (try simp only [NM,EE] at f)
  rw [f _ (by simp (disch:=first|apply D;decide|apply K;kernel_rfl) only [E,EE,↓reduceIte,simprocAttr,hh_26_5,hc_26_5,e])]
  clear f
  cases o5 with
  | o0 _ _ _ _ _ _ _ _ _ _ _ =>
   (try dsimp only at d)
   cases d
  | o1 x y h i j l m o p q s t =>
   (try dsimp only at d)
   have hJ:=f26_j2_ok k x y h i j l m o p q s t _ d
   simp (disch:=first|apply D;decide|apply K;kernel_rfl) only [E,EE,↓reduceIte,simprocAttr,R26_l1.st,e]
   try simp only [NM,EE] at hJ
   exact hJ
noncomputable def f26 (k:Nat) (d a:Int) (b:List T65) (c:List T39):Option R26:=match k with | 0=>none | k+1=>f26_e k d a b c
theorem f26_ok (k e a b d r) (f:f26 k e a b d=some r):CV k 26 [.agg [jI e,jU a,.sl 4 (rowsOf encT65 b),.sl 11 (rowsOf encT39 d)]] []=some r.st:=by
 cases k with
 | zero=>cases f
 | succ k =>
  unfold CV
  rw [ev_call (F:=Try.f26) (c:=(nav B26 [])) rfl Try.func26 rfl rfl rfl rfl]
  exact f26_e_ok k e a b d r f
end Go.Proofs.YticggdfaehneeaaV