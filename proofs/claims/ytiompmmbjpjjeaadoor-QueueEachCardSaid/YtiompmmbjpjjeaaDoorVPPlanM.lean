/- Ways through a plan,with no program in sight: what can be reached,how the nearest is sought,and by rounds;both tell the earliest arrival. -/
import Derived.Test.YtiompmmbjpjjeaaDoorVPSort
import Derived.Test.YtiompmmbjpjjeaaDoorVP18
import Derived.Test.YtiompmmbjpjjeaaDoorVPWords
namespace Go.Proofs.YtiompmmbjpjjeaaDoorV
open Go
set_option linter.unusedVariables false
abbrev Ct:=T54
def never:Int:=1099511627776
def arrT (c:Ct) (t:Int):Int:=(if c.Start>t then c.Start else t)+c.Delay+1
def fupd {α:Type} (f:Int→α) (n:Int) (x:α):Int→α:=fun m=>if m=n then x else f m
theorem fupd_same {α:Type} (f:Int→α) (n:Int) (x:α):fupd f n x n=x:=by simp [fupd]
theorem fupd_ne {α:Type} (f:Int→α) {n m:Int} (x:α) (h:m≠n):fupd f n x m=f m:=by simp [fupd,h]
structure CtOk (N:Int) (c:Ct):Prop where
 f1:1≤c.From
 f2:c.From≤N
 t1:1≤c.To
 t2:c.To≤N
 s1:0≤c.Start
 s2:c.Start<c.End
 e2:c.End≤1048576
 d1:0≤c.Delay
 d2:c.Delay≤4096
theorem arrT_gt {N:Int} {c:Ct} (h:CtOk N c) (t:Int):t<arrT c t:=by
 have:=h.d1
 unfold arrT;split<;>omega
abbrev Two:=(Int→Int)×(Int→Bool)
def rlx1 (n t:Int) (q:Two):Two:=if q.2 n=false∨t<q.1 n then (fupd q.1 n t,fupd q.2 n true) else q
def relaxL (need node now:Int):List Ct→List Int→Two→Two
 | c::L,l::left,q=>relaxL need node now L left (if c.From=node∧need≤l∧now<c.End then rlx1 c.To (arrT c now) q else q)
 | _,_,q=>q
def selS (N:Int) (at':Int→Int) (kn dn:Int→Bool):Nat→Int→Int→Int
 | 0,_,nx=>nx
 | f+1,n,nx=>if n≤N then selS N at' kn dn f (n+1) (if kn n=true∧dn n=false∧(nx=0∨at' n<at' nx) then n else nx) else nx
def selN (N:Int) (at':Int→Int) (kn dn:Int→Bool):Int:=selS N at' kn dn N.toNat 1 0
def b2n (b:Bool):Nat:=if b then 0 else 1
def mu (dn:Int→Bool):Nat:=b2n (dn 1)+b2n (dn 2)+b2n (dn 3)+b2n (dn 4)+b2n (dn 5)+b2n (dn 6)
theorem mu_upd {dn:Int→Bool} {n:Int} (h1:1≤n) (h2:n≤6) (h:dn n=false):mu (fupd dn n true)+1=mu dn:=by
 have:n=1∨n=2∨n=3∨n=4∨n=5∨n=6:=by omega
 rcases this with rfl | rfl | rfl | rfl | rfl | rfl<;>simp [mu,fupd,h,b2n]<;>omega
def okC (N:Int) (c:Ct):Bool:=decide (1≤c.From)&&(decide (c.From≤N)&&(decide (1≤c.To)&&(decide (c.To≤N)&&(!(c.From==c.To)&&(decide (0≤c.Start)&&(decide (c.Start<c.End)&&(decide (c.End≤1048576)&&(decide (1≤c.Rate)&&(decide (c.Rate≤4096)&&(decide (0≤c.Delay)&&decide (c.Delay≤4096)))))))))))
def ovl (d c:Ct):Bool:=d.From==c.From&&(d.To==c.To&&(decide (d.Start<c.End)&&decide (c.Start<d.End)))
def chkL (N:Int):List Ct→List Ct→Bool
 | _,[]=>true
 | pre,c::r=>okC N c&&(!(pre.any fun d=>ovl d c)&&chkL N (pre++[c]) r)
def chkB (N:Int) (L:List Ct):Bool:=decide (2≤N)&&(decide (N≤6)&&(decide (L.length≤24)&&chkL N [] L))
theorem chkL_ok {N:Int}:∀ (r pre:List Ct),chkL N pre r=true→∀ c∈r,okC N c=true
 | [],pre,h,c,hc=>by cases hc
 | d::r,pre,h,c,hc=>by
  simp only [chkL,Bool.and_eq_true] at h
  rcases List.mem_cons.1 hc with rfl | hc
  ·exact h.1
  ·exact chkL_ok r _ h.2.2 c hc
theorem okC_ct {N:Int} {c:Ct} (h:okC N c=true):CtOk N c∧1≤c.Rate∧c.Rate≤4096:=by
 simp only [okC,Bool.and_eq_true,decide_eq_true_eq] at h
 obtain ⟨h1,h2,h3,h4,h5,h6,h7,h8,h9,h10,h11,h12⟩:=h
 exact ⟨⟨h1,h2,h3,h4,h6,h7,h8,h11,h12⟩,h9,h10⟩
theorem chkB_ok {N:Int} {L:List Ct} (h:chkB N L=true):2≤N∧N≤6∧L.length≤24∧∀ c∈L,CtOk N c∧1≤c.Rate∧c.Rate≤4096:=by
 simp only [chkB,Bool.and_eq_true,decide_eq_true_eq] at h
 exact ⟨h.1,h.2.1,h.2.2.1,fun c hc=>okC_ct (chkL_ok _ _ h.2.2.2 c hc)⟩
theorem within_at (k:Nat) (hk:1≤k) (x a b:Int):f36 k x a b=some (.o0 (decide (a≤x)&&decide (x≤b))):=by
 obtain ⟨k,rfl⟩:∃ m,k=m+1:=⟨k - 1,by omega⟩
 by_cases h:a≤x
 ·simp only [f36,f36_e,decide_eq_true (show x≥a from h),decide_eq_true h,cond_true,Bool.true_and]
 ·simp only [f36,f36_e,decide_eq_false (show ¬x≥a from h),decide_eq_false h,cond_false,Bool.false_and]
theorem nat_next {i n:Nat} (h:i<n) (hn:n<4611686018427387904):IntKind.i64.wrap ((i:Int)+1)=((i+1:Nat):Int):=by rw [wrap_i64 (by omega) (by omega)];rfl
section
variable (k:Nat) (N:Int) (L:List Ct)
theorem chk_l3 (x18:List Ct) (x19 x20:Int) (pre:List Ct) (hp:pre.length≤24) (c:Ct):∀ (d j n:Nat),j+d=pre.length→d<n →
 f33_l2_l3 k n x18 x19 x20 pre pre.length j N L c.From c.To c.Start c.End c.Rate c.Delay=cond ((pre.drop j).any fun d=>ovl d c) (some (.o0 230)) (some (.o2 x18 x19 x20 pre pre.length pre.length false N L c.From c.To c.Start c.End c.Rate c.Delay)):=by
 intro d
 induction d with
 | zero =>
  intro j n hj hn
  obtain ⟨n,rfl⟩:∃ m,n=m+1:=⟨n - 1,by omega⟩
  have e3:j=pre.length:=by omega
  subst e3
  simp [f33_l2_l3,f33_l2_l3_b]
 | succ d ih =>
  intro j n hj hn
  obtain ⟨n,rfl⟩:∃ m,n=m+1:=⟨n - 1,by omega⟩
  have h1:j<pre.length:=by omega
  have g1:pre[j]?=some pre[j]:=List.getElem?_eq_getElem h1
  have hlt:((j:Int)<(pre.length:Int)):=by omega
  have hw:=nat_next h1 (by omega)
  have ih':=ih (j+1) n (by omega) (by omega)
  rw [List.drop_eq_getElem_cons h1,List.any_cons]
  simp only [f33_l2_l3,f33_l2_l3_b,f33_l2_l3_j1,f33_l2_l3_j2,decide_eq_true hlt,cond_true,ifE_pos (show (0:Int)≤j by omega),Int.toNat_natCast,g1,Option.bind_some,hw,ovl]
  cases (pre[j].From==c.From)<;>cases (pre[j].To==c.To)<;>cases (decide (pre[j].Start<c.End))<;>cases (decide (c.Start<pre[j].End))<;>simp only [cond_true,cond_false,Option.bind_some,Bool.and_true,Bool.and_false,Bool.true_and,Bool.false_and,Bool.true_or,Bool.false_or,ih',ovl]
theorem chk_l2 (hk:26≤k) (hL:L.length≤24):∀ (d i n:Nat),i+d=L.length→d<n →
 f33_l2 k n L L.length i N L=cond (chkL N (L.take i) (L.drop i)) (some (.o2 L L.length L.length false N L)) (some (.o0 230)):=by
 intro d
 induction d with
 | zero =>
  intro i n hi hn
  obtain ⟨n,rfl⟩:∃ m,n=m+1:=⟨n - 1,by omega⟩
  have e3:i=L.length:=by omega
  subst e3
  simp [f33_l2,f33_l2_b,chkL]
 | succ d ih =>
  intro i n hi hn
  obtain ⟨n,rfl⟩:∃ m,n=m+1:=⟨n - 1,by omega⟩
  have h1:i<L.length:=by omega
  have g1:L[i]?=some L[i]:=List.getElem?_eq_getElem h1
  have hlt:((i:Int)<(L.length:Int)):=by omega
  have hw:=nat_next h1 (by omega)
  have ih':=ih (i+1) n (by omega) (by omega)
  have ht:(L.take i).length=i:=by rw [List.length_take];omega
  have hl3:=chk_l3 k N L L L.length i (L.take i) (by omega) L[i] (L.take i).length 0 k (by omega) (by omega)
  have e0:((0:Nat):Int)=0:=rfl
  rw [e0,List.drop_zero] at hl3
  rw [List.drop_eq_getElem_cons h1,chkL]
  have happ:L.take i++[L[i]]=L.take (i+1):=by rw [List.take_append_getElem]
  rw [happ]
  generalize hc:L[i]=c at *
  simp only [f33_l2,f33_l2_b,f33_l2_j1,decide_eq_true hlt,cond_true,ifE_pos (show (0:Int)≤i by omega),Int.toNat_natCast,g1,Option.bind_some,within_at k (by omega),okC]
  have split:∀ (b:Bool) (X Y Z:Option (R33_l2)),(b=true→X=Z)→(b=false→Y=Z)→cond b X Y=Z:=fun b X Y Z h1 h2=>by cases b;exact h2 rfl;exact h1 rfl
  by_cases a1:1≤c.From
  case neg=>simp [a1]
  by_cases a2:c.From≤N
  case neg=>simp [a1,a2]
  by_cases a3:1≤c.To
  case neg=>simp [a1,a2,a3]
  by_cases a4:c.To≤N
  case neg=>simp [a1,a2,a3,a4]
  by_cases a5:c.From=c.To
  case pos=>simp [a1,a2,a3,a4,a5]
  by_cases a6:0≤c.Start
  case neg=>simp [a1,a2,a3,a4,a5,a6,show c.Start<0 by omega]
  by_cases a7:c.Start<c.End
  case neg=>simp [a1,a2,a3,a4,a5,a6,a7,show c.Start≥c.End by omega]
  by_cases a8:c.End≤1048576
  case neg=>simp [a1,a2,a3,a4,a5,a6,a7,a8,show c.End>1048576 by omega]
  by_cases a9:1≤c.Rate
  case neg=>simp [a1,a2,a3,a4,a5,a6,a7,a8,a9]
  by_cases a10:c.Rate≤4096
  case neg=>simp [a1,a2,a3,a4,a5,a6,a7,a8,a9,a10]
  by_cases a11:0≤c.Delay
  case neg=>simp [a1,a2,a3,a4,a5,a6,a7,a8,a9,a10,a11]
  by_cases a12:c.Delay≤4096
  case neg=>simp [a1,a2,a3,a4,a5,a6,a7,a8,a9,a10,a11,a12]
  have b5:(c.From==c.To)=false:=by simpa using a5
  simp only [decide_eq_true a1,decide_eq_true a2,decide_eq_true a3,decide_eq_true a4,b5,decide_eq_true a6,decide_eq_true a7,decide_eq_true a8,decide_eq_true a9,decide_eq_true a10,decide_eq_true a11,decide_eq_true a12,Bool.and_true,Bool.true_and,Bool.not_true,Bool.not_false,cond_false,decide_eq_false (show ¬c.Start<0 by omega),decide_eq_false (show ¬c.Start≥c.End by omega),decide_eq_false (show ¬c.End>1048576 by omega),f33_l2_j2,ifE_pos (show (0:Int)≤(i:Int) by omega),Int.toNat_natCast,ifE_pos (show i≤L.length by omega),hl3]
  cases ((L.take i).any fun d=>ovl d c)
  ·simp only [cond_false,Option.bind_some,f33_l2_j4,hw,Bool.not_false,Bool.true_and,ih']
  ·simp only [cond_true,Option.bind_some,Bool.not_true,Bool.false_and,cond_false]
theorem check_at (hk:27≤k):f33 k N L=some (.o0 (cond (chkB N L) 0 230)):=by
 obtain ⟨k,rfl⟩:∃ m,k=m+1:=⟨k - 1,by omega⟩
 simp only [f33,f33_e,within_at k (by omega),Option.bind_some,chkB]
 by_cases a1:2≤N
 case neg=>simp [a1]
 by_cases a2:N≤6
 case neg=>simp [a1,a2]
 by_cases a3:L.length≤24
 case neg=>simp [a1,a2,a3,show ((L.length:Int)>24) by omega]
 have hl:=chk_l2 k N L (by omega) a3 L.length 0 k (by omega) (by omega)
 have e0:((0:Nat):Int)=0:=rfl
 rw [e0,List.take_zero,List.drop_zero] at hl
 simp only [decide_eq_true a1,decide_eq_true a2,decide_eq_true a3,Bool.and_true,Bool.true_and,Bool.not_true,cond_false,decide_eq_false (show ¬((L.length:Int)>24) by omega),f33_j1,hl]
 cases chkL N [] L<;>simp only [cond_true,cond_false,Option.bind_some,f33_j3]
end
def LF {α:Type} (l:List α) (f:Int→α):Prop:=l.length=7∧∀ n:Int,0≤n→n<7→l[n.toNat]?=some (f n)
theorem LF.head {α:Type} {l:List α} {f:Int→α} (h:LF l f) {n:Int} (h0:0≤n) (h1:n<7):List.head? (List.drop n.toNat l)=some (f n):=by
 rw [List.head?_drop];exact h.2 n h0 h1
theorem LF.set {α:Type} {l:List α} {f:Int→α} (h:LF l f) {n:Int} (h0:0≤n) (h1:n<7) (x:α):LF (List.take n.toNat l++(x::List.drop (n.toNat+1) l)) (fupd f n x):=by
 have hl:=h.1
 have e:List.take n.toNat l++(x::List.drop (n.toNat+1) l)=l.set n.toNat x:=by
  rw [List.set_eq_take_append_cons_drop,if_pos (by omega)]
 rw [e]
 refine ⟨by simpa using hl,fun m m0 m1 => ?_⟩
 rw [List.getElem?_set]
 by_cases hm:n.toNat=m.toNat
 ·have:n=m:=by omega
  subst this
  rw [if_pos rfl,if_pos (by omega),fupd_same]
 ·rw [if_neg hm,fupd_ne _ _ (by intro q;exact hm (by rw [q]))]
  exact h.2 m m0 m1
theorem LF.rep {α:Type} (x:α):LF (List.replicate 7 x) (fun _=>x):=⟨by simp,fun n h0 h1=>by rw [List.getElem?_replicate,if_pos (by omega)]⟩
theorem arrT_le {N:Int} {c:Ct} (h:CtOk N c) {t:Int} (ht:t<c.End):arrT c t≤1052674:=by
 have:=h.s2;have:=h.e2;have:=h.d2
 unfold arrT;split<;>omega
theorem arr_wrap {N:Int} {c:Ct} (h:CtOk N c) {t:Int} (h0:0≤t) (h1:t≤1099511627776):IntKind.i64.wrap ((IntKind.i64.wrap ((if c.Start>t then c.Start else t)+c.Delay))+(1:Int))=arrT c t:=by
 have:=h.s1;have:=h.s2;have:=h.e2;have:=h.d1;have:=h.d2
 unfold arrT
 have e : -9223372036854775808≤(if c.Start>t then c.Start else t)+c.Delay∧(if c.Start>t then c.Start else t)+c.Delay<9223372036854775807:=by split<;>omega
 rw [wrap_i64 e.1 (by omega),wrap_i64 (by omega) (by omega)]
section
variable {k:Nat} {N need:Int} {L:List Ct} {left:List Int}
theorem rnda_at (hk:1≤k) {i:Nat} {c:Ct} (hc:L[i]?=some c) (h0:0≤c.To) (h1:c.To<7) (t:Int) {e2:List Int} {e3:List Bool} {q:Two} (h2:LF e2 q.1) (h3:LF e3 q.2) :
 ∃ e2' e3',f999999999a k i t N L left need e2 e3=some (.o0 N L left need e2' e3')∧LF e2' (rlx1 c.To t q).1∧LF e3' (rlx1 c.To t q).2:=by
 obtain ⟨k,rfl⟩:∃ m,k=m+1:=⟨k - 1,by omega⟩
 have l2:=h2.1
 have l3:=h3.1
 simp only [f999999999a,f999999999a_e,ifE_pos (show (0:Int)≤(i:Int) by omega),Int.toNat_natCast,hc,Option.bind_some,ifE_pos h0,ifE_pos h1,h3.head h0 h1,h2.head h0 h1]
 unfold rlx1
 cases hk:q.2 c.To with
 | false =>
  simp only [Bool.not_false,cond_true,ifE_pos (show c.To.toNat+1≤e2.length by omega),ifE_pos (show c.To.toNat+1≤e3.length by omega),true_or,if_true]
  exact ⟨_,_,rfl,h2.set h0 h1 t,h3.set h0 h1 true⟩
 | true =>
  simp only [Bool.not_true,cond_false,Bool.true_eq_false,false_or]
  by_cases hlt:t<q.1 c.To
  ·simp only [decide_eq_true hlt,cond_true,ifE_pos (show c.To.toNat+1≤e2.length by omega),ifE_pos (show c.To.toNat+1≤e3.length by omega),if_pos hlt]
   exact ⟨_,_,rfl,h2.set h0 h1 t,h3.set h0 h1 true⟩
  ·simp only [decide_eq_false hlt,cond_false,if_neg hlt]
   exact ⟨_,_,rfl,h2,h3⟩
theorem relaxL_bd {N:Int} (need node now:Int):∀ (L:List Ct) (left:List Int) (q:Two),(∀ c∈L,CtOk N c)→(∀ n,q.2 n=true→0≤q.1 n∧q.1 n≤1099511627776)→∀ n,(relaxL need node now L left q).2 n=true→0≤(relaxL need node now L left q).1 n∧(relaxL need node now L left q).1 n≤1099511627776
 | [],_,q,_,h=>by unfold relaxL;exact h
 | _::_,[],q,_,h=>by unfold relaxL;exact h
 | c::L,x::left,q,hL,h=>by
  rw [relaxL]
  refine relaxL_bd need node now L left _ (fun c h=>hL c (List.mem_cons_of_mem _ h)) ?_
  split
  ·rename_i hc
   have hok:=hL c (List.mem_cons_self ..)
   have:=hok.s1;have:=hok.d1
   have g2:=arrT_le hok hc.2.2
   have g1:0≤arrT c now:=by unfold arrT;split<;>omega
   unfold rlx1
   split
   ·intro n hn
    dsimp only at hn ⊢
    by_cases e:n=c.To
    ·subst e;rw [fupd_same];omega
    ·rw [fupd_ne _ _ e] at hn ⊢;exact h n hn
   ·exact h
  ·exact h
theorem selS_in (N:Int) (at':Int→Int) (kn dn:Int→Bool):∀ (f:Nat) (n nx:Int),1≤n→(nx=0∨(1≤nx∧nx≤N∧kn nx=true∧dn nx=false)) →
 (selS N at' kn dn f n nx=0∨(1≤selS N at' kn dn f n nx∧selS N at' kn dn f n nx≤N∧kn (selS N at' kn dn f n nx)=true∧dn (selS N at' kn dn f n nx)=false))
 | 0,_,_,_,h=>h
 | f+1,n,nx,hn,h=>by
  rw [selS]
  split
  ·rename_i hN
   refine selS_in N at' kn dn f (n+1) _ (by omega) ?_
   split
   ·rename_i hc;exact .inr ⟨hn,hN,hc.1,hc.2.1⟩
   ·exact h
  ·exact h
theorem froma_l1 (hk:1≤k) (hL:∀ c∈L,CtOk N c) (hN:N≤6) (hlen:left.length=L.length) (hl:L.length≤24) {node now:Int} (n0:0≤now) (n1:now≤1099511627776):∀ (d i n:Nat) (e2:List Int) (e3:List Bool) (q:Two),i+d=L.length→d<n→LF e2 q.1→LF e3 q.2 →
 ∃ e2' e3',f55a_l1 k n L L.length i N L left need e2 e3 N L left need node now=some (.o1 L L.length L.length false N L left need e2' e3' N L left need node now)∧LF e2' (relaxL need node now (L.drop i) (left.drop i) q).1∧LF e3' (relaxL need node now (L.drop i) (left.drop i) q).2:=by
 intro d
 induction d with
 | zero =>
  intro i n e2 e3 q hi hn h2 h3
  obtain ⟨n,rfl⟩:∃ m,n=m+1:=⟨n - 1,by omega⟩
  have e3:i=L.length:=by omega
  subst e3
  simp only [f55a_l1,f55a_l1_b,decide_eq_false (show ¬((L.length:Int)<(L.length:Int)) by omega),cond_false,Option.bind_some,List.drop_length,relaxL]
  exact ⟨_,_,rfl,h2,h3⟩
 | succ d ih =>
  intro i n e2 e3 q hi hn h2 h3
  obtain ⟨n,rfl⟩:∃ m,n=m+1:=⟨n - 1,by omega⟩
  have h1:i<L.length:=by omega
  have h1':i<left.length:=by omega
  have g1:L[i]?=some L[i]:=List.getElem?_eq_getElem h1
  have g2:left[i]?=some left[i]:=List.getElem?_eq_getElem h1'
  have hlt:((i:Int)<(L.length:Int)):=by omega
  have hw:=nat_next h1 (by omega)
  have hok:=hL _ (List.getElem_mem h1)
  rw [List.drop_eq_getElem_cons h1,List.drop_eq_getElem_cons h1',relaxL]
  generalize L[i]=c at *
  generalize left[i]=l at *
  have t1:=hok.t1
  have t2:=hok.t2
  obtain ⟨e2',e3',r1,r2,r3⟩:=rnda_at (N:=N) (need:=need) (left:=left) hk g1 (by omega) (by omega) (arrT c now) h2 h3
  have ihA:=ih (i+1) n e2' e3' _ (by omega) (by omega) r2 r3
  have ihB:=ih (i+1) n e2 e3 q (by omega) (by omega) h2 h3
  simp only [f55a_l1,f55a_l1_b,f55a_l1_j1,f55a_l1_j2,decide_eq_true hlt,cond_true,ifE_pos (show (0:Int)≤(i:Int) by omega),Int.toNat_natCast,g1,g2,Option.bind_some,arr_wrap hok n0 n1,hw]
  by_cases c1:c.From=node
  ·simp only [show (c.From==node)=true by simpa using c1,cond_true]
   by_cases c2:need≤l
   ·simp only [decide_eq_true c2,cond_true]
    by_cases c3:now<c.End
    ·simp only [decide_eq_true c3,cond_true,r1,Option.bind_some,if_pos (show c.From=node∧need≤l∧now<c.End from ⟨c1,c2,c3⟩)]
     exact ihA
    ·simp only [decide_eq_false c3,cond_false,Option.bind_some,if_neg (show ¬(c.From=node∧need≤l∧now<c.End) from fun h=>c3 h.2.2)]
     exact ihB
   ·simp only [decide_eq_false c2,cond_false,Option.bind_some,if_neg (show ¬(c.From=node∧need≤l∧now<c.End) from fun h=>c2 h.2.1)]
    exact ihB
  ·simp only [show (c.From==node)=false by simpa using c1,cond_false,Option.bind_some,if_neg (show ¬(c.From=node∧need≤l∧now<c.End) from fun h=>c1 h.1)]
   exact ihB
theorem froma_at (hk:26≤k) (hL:∀ c∈L,CtOk N c) (hN:N≤6) (hlen:left.length=L.length) (hl:L.length≤24) {node now:Int} (n0:0≤now) (n1:now≤1099511627776) {e2:List Int} {e3:List Bool} {q:Two} (h2:LF e2 q.1) (h3:LF e3 q.2) :
 ∃ e2' e3',f55a k N L left need e2 e3 N L left need node now=some (.o0 N L left need e2' e3' N L left need node now)∧LF e2' (relaxL need node now L left q).1∧LF e3' (relaxL need node now L left q).2:=by
 obtain ⟨k,rfl⟩:∃ m,k=m+1:=⟨k - 1,by omega⟩
 obtain ⟨e2',e3',r1,r2,r3⟩:=froma_l1 (k:=k) (need:=need) (by omega) hL hN hlen hl (node:=node) n0 n1 L.length 0 k e2 e3 q (by omega) (by omega) h2 h3
 rw [List.drop_zero,List.drop_zero] at r2 r3
 have e0:((0:Nat):Int)=0:=rfl
 rw [e0] at r1
 simp only [f55a,f55a_e,r1,Option.bind_some]
 exact ⟨_,_,rfl,r2,r3⟩
theorem sel_l (hN:N≤6) (to:Int) {a:List Int} {kn dn:List Bool} {at':Int→Int} {kn' dn':Int→Bool} (ha:LF a at') (hk:LF kn kn') (hd:LF dn dn'):∀ (f n:Nat) (nx:Int) (m:Nat),N+1 - n=f→1≤n→0≤nx→nx≤6→f<m →
 f38_s1_l1_l1 k m to nx n N L left need a kn dn=some (.o1 to (selS N at' kn' dn' f n nx) (N+1) false N L left need a kn dn):=by
 intro f
 induction f with
 | zero =>
  intro n nx m hn h1 x0 x6 hm
  obtain ⟨m,rfl⟩:∃ j,m=j+1:=⟨m - 1,by omega⟩
  have e:(n:Int)=N+1:=by omega
  simp only [f38_s1_l1_l1,f38_s1_l1_l1_b,decide_eq_false (show ¬((n:Int)≤N) by omega),cond_false,Option.bind_some,selS]
  rw [e]
 | succ f ih =>
  intro n nx m hn h1 x0 x6 hm
  obtain ⟨m,rfl⟩:∃ j,m=j+1:=⟨m - 1,by omega⟩
  have hle:(n:Int)≤N:=by omega
  have hw:IntKind.i64.wrap ((n:Int)+1)=((n+1:Nat):Int):=by rw [wrap_i64 (by omega) (by omega)];rfl
  have n0:(0:Int)≤(n:Int):=by omega
  have n7:(n:Int)<7:=by omega
  have ihA:=ih (n+1) n m (by omega) (by omega) (by omega) (by omega) (by omega)
  have ihB:=ih (n+1) nx m (by omega) (by omega) (by omega) (by omega) (by omega)
  have hcast:((n+1:Nat):Int)=(n:Int)+1:=rfl
  rw [hcast] at ihA ihB
  rw [selS,if_pos hle]
  simp only [f38_s1_l1_l1,f38_s1_l1_l1_b,f38_s1_l1_l1_j1,f38_s1_l1_l1_j2,f38_s1_l1_l1_j3,decide_eq_true hle,cond_true,ifE_pos n0,ifE_pos n7,hk.head n0 n7,hd.head n0 n7,ha.head n0 n7,ifE_pos x0,ifE_pos (show nx<7 by omega),ha.head x0 (show nx<7 by omega),Option.bind_some,hw,hcast]
  cases h2:kn' n with
  | false =>
   simp only [cond_false,Option.bind_some,ihB,Bool.false_eq_true,false_and,if_false]
  | true =>
   simp only [cond_true,true_and]
   cases h3:dn' n with
   | true=>simp only [Bool.not_true,cond_false,Option.bind_some,ihB,Bool.true_eq_false,false_and,if_false]
   | false =>
    simp only [Bool.not_false,cond_true,true_and]
    by_cases h4:nx=0
    ·simp only [show (nx==0)=true by simpa using h4,cond_true,Option.bind_some,ihA,if_pos (show nx=0∨at' n<at' nx from .inl h4)]
    ·simp only [show (nx==0)=false by simpa using h4,cond_false,h4,false_or]
     by_cases h5:at' n<at' nx
     ·simp only [decide_eq_true h5,cond_true,Option.bind_some,ihA,if_pos h5]
     ·simp only [decide_eq_false h5,cond_false,Option.bind_some,ihB,if_neg h5]
theorem dij_l (hk:30≤k) (hL:∀ c∈L,CtOk N c) (hN1:1≤N) (hN:N≤6) (hlen:left.length=L.length) (hl:L.length≤24) (to:Int):∀ (f m:Nat) (a:List Int) (kn dn:List Bool) (at':Int→Int) (kn' dn':Int→Bool),mu dn'<f→f≤m→LF a at'→LF kn kn'→LF dn dn'→(∀ n,kn' n=true→0≤at' n∧at' n≤1099511627776) →
 ∃ (nx:Int) (a2:List Int) (kn2 dn2:List Bool) (q2:Two),f38_s1_l1 k m to N L left need a kn dn=some (.o0 to nx true N L left need a2 kn2 dn2)∧LF a2 q2.1∧LF kn2 q2.2:=by
 intro f
 induction f with
 | zero=>intro m a kn dn at' kn' dn' h;omega
 | succ f ih =>
  intro m a kn dn at' kn' dn' hmu hm ha hkn hdn hb
  obtain ⟨m,rfl⟩:∃ j,m=j+1:=⟨m - 1,by omega⟩
  have hsel:=sel_l (k:=k) (need:=need) (L:=L) (left:=left) hN to ha hkn hdn N.toNat 1 0 k (by omega) (by omega) (by omega) (by omega) (by omega)
  have e1:((1:Nat):Int)=1:=rfl
  rw [e1,show selS N at' kn' dn' N.toNat 1 0=selN N at' kn' dn' from rfl] at hsel
  have hspec:=selS_in N at' kn' dn' N.toNat 1 0 (by omega) (.inl rfl)
  rw [show selS N at' kn' dn' N.toNat 1 0=selN N at' kn' dn' from rfl] at hspec
  simp only [f38_s1_l1,f38_s1_l1_b,hsel,Option.bind_some,f38_s1_l1_j2]
  generalize selN N at' kn' dn'=nx at *
  by_cases h0:nx=0
  ·simp only [show (nx==0)=true by simpa using h0,cond_true,Option.bind_some]
   exact ⟨_,_,_,_,(at',kn'),rfl,ha,hkn⟩
  ·simp only [show (nx==0)=false by simpa using h0,cond_false]
   by_cases h1:nx=to
   ·simp only [show (nx==to)=true by simpa using h1,cond_true,Option.bind_some]
    exact ⟨_,_,_,_,(at',kn'),rfl,ha,hkn⟩
   ·simp only [show (nx==to)=false by simpa using h1,cond_false]
    rcases hspec with q | ⟨q1,q2,q3,q4⟩
    ·exact absurd q h0
    ·have ld:=hdn.1
     obtain ⟨b0,b1⟩:=hb nx q3
     obtain ⟨a2,kn2,r1,r2,r3⟩:=froma_at (k:=k) (need:=need) (node:=nx) (by omega) hL hN hlen hl b0 b1 (q:=(at',kn')) ha hkn
     have hfrom:f37 k N L left need nx (at' nx)=some (.o0 N L left need nx (at' nx)):=by
      obtain ⟨k,rfl⟩:∃ m,k=m+1:=⟨k - 1,by omega⟩
      rfl
     simp only [f38_s1_l1_j3,ifE_pos (show (0:Int)≤nx by omega),ifE_pos (show nx<7 by omega),ifE_pos (show nx.toNat+1≤dn.length by omega),ha.head (show (0:Int)≤nx by omega) (show nx<7 by omega),Option.bind_some,hfrom,r1]
     refine ih m a2 kn2 _ _ _ (fupd dn' nx true) (by have:=mu_upd q1 (by omega) q4;omega) (by omega) r2 r3 (hdn.set (by omega) (by omega) true) fun n hn => ?_
     exact relaxL_bd need nx (at' nx) L left (at',kn') hL hb n hn
theorem arr_at (hk:40≤k) (hL:∀ c∈L,CtOk N c) (hN1:1≤N) (hN:N≤6) (hlen:left.length=L.length) (hl:L.length≤24) {s to now:Int} (hs1:1≤s) (hs2:s≤N) (ht1:1≤to) (ht2:to≤N) (n0:0≤now) (n1:now≤1052674) :
 ∃ a b,f38 k N L left need s to now=some (.o0 a b):=by
 obtain ⟨k,rfl⟩:∃ m,k=m+1:=⟨k - 1,by omega⟩
 have d1:=(LF.rep (0:Int)).set (n:=s) (by omega) (by omega) now
 have d2:=(LF.rep false).set (n:=s) (by omega) (by omega) true
 have hm:mu (fun _=>false)<7:=by decide
 obtain ⟨nx,a2,kn2,dn2,q,r1,r2,r3⟩:=dij_l (k:=k) (need:=need) (by omega) hL hN1 hN hlen hl to 7 k _ _ _ _ _ _ hm (by omega) d1 d2 (LF.rep false) (fun n hn=>by
  by_cases e:n=s
  ·subst e;rw [fupd_same];omega
  ·rw [fupd_ne _ _ e] at hn;cases hn)
 simp only [f38,f38_e,f38_s1,f38_s1_b,ifE_pos (show (0:Int)≤s by omega),ifE_pos (show s<7 by omega),ifE_pos (show s.toNat+1≤7 by omega),r1,Option.bind_some,f38_s1_j2,ifE_pos (show (0:Int)≤to by omega),ifE_pos (show to<7 by omega),r2.head (show (0:Int)≤to by omega) (show to<7 by omega),r3.head (show (0:Int)≤to by omega) (show to<7 by omega)]
 exact ⟨_,_,rfl⟩
def Fst (L:List Ct) (left:List Int) (node need first:Int):Prop:=first<0∨∃ (j:Nat) (c:Ct) (x:Int),first=j∧L[j]?=some c∧left[j]?=some x∧c.From=node∧need≤x
theorem rndr_at (hk:41≤k) (hL:∀ c∈L,CtOk N c) (hN1:1≤N) (hN:N≤6) (hlen:left.length=L.length) (hl:L.length≤24) {i:Nat} {c:Ct} (hc:L[i]?=some c) {to now first best:Int} (ht1:1≤to) (ht2:to≤N) (n0:0≤now) (n1:now<c.End) :
 ∃ f2 b2,f999999999b k i (arrT c now) N L to N L left need first best=some (.o0 N L to N L left need f2 b2)∧(f2=first∨f2=(i:Int)):=by
 obtain ⟨k,rfl⟩:∃ m,k=m+1:=⟨k - 1,by omega⟩
 have hok:=hL _ (List.mem_of_getElem? hc)
 have gt:=arrT_gt hok now
 have:=hok.s2;have:=hok.e2;have:=hok.d2
 have hb:arrT c now≤1052674:=by unfold arrT;split<;>omega
 obtain ⟨a,b,r1⟩:=arr_at (k:=k) (need:=need) (by omega) hL hN1 hN hlen hl hok.t1 hok.t2 ht1 ht2 (now:=arrT c now) (by omega) hb
 simp only [f999999999b,f999999999b_e,ifE_pos (show (0:Int)≤(i:Int) by omega),Int.toNat_natCast,hc,Option.bind_some,r1]
 cases b
 ·exact ⟨_,_,rfl,.inl rfl⟩
 ·cases decide (first<0)<;>cases decide (a<best)
  ·exact ⟨_,_,rfl,.inl rfl⟩
  ·exact ⟨_,_,rfl,.inr rfl⟩
  ·exact ⟨_,_,rfl,.inr rfl⟩
  ·exact ⟨_,_,rfl,.inr rfl⟩
theorem fromr_l1 (hk:41≤k) (hL:∀ c∈L,CtOk N c) (hN1:1≤N) (hN:N≤6) (hlen:left.length=L.length) (hl:L.length≤24) {node to now:Int} (ht1:1≤to) (ht2:to≤N) (n0:0≤now) (n1:now≤1099511627776):∀ (d i n:Nat) (first best:Int),i+d=L.length→d<n→Fst L left node need first →
 ∃ f2 b2,f55b_l1 k n L L.length i N L to N L left need first best N L left need node now=some (.o1 L L.length L.length false N L to N L left need f2 b2 N L left need node now)∧Fst L left node need f2:=by
 intro d
 induction d with
 | zero =>
  intro i n first best hi hn hq
  obtain ⟨n,rfl⟩:∃ m,n=m+1:=⟨n - 1,by omega⟩
  have e3:i=L.length:=by omega
  subst e3
  simp only [f55b_l1,f55b_l1_b,decide_eq_false (show ¬((L.length:Int)<(L.length:Int)) by omega),cond_false,Option.bind_some]
  exact ⟨_,_,rfl,hq⟩
 | succ d ih =>
  intro i n first best hi hn hq
  obtain ⟨n,rfl⟩:∃ m,n=m+1:=⟨n - 1,by omega⟩
  have h1:i<L.length:=by omega
  have h1':i<left.length:=by omega
  have g1:L[i]?=some L[i]:=List.getElem?_eq_getElem h1
  have g2:left[i]?=some left[i]:=List.getElem?_eq_getElem h1'
  have hlt:((i:Int)<(L.length:Int)):=by omega
  have hw:=nat_next h1 (by omega)
  have hok:=hL _ (List.getElem_mem h1)
  have hcast:((i+1:Nat):Int)=(i:Int)+1:=rfl
  generalize L[i]=c at *
  generalize left[i]=l at *
  have ihB:=ih (i+1) n first best (by omega) (by omega) hq
  rw [hcast] at ihB hw
  simp only [f55b_l1,f55b_l1_b,f55b_l1_j1,f55b_l1_j2,decide_eq_true hlt,cond_true,ifE_pos (show (0:Int)≤(i:Int) by omega),Int.toNat_natCast,g1,g2,Option.bind_some,arr_wrap hok n0 n1,hw]
  by_cases c1:c.From=node
  ·simp only [show (c.From==node)=true by simpa using c1,cond_true]
   by_cases c2:need≤l
   ·simp only [decide_eq_true c2,cond_true]
    by_cases c3:now<c.End
    ·obtain ⟨f2,b2,r1,r2⟩:=rndr_at (need:=need) (left:=left) hk hL hN1 hN hlen hl g1 ht1 ht2 n0 c3 (first:=first) (best:=best)
     simp only [decide_eq_true c3,cond_true,r1,Option.bind_some]
     have ihA:=ih (i+1) n f2 b2 (by omega) (by omega) (by rcases r2 with e | e<;>rw [e];exact hq;exact .inr ⟨i,c,l,rfl,g1,g2,c1,c2⟩)
     rw [hcast] at ihA
     exact ihA
    ·simp only [decide_eq_false c3,cond_false,Option.bind_some]
     exact ihB
   ·simp only [decide_eq_false c2,cond_false,Option.bind_some]
    exact ihB
  ·simp only [show (c.From==node)=false by simpa using c1,cond_false,Option.bind_some]
   exact ihB
theorem neg_at (k:Nat) (hk:1≤k) (n:Int):f35 k n=some (.o0 (decide (n<0))):=by
 obtain ⟨k,rfl⟩:∃ m,k=m+1:=⟨k - 1,by omega⟩
 rfl
theorem idx_l (k:Nat) (hk:1≤k) (l:List Int) (hl:l.length<4611686018427387904):∀ (d i n:Nat),i+d=l.length→d<n →
 (((l.drop i).any fun x=>decide (x<0))=true→∃ j:Nat,f54a_l1 k n l l.length i=some (.o0 j))∧(((l.drop i).any fun x=>decide (x<0))=false→f54a_l1 k n l l.length i=some (.o2 l l.length l.length false)):=by
 intro d
 induction d with
 | zero =>
  intro i n hi hn
  obtain ⟨n,rfl⟩:∃ m,n=m+1:=⟨n - 1,by omega⟩
  have e3:i=l.length:=by omega
  subst e3
  simp only [f54a_l1,f54a_l1_b,decide_eq_false (show ¬((l.length:Int)<(l.length:Int)) by omega),cond_false,Option.bind_some,List.drop_length,List.any_nil]
  exact ⟨fun h=>(by cases h),fun _=>trivial⟩
 | succ d ih =>
  intro i n hi hn
  obtain ⟨n,rfl⟩:∃ m,n=m+1:=⟨n - 1,by omega⟩
  have h1:i<l.length:=by omega
  have g1:l[i]?=some l[i]:=List.getElem?_eq_getElem h1
  have hlt:((i:Int)<(l.length:Int)):=by omega
  have hw:=nat_next h1 (by omega)
  have ih':=ih (i+1) n (by omega) (by omega)
  rw [List.drop_eq_getElem_cons h1,List.any_cons]
  simp only [f54a_l1,f54a_l1_b,f54a_l1_j1,f54a_l1_j2,decide_eq_true hlt,cond_true,ifE_pos (show (0:Int)≤(i:Int) by omega),Int.toNat_natCast,g1,Option.bind_some,neg_at k hk,hw]
  cases decide (l[i]<0)
  ·simp only [cond_false,Bool.false_or,Option.bind_some];exact ih'
  ·simp only [cond_true,Bool.true_or,Option.bind_some]
   exact ⟨fun _=>⟨i,rfl⟩,fun h=>(by cases h)⟩
theorem cont_at (k:Nat) (l:List Int) (hk:l.length+3≤k) (hl:l.length<4611686018427387904):f34a k l=some (.o0 (l.any fun x=>decide (x<0))):=by
 obtain ⟨k,rfl⟩:∃ m,k=m+1:=⟨k - 1,by omega⟩
 obtain ⟨k,rfl⟩:∃ m,k=m+1:=⟨k - 1,by omega⟩
 have h:=idx_l k (by omega) l hl l.length 0 k (by omega) (by omega)
 rw [List.drop_zero] at h
 have e0:((0:Nat):Int)=0:=rfl
 rw [e0] at h
 simp only [f34a,f34a_e,f54a,f54a_e]
 cases hb:l.any fun x=>decide (x<0) with
 | true =>
  obtain ⟨j,hj⟩:=h.1 hb
  simp only [hj,Option.bind_some,decide_eq_true (show (j:Int)≥0 by omega)]
 | false =>
  simp only [h.2 hb,Option.bind_some,f54a_j2]
  rfl
theorem route_ex (k:Nat) (hk:200≤k) (N:Int) (C:List Ct) (l:List Int) (s to now need:Int) (hl:l.length≤60):∃ w v e:Int,f14 k N C l s to now need=some (.o0 w v e)∧(e=0→l.length=C.length∧∃ (j:Nat) (c:Ct) (x:Int),w=j∧C[j]?=some c∧l[j]?=some x∧c.From=s∧need≤x):=by
 obtain ⟨k,rfl⟩:∃ m,k=m+1:=⟨k - 1,by omega⟩
 simp only [f14,f14_e,check_at k N C (by omega),Option.bind_some]
 cases hc:chkB N C with
 | false=>exact ⟨0,0,230,rfl,fun e=>by cases e⟩
 | true =>
  obtain ⟨b1,b2,b3,b4⟩:=chkB_ok hc
  have hL:∀ c∈C,CtOk N c:=fun c h=>(b4 c h).1
  have bad:∃ w v e:Int,(some (.o0 0 0 2):Option R14)=some (.o0 w v e)∧(e=0→l.length=C.length∧∃ (j:Nat) (c:Ct) (x:Int),w=j∧C[j]?=some c∧l[j]?=some x∧c.From=s∧need≤x):=⟨0,0,2,rfl,fun e=>by cases e⟩
  simp only [cond_true,show ((0:Int) != 0)=false from rfl,cond_false,f14_j1]
  by_cases a1:l.length=C.length
  case neg=>simpa [show ((l.length:Int) != (C.length:Int))=true by simp;omega] using bad
  simp only [show ((l.length:Int) != (C.length:Int))=false by simp;omega,cond_false,cont_at k l (by omega) (by omega),Option.bind_some]
  cases a2:l.any fun x=>decide (x<0) with
  | true=>exact bad
  | false =>
  simp only [cond_false]
  by_cases a3:need<0
  case pos=>simpa [a3] using bad
  simp only [decide_eq_false a3,cond_false]
  by_cases a4:s=to
  case pos=>simpa [a4] using bad
  simp only [show (s==to)=false by simpa using a4,cond_false,within_at k (by omega),Option.bind_some]
  by_cases a5:1≤s
  case neg=>simpa [a5] using bad
  by_cases a6:s≤N
  case neg=>simpa [a5,a6] using bad
  by_cases a7:1≤to
  case neg=>simpa [a5,a6,a7] using bad
  by_cases a8:to≤N
  case neg=>simpa [a5,a6,a7,a8] using bad
  by_cases a9:0≤now
  case neg=>simpa [a5,a6,a7,a8,a9] using bad
  by_cases a10:now≤1048576
  case neg=>simpa [a5,a6,a7,a8,a9,a10] using bad
  simp only [decide_eq_true a5,decide_eq_true a6,decide_eq_true a7,decide_eq_true a8,decide_eq_true a9,decide_eq_true a10,Bool.and_true,Bool.not_true,cond_false,cond_true,f14_j2]
  have hfrom:f37 k N C l need s now=some (.o0 N C l need s now):=by
   obtain ⟨k,rfl⟩:∃ m,k=m+1:=⟨k - 1,by omega⟩
   rfl
  have hfr:∃ f2 b2,f55b k N C to N C l need (-1) 0 N C l need s now=some (.o0 N C to N C l need f2 b2 N C l need s now)∧Fst C l s need f2:=by
   obtain ⟨k,rfl⟩:∃ m,k=m+1:=⟨k - 1,by omega⟩
   obtain ⟨f2,b2,r1,r2⟩:=fromr_l1 (k:=k) (need:=need) (node:=s) (by omega) hL (by omega) b2 a1 b3 a7 a8 a9 (by omega) C.length 0 k (-1) 0 (by omega) (by omega) (.inl (by decide))
   have e0:((0:Nat):Int)=0:=rfl
   rw [e0] at r1
   simp only [f55b,f55b_e,r1,Option.bind_some]
   exact ⟨_,_,rfl,r2⟩
  obtain ⟨f2,b2',r1,q1⟩:=hfr
  simp only [hfrom,r1,Option.bind_some,f14_j3,f14_j4]
  by_cases h:f2<0
  ·simp only [decide_eq_true h,cond_true]
   exact ⟨_,_,_,rfl,fun e=>by cases e⟩
  ·simp only [decide_eq_false h,cond_false]
   exact ⟨_,_,_,rfl,fun _=>⟨a1,q1.resolve_left h⟩⟩
end
theorem rowsOf_inj {α:Type} {enc:α→List V} (h:∀ a b,enc a=enc b→a=b):∀ {a b:List α},rowsOf enc a=rowsOf enc b→a=b
 | [],[],_=>rfl
 | [],_::_,e=>by cases e
 | _::_,[],e=>by cases e
 | x::a,y::b,e=>by
  have e':enc x::rowsOf enc a=enc y::rowsOf enc b:=e
  rw [List.cons.injEq] at e'
  rw [h x y e'.1,rowsOf_inj h e'.2]
theorem encB8_inj (a b:Int) (e:encI .u8 a=encI .u8 b):a=b:=by simpa [encI] using e
theorem size_eq {k k':Nat} (h:k≤k') {b:Bun} {z z':Int} (h1:f15 k b.Source b.Dest b.Seq b.Created b.Lifetime b.HopLimit b.Hops b.Priority b.Offset b.Total b.Payload=some (.o0 z)) (h2:f15 k' b.Source b.Dest b.Seq b.Created b.Lifetime b.HopLimit b.Hops b.Priority b.Offset b.Total b.Payload=some (.o0 z')):z=z':=by
 have a1:=f15_ok k b.Source b.Dest b.Seq b.Created b.Lifetime b.HopLimit b.Hops b.Priority b.Offset b.Total b.Payload _ h1
 have a2:=f15_ok k' b.Source b.Dest b.Seq b.Created b.Lifetime b.HopLimit b.Hops b.Priority b.Offset b.Total b.Payload _ h2
 have a3:=(callV_le h a1).symm.trans a2
 simpa [R15.st] using a3
theorem ccheck_eq {k k':Nat} (h:k≤k') {L:List Bun} {z z':Int} (h1:f26 k L=some (.o0 z)) (h2:f26 k' L=some (.o0 z')):z=z':=by
 have a1:=f26_ok k L _ h1
 have a2:=f26_ok k' L _ h2
 have a3:=(callV_le h a1).symm.trans a2
 simpa [R26.st] using a3
theorem find_eq {k k':Nat} (h:k≤k') {L:List Bun} {c:Ky} {b b':Bun} {e e':Int} (h1:f13 k L c.Source c.Seq c.Offset=some (.o0 b.Source b.Dest b.Seq b.Created b.Lifetime b.HopLimit b.Hops b.Priority b.Offset b.Total b.Payload e)) (h2:f13 k' L c.Source c.Seq c.Offset=some (.o0 b'.Source b'.Dest b'.Seq b'.Created b'.Lifetime b'.HopLimit b'.Hops b'.Priority b'.Offset b'.Total b'.Payload e')):b=b'∧e=e':=by
 have a1:=f13_ok k L c.Source c.Seq c.Offset _ h1
 have a2:=f13_ok k' L c.Source c.Seq c.Offset _ h2
 have a3:=(callV_le h a1).symm.trans a2
 obtain ⟨b0,b1,b2,b3,b4,b5,b6,b7,b8,b9,b10⟩:=b
 obtain ⟨y0,y1,y2,y3,y4,y5,y6,y7,y8,y9,y10⟩:=b'
 simp only [R13.st,Option.some.injEq,Prod.mk.injEq,V.tup.injEq,List.cons.injEq,V.agg.injEq,V.p.injEq,Value.int.injEq,V.sl.injEq,and_true,true_and] at a3
 obtain ⟨⟨c0,c1,c2,c3,c4,c5,c6,c7,c8,c9,c10⟩,ce⟩:=a3
 have c10':=rowsOf_inj encB8_inj c10
 exact ⟨by rw [c0,c1,c2,c3,c4,c5,c6,c7,c8,c9,c10'],ce⟩
theorem isK_iff (b:Bun) (c:Ky):isK b c=true↔keyB b=c:=by
 obtain ⟨s,q,o⟩:=c
 simp [isK,keyB]
theorem find_in (k:Nat) (hk:9010≤k) (L:List Bun) (hL:L.length≤40) (hp:∀ b∈L,b.Payload.length≤500) {k0:Nat} (hk0:9001≤k0) (hc:f26 k0 L=some (.o0 0)) (b:Bun) (hb:b∈L) :
 f13 k L (keyB b).Source (keyB b).Seq (keyB b).Offset=some (.o0 b.Source b.Dest b.Seq b.Created b.Lifetime b.HopLimit b.Hops b.Priority b.Offset b.Total b.Payload 0):=by
 obtain ⟨e0,g0,g1⟩:=ccheck_at k0 hk0 L hL hp
 rw [hc] at g0
 have e00:e0=0:=by cases g0;rfl
 obtain ⟨_,hnd⟩:=g1 e00
 obtain ⟨k,rfl⟩:∃ m,k=m+1:=⟨k - 1,by omega⟩
 obtain ⟨e,he,_⟩:=ccheck_at k (by omega) L hL hp
 have e0':e=0:=by
  rcases Nat.le_total k0 k with h | h
  ·exact (ccheck_eq h hc he).symm
  ·exact ccheck_eq h he hc
 subst e0'
 rcases findi_at k L (keyB b) (by omega) (by omega) with ⟨j,h1,⟨h2,_⟩,hj⟩ | ⟨h2,hj⟩
 case inr=>have:=h2 b hb;rw [isK_self] at this;cases this
 have hkb:=(isK_iff _ _).1 h2
 have hbe:L[j]=b:=by
  obtain ⟨m,hm,rfl⟩:=List.getElem_of_mem hb
  have:j=m:=by
   rw [List.nodup_iff_pairwise_ne,List.pairwise_iff_getElem] at hnd
   rcases Nat.lt_trichotomy j m with h | h | h
   ·exact absurd (by rw [List.getElem_map,List.getElem_map];exact hkb) (hnd j m (by simpa using h1) (by simpa using hm) h)
   ·exact h
   ·exact absurd (by rw [List.getElem_map,List.getElem_map];exact hkb.symm) (hnd m j (by simpa using hm) (by simpa using h1) h)
  subst this;rfl
 have g1:L[j]?=some L[j]:=List.getElem?_eq_getElem h1
 have h5:=hp L[j] (List.getElem_mem h1)
 have hr:L[j].Payload.length * 1≤roomy:=by unfold roomy;omega
 obtain ⟨k',rfl⟩:∃ m,k=m+2:=⟨k - 2,by omega⟩
 simp only [f13,f13_e,he,Option.bind_some,bne_self_eq_false,cond_false,f13_j1,hj,decide_eq_false (show ¬(j:Int)<0 by omega),f13_j2,ifE_pos (show (0:Int)≤(j:Int) by omega),Int.toNat_natCast,g1,f32,f32_e,f53,ifE_pos hr]
 rw [hbe]
end Go.Proofs.YtiompmmbjpjjeaaDoorV