/- What goes when a bundle is handed over: the bundles of its id;what is remembered. -/
import Derived.Test.YticggdfaehneeaaVPAgent
namespace Go.Proofs.YticggdfaehneeaaV
open Go
set_option linter.unusedVariables false
set_option linter.unusedSimpArgs false
def idB (s q:Int) (x:Bun):Bool:=(x.Source==s)&&(x.Seq==q)
def keptI (s q:Int) (P:List Bun):List Bun:=P.filter fun b => !idB s q b
theorem kept_take {s q:Int} {P:List Bun} {j:Nat} (h:j<P.length):keptI s q (P.take (j+1))=keptI s q (P.take j)++(cond (idB s q P[j]) [] [P[j]]):=by
 rw [List.take_add_one,List.getElem?_eq_getElem h,keptI,List.filter_append]
 congr 1
 simp only [Option.toList_some,List.filter_cons,List.filter_nil]
 cases idB s q P[j]<;>rfl
theorem kept_len (s q:Int) (P:List Bun):(keptI s q P).length≤P.length:=List.length_filter_le ..
theorem id_at (k:Nat) (hk:1≤k) (b:Bun):f37 k b.Source b.Dest b.Seq b.Created b.Lifetime b.HopLimit b.Hops b.Priority b.Offset b.Total b.Payload=some (.o0 b.Source b.Seq):=by
 obtain ⟨k,rfl⟩:∃ m,k=m+1:=⟨k - 1,by omega⟩
 simp only [f37,f37_e]
theorem j2_at (k:Nat) (hk:4≤k) (s q:Int) (b:Bun):f55 k b.Source b.Dest b.Seq b.Created b.Lifetime b.HopLimit b.Hops b.Priority b.Offset b.Total b.Payload s q=some (.o0 (idB s q b) s q):=by
 obtain ⟨k,rfl⟩:∃ m,k=m+1:=⟨k - 1,by omega⟩
 simp only [f55,f55_e,id_at k (by omega),Option.bind_some,idB]
theorem idx2_l (k:Nat) (hk:10≤k) (s q:Int) (P:List Bun) (hP:P.length≤1000):∀ (d i n:Nat),i+d=P.length→d<n →
 (∃ j:Nat,∃ h:j<P.length,i≤j∧idB s q P[j]=true∧(∀ m (hm:m<P.length),i≤m→m<j→idB s q P[m]=false)∧f61a_l1 k n P.length i P s q=some (.o0 j P s q)) ∨
 ((∀ m (hm:m<P.length),i≤m→idB s q P[m]=false)∧f61a_l1 k n P.length i P s q=some (.o2 P.length P.length false P s q)):=by
 intro d
 induction d with
 | zero =>
  intro i n hi hq
  obtain ⟨n,rfl⟩:∃ m,n=m+1:=⟨n - 1,by omega⟩
  have e3:i=P.length:=by omega
  subst e3
  right
  refine ⟨fun m hm h=>by omega,?_⟩
  simp only [f61a_l1,f61a_l1_b,decide_eq_false (Int.lt_irrefl _),cond_false,Option.bind_some]
 | succ d ih =>
  intro i n hi hq
  obtain ⟨n,rfl⟩:∃ m,n=m+1:=⟨n - 1,by omega⟩
  have h1:i<P.length:=by omega
  have g1:P[i]?=some P[i]:=List.getElem?_eq_getElem h1
  have hlt:((i:Int)<(P.length:Int)):=by omega
  have hw:=nextN h1 (by omega)
  have he:=j2_at k (by omega) s q P[i]
  cases hx:idB s q P[i]
  ·rw [hx] at he
   have e:f61a_l1 k (n+1) P.length i P s q=f61a_l1 k n P.length ((i+1:Nat):Int) P s q:=by
    simp only [f61a_l1,f61a_l1_b,f61a_l1_j1,f61a_l1_j2,decide_eq_true hlt,cond_true,cond_false,ifE_pos (show (0:Int)≤i by omega),ifE_pos hlt,Int.toNat_natCast,g1,Option.bind_some,he,hw]
   rw [e]
   rcases ih (i+1) n (by omega) (by omega) with ⟨j,hj,a1,a2,a3,a4⟩ | ⟨a1,a2⟩
   ·refine .inl ⟨j,hj,by omega,a2,fun m hm h2 h3 => ?_,a4⟩
    by_cases hmi:m=i
    ·subst hmi;exact hx
    ·exact a3 m hm (by omega) h3
   ·refine .inr ⟨fun m hm h2 => ?_,a2⟩
    by_cases hmi:m=i
    ·subst hmi;exact hx
    ·exact a1 m hm (by omega)
  ·rw [hx] at he
   refine .inl ⟨i,h1,Nat.le_refl _,hx,fun m hm h2 h3=>by omega,?_⟩
   simp only [f61a_l1,f61a_l1_b,f61a_l1_j1,decide_eq_true hlt,cond_true,ifE_pos (show (0:Int)≤i by omega),ifE_pos hlt,Int.toNat_natCast,g1,Option.bind_some,he]
theorem del2_l (k:Nat) (hk:10≤k) (s q:Int) (P:List Bun) (hP:P.length≤1000):∀ (d i j n:Nat) (E:List Bun),j+d=P.length→d<n→i<j→E.length=P.length→E.take i=keptI s q (P.take j)→E.drop j=P.drop j →
 ∃ i' E',i'≤P.length∧E'.length=P.length∧E'.take i'=keptI s q P∧f42a_l2 k n i j E s q=some (.o1 i' P.length false E' s q):=by
 intro d
 induction d with
 | zero =>
  intro i j n E hj hq hij hE h1 h2
  obtain ⟨n,rfl⟩:∃ m,n=m+1:=⟨n - 1,by omega⟩
  have e3:j=P.length:=by omega
  subst e3
  rw [List.take_length] at h1
  refine ⟨i,E,by omega,hE,h1,?_⟩
  simp only [f42a_l2,f42a_l2_b,hE,decide_eq_false (Int.lt_irrefl _),cond_false,Option.bind_some]
 | succ d ih =>
  intro i j n E hj hq hij hE h1 h2
  obtain ⟨n,rfl⟩:∃ m,n=m+1:=⟨n - 1,by omega⟩
  have hjP:j<P.length:=by omega
  have hjE:j<E.length:=by omega
  have hiE:i<E.length:=by omega
  have h2':=h2
  rw [List.drop_eq_getElem_cons hjE,List.drop_eq_getElem_cons hjP,List.cons.injEq] at h2'
  obtain ⟨hEj,h2n⟩:=h2'
  have g1:E[j]?=some P[j]:=by rw [List.getElem?_eq_getElem hjE,hEj]
  have g2:E[i]?=some E[i]:=List.getElem?_eq_getElem hiE
  have hlt:((j:Int)<(E.length:Int)):=by omega
  have hlti:((i:Int)<(E.length:Int)):=by omega
  have hw:=nextN hjP (by omega)
  have hwi:=nextN (show i<P.length by omega) (by omega)
  have he:=j2_at k (by omega) s q P[j]
  have hk':=kept_take (s:=s) (q:=q) hjP
  cases hx:idB s q P[j]
  ·rw [hx] at he hk'
   have hset:(E.set i P[j]).take (i+1)=keptI s q (P.take (j+1)):=by
    rw [hk',←h1,List.take_add_one,List.getElem?_set_self hiE,List.take_set_of_le (Nat.le_refl i)]
    rfl
   have hdrop:(E.set i P[j]).drop (j+1)=P.drop (j+1):=by
    rw [List.drop_set_of_lt (by omega)]
    exact h2n
   obtain ⟨i',E',a1,a2,a3,a4⟩:=ih (i+1) (j+1) n (E.set i P[j]) (by omega) (by omega) (by omega) (by rw [List.length_set];exact hE) hset hdrop
   refine ⟨i',E',a1,a2,a3,?_⟩
   rw [←a4]
   simp only [f42a_l2,f42a_l2_b,f42a_l2_j1,f42a_l2_j2,decide_eq_true hlt,cond_true,ifE_pos (show (0:Int)≤j by omega),ifE_pos hlt,Int.toNat_natCast,g1,g2,Option.bind_some,he,Bool.not_false,ifE_pos (show (0:Int)≤i by omega),ifE_pos hlti,hw,hwi]
  ·rw [hx] at he hk'
   simp only [cond_true,List.append_nil] at hk'
   obtain ⟨i',E',a1,a2,a3,a4⟩:=ih i (j+1) n E (by omega) (by omega) (by omega) hE (by rw [hk'];exact h1) h2n
   refine ⟨i',E',a1,a2,a3,?_⟩
   rw [←a4]
   simp only [f42a_l2,f42a_l2_b,f42a_l2_j1,f42a_l2_j3,decide_eq_true hlt,cond_true,cond_false,ifE_pos (show (0:Int)≤j by omega),ifE_pos hlt,Int.toNat_natCast,g1,Option.bind_some,he,Bool.not_true,hw]
theorem del2_at (k:Nat) (hk:2000≤k) (s q:Int) (P:List Bun) (hP:P.length≤1000) :
 (keptI s q P=P∧f42a k P s q=some (.o0 P s q))∨(∃ n E,0+n≤E.length∧(E.drop 0).take n=keptI s q P∧f42a k P s q=some (.o1 0 n E s q)):=by
 obtain ⟨k,rfl⟩:∃ m,k=m+2:=⟨k - 2,by omega⟩
 have hi:=idx2_l k (by omega) s q P hP P.length 0 k (by omega) (by omega)
 rw [Int.natCast_zero] at hi
 rcases hi with ⟨j,hj,_,a2,a3,a4⟩ | ⟨a1,a2⟩
 ·right
  have hx:f61a (k+1) P s q=some (.o0 j P s q):=by simp only [f61a,f61a_e,a4,Option.bind_some]
  have hne:((j:Int)==(-1))=false:=by rw [beq_eq_false_iff_ne];omega
  have hw:=nextN hj (by omega)
  have h0:keptI s q (P.take j)=P.take j:=by
   refine List.filter_eq_self.2 fun b hb => ?_
   obtain ⟨m,hm,rfl⟩:=List.mem_iff_getElem.1 hb
   rw [List.length_take] at hm
   rw [List.getElem_take,a3 m (by omega) (by omega) (by omega)]
   rfl
  have h1:=kept_take (s:=s) (q:=q) hj
  rw [a2,cond_true,List.append_nil,h0] at h1
  obtain ⟨i',E',b1,b2,b3,b4⟩:=del2_l (k+1) (by omega) s q P hP (P.length - (j+1)) j (j+1) (k+1) P (by omega) (by omega) (by omega) rfl h1.symm rfl
  have hr:i'+(E'.length - i')≤E'.length:=by omega
  have hlen:i'≤(E'.take i'++(List.replicate (E'.length - i') (T39.mk 0 0 0 0 0 0 0 0 0 0 [])++E'.drop (i'+(E'.length - i')))).length:=by
   simp only [List.length_append,List.length_take];omega
  refine ⟨i',_,by rw [Nat.zero_add];exact hlen,?_,?_⟩
  ·rw [List.drop_zero,List.take_append_of_le_length (by rw [List.length_take];omega),List.take_take,Nat.min_self,b3]
  ·simp only [f42a,f42a_e,hx,Option.bind_some,hne,cond_false,f42a_j1,hw,b4,f42a_j3,ifE_pos (show (0:Int)≤i' by omega),Int.toNat_natCast,ifE_pos (show i'≤E'.length by omega),ifE_pos hr,ifE_pos hlen]
 ·left
  have hx:f61a (k+1) P s q=some (.o0 (-1) P s q):=by simp only [f61a,f61a_e,a2,Option.bind_some,f61a_j2]
  refine ⟨?_,by simp only [f42a,f42a_e,hx,Option.bind_some,beq_self_eq_true,cond_true]⟩
  refine List.filter_eq_self.2 fun b hb => ?_
  obtain ⟨m,hm,rfl⟩:=List.mem_iff_getElem.1 hb
  rw [a1 m hm (by omega)]
  rfl
theorem j3_at (k:Nat) (hk:4≤k) (c:Bun) (b:Bun):f57 k b.Source b.Dest b.Seq b.Created b.Lifetime b.HopLimit b.Hops b.Priority b.Offset b.Total b.Payload c.Source c.Dest c.Seq c.Created c.Lifetime c.HopLimit c.Hops c.Priority c.Offset c.Total c.Payload=some (.o0 (idB c.Source c.Seq b) c.Source c.Dest c.Seq c.Created c.Lifetime c.HopLimit c.Hops c.Priority c.Offset c.Total c.Payload):=by
 obtain ⟨k,rfl⟩:∃ m,k=m+1:=⟨k - 1,by omega⟩
 simp only [f57,f57_e,id_at k (by omega),Option.bind_some,idB]
theorem idx3_l (k:Nat) (hk:10≤k) (c:Bun) (P:List Bun) (hP:P.length≤1000):∀ (d i n:Nat),i+d=P.length→d<n →
 (∃ j:Nat,∃ h:j<P.length,i≤j∧idB c.Source c.Seq P[j]=true∧(∀ m (hm:m<P.length),i≤m→m<j→idB c.Source c.Seq P[m]=false)∧f61b_l1 k n P.length i P c.Source c.Dest c.Seq c.Created c.Lifetime c.HopLimit c.Hops c.Priority c.Offset c.Total c.Payload=some (.o0 j P c.Source c.Dest c.Seq c.Created c.Lifetime c.HopLimit c.Hops c.Priority c.Offset c.Total c.Payload)) ∨
 ((∀ m (hm:m<P.length),i≤m→idB c.Source c.Seq P[m]=false)∧f61b_l1 k n P.length i P c.Source c.Dest c.Seq c.Created c.Lifetime c.HopLimit c.Hops c.Priority c.Offset c.Total c.Payload=some (.o2 P.length P.length false P c.Source c.Dest c.Seq c.Created c.Lifetime c.HopLimit c.Hops c.Priority c.Offset c.Total c.Payload)):=by
 intro d
 induction d with
 | zero =>
  intro i n hi hq
  obtain ⟨n,rfl⟩:∃ m,n=m+1:=⟨n - 1,by omega⟩
  have e3:i=P.length:=by omega
  subst e3
  right
  refine ⟨fun m hm h=>by omega,?_⟩
  simp only [f61b_l1,f61b_l1_b,decide_eq_false (Int.lt_irrefl _),cond_false,Option.bind_some]
 | succ d ih =>
  intro i n hi hq
  obtain ⟨n,rfl⟩:∃ m,n=m+1:=⟨n - 1,by omega⟩
  have h1:i<P.length:=by omega
  have g1:P[i]?=some P[i]:=List.getElem?_eq_getElem h1
  have hlt:((i:Int)<(P.length:Int)):=by omega
  have hw:=nextN h1 (by omega)
  have he:=j3_at k (by omega) c P[i]
  cases hx:idB c.Source c.Seq P[i]
  ·rw [hx] at he
   have e:f61b_l1 k (n+1) P.length i P c.Source c.Dest c.Seq c.Created c.Lifetime c.HopLimit c.Hops c.Priority c.Offset c.Total c.Payload=f61b_l1 k n P.length ((i+1:Nat):Int) P c.Source c.Dest c.Seq c.Created c.Lifetime c.HopLimit c.Hops c.Priority c.Offset c.Total c.Payload:=by
    simp only [f61b_l1,f61b_l1_b,f61b_l1_j1,f61b_l1_j2,decide_eq_true hlt,cond_true,cond_false,ifE_pos (show (0:Int)≤i by omega),ifE_pos hlt,Int.toNat_natCast,g1,Option.bind_some,he,hw]
   rw [e]
   rcases ih (i+1) n (by omega) (by omega) with ⟨j,hj,a1,a2,a3,a4⟩ | ⟨a1,a2⟩
   ·refine .inl ⟨j,hj,by omega,a2,fun m hm h2 h3 => ?_,a4⟩
    by_cases hmi:m=i
    ·subst hmi;exact hx
    ·exact a3 m hm (by omega) h3
   ·refine .inr ⟨fun m hm h2 => ?_,a2⟩
    by_cases hmi:m=i
    ·subst hmi;exact hx
    ·exact a1 m hm (by omega)
  ·rw [hx] at he
   refine .inl ⟨i,h1,Nat.le_refl _,hx,fun m hm h2 h3=>by omega,?_⟩
   simp only [f61b_l1,f61b_l1_b,f61b_l1_j1,decide_eq_true hlt,cond_true,ifE_pos (show (0:Int)≤i by omega),ifE_pos hlt,Int.toNat_natCast,g1,Option.bind_some,he]
theorem del3_l (k:Nat) (hk:10≤k) (c:Bun) (P:List Bun) (hP:P.length≤1000):∀ (d i j n:Nat) (E:List Bun),j+d=P.length→d<n→i<j→E.length=P.length→E.take i=keptI c.Source c.Seq (P.take j)→E.drop j=P.drop j →
 ∃ i' E',i'≤P.length∧E'.length=P.length∧E'.take i'=keptI c.Source c.Seq P∧f42b_l2 k n i j E c.Source c.Dest c.Seq c.Created c.Lifetime c.HopLimit c.Hops c.Priority c.Offset c.Total c.Payload=some (.o1 i' P.length false E' c.Source c.Dest c.Seq c.Created c.Lifetime c.HopLimit c.Hops c.Priority c.Offset c.Total c.Payload):=by
 intro d
 induction d with
 | zero =>
  intro i j n E hj hq hij hE h1 h2
  obtain ⟨n,rfl⟩:∃ m,n=m+1:=⟨n - 1,by omega⟩
  have e3:j=P.length:=by omega
  subst e3
  rw [List.take_length] at h1
  refine ⟨i,E,by omega,hE,h1,?_⟩
  simp only [f42b_l2,f42b_l2_b,hE,decide_eq_false (Int.lt_irrefl _),cond_false,Option.bind_some]
 | succ d ih =>
  intro i j n E hj hq hij hE h1 h2
  obtain ⟨n,rfl⟩:∃ m,n=m+1:=⟨n - 1,by omega⟩
  have hjP:j<P.length:=by omega
  have hjE:j<E.length:=by omega
  have hiE:i<E.length:=by omega
  have h2':=h2
  rw [List.drop_eq_getElem_cons hjE,List.drop_eq_getElem_cons hjP,List.cons.injEq] at h2'
  obtain ⟨hEj,h2n⟩:=h2'
  have g1:E[j]?=some P[j]:=by rw [List.getElem?_eq_getElem hjE,hEj]
  have g2:E[i]?=some E[i]:=List.getElem?_eq_getElem hiE
  have hlt:((j:Int)<(E.length:Int)):=by omega
  have hlti:((i:Int)<(E.length:Int)):=by omega
  have hw:=nextN hjP (by omega)
  have hwi:=nextN (show i<P.length by omega) (by omega)
  have he:=j3_at k (by omega) c P[j]
  have hk':=kept_take (s:=c.Source) (q:=c.Seq) hjP
  cases hx:idB c.Source c.Seq P[j]
  ·rw [hx] at he hk'
   have hset:(E.set i P[j]).take (i+1)=keptI c.Source c.Seq (P.take (j+1)):=by
    rw [hk',←h1,List.take_add_one,List.getElem?_set_self hiE,List.take_set_of_le (Nat.le_refl i)]
    rfl
   have hdrop:(E.set i P[j]).drop (j+1)=P.drop (j+1):=by
    rw [List.drop_set_of_lt (by omega)]
    exact h2n
   obtain ⟨i',E',a1,a2,a3,a4⟩:=ih (i+1) (j+1) n (E.set i P[j]) (by omega) (by omega) (by omega) (by rw [List.length_set];exact hE) hset hdrop
   refine ⟨i',E',a1,a2,a3,?_⟩
   rw [←a4]
   simp only [f42b_l2,f42b_l2_b,f42b_l2_j1,f42b_l2_j2,decide_eq_true hlt,cond_true,ifE_pos (show (0:Int)≤j by omega),ifE_pos hlt,Int.toNat_natCast,g1,g2,Option.bind_some,he,Bool.not_false,ifE_pos (show (0:Int)≤i by omega),ifE_pos hlti,hw,hwi]
  ·rw [hx] at he hk'
   simp only [cond_true,List.append_nil] at hk'
   obtain ⟨i',E',a1,a2,a3,a4⟩:=ih i (j+1) n E (by omega) (by omega) (by omega) hE (by rw [hk'];exact h1) h2n
   refine ⟨i',E',a1,a2,a3,?_⟩
   rw [←a4]
   simp only [f42b_l2,f42b_l2_b,f42b_l2_j1,f42b_l2_j3,decide_eq_true hlt,cond_true,cond_false,ifE_pos (show (0:Int)≤j by omega),ifE_pos hlt,Int.toNat_natCast,g1,Option.bind_some,he,Bool.not_true,hw]
theorem del3_at (k:Nat) (hk:2000≤k) (c:Bun) (P:List Bun) (hP:P.length≤1000) :
 (keptI c.Source c.Seq P=P∧f42b k P c.Source c.Dest c.Seq c.Created c.Lifetime c.HopLimit c.Hops c.Priority c.Offset c.Total c.Payload=some (.o0 P c.Source c.Dest c.Seq c.Created c.Lifetime c.HopLimit c.Hops c.Priority c.Offset c.Total c.Payload))∨(∃ n E,0+n≤E.length∧(E.drop 0).take n=keptI c.Source c.Seq P∧f42b k P c.Source c.Dest c.Seq c.Created c.Lifetime c.HopLimit c.Hops c.Priority c.Offset c.Total c.Payload=some (.o1 0 n E c.Source c.Dest c.Seq c.Created c.Lifetime c.HopLimit c.Hops c.Priority c.Offset c.Total c.Payload)):=by
 obtain ⟨k,rfl⟩:∃ m,k=m+2:=⟨k - 2,by omega⟩
 have hi:=idx3_l k (by omega) c P hP P.length 0 k (by omega) (by omega)
 rw [Int.natCast_zero] at hi
 rcases hi with ⟨j,hj,_,a2,a3,a4⟩ | ⟨a1,a2⟩
 ·right
  have hx:f61b (k+1) P c.Source c.Dest c.Seq c.Created c.Lifetime c.HopLimit c.Hops c.Priority c.Offset c.Total c.Payload=some (.o0 j P c.Source c.Dest c.Seq c.Created c.Lifetime c.HopLimit c.Hops c.Priority c.Offset c.Total c.Payload):=by simp only [f61b,f61b_e,a4,Option.bind_some]
  have hne:((j:Int)==(-1))=false:=by rw [beq_eq_false_iff_ne];omega
  have hw:=nextN hj (by omega)
  have h0:keptI c.Source c.Seq (P.take j)=P.take j:=by
   refine List.filter_eq_self.2 fun b hb => ?_
   obtain ⟨m,hm,rfl⟩:=List.mem_iff_getElem.1 hb
   rw [List.length_take] at hm
   rw [List.getElem_take,a3 m (by omega) (by omega) (by omega)]
   rfl
  have h1:=kept_take (s:=c.Source) (q:=c.Seq) hj
  rw [a2,cond_true,List.append_nil,h0] at h1
  obtain ⟨i',E',b1,b2,b3,b4⟩:=del3_l (k+1) (by omega) c P hP (P.length - (j+1)) j (j+1) (k+1) P (by omega) (by omega) (by omega) rfl h1.symm rfl
  have hr:i'+(E'.length - i')≤E'.length:=by omega
  have hlen:i'≤(E'.take i'++(List.replicate (E'.length - i') (T39.mk 0 0 0 0 0 0 0 0 0 0 [])++E'.drop (i'+(E'.length - i')))).length:=by
   simp only [List.length_append,List.length_take];omega
  refine ⟨i',_,by rw [Nat.zero_add];exact hlen,?_,?_⟩
  ·rw [List.drop_zero,List.take_append_of_le_length (by rw [List.length_take];omega),List.take_take,Nat.min_self,b3]
  ·simp only [f42b,f42b_e,hx,Option.bind_some,hne,cond_false,f42b_j1,hw,b4,f42b_j3,ifE_pos (show (0:Int)≤i' by omega),Int.toNat_natCast,ifE_pos (show i'≤E'.length by omega),ifE_pos hr,ifE_pos hlen]
 ·left
  have hx:f61b (k+1) P c.Source c.Dest c.Seq c.Created c.Lifetime c.HopLimit c.Hops c.Priority c.Offset c.Total c.Payload=some (.o0 (-1) P c.Source c.Dest c.Seq c.Created c.Lifetime c.HopLimit c.Hops c.Priority c.Offset c.Total c.Payload):=by simp only [f61b,f61b_e,a2,Option.bind_some,f61b_j2]
  refine ⟨?_,by simp only [f42b,f42b_e,hx,Option.bind_some,beq_self_eq_true,cond_true]⟩
  refine List.filter_eq_self.2 fun b hb => ?_
  obtain ⟨m,hm,rfl⟩:=List.mem_iff_getElem.1 hb
  rw [a1 m hm (by omega)]
  rfl
theorem ofo_l (k:Nat) (hk:1≤k) (P:List Bun) (s q:Int) (S:List Sn) (hP:P.length≤1000):∀ (d i n:Nat) (acc:List Bun),i+d=P.length→d<n→acc.length≤i →
 f36a_l1 k n P.length i s q acc P S=some (.o2 P.length P.length false s q (acc++ofB (P.drop i) s q) P S):=by
 obtain ⟨k,rfl⟩:∃ m,k=m+1:=⟨k - 1,by omega⟩
 intro d
 induction d with
 | zero =>
  intro i n acc hi hq _
  obtain ⟨n,rfl⟩:∃ m,n=m+1:=⟨n - 1,by omega⟩
  have e3:i=P.length:=by omega
  subst e3
  simp [f36a_l1,f36a_l1_b,ofB]
 | succ d ih =>
  intro i n acc hi hq ha
  obtain ⟨n,rfl⟩:∃ m,n=m+1:=⟨n - 1,by omega⟩
  have h1:i<P.length:=by omega
  have g1:P[i]?=some P[i]:=List.getElem?_eq_getElem h1
  have hlt:((i:Int)<(P.length:Int)):=by omega
  have hw:=nextN h1 (by omega)
  have hr:(acc.length+1) * 104≤roomy:=by unfold roomy;omega
  rw [List.drop_eq_getElem_cons h1,ofB_cons]
  cases hc:(P[i].Source==s)&&(P[i].Seq==q)
  ·have ih':=ih (i+1) n acc (by omega) (by omega) (by omega)
   simp only [f36a_l1,f36a_l1_b,f36a_l1_j1,f36a_l1_j3,f37,f37_e,decide_eq_true hlt,cond_true,cond_false,ifE_pos (show (0:Int)≤i by omega),ifE_pos hlt,Int.toNat_natCast,g1,Option.bind_some,hc,hw,ih']
  ·have ih':=ih (i+1) n (acc++[P[i]]) (by omega) (by omega) (by rw [List.length_append];simp;omega)
   rw [List.append_assoc,List.singleton_append] at ih'
   simp only [f36a_l1,f36a_l1_b,f36a_l1_j1,f36a_l1_j2,f37,f37_e,decide_eq_true hlt,cond_true,ifE_pos (show (0:Int)≤i by omega),ifE_pos hlt,ifE_pos hr,Int.toNat_natCast,g1,Option.bind_some,hc,hw,ih']
theorem ofo_at (k:Nat) (nd nx:Int) (S:List Sn) (P:List Bun) (s q:Int) (hP:P.length≤1000) (hk:P.length+3≤k):f36a k nd nx s q S P=some (.o0 S P (ofB P s q)):=by
 obtain ⟨k,rfl⟩:∃ m,k=m+1:=⟨k - 1,by omega⟩
 have h:=ofo_l k (by omega) P s q S hP P.length 0 k [] (by omega) (by omega) (by simp)
 rw [List.drop_zero,Int.natCast_zero,List.nil_append] at h
 simp only [f36a,f36a_e,h,Option.bind_some,f36a_j2]
def seenB (b:Bun):Sn:=⟨b.Source,b.Seq,b.Offset,(b.Payload.length:Int)⟩
def remS (S:List Sn) (s:Sn):List Sn:=if S.length<64 then S++[s] else (S++[s]).drop 1
theorem snf_at (k:Nat) (hk:2≤k) (b:Bun):f53 k b.Source b.Dest b.Seq b.Created b.Lifetime b.HopLimit b.Hops b.Priority b.Offset b.Total b.Payload=some (.o0 b.Source b.Seq b.Offset (b.Payload.length:Int)):=by
 obtain ⟨k,rfl⟩:∃ m,k=m+2:=⟨k - 2,by omega⟩
 simp only [f53,f53_e,f63,f63_e,Option.bind_some]
theorem dels_at (k:Nat) (hk:2≤k) (E:List Sn) (hE:E.length=65):∃ R:List Sn,0+64≤R.length∧(R.drop 0).take 64=E.drop 1∧f64 k 0 1 E=some (.o1 0 64 R):=by
 obtain ⟨k,rfl⟩:∃ m,k=m+1:=⟨k - 1,by omega⟩
 have hT:List.take 64 (List.drop 1 E)=E.drop 1:=List.take_of_length_le (by rw [List.length_drop];omega)
 have hTl:(E.drop 1).length=64:=by rw [List.length_drop];omega
 have hX:(E.drop 1++E.drop 64).length=65:=by rw [List.length_append,List.length_drop,List.length_drop];omega
 refine ⟨List.take 64 (E.drop 1++E.drop 64)++([T65.mk 0 0 0 0]++List.drop 65 (E.drop 1++E.drop 64)),?_,?_,?_⟩
 ·rw [List.length_append,List.length_take,hX];omega
 ·rw [List.drop_zero,List.take_append_of_le_length (by rw [List.length_take,hX];omega),List.take_take,Nat.min_self,List.take_append_of_le_length (by omega),List.take_of_length_le (by omega)]
 ·have e1:Int.toNat 1=1:=rfl
  have e0:Int.toNat 0=0:=rfl
  simp only [f64,f64_e,f64_j1,hE,e0,e1,Nat.reduceSub,hT,hTl,List.take_zero,List.nil_append,Nat.zero_add,hX,Int.toNat_natCast]
  simp [ifE]
theorem rem_at (k:Nat) (hk:10≤k) (b:Bun) (nd nx:Int) (S:List Sn) (P:List Bun) (hS:S.length≤64) :
 f54b k b.Source b.Dest b.Seq b.Created b.Lifetime b.HopLimit b.Hops b.Priority b.Offset b.Total b.Payload nd nx S P=some (.o0 nd nx P (remS S (seenB b)))∨∃ n E,0+n≤E.length∧(E.drop 0).take n=remS S (seenB b)∧f54b k b.Source b.Dest b.Seq b.Created b.Lifetime b.HopLimit b.Hops b.Priority b.Offset b.Total b.Payload nd nx S P=some (.o1 nd nx 0 n P E):=by
 obtain ⟨k,rfl⟩:∃ m,k=m+1:=⟨k - 1,by omega⟩
 have hr:(S.length+1) * 32≤roomy:=by unfold roomy;omega
 have hl:(S++[seenB b]).length=S.length+1:=by simp
 have hw:IntKind.i64.wrap (((S.length+1:Nat):Int) - (64:Int))=((S.length+1:Nat):Int) - 64:=wrap_i64 (by omega) (by omega)
 by_cases h:S.length<64
 ·left
  have hc:¬(((S.length+1:Nat):Int) - 64>0):=by omega
  have hr2:remS S (seenB b)=S++[seenB b]:=if_pos h
  rw [hr2]
  unfold seenB at hl ⊢
  simp only [f54b,f54b_e,snf_at k (by omega) b,Option.bind_some,ifE_pos hr,hl,hw,decide_eq_false hc,cond_false]
 ·right
  have hc:(((S.length+1:Nat):Int) - 64>0):=by omega
  have hr2:remS S (seenB b)=(S++[seenB b]).drop 1:=if_neg h
  obtain ⟨R,r1,r2,r3⟩:=dels_at k (by omega) (S++[seenB b]) (by rw [hl];omega)
  have e1:((S.length+1:Nat):Int) - 64=1:=by omega
  refine ⟨64,R,r1,by rw [hr2];exact r2,?_⟩
  unfold seenB at hl r3
  replace hw:=hw.trans e1
  simp only [f54b,f54b_e,snf_at k (by omega) b,Option.bind_some,ifE_pos hr,hl,hw,decide_eq_true (show (1:Int)>0 by decide),cond_true,r3]
theorem remc_at (k:Nat) (hk:10≤k) (b:Bun) (nd nx:Int) (p q:Nat) (S:List Sn) (P:List Bun) (hS:S.length≤64) :
 f54a k b.Source b.Dest b.Seq b.Created b.Lifetime b.HopLimit b.Hops b.Priority b.Offset b.Total b.Payload nd nx p q S P=some (.o0 nd nx p q P (remS S (seenB b)))∨∃ n E,0+n≤E.length∧(E.drop 0).take n=remS S (seenB b)∧f54a k b.Source b.Dest b.Seq b.Created b.Lifetime b.HopLimit b.Hops b.Priority b.Offset b.Total b.Payload nd nx p q S P=some (.o1 nd nx 0 n p q P E):=by
 obtain ⟨k,rfl⟩:∃ m,k=m+1:=⟨k - 1,by omega⟩
 have hr:(S.length+1) * 32≤roomy:=by unfold roomy;omega
 have hl:(S++[seenB b]).length=S.length+1:=by simp
 have hw:IntKind.i64.wrap (((S.length+1:Nat):Int) - (64:Int))=((S.length+1:Nat):Int) - 64:=wrap_i64 (by omega) (by omega)
 by_cases h:S.length<64
 ·left
  have hc:¬(((S.length+1:Nat):Int) - 64>0):=by omega
  have hr2:remS S (seenB b)=S++[seenB b]:=if_pos h
  rw [hr2]
  unfold seenB at hl ⊢
  simp only [f54a,f54a_e,snf_at k (by omega) b,Option.bind_some,ifE_pos hr,hl,hw,decide_eq_false hc,cond_false]
 ·right
  have hc:(((S.length+1:Nat):Int) - 64>0):=by omega
  have hr2:remS S (seenB b)=(S++[seenB b]).drop 1:=if_neg h
  obtain ⟨R,r1,r2,r3⟩:=dels_at k (by omega) (S++[seenB b]) (by rw [hl];omega)
  have e1:((S.length+1:Nat):Int) - 64=1:=by omega
  refine ⟨64,R,r1,by rw [hr2];exact r2,?_⟩
  unfold seenB at hl r3
  replace hw:=hw.trans e1
  simp only [f54a,f54a_e,snf_at k (by omega) b,Option.bind_some,ifE_pos hr,hl,hw,decide_eq_true (show (1:Int)>0 by decide),cond_true,r3]
theorem cont_at (k:Nat) (hk:1002≤k) (S:List Sn) (s:Sn) (hS:S.length≤300):f52 k S s.Key_Source s.Key_Seq s.Key_Offset s.N=some (.o0 (S.any (eqS · s))):=by
 obtain ⟨k,rfl⟩:∃ m,k=m+1:=⟨k - 1,by omega⟩
 have h:=idx_at k S s (by omega) (by omega)
 simp only [f52,f52_e,h,Option.bind_some]
 have key:∀ (l:List Sn) (i:Nat),decide (idxS s l i≥0)=l.any (eqS · s):=fun l=>by
  induction l with
  | nil=>intro i;rfl
  | cons x l ih =>
   intro i
   rw [idxS,List.any_cons,eqS_comm x s]
   cases eqS s x
   ·rw [cond_false,ih];rfl
   ·rw [cond_true,Bool.true_or,decide_eq_true];exact Int.natCast_nonneg i
 rw [key]
theorem just_at (k:Nat) (hk:1≤k) (n:Int):f51 k n=some (.o0 n 0 0 0 0 0 0 0 0 0 0 []):=by
 obtain ⟨k,rfl⟩:∃ m,k=m+1:=⟨k - 1,by omega⟩
 simp only [f51,f51_e]
end Go.Proofs.YticggdfaehneeaaV