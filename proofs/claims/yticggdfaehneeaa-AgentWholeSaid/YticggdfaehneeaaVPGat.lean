/- What is gathered of a list of bundles: the program's answer and the document's. -/
import Derived.Test.YticggdfaehneeaaVPGaps
namespace Go.Proofs.YticggdfaehneeaaV
open Go
set_option linter.unusedVariables false
set_option linter.unusedSimpArgs false
noncomputable def togB (a b:Bun):Bool:=@decide (togP a b) (Classical.propDecidable _)
theorem togB_iff (a b:Bun):togB a b=true↔togP a b:=by unfold togB;exact @decide_eq_true_iff (togP a b) (Classical.propDecidable _)
def Fit (b:Bun):Prop:=0≤b.Seq∧b.Payload.length≤3000∧∀ x∈b.Payload,0≤x∧x<256
theorem togB_at (k:Nat) (hk:3200≤k) {a b:Bun} (fa:Fit a) (fb:Fit b):f65 k a.Source a.Dest a.Seq a.Created a.Lifetime a.HopLimit a.Hops a.Priority a.Offset a.Total a.Payload b.Source b.Dest b.Seq b.Created b.Lifetime b.HopLimit b.Hops b.Priority b.Offset b.Total b.Payload=some (.o0 (togB a b)):=by
 obtain ⟨v,h1,h2⟩:=tog_at k a b fa.2.2 fb.2.2 fa.2.1 hk
 rw [h1,show v=togB a b by rw [Bool.eq_iff_iff,h2,togB_iff]]
noncomputable def chkG:List Bun→List Bun→Bool
 | _,[]=>true
 | pre,a::r=>(pre++[a]).all (togB a)&&chkG (pre++[a]) r
theorem chkG_ok:∀ (r pre:List Bun),chkG pre r=true→∀ a∈r,okP a∧∀ p∈pre,togP a p
 | [],pre,_,a,ha=>by cases ha
 | c::r,pre,h,a,ha=>by
  rw [chkG,Bool.and_eq_true,List.all_eq_true] at h
  rcases List.mem_cons.1 ha with rfl | ha
  ·refine ⟨((togB_iff _ _).1 (h.1 a (by simp))).1,fun p hp=>(togB_iff _ _).1 (h.1 p (by simp [hp]))⟩
  ·obtain ⟨h1,h2⟩:=chkG_ok r (pre++[c]) h.2 a ha
   exact ⟨h1,fun p hp=>h2 p (by simp [hp])⟩
theorem chkG_total {c:Bun} {r:List Bun} (h:chkG [] (c::r)=true):∀ a∈c::r,okP a∧a.Total=c.Total:=by
 intro a ha
 have h1:=(chkG_ok (c::r) [] h a ha).1
 refine ⟨h1,?_⟩
 rcases List.mem_cons.1 ha with rfl | ha
 ·rfl
 ·rw [chkG,Bool.and_eq_true] at h
  have:=(chkG_ok r _ h.2 a ha).2 c (by simp)
  exact ((like_iff a c).1 this.2.2.1).2.2.2.2.2.2.2
theorem take_next {α:Type} {l:List α} {i:Nat} (h:i<l.length):l.take (i+1)=l.take i++[l[i]]:=by
 rw [List.take_add_one,List.getElem?_eq_getElem h];rfl
theorem gath_l2 (k:Nat) (hk:3200≤k) (x0 x14:List Bun) (x15 x16:Int) (M:List Bun) (hM:M.length≤1000) (fM:∀ b∈M,Fit b) (a:Bun) (fa:Fit a):∀ (d j n:Nat),j+d=M.length→d<n →
 f58_l1_l2 k n x0 x14 x15 x16 M M.length j a.Source a.Dest a.Seq a.Created a.Lifetime a.HopLimit a.Hops a.Priority a.Offset a.Total a.Payload=some (cond ((M.drop j).all (togB a)) (.o2 x0 x14 x15 x16 M M.length M.length false a.Source a.Dest a.Seq a.Created a.Lifetime a.HopLimit a.Hops a.Priority a.Offset a.Total a.Payload) (.o0 [] [] 280)):=by
 intro d
 induction d with
 | zero =>
  intro j n hid hn
  obtain ⟨n,rfl⟩:∃ m,n=m+1:=⟨n - 1,by omega⟩
  have e1:M.drop j=[]:=List.drop_eq_nil_of_le (by omega)
  have e3:j=M.length:=by omega
  rw [e1]
  subst e3
  simp only [f58_l1_l2,f58_l1_l2_b,decide_eq_false (Int.lt_irrefl _),cond_false,cond_true,Option.bind_some,List.all_nil]
 | succ d ih =>
  intro j n hid hn
  obtain ⟨n,rfl⟩:∃ m,n=m+1:=⟨n - 1,by omega⟩
  have h1:j<M.length:=by omega
  have g1:M[j]?=some M[j]:=List.getElem?_eq_getElem h1
  have ih':=ih (j+1) n (by omega) (by omega)
  have t:=togB_at k hk fa (fM M[j] (List.getElem_mem h1))
  rw [List.drop_eq_getElem_cons h1,List.all_cons]
  simp only [f58_l1_l2,f58_l1_l2_b,f58_l1_l2_j1,f58_l1_l2_j2,decide_eq_true (show (j:Int)<(M.length:Int) by omega),cond_true,ifE_pos (show (0:Int)≤j by omega),Int.toNat_natCast,g1,Option.bind_some,t,i_next h1 (by omega)]
  cases togB a M[j] with
  | true=>simp only [Bool.not_true,cond_false,Option.bind_some,ih',Bool.true_and]
  | false=>simp only [Bool.not_false,cond_true,Option.bind_some,Bool.false_and,cond_false]
theorem gath_l1 (k:Nat) (hk:4000≤k) (L:List Bun) (hL:L.length≤1000) (fL:∀ b∈L,Fit b):∀ (d i n:Nat),i+d=L.length→d<n →
 f58_l1 k n L L L.length i=some (cond (chkG (L.take i) (L.drop i)) (.o2 L L L.length L.length false) (.o0 [] [] 280)):=by
 intro d
 induction d with
 | zero =>
  intro i n hid hn
  obtain ⟨n,rfl⟩:∃ m,n=m+1:=⟨n - 1,by omega⟩
  have e1:L.drop i=[]:=List.drop_eq_nil_of_le (by omega)
  have e3:i=L.length:=by omega
  rw [e1]
  subst e3
  simp only [f58_l1,f58_l1_b,decide_eq_false (Int.lt_irrefl _),cond_false,cond_true,Option.bind_some,chkG]
 | succ d ih =>
  intro i n hid hn
  obtain ⟨n,rfl⟩:∃ m,n=m+1:=⟨n - 1,by omega⟩
  have h1:i<L.length:=by omega
  have g1:L[i]?=some L[i]:=List.getElem?_eq_getElem h1
  have ih':=ih (i+1) n (by omega) (by omega)
  have hM:(L.take (i+1)).length≤1000:=by rw [List.length_take];omega
  have t:=gath_l2 k (by omega) L L L.length i (L.take (i+1)) hM (fun b hb=>fL b (List.mem_of_mem_take hb)) L[i] (fL _ (List.getElem_mem h1)) (L.take (i+1)).length 0 k (by omega) (by omega)
  have e0:((0:Nat):Int)=0:=rfl
  rw [e0,List.drop_zero] at t
  rw [List.drop_eq_getElem_cons h1,chkG,←take_next h1]
  simp only [f58_l1,f58_l1_b,f58_l1_j1,decide_eq_true (show (i:Int)<(L.length:Int) by omega),cond_true,ifE_pos (show (0:Int)≤i by omega),Int.toNat_natCast,g1,Option.bind_some,i_next h1 (by omega),ifE_pos (show (0:Int)≤((i+1:Nat):Int) by omega),ifE_pos (show i+1≤L.length by omega),t]
  cases (L.take (i+1)).all (togB L[i]) with
  | true=>simp only [cond_true,Option.bind_some,f58_l1_j3,i_next h1 (show L.length<4611686018427387904 by omega),ih',Bool.true_and]
  | false=>simp only [cond_false,Option.bind_some,Bool.false_and]
def putB (h:List Bool) (o n:Nat):List Bool:=h.take o++(List.replicate n true++h.drop (o+n))
def putI (v:List Int) (o:Nat) (p:List Int):List Int:=v.take o++(p++v.drop (o+p.length))
theorem putB_len {h:List Bool} {o n:Nat} (hh:o+n≤h.length):(putB h o n).length=h.length:=by simp [putB];omega
theorem putI_len {v:List Int} {o:Nat} {p:List Int} (hh:o+p.length≤v.length):(putI v o p).length=v.length:=by simp [putI];omega
theorem putB_zero (h:List Bool) (o:Nat):putB h o 0=h:=by simp [putB]
theorem putI_zero (v:List Int) (o:Nat):putI v o []=v:=by simp [putI]
theorem putB_succ {h:List Bool} {o n:Nat} (hh:o+n<h.length):(putB h o n).set (o+n) true=putB h o (n+1):=by
 unfold putB
 have hl:(h.take o).length=o:=by rw [List.length_take];omega
 rw [List.set_append_right (h:=by omega),hl,show o+n - o=n by omega,List.set_append_right (h:=by simp),List.length_replicate,Nat.sub_self,List.drop_eq_getElem_cons hh,List.set_cons_zero,List.replicate_succ',List.append_assoc]
 rfl
theorem putI_succ {v:List Int} {o:Nat} {p:List Int} {j:Nat} (hj:j<p.length) (hh:o+p.length≤v.length):(putI v o (p.take j)).set (o+j) p[j]=putI v o (p.take (j+1)):=by
 unfold putI
 have hl:(v.take o).length=o:=by rw [List.length_take];omega
 have hp:(p.take j).length=j:=by rw [List.length_take];omega
 have hp2:(p.take (j+1)).length=j+1:=by rw [List.length_take];omega
 rw [List.set_append_right (h:=by omega),hl,show o+j - o=j by omega,List.set_append_right (h:=by omega),hp,hp2,Nat.sub_self,List.drop_eq_getElem_cons (show o+j<v.length by omega),List.set_cons_zero,take_next hj,List.append_assoc]
 rfl
def hasL (l:List Bun) (h:List Bool):List Bool:=l.foldl (fun h b=>putB h b.Offset.toNat b.Payload.length) h
def allL (l:List Bun) (v:List Int):List Int:=l.foldl (fun v b=>putI v b.Offset.toNat b.Payload) v
theorem gath_b (k:Nat) (L:List Bun) (x50 x51:Int) (v:List Int) (b:Bun) (ob:okP b) (h:List Bool) (hh:(h.length:Int)=b.Total):∀ (d j n:Nat),j+d=b.Payload.length→d<n →
 f58_l4_l2 k n L x50 x51 b.Payload.length j (putB h b.Offset.toNat j) v b.Source b.Dest b.Seq b.Created b.Lifetime b.HopLimit b.Hops b.Priority b.Offset b.Total b.Payload=some (.o1 L x50 x51 b.Payload.length b.Payload.length false (putB h b.Offset.toNat b.Payload.length) v b.Source b.Dest b.Seq b.Created b.Lifetime b.HopLimit b.Hops b.Priority b.Offset b.Total b.Payload):=by
 have bb:=ob.b
 intro d
 induction d with
 | zero =>
  intro j n hid hn
  obtain ⟨n,rfl⟩:∃ m,n=m+1:=⟨n - 1,by omega⟩
  have e3:j=b.Payload.length:=by omega
  subst e3
  simp only [f58_l4_l2,f58_l4_l2_b,decide_eq_false (Int.lt_irrefl _),cond_false,Option.bind_some]
 | succ d ih =>
  intro j n hid hn
  obtain ⟨n,rfl⟩:∃ m,n=m+1:=⟨n - 1,by omega⟩
  have h1:j<b.Payload.length:=by omega
  have ih':=ih (j+1) n (by omega) (by omega)
  have hw:IntKind.i64.wrap (b.Offset+(j:Int))=((b.Offset.toNat+j:Nat):Int):=by rw [wrap_i64 (by omega) (by omega)];omega
  have hl:(putB h b.Offset.toNat j).length=h.length:=putB_len (by omega)
  have hg:b.Offset.toNat+j<(putB h b.Offset.toNat j).length:=by omega
  have g1:(putB h b.Offset.toNat j)[b.Offset.toNat+j]?=some (putB h b.Offset.toNat j)[b.Offset.toNat+j]:=List.getElem?_eq_getElem hg
  simp only [f58_l4_l2,f58_l4_l2_b,f58_l4_l2_j1,f58_l4_l2_j2,decide_eq_true (show (j:Int)<(b.Payload.length:Int) by omega),cond_true,hw,ifE_pos (show (0:Int)≤((b.Offset.toNat+j:Nat):Int) by omega),ifE_pos (show ((b.Offset.toNat+j:Nat):Int)<((putB h b.Offset.toNat j).length:Int) by omega),Int.toNat_natCast,g1,Option.bind_some,putB_succ (show b.Offset.toNat+j<h.length by omega),i_next h1 (by omega),ih']
theorem gath_l4 (k:Nat) (hk:4000≤k) (L:List Bun) (T:Int) (hL:L.length≤1000) (oL:∀ b∈L,okP b∧b.Total=T):∀ (d i n:Nat) (h:List Bool) (v:List Int),i+d=L.length→d<n→(h.length:Int)=T→(v.length:Int)=T →
 f58_l4 k n L L.length i h v=some (.o1 L L.length L.length false (hasL (L.drop i) h) (allL (L.drop i) v)):=by
 intro d
 induction d with
 | zero =>
  intro i n h v hid hn hh hv
  obtain ⟨n,rfl⟩:∃ m,n=m+1:=⟨n - 1,by omega⟩
  have e1:L.drop i=[]:=List.drop_eq_nil_of_le (by omega)
  have e3:i=L.length:=by omega
  rw [e1]
  subst e3
  simp only [f58_l4,f58_l4_b,decide_eq_false (Int.lt_irrefl _),cond_false,Option.bind_some,hasL,allL,List.foldl_nil]
 | succ d ih =>
  intro i n h v hid hn hh hv
  obtain ⟨n,rfl⟩:∃ m,n=m+1:=⟨n - 1,by omega⟩
  have h1:i<L.length:=by omega
  have g1:L[i]?=some L[i]:=List.getElem?_eq_getElem h1
  obtain ⟨ob,tb⟩:=oL L[i] (List.getElem_mem h1)
  have bb:=ob.b
  have q:=gath_b k L L.length i (putI v L[i].Offset.toNat L[i].Payload) L[i] ob h (by omega) L[i].Payload.length 0 k (by omega) (by omega)
  have e0:((0:Nat):Int)=0:=rfl
  rw [e0,putB_zero] at q
  have ih':=ih (i+1) n (putB h L[i].Offset.toNat L[i].Payload.length) (putI v L[i].Offset.toNat L[i].Payload) (by omega) (by omega) (by rw [putB_len (by omega)];exact hh) (by rw [putI_len (by omega)];exact hv)
  have et:List.take (v.length - L[i].Offset.toNat) L[i].Payload=L[i].Payload:=List.take_of_length_le (by omega)
  rw [List.drop_eq_getElem_cons h1]
  simp only [f58_l4,f58_l4_b,f58_l4_j1,decide_eq_true (show (i:Int)<(L.length:Int) by omega),cond_true,ifE_pos (show (0:Int)≤i by omega),Int.toNat_natCast,g1,Option.bind_some,ifE_pos (show (0:Int)≤L[i].Offset by omega),ifE_pos (show L[i].Offset.toNat≤v.length by omega),ifE_pos (show L[i].Offset.toNat+(v.length - L[i].Offset.toNat)≤v.length by omega),et]
  unfold putI at q ih'
  simp only [q,Option.bind_some,f58_l4_j3,i_next h1 (show L.length<4611686018427387904 by omega),ih',hasL,allL,List.foldl_cons,putI]
noncomputable def chkL (L:List Bun):Bool:=chkG [] L&&decide (0<L.length)
def hasF (L:List Bun):List Bool:=hasL L (List.replicate (match L with | []=>0 | c::_=>c.Total.toNat) false)
def allF (L:List Bun):List Int:=allL L (List.replicate (match L with | []=>0 | c::_=>c.Total.toNat) 0)
theorem gath_at (k:Nat) (hk:4001≤k) (L:List Bun) (hL:L.length≤1000) (fL:∀ b∈L,Fit b):f58 k L=some (cond (chkL L) (.o1 0 (hasF L) (allF L)) (.o0 [] [] 280)):=by
 obtain ⟨k,rfl⟩:∃ m,k=m+1:=⟨k - 1,by omega⟩
 have q:=gath_l1 k (by omega) L hL fL L.length 0 k (by omega) (by omega)
 have e0:((0:Nat):Int)=0:=rfl
 rw [e0,List.take_zero,List.drop_zero] at q
 unfold chkL
 simp only [f58,f58_e,q,Option.bind_some]
 cases hc:chkG [] L with
 | false=>simp only [cond_false,Option.bind_some,Bool.false_and]
 | true =>
  cases L with
  | nil=>rfl
  | cons c r =>
   have hT:=chkG_total hc
   have oc:=(hT c (by simp)).1.b
   have q2:=gath_l4 k (by omega) (c::r) c.Total hL hT (c::r).length 0 k (List.replicate c.Total.toNat false) (List.replicate c.Total.toNat 0) (by omega) (by omega) (by simp;omega) (by simp;omega)
   rw [e0,List.drop_zero] at q2
   have hr:(c.Total:Int) * 1≤(roomy:Int):=by have:((roomy:Nat):Int)=140737488351232:=rfl;omega
   have hne:(((c::r).length:Int)==0)=false:=by rw [beq_eq_false_iff_ne];simp only [List.length_cons];omega
   simp only [cond_true,cond_false,Option.bind_some,Bool.true_and,f58_j2,hne,f58_j3,List.getElem?_cons_zero,ifE_pos (show (0:Int)≤c.Total by omega),ifE_pos (Int.le_refl c.Total),ifE_pos hr,q2,f58_j5,decide_eq_true (show 0<(c::r).length by simp),hasF,allF]
end Go.Proofs.YticggdfaehneeaaV