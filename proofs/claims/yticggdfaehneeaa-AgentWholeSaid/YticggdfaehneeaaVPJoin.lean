/- What bundles are,together. -/
import Derived.Test.YticggdfaehneeaaVPCut
namespace Go.Proofs.YticggdfaehneeaaV
open Go
set_option linter.unusedVariables false
set_option linter.unusedSimpArgs false
theorem allL_len:∀ (l:List Bun) (v:List Int),(∀ b∈l,okP b∧b.Total=(v.length:Int))→(allL l v).length=v.length
 | [],v,_=>rfl
 | b::l,v,hb=>by
  have ob:=(hb b (by simp)).1.b
  have tb:=(hb b (by simp)).2
  have hl:(putI v b.Offset.toNat b.Payload).length=v.length:=putI_len (by omega)
  have:=allL_len l (putI v b.Offset.toNat b.Payload) (fun c hc=>by rw [hl];exact hb c (by simp [hc]))
  rw [hl] at this
  exact this
theorem allF_len {c:Bun} {r:List Bun} (hc:chkL (c::r)=true):((allF (c::r)).length:Int)=c.Total:=by
 unfold chkL at hc
 rw [Bool.and_eq_true,decide_eq_true_iff] at hc
 have hT:=chkG_total hc.1
 have oc:=(hT c (by simp)).1.b
 have:=allL_len (c::r) (List.replicate c.Total.toNat 0) (fun b hb=>⟨(hT b hb).1,by rw [(hT b hb).2,List.length_replicate];omega⟩)
 rw [List.length_replicate] at this
 unfold allF
 simp only []
 omega
def maxH (l:List Bun) (h:Int):Int:=l.foldl (fun h b=>if b.Hops>h then b.Hops else h) h
def joinB:List Bun→Bun
 | []=>⟨0,0,0,0,0,0,0,0,0,0,[]⟩
 | c::r=>{ c with Offset:=0,Payload:=allF (c::r),Hops:=maxH (c::r) c.Hops }
theorem joinB_len {L:List Bun} (hc:chkL L=true):(joinB L).Payload.length≤400:=by
 cases L with
 | nil=>simp [joinB]
 | cons c r =>
  have h:=allF_len hc
  unfold chkL at hc
  rw [Bool.and_eq_true,decide_eq_true_iff] at hc
  have oc:=(chkG_total hc.1 c (by simp)).1.b
  simp only [joinB]
  omega
theorem join_l (k:Nat) (L:List Bun) (hL:L.length≤1000) (c:Bun) (v:List Int):∀ (d i n:Nat) (h:Int),i+d=L.length→d<n →
 f56_l5 k n L L.length i 0 0 0 0 0 0 0 0 0 0 [] c.Source c.Dest c.Seq c.Created c.Lifetime c.HopLimit h c.Priority 0 c.Total v=some (.o1 L L.length L.length false 0 0 0 0 0 0 0 0 0 0 [] c.Source c.Dest c.Seq c.Created c.Lifetime c.HopLimit (maxH (L.drop i) h) c.Priority 0 c.Total v):=by
 intro d
 induction d with
 | zero =>
  intro i n h hid hn
  obtain ⟨n,rfl⟩:∃ m,n=m+1:=⟨n - 1,by omega⟩
  have e1:L.drop i=[]:=List.drop_eq_nil_of_le (by omega)
  have e3:i=L.length:=by omega
  rw [e1]
  subst e3
  simp only [f56_l5,f56_l5_b,decide_eq_false (Int.lt_irrefl _),cond_false,Option.bind_some,maxH,List.foldl_nil]
 | succ d ih =>
  intro i n h hid hn
  obtain ⟨n,rfl⟩:∃ m,n=m+1:=⟨n - 1,by omega⟩
  have h1:i<L.length:=by omega
  have g1:L[i]?=some L[i]:=List.getElem?_eq_getElem h1
  have ih':=ih (i+1) n (if L[i].Hops>h then L[i].Hops else h) (by omega) (by omega)
  rw [List.drop_eq_getElem_cons h1]
  simp only [f56_l5,f56_l5_b,f56_l5_j1,f56_l5_j2,decide_eq_true (show (i:Int)<(L.length:Int) by omega),cond_true,ifE_pos (show (0:Int)≤i by omega),Int.toNat_natCast,g1,Option.bind_some,i_next h1 (show L.length<4611686018427387904 by omega),ih',maxH,List.foldl_cons]
theorem join_at (k:Nat) (hk:4002≤k) (L:List Bun) (hL:L.length≤1000) (fL:∀ b∈L,Fit b):f56 k L=some (cond (chkL L) (cond (decide (((gapsF (hasF L)).length:Int)>0)) (.o0 0 0 0 0 0 0 0 0 0 0 [] 4) (.o1 (joinB L).Source (joinB L).Dest (joinB L).Seq (joinB L).Created (joinB L).Lifetime (joinB L).HopLimit (joinB L).Hops (joinB L).Priority (joinB L).Offset (joinB L).Total 0 (joinB L).Payload)) (.o0 0 0 0 0 0 0 0 0 0 0 [] 280)):=by
 obtain ⟨k,rfl⟩:∃ m,k=m+1:=⟨k - 1,by omega⟩
 simp only [f56,f56_e,gath_at k (by omega) L hL fL,Option.bind_some]
 cases hc:chkL L with
 | false =>
  simp only [cond_false,show ((280:Int) != 0)=true by decide,cond_true]
 | true =>
  have hl:=hasF_len hc
  simp only [cond_true,bne_self_eq_false,cond_false,gaps_at k (hasF L) (by omega) (by omega),Option.bind_some]
  cases hg:decide (((gapsF (hasF L)).length:Int)>0) with
  | true=>simp only [cond_true]
  | false =>
   cases L with
   | nil=>unfold chkL at hc;simp at hc
   | cons c r =>
    have q:=join_l k (c::r) hL c (allF (c::r)) (c::r).length 0 k c.Hops (by omega) (by omega)
    have e0:((0:Nat):Int)=0:=rfl
    rw [e0,List.drop_zero] at q
    simp only [cond_false,f56_j4,List.getElem?_cons_zero,Option.bind_some,q,f56_j6,joinB]
end Go.Proofs.YticggdfaehneeaaV