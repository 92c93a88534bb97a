/- Pieces of one bundle,together. -/
import Derived.Test.YticggdfaehneeaaVPMakeW
namespace Go.Proofs.YticggdfaehneeaaV
open Go
set_option linter.unusedVariables false
set_option linter.unusedSimpArgs false
theorem piece_get {b:Bun} {o m i:Nat} {x:Int} (h:(piece b o m).Payload[i]?=some x):i<m∧b.Payload[o+i]?=some x:=by
 simp only [piece] at h
 rw [List.getElem?_take] at h
 split at h
 ·rename_i hi
  rw [List.getElem?_drop] at h
  exact ⟨hi,h⟩
 ·cases h
theorem piece_ok {b:Bun} (hb:okP b) {o m:Nat} (h:o+m≤b.Payload.length) (hm:1≤m):okP (piece b o m):=by
 have hl:=piece_len h
 unfold okP at hb ⊢
 rw [hl]
 simp only [piece]
 omega
theorem piece_fit {b:Bun} (hb:Fit b) (o m:Nat):Fit (piece b o m):=by
 refine ⟨hb.1,?_,fun x hx=>hb.2.2 x (List.mem_of_mem_drop (List.mem_of_mem_take hx))⟩
 have:=hb.2.1
 simp only [piece,List.length_take,List.length_drop]
 omega
theorem piece_tog {b:Bun} (hb:okP b) {o m o' m':Nat} (h:o+m≤b.Payload.length) (hm:1≤m) (h':o'+m'≤b.Payload.length) (hm':1≤m'):togP (piece b o m) (piece b o' m'):=by
 refine ⟨piece_ok hb h hm,piece_ok hb h' hm',(like_iff _ _).2 ⟨rfl,rfl,rfl,rfl,rfl,rfl,rfl,rfl⟩,fun i j x y hx hy e => ?_⟩
 have h1:=(piece_get hx).2
 have h2:=(piece_get hy).2
 simp only [piece] at e
 rw [show o+i=o'+j by omega,h2] at h1
 exact (Option.some.inj h1).symm
theorem chkG_true:∀ (r pre:List Bun),(∀ x∈pre++r,∀ y∈pre++r,togP x y)→chkG pre r=true
 | [],pre,_=>by rw [chkG]
 | a::r,pre,h=>by
  rw [chkG,Bool.and_eq_true]
  refine ⟨?_,chkG_true r (pre++[a]) (by simpa using h)⟩
  rw [List.all_eq_true]
  intro p hp
  rw [togB_iff]
  refine h a (by simp) p ?_
  rcases List.mem_append.1 hp with h1 | h1
  ·exact List.mem_append_left _ h1
  ·exact List.mem_append_right _ (by simp at h1;simp [h1])
def Pc (b:Bun) (M:List Bun):Prop:=∀ p∈M,∃ o m,p=piece b o m∧1≤m∧o+m≤b.Payload.length
theorem Pc.chk {b:Bun} {M:List Bun} (hb:okP b) (h:Pc b M) (hne:M≠[]):chkL M=true:=by
 unfold chkL
 rw [Bool.and_eq_true,decide_eq_true_iff]
 refine ⟨chkG_true M [] (fun x hx y hy => ?_),List.length_pos_iff.2 hne⟩
 obtain ⟨o,m,rfl,h1,h2⟩:=h x (by simpa using hx)
 obtain ⟨o',m',rfl,h1',h2'⟩:=h y (by simpa using hy)
 exact piece_tog hb h2 h1 h2' h1'
theorem Pc.fit {b:Bun} {M:List Bun} (hb:Fit b) (h:Pc b M):∀ p∈M,Fit p:=by
 intro p hp
 obtain ⟨o,m,rfl,_,_⟩:=h p hp
 exact piece_fit hb o m
def covers (b:Bun) (M:List Bun) (q:Nat):Prop:=∃ o m,piece b o m∈M∧1≤m∧o+m≤b.Payload.length∧o≤q∧q<o+m
theorem has_get {b:Bun} (hb:okP b):∀ (M:List Bun) (h:List Bool),Pc b M→(h.length:Int)=b.Total→∀ q:Nat,q<b.Payload.length →
 (covers b M q→(hasL M h)[b.Offset.toNat+q]?=some true)∧(h[b.Offset.toNat+q]?=some true→(hasL M h)[b.Offset.toNat+q]?=some true)∧(¬covers b M q→(hasL M h)[b.Offset.toNat+q]?=h[b.Offset.toNat+q]?)
 | [],h,_,_,q,_=>⟨fun hc=>by (obtain ⟨o,m,hm,_⟩:=hc;cases hm),fun hh=>hh,fun _=>rfl⟩
 | c::M,h,hM,hh,q,hq=>by
  have bb:=hb.b
  obtain ⟨o,m,rfl,m1,m2⟩:=hM c (by simp)
  have hl:=piece_len m2
  have e1:(piece b o m).Offset.toNat=b.Offset.toNat+o:=by simp only [piece];omega
  have hp:(hasL (piece b o m::M) h)=hasL M (putB h (b.Offset.toNat+o) m):=by
   simp only [hasL,List.foldl_cons,hl,e1]
  have hlen:(putB h (b.Offset.toNat+o) m).length=h.length:=putB_len (by omega)
  obtain ⟨i1,i2,i3⟩:=has_get hb M (putB h (b.Offset.toNat+o) m) (fun p hp=>hM p (by simp [hp])) (by rw [hlen];exact hh) q hq
  have hg:=putB_get (h:=h) (o:=b.Offset.toNat+o) (n:=m) (by omega) (b.Offset.toNat+q)
  rw [hp]
  refine ⟨fun hc => ?_,fun ht=>i2 ?_,fun hc => ?_⟩
  ·obtain ⟨o',m',hm,k1,k2,k3,k4⟩:=hc
   rcases List.mem_cons.1 hm with he | hm
   ·have eo:o'=o:=by
     have:=congrArg T39.Offset he
     simp only [piece] at this
     omega
    have em:m'=m:=by
     have h1:=piece_len k2
     rw [he,hl] at h1
     exact h1.symm
    refine i2 ?_
    rw [hg,if_pos (by omega)]
   ·exact i1 ⟨o',m',hm,k1,k2,k3,k4⟩
  ·rw [hg]
   split
   ·rfl
   ·exact ht
  ·rw [i3 fun ⟨o',m',hm,k⟩=>hc ⟨o',m',by simp [hm],k⟩,hg,if_neg fun hx=>hc ⟨o,m,by simp,m1,m2,by omega,by omega⟩]
theorem has_out {b:Bun} (hb:okP b):∀ (M:List Bun) (h:List Bool),Pc b M→(h.length:Int)=b.Total→∀ p:Nat,p<b.Offset.toNat∨b.Offset.toNat+b.Payload.length≤p→(hasL M h)[p]?=h[p]?
 | [],h,_,_,p,_=>rfl
 | c::M,h,hM,hh,p,hp=>by
  have bb:=hb.b
  obtain ⟨o,m,rfl,m1,m2⟩:=hM c (by simp)
  have hl:=piece_len m2
  have e1:(piece b o m).Offset.toNat=b.Offset.toNat+o:=by simp only [piece];omega
  have hpp:(hasL (piece b o m::M) h)=hasL M (putB h (b.Offset.toNat+o) m):=by
   simp only [hasL,List.foldl_cons,hl,e1]
  have hlen:(putB h (b.Offset.toNat+o) m).length=h.length:=putB_len (by omega)
  rw [hpp,has_out hb M _ (fun p hp=>hM p (by simp [hp])) (by rw [hlen];exact hh) p hp,putB_get (by omega),if_neg (by omega)]
theorem all_get {b:Bun} (hb:okP b):∀ (M:List Bun) (v:List Int),Pc b M→(v.length:Int)=b.Total→∀ (q:Nat),q<b.Payload.length →
 (covers b M q→(allL M v)[b.Offset.toNat+q]?=b.Payload[q]?)∧(v[b.Offset.toNat+q]?=b.Payload[q]?→(allL M v)[b.Offset.toNat+q]?=b.Payload[q]?)
 | [],v,_,_,q,_=>⟨fun hc=>by (obtain ⟨o,m,hm,_⟩:=hc;cases hm),fun hh=>hh⟩
 | c::M,v,hM,hv,q,hq=>by
  have bb:=hb.b
  obtain ⟨o,m,rfl,m1,m2⟩:=hM c (by simp)
  have hl:=piece_len m2
  have e1:(piece b o m).Offset.toNat=b.Offset.toNat+o:=by simp only [piece];omega
  have hp:(allL (piece b o m::M) v)=allL M (putI v (b.Offset.toNat+o) (piece b o m).Payload):=by
   simp only [allL,List.foldl_cons,e1]
  have hlen:(putI v (b.Offset.toNat+o) (piece b o m).Payload).length=v.length:=putI_len (by omega)
  obtain ⟨i1,i2⟩:=all_get hb M (putI v (b.Offset.toNat+o) (piece b o m).Payload) (fun p hp=>hM p (by simp [hp])) (by rw [hlen];exact hv) q hq
  have hg:=putI_get (v:=v) (o:=b.Offset.toNat+o) (q:=(piece b o m).Payload) (by omega) (b.Offset.toNat+q)
  have val:o≤q→q<o+m→(piece b o m).Payload[b.Offset.toNat+q - (b.Offset.toNat+o)]?=b.Payload[q]?:=by
   intro h1 h2
   simp only [piece]
   rw [List.getElem?_take,if_pos (by omega),List.getElem?_drop]
   exact congrArg (fun z=>b.Payload[z]?) (by omega)
  rw [hp]
  refine ⟨fun hc => ?_,fun ht=>i2 ?_⟩
  ·obtain ⟨o',m',hm,k1,k2,k3,k4⟩:=hc
   rcases List.mem_cons.1 hm with he | hm
   ·have eo:o'=o:=by
     have:=congrArg T39.Offset he
     simp only [piece] at this
     omega
    have em:m'=m:=by
     have h1:=piece_len k2
     rw [he,hl] at h1
     exact h1.symm
    refine i2 ?_
    rw [hg,if_pos (by omega),val (by omega) (by omega)]
   ·exact i1 ⟨o',m',hm,k1,k2,k3,k4⟩
  ·rw [hg]
   split
   ·exact val (by omega) (by omega)
   ·exact ht
theorem maxH_same:∀ (l:List Bun) (h:Int),(∀ b∈l,b.Hops=h)→maxH l h=h
 | [],h,_=>rfl
 | b::l,h,hb=>by
  have:=hb b (by simp)
  simp only [maxH,List.foldl_cons]
  rw [if_neg (by omega)]
  exact maxH_same l h fun c hc=>hb c (by simp [hc])
theorem hasF_pc {b c:Bun} {M:List Bun} (hb:okP b) (h:Pc b (c::M)):hasF (c::M)=hasL (c::M) (List.replicate b.Total.toNat false)∧allF (c::M)=allL (c::M) (List.replicate b.Total.toNat 0)∧c.Total=b.Total:=by
 obtain ⟨o,m,rfl,_,_⟩:=h c (by simp)
 exact ⟨rfl,rfl,rfl⟩
theorem join_whole {b:Bun} {M:List Bun} (hb:okP b) (h:Pc b M) (hne:M≠[]) (hc:∀ q,q<b.Payload.length→covers b M q) (hw:(b.Payload.length:Int)=b.Total):gapsF (hasF M)=[]∧joinB M=b:=by
 cases M with
 | nil=>exact absurd rfl hne
 | cons c M =>
  have bb:=hb.b
  obtain ⟨e1,e2,e3⟩:=hasF_pc hb h
  have hl1:=hasF_len (Pc.chk hb h hne)
  have hL:=hasL_len (c::M) (List.replicate b.Total.toNat false) (fun p hp=>by
   obtain ⟨o,m,rfl,m1,m2⟩:=h p hp
   exact ⟨piece_ok hb m2 m1,by simp only [piece,List.length_replicate];omega⟩)
  have hA:=allF_len (Pc.chk hb h hne)
  have hoff:b.Offset.toNat=0:=by omega
  rw [List.length_replicate] at hL
  constructor
  ·unfold gapsF
   refine gapsS_true _ 0 fun x hx => ?_
   rw [e1] at hx
   obtain ⟨p,hp⟩:=List.getElem?_of_mem hx
   have hpl:p<b.Payload.length:=by
    have:=(List.getElem?_eq_some_iff.1 hp).1
    rw [hL] at this
    omega
   have:=(has_get hb (c::M) (List.replicate b.Total.toNat false) h (by rw [List.length_replicate];omega) p hpl).1 (hc p hpl)
   rw [hoff,Nat.zero_add,hp] at this
   exact Option.some.inj this
  ·have hpay:allF (c::M)=b.Payload:=by
    refine List.ext_getElem? fun p => ?_
    by_cases hp:p<b.Payload.length
    ·have:=(all_get hb (c::M) (List.replicate b.Total.toNat 0) h (by rw [List.length_replicate];omega) p hp).1 (hc p hp)
     rw [hoff,Nat.zero_add] at this
     rw [e2,this]
    ·rw [List.getElem?_eq_none (by omega),List.getElem?_eq_none (by omega)]
   have hh:maxH (c::M) c.Hops=c.Hops:=maxH_same _ _ fun p hp=>by
    obtain ⟨o,m,rfl,_,_⟩:=h p hp
    obtain ⟨o',m',hc',_,_⟩:=h c (by simp)
    rw [hc'];rfl
   simp only [joinB,hh,hpay]
   obtain ⟨o',m',hc',_,_⟩:=h c (by simp)
   rw [hc']
   simp only [piece]
   have:b.Offset=0:=by omega
   cases b
   simp only at this
   rw [this]
theorem join_part {b:Bun} {M:List Bun} (hb:okP b) (h:Pc b M) (hne:M≠[]) (hw:(b.Payload.length:Int)≠b.Total):gapsF (hasF M)≠[]:=by
 cases M with
 | nil=>exact absurd rfl hne
 | cons c M =>
  have bb:=hb.b
  obtain ⟨e1,e2,e3⟩:=hasF_pc hb h
  unfold gapsF
  refine gapsS_false _ 0 ?_
  rw [e1]
  obtain ⟨p,hp1,hp2⟩:∃ p:Nat,(p:Int)<b.Total∧(p<b.Offset.toNat∨b.Offset.toNat+b.Payload.length≤p):=by
   by_cases h0:0<b.Offset.toNat
   ·exact ⟨0,by omega,.inl h0⟩
   ·exact ⟨b.Payload.length,by omega,.inr (by omega)⟩
  have:=has_out hb (c::M) (List.replicate b.Total.toNat false) h (by rw [List.length_replicate];omega) p hp2
  rw [List.getElem?_replicate,if_pos (by omega)] at this
  exact List.mem_of_getElem? this
inductive Chain (b:Bun) (n:Nat):Nat→List Bun→Nat→Prop
 | nil (o:Nat):Chain b n o [] o
 | cons (o m e:Nat) (l:List Bun) (h1:1≤m) (h2:m≤n) (h3:o+m≤b.Payload.length) (h:Chain b n (o+m) l e):Chain b n o (piece b o m::l) e
theorem cut_chain (b:Bun) (n:Nat) (hn:1≤n):∀ (f o:Nat),b.Payload.length≤o+f→o≤b.Payload.length→Chain b n o (cutS b n f o) b.Payload.length
 | 0,o,h1,h2=>by
  have:o=b.Payload.length:=by omega
  rw [cutS,this];exact .nil _
 | f+1,o,h1,h2=>by
  rw [cutS]
  split
  ·rename_i ho
   exact .cons o _ _ _ (by omega) (by omega) (by omega) (cut_chain b n hn f _ (by omega) (by omega))
  ·have:o=b.Payload.length:=by omega
   rw [this];exact .nil _
theorem Chain.le {b:Bun} {n o e:Nat} {l:List Bun} (h:Chain b n o l e):o≤e∧l.length≤e - o:=by
 induction h with
 | nil o=>exact ⟨Nat.le_refl _,by simp⟩
 | cons o m e l h1 h2 h3 h ih=>simp only [List.length_cons];omega
theorem Chain.pc {b:Bun} {n o e:Nat} {l:List Bun} (h:Chain b n o l e):Pc b l:=by
 induction h with
 | nil o=>intro p hp;cases hp
 | cons o m e l h1 h2 h3 h ih =>
  intro p hp
  rcases List.mem_cons.1 hp with rfl | hp
  ·exact ⟨o,m,rfl,h1,h3⟩
  ·exact ih p hp
theorem Chain.cov {b:Bun} {n o e:Nat} {l:List Bun} (h:Chain b n o l e):∀ q,o≤q→q<e→covers b l q:=by
 induction h with
 | nil o=>intro q h1 h2;omega
 | cons o m e l h1 h2 h3 h ih =>
  intro q q1 q2
  by_cases hq:q<o+m
  ·exact ⟨o,m,by simp,h1,h3,q1,hq⟩
  ·obtain ⟨o',m',k,r⟩:=ih q (by omega) q2
   exact ⟨o',m',by simp [k],r⟩
theorem Chain.uncov {b:Bun} {n o e:Nat} {l:List Bun} (h:Chain b n o l e):∀ q,covers b l q→o≤q∧q<e:=by
 induction h with
 | nil o=>rintro q ⟨o',m',k,_⟩;cases k
 | cons o m e l h1 h2 h3 h ih =>
  have hle:=h.le.1
  rintro q ⟨o',m',k,r1,r2,r3,r4⟩
  rcases List.mem_cons.1 k with k | k
  ·have eo:o'=o:=by
    have:=congrArg T39.Offset k
    simp only [piece] at this
    omega
   have em:m'=m:=by
    have h1:=piece_len r2
    rw [k,piece_len h3] at h1
    exact h1.symm
   omega
  ·have:=ih q ⟨o',m',k,r1,r2,r3,r4⟩
   omega
theorem Chain.split {b:Bun} {n:Nat} {x:Bun} {suf:List Bun}:∀ {pre:List Bun} {o e:Nat},Chain b n o (pre++x::suf) e→∃ o' m,x=piece b o' m∧1≤m∧m≤n∧o'+m≤b.Payload.length∧Chain b n o pre o'∧Chain b n (o'+m) suf e
 | [],o,e,h=>by
  cases h with
  | cons _ m _ _ h1 h2 h3 h=>exact ⟨o,m,rfl,h1,h2,h3,.nil o,h⟩
 | c::pre,o,e,h=>by
  cases h with
  | cons _ m _ _ h1 h2 h3 h =>
   obtain ⟨o',m',r1,r2,r3,r4,r5,r6⟩:=Chain.split h
   exact ⟨o',m',r1,r2,r3,r4,.cons o m _ _ h1 h2 h3 r5,r6⟩
theorem Chain.app {b:Bun} {n o e e':Nat} {l l':List Bun} (h:Chain b n o l e) (h':Chain b n e l' e'):Chain b n o (l++l') e':=by
 induction h with
 | nil o=>exact h'
 | cons o m e l h1 h2 h3 h ih=>exact .cons o m _ _ h1 h2 h3 (ih h')
end Go.Proofs.YticggdfaehneeaaV