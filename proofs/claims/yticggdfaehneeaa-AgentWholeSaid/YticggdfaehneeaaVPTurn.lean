/- Pieces of one bundle that come to an agent,one after another. -/
import Derived.Test.YticggdfaehneeaaVPPc
namespace Go.Proofs.YticggdfaehneeaaV
open Go
set_option linter.unusedVariables false
set_option linter.unusedSimpArgs false
theorem nodup_len {α:Type}:∀ (l L:List α),l.Nodup→(∀ x∈l,x∈L)→l.length≤L.length
 | [],_,_,_=>Nat.zero_le _
 | a::l,L,hn,hs=>by
  obtain ⟨s,t,rfl⟩:=List.append_of_mem (hs a (by simp))
  have hn':=List.nodup_cons.1 hn
  have:=nodup_len l (s++t) hn'.2 (fun x hx=>by
   have h1:=hs x (by simp [hx])
   rcases List.mem_append.1 h1 with h2 | h2
   ·exact List.mem_append.2 (.inl h2)
   ·rcases List.mem_cons.1 h2 with rfl | h3
    ·exact absurd hx hn'.1
    ·exact List.mem_append.2 (.inr h3))
  simp only [List.length_append,List.length_cons] at this ⊢
  omega
theorem uncovered {b:Bun} {n e:Nat} {L M:List Bun} {y:Bun} (h:Chain b n 0 L e) (hM:∀ p∈M,p∈L) (hy:y∈L) (hn:y ∉ M):∃ q,q<b.Payload.length∧¬covers b M q:=by
 obtain ⟨pre,suf,rfl⟩:=List.append_of_mem hy
 obtain ⟨o,m,e1,m1,m2,m3,c1,c2⟩:=h.split
 refine ⟨o,by omega,?_⟩
 rintro ⟨o',m',hp,k1,k2,k3,k4⟩
 rcases List.mem_append.1 (hM _ hp) with h1 | h1
 ·have:=c1.uncov o ⟨o',m',h1,k1,k2,k3,k4⟩
  omega
 ·rcases List.mem_cons.1 h1 with h2 | h2
  ·rw [h2] at hp;exact hn hp
  ·have:=c2.uncov o ⟨o',m',h2,k1,k2,k3,k4⟩
   omega
theorem gaps_cov {b:Bun} {M:List Bun} (hb:okP b) (h:Pc b M) (hne:M≠[]) (hw:(b.Payload.length:Int)=b.Total) (hg:¬((gapsF (hasF M)).length:Int)>0):∀ q,q<b.Payload.length→covers b M q:=by
 cases M with
 | nil=>exact absurd rfl hne
 | cons c M =>
  intro q hq
  by_cases hc:covers b (c::M) q
  ·exact hc
  exfalso
  have bb:=hb.b
  obtain ⟨e1,e2,e3⟩:=hasF_pc hb h
  have h1:=(has_get hb (c::M) (List.replicate b.Total.toNat false) h (by rw [List.length_replicate];omega) q hq).2.2 hc
  rw [List.getElem?_replicate,if_pos (by omega),←e1] at h1
  have h2:gapsF (hasF (c::M))≠[]:=gapsS_false _ 0 (List.mem_of_getElem? h1)
  have h3:=List.length_pos_iff.2 h2
  omega
theorem seen_inj {b x y:Bun} {L:List Bun} (h:Pc b L) (hx:x∈L) (hy:y∈L) (he:eqS (seenB x) (seenB y)=true):x=y:=by
 obtain ⟨o,m,rfl,k1,k2⟩:=h x hx
 obtain ⟨o',m',rfl,k1',k2'⟩:=h y hy
 have e:=(eqS_iff _ _).1 he
 have e3:b.Offset+(o:Int)=b.Offset+(o':Int):=congrArg (fun s:Sn=>s.Key_Offset) e
 have e4:(((piece b o m).Payload.length:Nat):Int)=((piece b o' m').Payload.length:Nat):=congrArg (fun s:Sn=>s.N) e
 rw [piece_len k2,piece_len k2'] at e4
 have:o=o':=by omega
 have:m=m':=by omega
 subst_vars
 rfl
def Seen (S:List Sn) (x:Bun):Prop:=S.any (eqS · (seenB x))=true
theorem seen_app {S:List Sn} {x y:Bun}:Seen (S++[seenB x]) y↔Seen S y∨eqS (seenB x) (seenB y)=true:=by
 unfold Seen
 rw [List.any_append,Bool.or_eq_true]
 simp
theorem seen_map {b:Bun} {L P:List Bun} (h:Pc b L) (hP:∀ p∈P,p∈L) {y:Bun} (hy:y∈L):Seen (P.map seenB) y↔y∈P:=by
 unfold Seen
 rw [List.any_eq_true]
 constructor
 ·rintro ⟨s,hs,he⟩
  obtain ⟨p,hp,rfl⟩:=List.mem_map.1 hs
  rw [←seen_inj h (hP p hp) hy he]
  exact hp
 ·intro hp
  exact ⟨seenB y,List.mem_map.2 ⟨y,hp,rfl⟩,eqS_refl _⟩
def Come (L:List Bun) (S:List Sn) (P:List Bun) (h:Int):Prop :=
 (h=0∧(∀ x∈P,x∈L)∧P.Nodup∧S=P.map seenB∧∃ y∈L,y ∉ P)∨(h=1∧P=[]∧∀ x∈L,Seen S x)
theorem of_all {P:List Bun} {s q:Int} (h:∀ x∈P,x.Source=s∧x.Seq=q):ofB P s q=P∧keptI s q P=[]:=by
 constructor
 ·unfold ofB
  rw [List.filter_eq_self]
  intro x hx
  rw [(h x hx).1,(h x hx).2];simp
 ·unfold keptI
  rw [List.filter_eq_nil_iff]
  intro x hx
  unfold idB
  rw [(h x hx).1,(h x hx).2];simp
theorem turn {b:Bun} {n:Nat} {L:List Bun} (hb:okP b) (fb:Fit b) (hw:(b.Payload.length:Int)=b.Total) (hL:Chain b n 0 L b.Payload.length) (h7:L.length≤7) (hs:b.Source≠2) (hd:b.Dest=2) (hc:b.Created=0) (hl:b.Lifetime=100) {S S':List Sn} {P P':List Bun} {h kind:Int} {x vb:Bun} (hi:Come L S P h) (hx:x∈L) (st:Step 2 S P x 5 kind vb S' P') :
 ((kind=9∧vb.Payload=b.Payload∧vb.Seq=b.Seq∧Come L S' P' (h+1))∨((kind=8∨kind=3)∧Come L S' P' h))∧(∀ y,y∈L→Seen S y→Seen S' y)∧Seen S' x:=by
 have hpc:=hL.pc
 have ident:∀ y∈L,y.Source=b.Source∧y.Seq=b.Seq∧y.Dest=b.Dest∧y.Total=b.Total∧y.Created=0∧y.Lifetime=100∧okP y:=fun y hy=>by
  obtain ⟨o,m,rfl,m1,m2⟩:=hpc y hy
  exact ⟨rfl,rfl,rfl,rfl,hc,hl,piece_ok hb m2 m1⟩
 obtain ⟨i1,i2,i3,i4,i5,i6,i7⟩:=ident x hx
 have hexp:expB 5 x=false:=by
  unfold expB
  rw [i5,i6,decide_eq_false (show ¬(5:Int)≥IntKind.i64.wrap (0+100) by rw [wrap_i64 (by omega) (by omega)];omega),Bool.and_false]
 have hPL:∀ p∈P,p∈L:=by
  rcases hi with ⟨_,h2,_⟩ | ⟨_,h2,_⟩
  ·exact h2
  ·intro p hp;rw [h2] at hp;cases hp
 have hPn:P.length≠7:=by
  rcases hi with ⟨_,_,h3,_,y,hy,hny⟩ | ⟨_,h2,_⟩
  ·have:=nodup_len (y::P) L (List.nodup_cons.2 ⟨hny,h3⟩) (fun p hp=>by
    rcases List.mem_cons.1 hp with rfl | hp
    ·exact hy
    ·exact hPL p hp)
   rw [List.length_cons] at this
   omega
  ·rw [h2];decide
 have hof:=of_all (P:=P) (s:=x.Source) (q:=x.Seq) (fun p hp=>by
  have:=ident p (hPL p hp);exact ⟨by rw [this.1,i1],by rw [this.2.1,i2]⟩)
 have hM:∀ p∈P++[x],p∈L:=fun p hp=>by
  rcases List.mem_append.1 hp with hp | hp
  ·exact hPL p hp
  ·rw [List.mem_singleton.1 hp];exact hx
 have hMpc:Pc b (P++[x]):=fun p hp=>hpc p (hM p hp)
 have hMne:P++[x]≠[]:=by simp
 have hck:=Pc.chk hb hMpc hMne
 rcases st with ⟨e1,e2,why⟩ | ⟨ob,he,hn,e1,st⟩
 ·subst e1;subst e2
  rcases why with ⟨k,w⟩ | ⟨k,w⟩ | ⟨k,w⟩ | ⟨k,w⟩ | ⟨k,w⟩ | ⟨k,w⟩
  ·exact absurd i7 w
  ·rw [hexp] at w;cases w
  ·exact ⟨.inr ⟨.inr k,hi⟩,fun y _ h=>h,w⟩
  ·rw [i1] at w;exact absurd w hs
  ·rw [i3] at w;exact absurd hd w
  ·rw [hof.1,hck] at w
   rcases w with w | w
   ·cases w
   ·exact absurd w hPn
 ·rcases hi with ⟨h0,_,h3,h4,y0,hy0,hny0⟩ | ⟨_,_,h3⟩
  case inr=>have:=h3 x hx;unfold Seen at this;rw [this] at hn;cases hn
  have hxP:x ∉ P:=fun hp=>by
   have:=(seen_map hpc hPL hx).2 hp
   unfold Seen at this
   rw [←h4,hn] at this;cases this
  have hSl:S.length≤7:=by
   rw [h4,List.length_map]
   have:=nodup_len P L h3 hPL
   omega
  have hrem:remS S (seenB x)=S++[seenB x]:=by unfold remS;rw [if_pos (by omega)]
  rw [hrem] at e1
  subst e1
  have hseenx:Seen (S++[seenB x]) x:=seen_app.2 (.inr (eqS_refl _))
  have hmono:∀ y,y∈L→Seen S y→Seen (S++[seenB x]) y:=fun y _ h=>seen_app.2 (.inl h)
  have full:(∀ y∈L,y∈P++[x])→∀ y∈L,Seen (S++[seenB x]) y:=fun ha y hy=>by
   rcases List.mem_append.1 (ha y hy) with hp | hp
   ·refine hmono y hy ?_
    rw [h4];exact (seen_map hpc hPL hy).2 hp
   ·rw [List.mem_singleton.1 hp];exact hseenx
  have covin:∀ M:List Bun,(∀ p∈M,p∈L)→(∀ q,q<b.Payload.length→covers b M q)→∀ y∈L,y∈M:=fun M hM hcv y hy=>by
   by_cases hyM:y∈M
   ·exact hyM
   ·obtain ⟨q,hq,hnc⟩:=uncovered hL hM hy hyM
    exact absurd (hcv q hq) hnc
  rcases st with ⟨k,w,_⟩ | ⟨k,w,e2⟩ | ⟨k,e2,d1,d2,d3,d4,d5⟩
  ·rw [i3] at w;exact absurd hd w
  ·rw [hof.2] at e2
   subst e2
   refine ⟨.inl ?_,hmono,hseenx⟩
   rcases w with ⟨w1,w2⟩ | ⟨w1,w2,w3⟩
   ·obtain ⟨o,m,ex,m1,m2⟩:=hpc x hx
    have hlen:x.Payload.length=m:=by rw [ex];exact piece_len m2
    have ho:o=0:=by omega
    have hm:m=b.Payload.length:=by omega
    have hcv:∀ q,q<b.Payload.length→covers b [x] q:=fun q hq=>⟨o,m,by rw [ex];simp,m1,m2,by omega,by omega⟩
    have hin:=covin [x] (fun p hp=>by rw [List.mem_singleton.1 hp];exact hx) hcv
    refine ⟨k,?_,?_,.inr ⟨by omega,rfl,full (fun y hy=>List.mem_append.2 (.inr (hin y hy)))⟩⟩
    ·rw [w2,ex,ho,hm];simp [piece]
    ·rw [w2,i2]
   ·rw [hof.1] at w1 w2 w3
    have hcv:=gaps_cov hb hMpc hMne hw w2
    have hj:=(join_whole hb hMpc hMne hcv hw).2
    rw [hj] at w3
    exact ⟨k,by rw [w3],by rw [w3],.inr ⟨by omega,rfl,full (covin _ hM hcv)⟩⟩
  ·rw [hof.1] at d5
   subst e2
   refine ⟨.inr ⟨.inl k,.inl ⟨h0,hM,?_,by rw [h4,List.map_append];rfl,?_⟩⟩,hmono,hseenx⟩
   ·rw [List.nodup_append]
    exact ⟨h3,by simp,fun a ha c hc hac=>by rw [List.mem_singleton.1 hc] at hac;rw [hac] at ha;exact hxP ha⟩
   ·by_cases hall:∃ y∈L,y ∉ P++[x]
    ·exact hall
    ·exfalso
     have hall':∀ y∈L,y∈P++[x]:=fun y hy=>by
      by_cases hyM:y∈P++[x]
      ·exact hyM
      ·exact absurd ⟨y,hy,hyM⟩ hall
     have hcv:∀ q,q<b.Payload.length→covers b (P++[x]) q:=fun q hq=>by
      obtain ⟨o,m,hp,r⟩:=hL.cov q (by omega) hq
      exact ⟨o,m,hall' _ hp,r⟩
     rw [(join_whole hb hMpc hMne hcv hw).1] at d5
     simp at d5
end Go.Proofs.YticggdfaehneeaaV