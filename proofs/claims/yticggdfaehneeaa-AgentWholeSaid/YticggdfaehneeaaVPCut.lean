/- What the program cuts;what stands where pieces were put;where nothing is missing. -/
import Derived.Test.YticggdfaehneeaaVPGat
namespace Go.Proofs.YticggdfaehneeaaV
open Go
set_option linter.unusedVariables false
set_option linter.unusedSimpArgs false
def piece (b:Bun) (o m:Nat):Bun:={ b with Offset:=b.Offset+o,Payload:=(b.Payload.drop o).take m }
def cutS (b:Bun) (n:Nat):Nat→Nat→List Bun
 | 0,_=>[]
 | f+1,o=>if o<b.Payload.length then piece b o (min n (b.Payload.length - o))::cutS b n f (o+min n (b.Payload.length - o)) else []
def cutB (b:Bun) (n:Nat):List Bun:=cutS b n b.Payload.length 0
theorem piece_len {b:Bun} {o m:Nat} (h:o+m≤b.Payload.length):(piece b o m).Payload.length=m:=by simp [piece];omega
theorem putB_get {h:List Bool} {o n:Nat} (hh:o+n≤h.length) (p:Nat):(putB h o n)[p]?=if o≤p∧p<o+n then some true else h[p]?:=by
 unfold putB
 by_cases h1:p<o
 ·rw [List.getElem?_append_left (by rw [List.length_take];omega),List.getElem?_take,if_pos h1,if_neg (by omega)]
 ·rw [List.getElem?_append_right (by rw [List.length_take];omega),List.length_take,Nat.min_eq_left (by omega)]
  by_cases h2:p<o+n
  ·rw [List.getElem?_append_left (by rw [List.length_replicate];omega),List.getElem?_replicate,if_pos (by omega),if_pos (by omega)]
  ·rw [List.getElem?_append_right (by rw [List.length_replicate];omega),List.length_replicate,List.getElem?_drop,if_neg (by omega)]
   exact congrArg (fun z=>h[z]?) (by omega)
theorem putI_get {v:List Int} {o:Nat} {q:List Int} (hh:o+q.length≤v.length) (p:Nat):(putI v o q)[p]?=if o≤p∧p<o+q.length then q[p - o]? else v[p]?:=by
 unfold putI
 by_cases h1:p<o
 ·rw [List.getElem?_append_left (by rw [List.length_take];omega),List.getElem?_take,if_pos h1,if_neg (by omega)]
 ·rw [List.getElem?_append_right (by rw [List.length_take];omega),List.length_take,Nat.min_eq_left (by omega)]
  by_cases h2:p<o+q.length
  ·rw [List.getElem?_append_left (by omega),if_pos (by omega)]
  ·rw [List.getElem?_append_right (by omega),List.getElem?_drop,if_neg (by omega)]
   exact congrArg (fun z=>v[z]?) (by omega)
theorem gapsS_true:∀ (h:List Bool) (i:Nat),(∀ x∈h,x=true)→gapsS h i none=[]
 | [],i,_=>rfl
 | true::r,i,h=>by rw [gapsS,gapsS_true r (i+1) fun x hx=>h x (by simp [hx])]
 | false::r,i,h=>by have:=h false (by simp);cases this
theorem gapsS_some:∀ (h:List Bool) (i s:Nat),gapsS h i (some s)≠[]
 | [],i,s=>by simp [gapsS]
 | true::r,i,s=>by simp [gapsS]
 | false::r,i,s=>by rw [gapsS];exact gapsS_some r (i+1) s
theorem gapsS_false:∀ (h:List Bool) (i:Nat),false∈h→gapsS h i none≠[]
 | [],i,h=>by cases h
 | true::r,i,h=>by rw [gapsS];exact gapsS_false r (i+1) (by simpa using h)
 | false::r,i,h=>by rw [gapsS];exact gapsS_some r (i+1) i
theorem hasL_len:∀ (l:List Bun) (h:List Bool),(∀ b∈l,okP b∧b.Total=(h.length:Int))→(hasL l h).length=h.length
 | [],h,_=>rfl
 | b::l,h,hb=>by
  have ob:=(hb b (by simp)).1.b
  have tb:=(hb b (by simp)).2
  have hl:(putB h b.Offset.toNat b.Payload.length).length=h.length:=putB_len (by omega)
  have:=hasL_len l (putB h b.Offset.toNat b.Payload.length) (fun c hc=>by rw [hl];exact hb c (by simp [hc]))
  rw [hl] at this
  exact this
theorem hasF_len {L:List Bun} (hc:chkL L=true):(hasF L).length≤400:=by
 unfold chkL at hc
 rw [Bool.and_eq_true,decide_eq_true_iff] at hc
 cases L with
 | nil=>simp at hc
 | cons c r =>
  have hT:=chkG_total hc.1
  have oc:=(hT c (by simp)).1.b
  have:=hasL_len (c::r) (List.replicate c.Total.toNat false) (fun b hb=>⟨(hT b hb).1,by rw [(hT b hb).2,List.length_replicate];omega⟩)
  rw [List.length_replicate] at this
  unfold hasF
  simp only []
  omega
theorem miss_at (k:Nat) (hk:4002≤k) (L:List Bun) (hL:L.length≤1000) (fL:∀ b∈L,Fit b):f35 k L=some (cond (chkL L) (.o0 0 (gapsF (hasF L))) (.o0 280 [])):=by
 obtain ⟨k,rfl⟩:∃ m,k=m+1:=⟨k - 1,by omega⟩
 simp only [f35,f35_e,gath_at k (by omega) L hL fL,Option.bind_some]
 cases hc:chkL L with
 | false =>
  have q:=gaps_at k [] (by simp) (by simp;omega)
  simp only [cond_false,q,Option.bind_some,gapsF,gapsS]
 | true =>
  have hl:=hasF_len hc
  simp only [cond_true,gaps_at k (hasF L) (by omega) (by omega),Option.bind_some]
theorem rnd_at (k:Nat) (hk:2≤k) (b:Bun) (hb:okP b) (o m:Nat) (h:o+m≤b.Payload.length) (acc:List Bun) (ha:acc.length≤1000) :
 f999999999 k o (List.drop o (List.take (o+m) b.Payload)) b.Source b.Dest b.Seq b.Created b.Lifetime b.HopLimit b.Hops b.Priority b.Offset b.Total b.Payload acc=some (.o0 b.Source b.Dest b.Seq b.Created b.Lifetime b.HopLimit b.Hops b.Priority b.Offset b.Total b.Payload (acc++[piece b o m])):=by
 obtain ⟨k,rfl⟩:∃ z,k=z+2:=⟨k - 2,by omega⟩
 have bb:=hb.b
 have e1:List.drop o (List.take (o+m) b.Payload)=List.take m (List.drop o b.Payload):=by rw [List.drop_take,show o+m - o=m by omega]
 have h8:(List.take m (List.drop o b.Payload)).length * 1≤8000:=by rw [List.length_take,List.length_drop];omega
 have hr:(List.take m (List.drop o b.Payload)).length * 1≤roomy:=Nat.le_trans h8 (by decide)
 have h104:(acc.length+1) * 104≤200000:=by omega
 have hr2:(acc.length+1) * 104≤roomy:=Nat.le_trans h104 (by decide)
 have hw:IntKind.i64.wrap (b.Offset+(o:Int))=b.Offset+o:=wrap_i64 (by omega) (by omega)
 rw [e1]
 simp only [f999999999,f999999999_e,f47,ifE_pos hr,Option.bind_some,ifE_pos hr2,hw]
 rfl
theorem cut_step (b:Bun) (hb:okP b) (n:Int) (hn:1≤n) (o:Nat) (ho:o<b.Payload.length) :
 (if IntKind.i64.wrap ((b.Payload.length:Int) - (o:Int))<n then IntKind.i64.wrap ((b.Payload.length:Int) - (o:Int)) else n)=((min n.toNat (b.Payload.length - o):Nat):Int)∧IntKind.i64.wrap (((min n.toNat (b.Payload.length - o):Nat):Int)+(o:Int))=((o+min n.toNat (b.Payload.length - o):Nat):Int):=by
 have bb:=hb.b
 rw [show IntKind.i64.wrap ((b.Payload.length:Int) - (o:Int))=(b.Payload.length:Int) - o from wrap_i64 (by omega) (by omega)]
 refine ⟨by split<;>omega,?_⟩
 rw [wrap_i64 (by omega) (by omega)];omega
theorem cut_l2 (k:Nat) (hk:2≤k) (b:Bun) (hb:okP b) (n:Int) (hn:1≤n):∀ (f o m:Nat) (acc:List Bun),b.Payload.length≤o+f→o≤b.Payload.length→f<m→acc.length≤o →
 f62_l2 k m o b.Source b.Dest b.Seq b.Created b.Lifetime b.HopLimit b.Hops b.Priority b.Offset b.Total b.Payload acc b.Payload n=some (.o1 b.Payload.length false b.Source b.Dest b.Seq b.Created b.Lifetime b.HopLimit b.Hops b.Priority b.Offset b.Total b.Payload (acc++cutS b n.toNat f o) b.Payload n):=by
 have bb:=hb.b
 intro f
 induction f with
 | zero =>
  intro o m acc h1 h2 h3 h4
  obtain ⟨m,rfl⟩:∃ z,m=z+1:=⟨m - 1,by omega⟩
  have e3:o=b.Payload.length:=by omega
  subst e3
  simp only [f62_l2,f62_l2_b,decide_eq_false (Int.lt_irrefl _),cond_false,Option.bind_some,cutS,List.append_nil]
 | succ f ih =>
  intro o m acc h1 h2 h3 h4
  obtain ⟨m,rfl⟩:∃ z,m=z+1:=⟨m - 1,by omega⟩
  by_cases ho:o<b.Payload.length
  ·obtain ⟨s1,s2⟩:=cut_step b hb n hn o ho
   have hm:1≤min n.toNat (b.Payload.length - o):=by omega
   have hm2:o+min n.toNat (b.Payload.length - o)≤b.Payload.length:=by omega
   have r:=rnd_at k hk b hb o (min n.toNat (b.Payload.length - o)) hm2 acc (by omega)
   have ih':=ih (o+min n.toNat (b.Payload.length - o)) m (acc++[piece b o (min n.toNat (b.Payload.length - o))]) (by omega) hm2 (by omega) (by simp;omega)
   rw [cutS,if_pos ho]
   simp only [f62_l2,f62_l2_b,f62_l2_j1,f62_l2_j2,decide_eq_true (show (o:Int)<(b.Payload.length:Int) by omega),cond_true,s1,s2,Int.toNat_natCast,ifE_pos (show (0:Int)≤(o:Int) by omega),ifE_pos (show (0:Int)≤((o+min n.toNat (b.Payload.length - o):Nat):Int) by omega),ifE_pos (show o≤o+min n.toNat (b.Payload.length - o) by omega),ifE_pos hm2,r,Option.bind_some,ih',List.append_assoc,List.cons_append,List.nil_append]
  ·have e3:o=b.Payload.length:=by omega
   rw [cutS,if_neg ho]
   subst e3
   simp only [f62_l2,f62_l2_b,decide_eq_false (Int.lt_irrefl _),cond_false,Option.bind_some,List.append_nil]
theorem cut_at (k:Nat) (hk:1000≤k) (b:Bun) (n:Int):f25 k b.Source b.Dest b.Seq b.Created b.Lifetime b.HopLimit b.Hops b.Priority b.Offset b.Total b.Payload n=some (if okP b then (if n<1 then .o0 2 [] else .o0 0 (cutB b n.toNat)) else .o0 190 []):=by
 obtain ⟨k,rfl⟩:∃ z,k=z+2:=⟨k - 2,by omega⟩
 simp only [f25,f25_e,chk_at (k+1) (by omega) b,Option.bind_some]
 by_cases hb:okP b
 case neg=>simp only [if_neg hb,show ((190:Int) != 0)=true by decide,cond_true]
 simp only [if_pos hb,bne_self_eq_false,cond_false]
 by_cases hn:n<1
 ·simp only [decide_eq_true hn,cond_true,if_pos hn]
 ·have bb:=hb.b
  simp only [decide_eq_false hn,cond_false,if_neg hn,f25_j1,f46,f46_e,Option.bind_some,f62,f62_e]
  obtain ⟨k',hk'⟩:∃ z,k=z+1:=⟨k - 1,by omega⟩
  obtain ⟨s1,s2⟩:=cut_step b hb n (by omega) 0 (by omega)
  have e0:((0:Nat):Int)=0:=rfl
  rw [e0] at s1 s2
  rw [Nat.sub_zero,Nat.zero_add] at s2
  rw [Nat.sub_zero] at s1
  have hm2:0+min n.toNat b.Payload.length≤b.Payload.length:=by omega
  have r:=rnd_at k (by omega) b hb 0 (min n.toNat b.Payload.length) hm2 [] (by simp)
  rw [e0,Nat.zero_add] at r
  have l2:=cut_l2 k (by omega) b hb n (by omega) (b.Payload.length - 1) (min n.toNat b.Payload.length) k' ([]++[piece b 0 (min n.toNat b.Payload.length)]) (by omega) (by omega) (by omega) (by simp;omega)
  have hc:cutB b n.toNat=[]++[piece b 0 (min n.toNat b.Payload.length)]++cutS b n.toNat (b.Payload.length - 1) (min n.toNat b.Payload.length):=by
   unfold cutB
   obtain ⟨z,hz⟩:∃ z,b.Payload.length=z+1:=⟨b.Payload.length - 1,by omega⟩
   have hcs:cutS b n.toNat (z+1) 0=if 0<b.Payload.length then piece b 0 (min n.toNat (b.Payload.length - 0))::cutS b n.toNat z (0+min n.toNat (b.Payload.length - 0)) else []:=by rw [cutS]
   rw [show cutS b n.toNat b.Payload.length 0=cutS b n.toNat (z+1) 0 by rw [hz],hcs,if_pos (by omega),Nat.sub_zero,Nat.zero_add,show b.Payload.length - 1=z by omega]
   rfl
  have l1:f62_l1 k k 0 b.Source b.Dest b.Seq b.Created b.Lifetime b.HopLimit b.Hops b.Priority b.Offset b.Total b.Payload [] b.Payload n=some (.o2 b.Payload.length false b.Source b.Dest b.Seq b.Created b.Lifetime b.HopLimit b.Hops b.Priority b.Offset b.Total b.Payload (cutB b n.toNat) b.Payload n):=by
   rw [show f62_l1 k k=f62_l1 k (k'+1) by rw [←hk']]
   simp only [f62_l1,f62_l1_b,f62_l1_j1,f62_l1_j2,decide_eq_true (show (0:Int)<(b.Payload.length:Int) by omega),cond_true,s1,s2,Int.toNat_natCast,show (0:Int).toNat=0 from rfl,ifE_pos (show (0:Int)≤0 by decide),ifE_pos (show (0:Int)≤((min n.toNat b.Payload.length:Nat):Int) by omega),ifE_pos (show 0≤min n.toNat b.Payload.length by omega),ifE_pos (show min n.toNat b.Payload.length≤b.Payload.length by omega),r,Option.bind_some,l2]
   rw [hc]
  simp only [l1,Option.bind_some,f25_j3]
end Go.Proofs.YticggdfaehneeaaV