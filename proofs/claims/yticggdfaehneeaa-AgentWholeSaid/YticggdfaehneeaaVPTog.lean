/- Which two bundles go together: the program's answer and the document's. -/
import Derived.Test.YticggdfaehneeaaVPBun
namespace Go.Proofs.YticggdfaehneeaaV
open Go
set_option linter.unusedVariables false
set_option linter.unusedSimpArgs false
def agree (a b:Bun):Prop:=∀ (i j:Nat) (x y:Int),a.Payload[i]?=some x→b.Payload[j]?=some y→a.Offset+i=b.Offset+j→x=y
def like (a b:Bun):Bun:={ b with Offset:=a.Offset,Payload:=a.Payload,Hops:=a.Hops }
def togP (a b:Bun):Prop:=okP a∧okP b∧a=like a b∧agree a b
theorem like_iff (a b:Bun):a=like a b↔a.Source=b.Source∧a.Dest=b.Dest∧a.Seq=b.Seq∧a.Created=b.Created∧a.Lifetime=b.Lifetime∧a.HopLimit=b.HopLimit∧a.Priority=b.Priority∧a.Total=b.Total:=by
 unfold like
 cases a;cases b
 simp
theorem togP.symm {a b:Bun} (h:togP a b):togP b a:=by
 obtain ⟨h1,h2,h3,h4⟩:=h
 refine ⟨h2,h1,?_,fun i j x y hx hy e=>(h4 j i y x hy hx e.symm).symm⟩
 rw [like_iff] at h3 ⊢
 obtain ⟨q1,q2,q3,q4,q5,q6,q7,q8⟩:=h3
 exact ⟨q1.symm,q2.symm,q3.symm,q4.symm,q5.symm,q6.symm,q7.symm,q8.symm⟩
theorem okP.b {b:Bun} (h:okP b):0≤b.Offset∧b.Offset≤400∧1≤b.Total∧b.Total≤400∧1≤b.Payload.length∧b.Payload.length≤400∧b.Offset+b.Payload.length≤b.Total:=by
 unfold okP at h
 omega
def agR (p:List Int):Int→List Int→Bool
 | d,[]=>true
 | d,x::r=>(if 0≤d∧d<p.length then p[d.toNat]?==some x else true)&&agR p (d+1) r
theorem agR_iff (p:List Int):∀ (l:List Int) (d:Int),agR p d l=true↔∀ (i j:Nat) (x y:Int),l[i]?=some x→p[j]?=some y→d+i=j→x=y
 | [],d=>by simp [agR]
 | x::r,d=>by
  rw [agR,Bool.and_eq_true,agR_iff p r (d+1)]
  constructor
  ·rintro ⟨h1,h2⟩ i j u v hu hv e
   cases i with
   | zero =>
    simp only [List.getElem?_cons_zero,Option.some.injEq] at hu
    have hj:j<p.length:=(List.getElem?_eq_some_iff.1 hv).1
    rw [if_pos (by omega),show d.toNat=j by omega,hv] at h1
    simp only [beq_iff_eq,Option.some.injEq] at h1
    omega
   | succ i =>
    simp only [List.getElem?_cons_succ] at hu
    exact h2 i j u v hu hv (by omega)
  ·intro h
   refine ⟨?_,fun i j u v hu hv e=>h (i+1) j u v (by simpa using hu) hv (by omega)⟩
   split
   ·rename_i hd
    have hj:d.toNat<p.length:=by omega
    have hg:p[d.toNat]?=some p[d.toNat]:=List.getElem?_eq_getElem hj
    have:=h 0 d.toNat x p[d.toNat] (by simp) hg (by omega)
    rw [hg,this];simp
   ·rfl
theorem ovl_iff (pa pb:List Int) (ao bo lo hi:Int) (h1:ao≤lo) (h2:bo≤lo) (h3:lo=ao∨lo=bo) (h4:hi≤ao+pa.length) (h5:hi≤bo+pb.length) (h6:hi=ao+pa.length∨hi=bo+pb.length) (hlt:lo<hi) :
 (List.drop (lo - ao).toNat (List.take (hi - ao).toNat pa)=List.drop (lo - bo).toNat (List.take (hi - bo).toNat pb))↔∀ (i j:Nat) (x y:Int),pa[i]?=some x→pb[j]?=some y→ao+i=bo+j→x=y:=by
 constructor
 ·intro h i j x y hx hy e
  have hi1:i<pa.length:=(List.getElem?_eq_some_iff.1 hx).1
  have hj1:j<pb.length:=(List.getElem?_eq_some_iff.1 hy).1
  have:=congrArg (fun l:List Int=>l[(ao+i - lo).toNat]?) h
  simp only [List.getElem?_drop,List.getElem?_take] at this
  rw [if_pos (by omega),if_pos (by omega),show (lo - ao).toNat+(ao+i - lo).toNat=i by omega,show (lo - bo).toNat+(ao+i - lo).toNat=j by omega,hx,hy] at this
  exact Option.some.inj this
 ·intro h
  refine List.ext_getElem? fun m => ?_
  simp only [List.getElem?_drop,List.getElem?_take]
  by_cases hm:(m:Int)<hi - lo
  ·rw [if_pos (by omega),if_pos (by omega)]
   have q1:(lo - ao).toNat+m<pa.length:=by omega
   have q2:(lo - bo).toNat+m<pb.length:=by omega
   rw [List.getElem?_eq_getElem q1,List.getElem?_eq_getElem q2]
   exact congrArg some (h _ _ _ _ (List.getElem?_eq_getElem q1) (List.getElem?_eq_getElem q2) (by omega))
  ·rw [if_neg (by omega),if_neg (by omega)]
theorem tog_l2 (k n:Nat) (hn:3≤n) (a b c:Bun):f65_l2 k n 2 0 a.Source a.Dest a.Seq a.Created a.Lifetime a.HopLimit a.Hops a.Priority a.Offset a.Total a.Payload b.Source b.Dest b.Seq b.Created b.Lifetime b.HopLimit b.Hops b.Priority b.Offset b.Total b.Payload c.Source c.Dest c.Seq c.Created c.Lifetime c.HopLimit c.Hops c.Priority c.Offset c.Total c.Payload=some (.o1 2 2 false a.Source a.Dest a.Seq a.Created a.Lifetime a.HopLimit a.Hops a.Priority a.Offset a.Total a.Payload b.Source b.Dest b.Seq b.Created b.Lifetime b.HopLimit b.Hops b.Priority b.Offset b.Total b.Payload c.Source c.Dest c.Seq c.Created c.Lifetime c.HopLimit a.Hops c.Priority a.Offset c.Total c.Payload):=by
 obtain ⟨n,rfl⟩:∃ m,n=m+3:=⟨n - 3,by omega⟩
 have w1:IntKind.i64.wrap ((0:Int)+1)=1:=by decide
 have w2:IntKind.i64.wrap ((1:Int)+1)=2:=by decide
 have d1:decide ((0:Int)<2)=true:=by decide
 have d2:decide ((1:Int)<2)=true:=by decide
 have d3:decide ((2:Int)<2)=false:=by decide
 have b1:((0:Int)==0)=true:=by decide
 have b2:((1:Int)==0)=false:=by decide
 have b3:((1:Int)==1)=true:=by decide
 simp only [f65_l2,f65_l2_b,f65_l2_j1,f65_l2_j2,d1,d2,d3,cond_true,cond_false,ifE_pos (show (0:Int)≤0 by decide),ifE_pos (show (0:Int)≤1 by decide),b1,b2,b3,Option.bind_some,w1,w2]
theorem tog_at (k:Nat) (a b:Bun) (ba:∀ x∈a.Payload,0≤x∧x<256) (bb:∀ x∈b.Payload,0≤x∧x<256) (la:a.Payload.length≤3000) (hk:3200≤k):∃ v,f65 k a.Source a.Dest a.Seq a.Created a.Lifetime a.HopLimit a.Hops a.Priority a.Offset a.Total a.Payload b.Source b.Dest b.Seq b.Created b.Lifetime b.HopLimit b.Hops b.Priority b.Offset b.Total b.Payload=some (.o0 v)∧(v=true↔togP a b):=by
 obtain ⟨k,rfl⟩:∃ m,k=m+2:=⟨k - 2,by omega⟩
 simp only [f65,f65_e,chk_at (k+1) (by omega) a,chk_at (k+1) (by omega) b,Option.bind_some]
 have z:((190:Int) != 0)=true:=by decide
 by_cases ha:okP a
 case neg=>exact ⟨false,by simp only [if_neg ha,z,cond_true],by simp [togP,ha]⟩
 by_cases hb:okP b
 case neg=>exact ⟨false,by simp only [if_pos ha,if_neg hb,z,bne_self_eq_false,cond_true,cond_false],by simp [togP,hb]⟩
 have oa:=ha.b
 have ob:=hb.b
 have q:=same_at (k+1) a (like a b) (by omega) (by omega)
 have q':f41 (k+1) a.Source a.Dest a.Seq a.Created a.Lifetime a.HopLimit a.Hops a.Priority a.Offset a.Total a.Payload b.Source b.Dest b.Seq b.Created b.Lifetime b.HopLimit a.Hops b.Priority a.Offset b.Total a.Payload=some (.o0 (decide (a=like a b))):=q
 simp only [if_pos ha,if_pos hb,bne_self_eq_false,cond_false,f65_j1,tog_l2 (k+1) (k+1) (by omega),Option.bind_some,f65_j3,q']
 by_cases hm:a=like a b
 case neg=>exact ⟨false,by simp only [decide_eq_false hm,Bool.not_false,cond_true],by simp [togP,hm]⟩
 simp only [decide_eq_true hm,Bool.not_true,cond_false,f65_j4]
 rw [show IntKind.i64.wrap (a.Offset+(a.Payload.length:Int))=a.Offset+a.Payload.length from wrap_i64 (by omega) (by omega),show IntKind.i64.wrap (b.Offset+(b.Payload.length:Int))=b.Offset+b.Payload.length from wrap_i64 (by omega) (by omega)]
 obtain ⟨lo,hlo⟩:∃ lo,lo=(if b.Offset>a.Offset then b.Offset else a.Offset):=⟨_,rfl⟩
 obtain ⟨hi,hhi⟩:∃ hi,hi=(if b.Offset+(b.Payload.length:Int)<a.Offset+(a.Payload.length:Int) then b.Offset+(b.Payload.length:Int) else a.Offset+(a.Payload.length:Int)):=⟨_,rfl⟩
 rw [←hlo,←hhi]
 have l1:a.Offset≤lo∧b.Offset≤lo∧(lo=a.Offset∨lo=b.Offset):=by split at hlo<;>omega
 have l2:hi≤a.Offset+a.Payload.length∧hi≤b.Offset+b.Payload.length∧(hi=a.Offset+a.Payload.length∨hi=b.Offset+b.Payload.length):=by split at hhi<;>omega
 by_cases hge:lo≥hi
 ·refine ⟨true,by simp only [decide_eq_true hge,cond_true],?_⟩
  simp only [true_iff]
  refine ⟨ha,hb,hm,fun i j x y hx hy e => ?_⟩
  have hi1:i<a.Payload.length:=(List.getElem?_eq_some_iff.1 hx).1
  have hj1:j<b.Payload.length:=(List.getElem?_eq_some_iff.1 hy).1
  omega
 ·have hov:=ovl_iff a.Payload b.Payload a.Offset b.Offset lo hi l1.1 l1.2.1 l1.2.2 l2.1 l2.2.1 l2.2.2 (by omega)
  rw [show IntKind.i64.wrap (lo - a.Offset)=lo - a.Offset from wrap_i64 (by omega) (by omega),show IntKind.i64.wrap (lo - b.Offset)=lo - b.Offset from wrap_i64 (by omega) (by omega),show IntKind.i64.wrap (hi - a.Offset)=hi - a.Offset from wrap_i64 (by omega) (by omega),show IntKind.i64.wrap (hi - b.Offset)=hi - b.Offset from wrap_i64 (by omega) (by omega)]
  have sub:∀ (p:List Int) (m n:Nat),(∀ x∈p,0≤x∧x<256)→∀ x∈List.drop m (List.take n p),0≤x∧x<256:=fun p m n h x hx=>h x (List.mem_of_mem_take (List.mem_of_mem_drop hx))
  have hs:=strOf_inj (sub a.Payload (lo - a.Offset).toNat (hi - a.Offset).toNat ba) (sub b.Payload (lo - b.Offset).toNat (hi - b.Offset).toNat bb)
  refine ⟨decide (List.drop (lo - a.Offset).toNat (List.take (hi - a.Offset).toNat a.Payload)=List.drop (lo - b.Offset).toNat (List.take (hi - b.Offset).toNat b.Payload)),by simp only [decide_eq_false hge,cond_false,ifE_pos (show 0≤lo - a.Offset by omega),ifE_pos (show 0≤hi - a.Offset by omega),ifE_pos (show (lo - a.Offset).toNat≤(hi - a.Offset).toNat by omega),ifE_pos (show (hi - a.Offset).toNat≤a.Payload.length by omega),ifE_pos (show 0≤lo - b.Offset by omega),ifE_pos (show 0≤hi - b.Offset by omega),ifE_pos (show (lo - b.Offset).toNat≤(hi - b.Offset).toNat by omega),ifE_pos (show (hi - b.Offset).toNat≤b.Payload.length by omega),f67,f67_e,Option.bind_some,hs],?_⟩
  rw [decide_eq_true_iff,hov]
  exact ⟨fun h=>⟨ha,hb,hm,h⟩,fun h=>h.2.2.2⟩
end Go.Proofs.YticggdfaehneeaaV