/- What becomes of a bundle that comes in. -/
import Derived.Test.YticggdfaehneeaaVPDel
import Derived.Test.YticggdfaehneeaaVPJoin
namespace Go.Proofs.YticggdfaehneeaaV
open Go
set_option linter.unusedVariables false
set_option linter.unusedSimpArgs false
theorem own_l (k:Nat) (hk:1≤k) (P:List Bun) (hP:P.length≤1000) (hp:∀ b∈P,b.Payload.length≤3000) (a b:Int) (d1:List Sn) (e f:Int) (g:List Sn) (j:List Bun):∀ (d i n:Nat) (acc:List Bun),i+d=P.length→d<n→acc.length≤i →
 f26_l1 k n P P.length i a b d1 acc e f g j=some (.o1 P P.length P.length false a b d1 (acc++P.drop i) e f g j):=by
 obtain ⟨k,rfl⟩:∃ m,k=m+1:=⟨k - 1,by omega⟩
 intro d
 induction d with
 | zero =>
  intro i n acc hi hq _
  obtain ⟨n,rfl⟩:∃ m,n=m+1:=⟨n - 1,by omega⟩
  have e3:i=P.length:=by omega
  subst e3
  simp [f26_l1,f26_l1_b]
 | succ d ih =>
  intro i n acc hi hq ha
  obtain ⟨n,rfl⟩:∃ m,n=m+1:=⟨n - 1,by omega⟩
  have h1:i<P.length:=by omega
  have g1:P[i]?=some P[i]:=List.getElem?_eq_getElem h1
  have hlt:((i:Int)<(P.length:Int)):=by omega
  have hw:=nextN h1 (by omega)
  have h3:=hp P[i] (List.getElem_mem h1)
  have r1:P[i].Payload.length * 1≤roomy:=by unfold roomy;omega
  have r2:(acc.length+1) * 104≤roomy:=by unfold roomy;omega
  have ih':=ih (i+1) n (acc++[P[i]]) (by omega) (by omega) (by rw [List.length_append];simp;omega)
  rw [List.append_assoc,List.singleton_append,←List.drop_eq_getElem_cons h1] at ih'
  simp only [f26_l1,f26_l1_b,f26_l1_j1,f26_l1_j2,f49,decide_eq_true hlt,cond_true,ifE_pos (show (0:Int)≤i by omega),Int.toNat_natCast,g1,Option.bind_some,ifE_pos r1,ifE_pos r2,hw,ih']
theorem own_at (k:Nat) (hk:400≤k) (nd nx:Int) (S:List Sn) (P:List Bun) (hS:S.length≤300) (hP:P.length≤60) (hp:∀ b∈P,b.Payload.length≤3000):f26 k nd nx S P=some (.o0 nd nx S P):=by
 obtain ⟨k,rfl⟩:∃ m,k=m+2:=⟨k - 2,by omega⟩
 have r1:S.length * 32≤roomy:=by unfold roomy;omega
 have h:=own_l (k+1) (by omega) P (by omega) hp nd nx S 0 0 [] [] P.length 0 (k+1) [] (by omega) (by omega) (by simp)
 rw [List.drop_zero,Int.natCast_zero,List.nil_append] at h
 simp only [f26,f26_e,f48,ifE_pos r1,Option.bind_some,h,f26_j2]
def expB (now:Int) (b:Bun):Bool:=decide (okP b)&&decide (now≥IntKind.i64.wrap (b.Created+b.Lifetime))
theorem expb_at (k:Nat) (hk:4≤k) (now:Int) (b:Bun):f44 k b.Source b.Dest b.Seq b.Created b.Lifetime b.HopLimit b.Hops b.Priority b.Offset b.Total b.Payload now=some (.o0 (expB now b)):=by
 obtain ⟨k,rfl⟩:∃ m,k=m+1:=⟨k - 1,by omega⟩
 have hc:=chk_at k (by omega) b
 simp only [f44,f44_e,hc,Option.bind_some,expB]
 by_cases h:okP b
 ·simp only [if_pos h,decide_eq_true h,beq_self_eq_true,cond_true,Bool.true_and]
 ·simp only [if_neg h,decide_eq_false h,show ((190:Int)==0)=false from rfl,cond_false,Bool.false_and]
theorem whole_at (k:Nat) (hk:1≤k) (b:Bun):f34 k b.Source b.Dest b.Seq b.Created b.Lifetime b.HopLimit b.Hops b.Priority b.Offset b.Total b.Payload=some (.o0 ((b.Payload.length:Int)==b.Total)):=by
 obtain ⟨k,rfl⟩:∃ m,k=m+1:=⟨k - 1,by omega⟩
 simp only [f34,f34_e]
def Z:Bun:=⟨0,0,0,0,0,0,0,0,0,0,[]⟩
def Why (nd:Int) (S:List Sn) (P:List Bun) (b:Bun) (now kind:Int):Prop :=
 (kind=1∧¬okP b)∨(kind=2∧expB now b=true)∨(kind=3∧S.any (eqS · (seenB b))=true)∨(kind=4∧b.Source=nd)∨(kind=5∧b.Dest≠nd)∨(kind=7∧(chkL (ofB P b.Source b.Seq++[b])=false∨P.length=7))
def Hand (P:List Bun) (b vb:Bun):Prop :=
 ((b.Payload.length:Int)=b.Total∧vb=b)∨(chkL (ofB P b.Source b.Seq++[b])=true∧¬((gapsF (hasF (ofB P b.Source b.Seq++[b]))).length:Int)>0∧vb=joinB (ofB P b.Source b.Seq++[b]))
def Step (nd:Int) (S:List Sn) (P:List Bun) (b:Bun) (now kind:Int) (vb:Bun) (S':List Sn) (P':List Bun):Prop :=
 (S'=S∧P'=P∧Why nd S P b now kind) ∨
 (okP b∧expB now b=false∧S.any (eqS · (seenB b))=false∧S'=remS S (seenB b) ∧
  ((kind=6∧b.Dest≠nd∧P'=P)∨(kind=9∧Hand P b vb∧P'=keptI b.Source b.Seq P) ∨
   (kind=8∧P'=P++[b]∧b.Dest=nd∧((b.Payload.length:Int)==b.Total)=false∧P.length≠7∧chkL (ofB P b.Source b.Seq++[b])=true∧((gapsF (hasF (ofB P b.Source b.Seq++[b]))).length:Int)>0)))
theorem okA_len {nd nx:Int} {S:List Sn} {P:List Bun} (h:okA nd nx S P=true):S.length≤64∧P.length≤7:=by
 unfold okA at h
 simp only [Bool.and_eq_true,Bool.not_eq_true',decide_eq_false_iff_not] at h
 omega
theorem again_at (k:Nat) (hk:9000≤k) (nd nx:Int) (S:List Sn) (P:List Bun) (b:Bun) (now:Int) (fP:∀ x∈P,Fit x) (hok:okA nd nx S P=true) (ob:okP b) (he:expB now b=false) (hs:S.any (eqS · (seenB b))=true) :
 f18 k nd nx S P b.Source b.Dest b.Seq b.Created b.Lifetime b.HopLimit b.Hops b.Priority b.Offset b.Total b.Payload now=some (.o1 nd nx S P 3 Z.Source Z.Dest Z.Seq Z.Created Z.Lifetime Z.HopLimit Z.Hops Z.Priority Z.Offset Z.Total Z.Payload 0):=by
 obtain ⟨k,rfl⟩:∃ m,k=m+2:=⟨k - 2,by omega⟩
 obtain ⟨l1,l2⟩:=okA_len hok
 have hc:=achk_at (k+1) (by omega) nd nx S P fP
 rw [hok,cond_true] at hc
 have ho:=own_at (k+1) (by omega) nd nx S P (by omega) (by omega) (fun x hx=>(fP x hx).2.1)
 have hb:=chk_at k (by omega) b
 rw [if_pos ob] at hb
 have hx:=expb_at k (by omega) now b
 rw [he] at hx
 have hn:=snf_at k (by omega) b
 have hct:f52 k S b.Source b.Seq b.Offset (b.Payload.length:Int)=some (.o0 true):=by
  have:=cont_at k (by omega) S (seenB b) (by omega)
  rw [hs] at this
  exact this
 show f18 (k+2) nd nx S P b.Source b.Dest b.Seq b.Created b.Lifetime b.HopLimit b.Hops b.Priority b.Offset b.Total b.Payload now=some (.o1 nd nx S P 3 0 0 0 0 0 0 0 0 0 0 [] 0)
 simp only [f18,f18_e,hc,Option.bind_some,bne_self_eq_false,cond_false,f18_j1,ho,f32,f32_e,hb,hx,hn,hct,cond_true,just_at k (by omega)]
theorem arrive_at (k:Nat) (hk:9000≤k) (nd nx:Int) (S:List Sn) (P:List Bun) (b:Bun) (now:Int) (fP:∀ x∈P,Fit x) (fb:Fit b) (hok:okA nd nx S P=true) :
 ∃ kind vb S' P',f18 k nd nx S P b.Source b.Dest b.Seq b.Created b.Lifetime b.HopLimit b.Hops b.Priority b.Offset b.Total b.Payload now=some (.o1 nd nx S' P' kind vb.Source vb.Dest vb.Seq vb.Created vb.Lifetime vb.HopLimit vb.Hops vb.Priority vb.Offset vb.Total vb.Payload 0)∧Step nd S P b now kind vb S' P':=by
 obtain ⟨k,rfl⟩:∃ m,k=m+3:=⟨k - 3,by omega⟩
 obtain ⟨l1,l2⟩:=okA_len hok
 have hc:=achk_at (k+2) (by omega) nd nx S P fP
 rw [hok,cond_true] at hc
 have ho:=own_at (k+2) (by omega) nd nx S P (by omega) (by omega) (fun x hx=>(fP x hx).2.1)
 have hb:=chk_at (k+1) (by omega) b
 have hj:=just_at (k+1) (by omega)
 by_cases ob:okP b
 case neg =>
  rw [if_neg ob] at hb
  refine ⟨1,Z,S,P,?_,.inl ⟨rfl,rfl,.inl ⟨rfl,ob⟩⟩⟩
  show f18 (k+3) nd nx S P b.Source b.Dest b.Seq b.Created b.Lifetime b.HopLimit b.Hops b.Priority b.Offset b.Total b.Payload now=some (.o1 nd nx S P 1 0 0 0 0 0 0 0 0 0 0 [] 0)
  simp only [f18,f18_e,hc,Option.bind_some,bne_self_eq_false,cond_false,f18_j1,ho,f32,f32_e,hb,show ((190:Int) != 0)=true from rfl,cond_true,hj]
 rw [if_pos ob] at hb
 have hx:=expb_at (k+1) (by omega) now b
 cases he:expB now b
 case true =>
  rw [he] at hx
  refine ⟨2,Z,S,P,?_,.inl ⟨rfl,rfl,.inr (.inl ⟨rfl,he⟩)⟩⟩
  show f18 (k+3) nd nx S P b.Source b.Dest b.Seq b.Created b.Lifetime b.HopLimit b.Hops b.Priority b.Offset b.Total b.Payload now=some (.o1 nd nx S P 2 0 0 0 0 0 0 0 0 0 0 [] 0)
  simp only [f18,f18_e,hc,Option.bind_some,bne_self_eq_false,cond_false,f18_j1,ho,f32,f32_e,hb,hx,cond_true,hj]
 rw [he] at hx
 cases hs:S.any (eqS · (seenB b))
 case true=>exact ⟨3,Z,S,P,again_at (k+3) hk nd nx S P b now fP hok ob he hs,.inl ⟨rfl,rfl,.inr (.inr (.inl ⟨rfl,hs⟩))⟩⟩
 have hn:=snf_at (k+1) (by omega) b
 have hct:f52 (k+1) S b.Source b.Seq b.Offset (b.Payload.length:Int)=some (.o0 false):=by
  have:=cont_at (k+1) (by omega) S (seenB b) (by omega)
  rw [hs] at this
  exact this
 by_cases hso:b.Source=nd
 ·have q1:(b.Source==nd)=true:=by simpa using hso
  refine ⟨4,Z,S,P,?_,.inl ⟨rfl,rfl,.inr (.inr (.inr (.inl ⟨rfl,hso⟩)))⟩⟩
  show f18 (k+3) nd nx S P b.Source b.Dest b.Seq b.Created b.Lifetime b.HopLimit b.Hops b.Priority b.Offset b.Total b.Payload now=some (.o1 nd nx S P 4 0 0 0 0 0 0 0 0 0 0 [] 0)
  simp only [f18,f18_e,hc,Option.bind_some,bne_self_eq_false,cond_false,f18_j1,ho,f32,f32_e,hb,hx,hn,hct,q1,cond_true,hj]
 have q1:(b.Source==nd)=false:=by simpa using hso
 have hcl:b.Payload.length * 1≤roomy:=by have:=fb.2.1;unfold roomy;omega
 by_cases hde:b.Dest=nd
 ·have q2:(b.Dest != nd)=false:=by simpa using hde
  have hwh:=whole_at (k+1) (by omega) b
  have hid:=id_at (k+1) (by omega) b
  cases hto:((b.Payload.length:Int)==b.Total)
  ·rw [hto] at hwh
   have hof:=ofo_at (k+1) nd nx S P b.Source b.Seq (by omega) (by omega)
   have hL:=ofB_len P b.Source b.Seq
   have hr:((ofB P b.Source b.Seq).length+1) * 104≤roomy:=by unfold roomy;omega
   have hjn:f56 (k+1) (ofB P b.Source b.Seq++[T39.mk b.Source b.Dest b.Seq b.Created b.Lifetime b.HopLimit b.Hops b.Priority b.Offset b.Total b.Payload])=_:=join_at (k+1) (by omega) (ofB P b.Source b.Seq++[b]) (by rw [List.length_append];simp;omega) (fun x hx=>by
    rcases List.mem_append.1 hx with hx | hx
    ·exact fP x (List.mem_filter.1 hx).1
    ·have:x=b:=by simpa using hx
     subst this;exact fb)
   cases hck:chkL (ofB P b.Source b.Seq++[b])
   case false =>
    rw [hck] at hjn
    simp only [cond_false] at hjn
    refine ⟨7,Z,S,P,?_,.inl ⟨rfl,rfl,.inr (.inr (.inr (.inr (.inr ⟨rfl,.inl hck⟩))))⟩⟩
    show f18 (k+3) nd nx S P b.Source b.Dest b.Seq b.Created b.Lifetime b.HopLimit b.Hops b.Priority b.Offset b.Total b.Payload now=some (.o1 nd nx S P 7 0 0 0 0 0 0 0 0 0 0 [] 0)
    simp only [f18,f18_e,hc,Option.bind_some,bne_self_eq_false,cond_false,f18_j1,ho,f32,f32_e,hb,hx,hn,hct,q1,q2,f32_j1,f49,ifE_pos hcl,f32_j2,hwh,f32_j3,hid,hof,ifE_pos hr,hjn,beq_self_eq_true,cond_true,hj]
   rw [hck] at hjn
   simp only [cond_true] at hjn
   by_cases h7:P.length=7
   ·have q7:((P.length:Int)==7)=true:=by rw [h7];rfl
    refine ⟨7,Z,S,P,?_,.inl ⟨rfl,rfl,.inr (.inr (.inr (.inr (.inr ⟨rfl,.inr h7⟩))))⟩⟩
    show f18 (k+3) nd nx S P b.Source b.Dest b.Seq b.Created b.Lifetime b.HopLimit b.Hops b.Priority b.Offset b.Total b.Payload now=some (.o1 nd nx S P 7 0 0 0 0 0 0 0 0 0 0 [] 0)
    cases hga:decide (((gapsF (hasF (ofB P b.Source b.Seq++[b]))).length:Int)>0)<;>rw [hga] at hjn<;>simp only [cond_true,cond_false] at hjn
    ·simp only [f18,f18_e,hc,Option.bind_some,bne_self_eq_false,cond_false,f18_j1,ho,f32,f32_e,hb,hx,hn,hct,q1,q2,f32_j1,f49,ifE_pos hcl,f32_j2,hwh,f32_j3,hid,hof,ifE_pos hr,hjn,show ((0:Int)==280)=false from rfl,q7,cond_true,hj]
    ·simp only [f18,f18_e,hc,Option.bind_some,bne_self_eq_false,cond_false,f18_j1,ho,f32,f32_e,hb,hx,hn,hct,q1,q2,f32_j1,f49,ifE_pos hcl,f32_j2,hwh,f32_j3,hid,hof,ifE_pos hr,hjn,show ((4:Int)==280)=false from rfl,q7,cond_true,hj]
   have q7:((P.length:Int)==7)=false:=by rw [beq_eq_false_iff_ne];omega
   have hr2:(P.length+1) * 104≤roomy:=by unfold roomy;omega
   cases hga:decide (((gapsF (hasF (ofB P b.Source b.Seq++[b]))).length:Int)>0)<;>rw [hga] at hjn<;>simp only [cond_true,cond_false] at hjn
   ·-- all of it is there
    rcases rem_at (k+1) (by omega) b nd nx S P l1 with r | ⟨n,E,r1,r2,r⟩
    ·rcases del3_at (k+1) (by omega) b P (by omega) with ⟨d1,d⟩ | ⟨m,R,d0,d1,d⟩
     ·refine ⟨9,joinB (ofB P b.Source b.Seq++[b]),remS S (seenB b),keptI b.Source b.Seq P,?_,.inr ⟨ob,he,hs,rfl,.inr (.inl ⟨rfl,.inr ⟨hck,of_decide_eq_false hga,rfl⟩,rfl⟩)⟩⟩
      rw [d1]
      simp only [f18,f18_e,hc,Option.bind_some,bne_self_eq_false,cond_false,f18_j1,ho,f32,f32_e,hb,hx,hn,hct,q1,q2,f32_j1,f49,ifE_pos hcl,f32_j2,hwh,f32_j3,hid,hof,ifE_pos hr,hjn,show ((0:Int)==280)=false from rfl,q7,f32_j5,r,d]
     ·refine ⟨9,joinB (ofB P b.Source b.Seq++[b]),remS S (seenB b),keptI b.Source b.Seq P,?_,.inr ⟨ob,he,hs,rfl,.inr (.inl ⟨rfl,.inr ⟨hck,of_decide_eq_false hga,rfl⟩,rfl⟩)⟩⟩
      simp only [f18,f18_e,hc,Option.bind_some,bne_self_eq_false,cond_false,f18_j1,ho,f32,f32_e,hb,hx,hn,hct,q1,q2,f32_j1,f49,ifE_pos hcl,f32_j2,hwh,f32_j3,hid,hof,ifE_pos hr,hjn,show ((0:Int)==280)=false from rfl,q7,f32_j5,r,d,ifE_pos d0,d1]
    ·rcases del3_at (k+1) (by omega) b P (by omega) with ⟨d1,d⟩ | ⟨m,R,d0,d1,d⟩
     ·refine ⟨9,joinB (ofB P b.Source b.Seq++[b]),remS S (seenB b),keptI b.Source b.Seq P,?_,.inr ⟨ob,he,hs,rfl,.inr (.inl ⟨rfl,.inr ⟨hck,of_decide_eq_false hga,rfl⟩,rfl⟩)⟩⟩
      rw [d1]
      simp only [f18,f18_e,hc,Option.bind_some,bne_self_eq_false,cond_false,f18_j1,ho,f32,f32_e,hb,hx,hn,hct,q1,q2,f32_j1,f49,ifE_pos hcl,f32_j2,hwh,f32_j3,hid,hof,ifE_pos hr,hjn,show ((0:Int)==280)=false from rfl,q7,f32_j5,r,d,ifE_pos r1,r2]
     ·refine ⟨9,joinB (ofB P b.Source b.Seq++[b]),remS S (seenB b),keptI b.Source b.Seq P,?_,.inr ⟨ob,he,hs,rfl,.inr (.inl ⟨rfl,.inr ⟨hck,of_decide_eq_false hga,rfl⟩,rfl⟩)⟩⟩
      simp only [f18,f18_e,hc,Option.bind_some,bne_self_eq_false,cond_false,f18_j1,ho,f32,f32_e,hb,hx,hn,hct,q1,q2,f32_j1,f49,ifE_pos hcl,f32_j2,hwh,f32_j3,hid,hof,ifE_pos hr,hjn,show ((0:Int)==280)=false from rfl,q7,f32_j5,r,d,ifE_pos r1,r2,ifE_pos d0,d1]
   ·-- something is missing
    have hga':=of_decide_eq_true hga
    refine ⟨8,Z,remS S (seenB b),P++[b],?_,.inr ⟨ob,he,hs,rfl,.inr (.inr ⟨rfl,rfl,hde,hto,h7,hck,hga'⟩)⟩⟩
    show f18 (k+3) nd nx S P b.Source b.Dest b.Seq b.Created b.Lifetime b.HopLimit b.Hops b.Priority b.Offset b.Total b.Payload now=some (.o1 nd nx (remS S (seenB b)) (P++[T39.mk b.Source b.Dest b.Seq b.Created b.Lifetime b.HopLimit b.Hops b.Priority b.Offset b.Total b.Payload]) 8 0 0 0 0 0 0 0 0 0 0 [] 0)
    rcases rem_at (k+1) (by omega) b nd nx S P l1 with r | ⟨n,E,r1,r2,r⟩
    ·simp only [f18,f18_e,hc,Option.bind_some,bne_self_eq_false,cond_false,f18_j1,ho,f32,f32_e,hb,hx,hn,hct,q1,q2,f32_j1,f49,ifE_pos hcl,f32_j2,hwh,f32_j3,hid,hof,ifE_pos hr,hjn,show ((4:Int)==280)=false from rfl,show ((4:Int) != 0)=true from rfl,q7,cond_true,r,ifE_pos hr2,hj]
    ·simp only [f18,f18_e,hc,Option.bind_some,bne_self_eq_false,cond_false,f18_j1,ho,f32,f32_e,hb,hx,hn,hct,q1,q2,f32_j1,f49,ifE_pos hcl,f32_j2,hwh,f32_j3,hid,hof,ifE_pos hr,hjn,show ((4:Int)==280)=false from rfl,show ((4:Int) != 0)=true from rfl,q7,cond_true,r,ifE_pos hr2,hj,ifE_pos r1,r2]
  ·rw [hto] at hwh
   refine ⟨9,b,remS S (seenB b),keptI b.Source b.Seq P,?_,.inr ⟨ob,he,hs,rfl,.inr (.inl ⟨rfl,.inl ⟨by simpa using hto,rfl⟩,rfl⟩)⟩⟩
   rcases del2_at (k+1) (by omega) b.Source b.Seq P (by omega) with ⟨d1,d⟩ | ⟨m,R,d0,d1,d⟩
   ·rw [d1]
    rcases rem_at (k+1) (by omega) b nd nx S P l1 with r | ⟨n,E,r1,r2,r⟩
    ·simp only [f18,f18_e,hc,Option.bind_some,bne_self_eq_false,cond_false,f18_j1,ho,f32,f32_e,hb,hx,hn,hct,q1,q2,f32_j1,f49,ifE_pos hcl,f32_j2,hwh,cond_true,hid,d,r]
    ·simp only [f18,f18_e,hc,Option.bind_some,bne_self_eq_false,cond_false,f18_j1,ho,f32,f32_e,hb,hx,hn,hct,q1,q2,f32_j1,f49,ifE_pos hcl,f32_j2,hwh,cond_true,hid,d,r,ifE_pos r1,r2]
   ·rcases remc_at (k+1) (by omega) b nd nx 0 m S R l1 with r | ⟨n,E,r1,r2,r⟩
    ·simp only [f18,f18_e,hc,Option.bind_some,bne_self_eq_false,cond_false,f18_j1,ho,f32,f32_e,hb,hx,hn,hct,q1,q2,f32_j1,f49,ifE_pos hcl,f32_j2,hwh,cond_true,hid,d,r,ifE_pos d0,d1]
    ·simp only [f18,f18_e,hc,Option.bind_some,bne_self_eq_false,cond_false,f18_j1,ho,f32,f32_e,hb,hx,hn,hct,q1,q2,f32_j1,f49,ifE_pos hcl,f32_j2,hwh,cond_true,hid,d,r,ifE_pos r1,r2,ifE_pos d0,d1]
 ·have q2:(b.Dest != nd)=true:=by simpa using hde
  by_cases hho:b.Hops=b.HopLimit
  ·have q3:(b.Hops==b.HopLimit)=true:=by simpa using hho
   refine ⟨5,Z,S,P,?_,.inl ⟨rfl,rfl,.inr (.inr (.inr (.inr (.inl ⟨rfl,hde⟩))))⟩⟩
   show f18 (k+3) nd nx S P b.Source b.Dest b.Seq b.Created b.Lifetime b.HopLimit b.Hops b.Priority b.Offset b.Total b.Payload now=some (.o1 nd nx S P 5 0 0 0 0 0 0 0 0 0 0 [] 0)
   simp only [f18,f18_e,hc,Option.bind_some,bne_self_eq_false,cond_false,f18_j1,ho,f32,f32_e,hb,hx,hn,hct,q1,q2,q3,cond_true,hj]
  ·have q3:(b.Hops==b.HopLimit)=false:=by simpa using hho
   refine ⟨6,{ b with Hops:=IntKind.i64.wrap (b.Hops+1) },remS S (seenB b),P,?_,.inr ⟨ob,he,hs,rfl,.inl ⟨rfl,hde,rfl⟩⟩⟩
   rcases rem_at (k+1) (by omega) b nd nx S P l1 with r | ⟨n,E,r1,r2,r⟩
   ·simp only [f18,f18_e,hc,Option.bind_some,bne_self_eq_false,cond_false,f18_j1,ho,f32,f32_e,hb,hx,hn,hct,q1,q2,q3,cond_true,f32_j1,f49,ifE_pos hcl,r]
   ·simp only [f18,f18_e,hc,Option.bind_some,bne_self_eq_false,cond_false,f18_j1,ho,f32,f32_e,hb,hx,hn,hct,q1,q2,q3,cond_true,f32_j1,f49,ifE_pos hcl,r,ifE_pos r1,r2]
end Go.Proofs.YticggdfaehneeaaV