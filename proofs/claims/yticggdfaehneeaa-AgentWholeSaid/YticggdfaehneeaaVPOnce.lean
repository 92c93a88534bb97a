/- An agent that has heard a bundle is still one that may be,and remembers it. -/
import Derived.Test.YticggdfaehneeaaVPJudge
namespace Go.Proofs.YticggdfaehneeaaV
open Go
set_option linter.unusedVariables false
set_option linter.unusedSimpArgs false
theorem seenF_iff (l:List Sn):∀ (d i:Nat),i+d=l.length→(seenF l d i=true↔∀ j (h:j<l.length),i≤j→okS l[j]∧∀ m (hm:m<l.length),m<j→l[m]≠l[j]):=by
 intro d
 induction d with
 | zero=>intro i hi;exact ⟨fun _ j h h2=>by omega,fun _=>rfl⟩
 | succ d ih =>
  intro i hi
  have h1:i<l.length:=by omega
  have g1:l[i]?=some l[i]:=List.getElem?_eq_getElem h1
  have ih':=ih (i+1) (by omega)
  have hs:seenF l (d+1) i=((decide (okS l[i]) && !((l.take i).any (eqS · l[i])))&&seenF l d (i+1)):=by rw [seenF,g1]
  have ha:((l.take i).any (eqS · l[i])=false)↔∀ m (hm:m<l.length),m<i→l[m]≠l[i]:=by
   rw [List.any_eq_false]
   constructor
   ·intro h m hm hmi he
    refine h l[m] ?_ ((eqS_iff _ _).2 he)
    rw [List.mem_take_iff_getElem]
    exact ⟨m,by omega,rfl⟩
   ·intro h x hx he
    rw [List.mem_take_iff_getElem] at hx
    obtain ⟨m,hm,rfl⟩:=hx
    exact h m (by omega) (by omega) ((eqS_iff _ _).1 he)
  rw [hs,Bool.and_eq_true,Bool.and_eq_true,decide_eq_true_iff,Bool.not_eq_true',ih',ha]
  constructor
  ·rintro ⟨⟨a1,a2⟩,a3⟩ j hj hij
   by_cases e:j=i
   ·subst e;exact ⟨a1,a2⟩
   ·exact a3 j hj (by omega)
  ·intro h
   exact ⟨h i h1 (Nat.le_refl _),fun j hj hij=>h j hj (by omega)⟩
theorem seenF_iff' (l:List Sn):seenF l l.length 0=true↔(∀ s∈l,okS s)∧l.Pairwise (· ≠ ·):=by
 rw [seenF_iff l l.length 0 (by omega),List.pairwise_iff_getElem]
 constructor
 ·intro h
  refine ⟨fun s hs => ?_,fun i j hi hj hij=>(h j hj (Nat.zero_le _)).2 i hi hij⟩
  obtain ⟨j,hj,rfl⟩:=List.mem_iff_getElem.1 hs
  exact (h j hj (Nat.zero_le _)).1
 ·rintro ⟨h1,h2⟩ j hj _
  exact ⟨h1 _ (List.getElem_mem hj),fun m hm hmj=>h2 m j hm hj hmj⟩
theorem okS_seen {b:Bun} (h:okP b):okS (seenB b):=by
 unfold okP at h
 unfold okS seenB
 simp only
 omega
theorem remS_any {S:List Sn} {s:Sn} (hS:S.length≤64):(remS S s).any (eqS · s)=true:=by
 rw [List.any_eq_true]
 refine ⟨s,?_,eqS_refl s⟩
 unfold remS
 by_cases h:S.length<64
 ·rw [if_pos h];simp
 ·rw [if_neg h,List.drop_append_of_le_length (by omega)];simp
theorem remS_ok {S:List Sn} {s:Sn} (hS:S.length≤64) (h:seenF S S.length 0=true) (hs:okS s) (hn:S.any (eqS · s)=false):(remS S s).length≤64∧seenF (remS S s) (remS S s).length 0=true:=by
 rw [seenF_iff'] at h ⊢
 have hA:(∀ x∈S++[s],okS x)∧(S++[s]).Pairwise (· ≠ ·):=by
  refine ⟨fun x hx => ?_,List.pairwise_append.2 ⟨h.2,List.pairwise_singleton _ _,fun a ha b hb e => ?_⟩⟩
  ·rcases List.mem_append.1 hx with hx | hx
   ·exact h.1 x hx
   ·rw [List.mem_singleton.1 hx];exact hs
  ·rw [List.mem_singleton.1 hb] at e
   exact List.any_eq_false.1 hn a ha ((eqS_iff _ _).2 e)
 unfold remS
 by_cases hl:S.length<64
 ·rw [if_pos hl]
  exact ⟨by simp;omega,hA⟩
 ·rw [if_neg hl]
  refine ⟨by simp;omega,fun x hx=>hA.1 x (List.mem_of_mem_drop hx),hA.2.sublist (List.drop_sublist 1 _)⟩
theorem ofB_kept {P:List Bun} {s q:Int} {x:Bun} (h:idB s q x=false):ofB (keptI s q P) x.Source x.Seq=ofB P x.Source x.Seq:=by
 unfold ofB keptI
 rw [List.filter_filter]
 refine List.filter_congr fun y _ => ?_
 unfold idB at h ⊢
 cases h1:(y.Source==x.Source)&&(y.Seq==x.Seq)
 ·rw [Bool.false_and]
 ·rw [Bool.and_eq_true,beq_iff_eq,beq_iff_eq] at h1
  rw [h1.1,h1.2,h];rfl
theorem okA_iff {nd nx:Int} {S:List Sn} {P:List Bun}:okA nd nx S P=true↔(1≤nd∧nd≤6)∧(nx==0)=false∧S.length≤64∧P.length≤7∧seenF S S.length 0=true∧∀ b∈P,AB nd b=true∧MB P b=true:=by
 unfold okA
 simp only [Bool.and_eq_true,Bool.not_eq_true',decide_eq_false_iff_not,decide_eq_true_iff,List.all_eq_true]
 constructor
 ·rintro ⟨a1,a2,a3,a4,a5,a6⟩
  exact ⟨a1,a2,by omega,by omega,a5,a6⟩
 ·rintro ⟨a1,a2,a3,a4,a5,a6⟩
  exact ⟨a1,a2,by omega,by omega,a5,a6⟩
theorem okA_kept {nd nx:Int} {S S':List Sn} {P:List Bun} (s q:Int) (h:okA nd nx S P=true) (h1:S'.length≤64) (h2:seenF S' S'.length 0=true):okA nd nx S' (keptI s q P)=true:=by
 rw [okA_iff] at h ⊢
 obtain ⟨a1,a2,a3,a4,a5,a6⟩:=h
 refine ⟨a1,a2,h1,Nat.le_trans (kept_len s q P) a4,h2,fun b hb => ?_⟩
 obtain ⟨hm,hf⟩:=List.mem_filter.1 hb
 have hf':idB s q b=false:=by simpa using hf
 refine ⟨(a6 b hm).1,?_⟩
 have:=(a6 b hm).2
 unfold MB at this ⊢
 rw [ofB_kept hf']
 exact this
theorem okA_same {nd nx:Int} {S S':List Sn} {P:List Bun} (h:okA nd nx S P=true) (h1:S'.length≤64) (h2:seenF S' S'.length 0=true):okA nd nx S' P=true:=by
 rw [okA_iff] at h ⊢
 obtain ⟨a1,a2,a3,a4,a5,a6⟩:=h
 exact ⟨a1,a2,h1,a4,h2,a6⟩
theorem ofB_more {P:List Bun} {b:Bun} {s q:Int}:ofB (P++[b]) s q=ofB P s q++(cond (idB s q b) [b] []):=by
 unfold ofB
 rw [List.filter_append,List.filter_cons,List.filter_nil]
 unfold idB
 cases (b.Source==s)&&(b.Seq==q)<;>rfl
theorem okA_more {nd nx:Int} {S S':List Sn} {P:List Bun} {b:Bun} (h:okA nd nx S P=true) (h1:S'.length≤64) (h2:seenF S' S'.length 0=true) (ob:okP b) (hd:b.Dest=nd) (ht:((b.Payload.length:Int)==b.Total)=false) (h7:P.length≠7)
 (hc:chkL (ofB P b.Source b.Seq++[b])=true) (hg:((gapsF (hasF (ofB P b.Source b.Seq++[b]))).length:Int)>0):okA nd nx S' (P++[b])=true:=by
 rw [okA_iff] at h ⊢
 obtain ⟨a1,a2,a3,a4,a5,a6⟩:=h
 have hg':(((gapsF (hasF (ofB P b.Source b.Seq++[b]))).length:Int)==0)=false:=by rw [beq_eq_false_iff_ne];omega
 have hB:MB (P++[b]) b=true:=by
  unfold MB
  rw [ofB_more,show idB b.Source b.Seq b=true by unfold idB;simp,cond_true,hc,hg'];rfl
 refine ⟨a1,a2,h1,by simp;omega,h2,fun x hx => ?_⟩
 rcases List.mem_append.1 hx with hx | hx
 ·refine ⟨(a6 x hx).1,?_⟩
  cases hi:idB x.Source x.Seq b
  ·have:=(a6 x hx).2
   unfold MB at this ⊢
   rw [ofB_more,hi,cond_false,List.append_nil]
   exact this
  ·unfold idB at hi
   rw [Bool.and_eq_true,beq_iff_eq,beq_iff_eq] at hi
   unfold MB at hB ⊢
   rw [←hi.1,←hi.2]
   exact hB
 ·rw [List.mem_singleton.1 hx]
  refine ⟨?_,hB⟩
  unfold AB
  rw [decide_eq_true ob,hd,ht,bne_self_eq_false];rfl
theorem turn_ok {nd nx:Int} {S S':List Sn} {P P':List Bun} {b vb:Bun} {now kind:Int} (h:okA nd nx S P=true) (fP:∀ x∈P,Fit x) (fb:Fit b) (st:Step nd S P b now kind vb S' P') :
 okA nd nx S' P'=true∧∀ x∈P',Fit x:=by
 rcases st with ⟨e1,e2,e3⟩ | ⟨ob,he,hn,e1,st⟩
 ·subst e1;subst e2
  exact ⟨h,fP⟩
 ·obtain ⟨l1,l2⟩:=okA_len h
  have h5:=(okA_iff.1 h).2.2.2.2.1
  obtain ⟨r1,r2⟩:=remS_ok l1 h5 (okS_seen ob) hn
  subst e1
  rcases st with ⟨k1,k2,k3⟩ | ⟨k1,k2,k3⟩ | ⟨k1,k3,d1,d2,d3,d4,d5⟩
  ·subst k3
   exact ⟨okA_same h r1 r2,fP⟩
  ·subst k3
   exact ⟨okA_kept b.Source b.Seq h r1 r2,fun x hx=>fP x (List.mem_filter.1 hx).1⟩
  ·subst k3
   refine ⟨okA_more h r1 r2 ob d1 d2 d3 d4 d5,fun x hx => ?_⟩
   rcases List.mem_append.1 hx with hx | hx
   ·exact fP x hx
   ·rw [List.mem_singleton.1 hx];exact fb
end Go.Proofs.YticggdfaehneeaaV