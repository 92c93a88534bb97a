/- The plain law of AgentWhole. -/
import Derived.Test.YticggdfaehneeaaVStmtAgentWhole
import Derived.Test.YticggdfaehneeaaVPTurn
namespace Go.Proofs.YticggdfaehneeaaV
open Go Go.RowKit
set_option linter.unusedVariables false
set_option linter.unusedSimpArgs false
theorem eqb_at (k:Nat) (hk:3100≤k) (a b:List Int) (ha:a.length≤3000):f20 k a b=some (.o0 (decide (a=b))):=by
 obtain ⟨k,rfl⟩:∃ m,k=m+1:=⟨k - 1,by omega⟩
 simp only [f20,f20_e,seq_at a b (by omega) k (by omega),Option.bind_some]
structure Mid (b:Bun) (n:Nat) (L:List Bun):Prop where
 ok:okP b
 fit:Fit b
 hw:(b.Payload.length:Int)=b.Total
 ch:Chain b n 0 L b.Payload.length
 h7:L.length≤7
 src:b.Source≠2
 dst:b.Dest=2
 cr:b.Created=0
 lt:b.Lifetime=100
 sq:b.Seq=1
def At (L:List Bun) (S:List Sn) (P:List Bun) (h:Int):Prop:=Come L S P h∧okA 2 1 S P=true∧∀ x∈P,Fit x
theorem put_at (k:Nat) (hk:9001≤k) {b:Bun} {n:Nat} {L:List Bun} (md:Mid b n L) {S:List Sn} {P:List Bun} {h:Int} (hi:At L S P h) (i:Nat) (hl:i<L.length) :
 ∃ S' P' h',f17a k i 2 1 S P L h b.Payload=some (.o0 true 2 1 S' P' L h' b.Payload)∧At L S' P' h'∧(∀ y,y∈L→Seen S y→Seen S' y)∧Seen S' L[i]:=by
 obtain ⟨k,rfl⟩:∃ m,k=m+1:=⟨k - 1,by omega⟩
 obtain ⟨hc,hok,hf⟩:=hi
 have hx:L[i]∈L:=List.getElem_mem hl
 have g:L[i]?=some L[i]:=List.getElem?_eq_getElem hl
 have hpc:=md.ch.pc
 have fx:Fit L[i]:=Pc.fit md.fit hpc _ hx
 obtain ⟨kind,vb,S',P',ha,st⟩:=arrive_at k (by omega) 2 1 S P L[i] 5 hf fx hok
 obtain ⟨ok',fit'⟩:=turn_ok hok hf fx st
 obtain ⟨t1,t2,t3⟩:=turn md.ok md.fit md.hw md.ch md.h7 md.src md.dst md.cr md.lt hc hx st
 have hck:=achk_at k (by omega) 2 1 S' P' fit'
 rw [ok',cond_true] at hck
 have hbl:=md.ok.b
 have start:f17a (k+1) i 2 1 S P L h b.Payload=f17a_j3 k false 2 1 S P h b.Payload 2 1 S' P' kind vb.Source vb.Dest vb.Seq vb.Created vb.Lifetime vb.HopLimit vb.Hops vb.Priority vb.Offset vb.Total vb.Payload L:=by
  simp only [f17a,f17a_e,ifE_pos (show (0:Int)≤(i:Int) by omega),ifE_pos (show (i:Int)<(L.length:Int) by omega),Int.toNat_natCast,g,Option.bind_some,ha,bne_self_eq_false,cond_false,hck]
 rw [start]
 rcases t1 with ⟨k9,p9,s9,c9⟩ | ⟨k83,c83⟩
 ·subst k9
  have he:=eqb_at k (by omega) vb.Payload b.Payload (by rw [p9];omega)
  rw [decide_eq_true p9] at he
  have hh:IntKind.i64.wrap (h+1)=h+1:=by
   rcases hc with ⟨h0,_⟩ | ⟨h0,_⟩<;>rw [h0]<;>decide
  refine ⟨S',P',h+1,?_,⟨c9,ok',fit'⟩,t2,t3⟩
  simp only [f17a_j3,show ((9:Int)==9)=true from rfl,cond_true,he,Option.bind_some,s9,md.sq,hh,show ((1:Int)==1)=true from rfl]
 ·refine ⟨S',P',h,?_,⟨c83,ok',fit'⟩,t2,t3⟩
  rcases k83 with k8 | k3
  ·subst k8
   simp only [f17a_j3,show ((8:Int)==9)=false from rfl,cond_false,f17a_j2,show ((8:Int)==8)=true from rfl,cond_true]
  ·subst k3
   simp only [f17a_j3,show ((3:Int)==9)=false from rfl,cond_false,f17a_j2,show ((3:Int)==8)=false from rfl,show ((3:Int)==3)=true from rfl]
theorem order_l (k:Nat) (hk:9001≤k) {b:Bun} {m:Nat} {L:List Bun} (md:Mid b m L) (h0:0<L.length) (order:List Int):∀ (e i n:Nat) (S:List Sn) (P:List Bun) (h:Int),i+e=30→e<n→i≤order.length→At L S P h →
 ∃ S' P' h',At L S' P' h'∧((∃ v,f4_l10 k n order order.length i 2 1 S P L h b.Payload=some (.o0 v order order.length 30 true 2 1 S' P' L h' b.Payload))∨f4_l10 k n order order.length i 2 1 S P L h b.Payload=some (.o3 order order.length order.length false 2 1 S' P' L h' b.Payload)):=by
 intro e
 induction e with
 | zero =>
  intro i n S P h hi hn hlen hat
  obtain ⟨n,rfl⟩:∃ m,n=m+1:=⟨n - 1,by omega⟩
  have e30:i=30:=by omega
  subst e30
  refine ⟨S,P,h,hat,?_⟩
  by_cases hlt:30<order.length
  ·have g:order[30]?=some order[30]:=List.getElem?_eq_getElem hlt
   refine .inl ⟨order[30],?_⟩
   simp only [f4_l10,f4_l10_b,decide_eq_true (show ((30:Nat):Int)<(order.length:Int) by omega),cond_true,f4_l10_j1,ifE_pos (show (0:Int)≤((30:Nat):Int) by omega),Int.toNat_natCast,g,Option.bind_some,show (((30:Nat):Int)==30)=true from rfl]
   rfl
  ·have e2:order.length=30:=by omega
   refine .inr ?_
   simp only [f4_l10,f4_l10_b,e2,decide_eq_false (Int.lt_irrefl _),cond_false,Option.bind_some]
 | succ e ih =>
  intro i n S P h hi hn hlen hat
  obtain ⟨n,rfl⟩:∃ m,n=m+1:=⟨n - 1,by omega⟩
  by_cases hlt:i<order.length
  case neg =>
   have e2:i=order.length:=by omega
   subst e2
   refine ⟨S,P,h,hat,.inr ?_⟩
   simp only [f4_l10,f4_l10_b,decide_eq_false (Int.lt_irrefl _),cond_false,Option.bind_some]
  have g:order[i]?=some order[i]:=List.getElem?_eq_getElem hlt
  obtain ⟨j,hj,hjl⟩:∃ j:Nat,Int.tmod (if (0:Int)>order[i] then 0 else order[i]) (L.length:Int)=(j:Int)∧j<L.length:=by
   have hp:(0:Int)≤(if (0:Int)>order[i] then 0 else order[i]):=by split<;>omega
   generalize (if (0:Int)>order[i] then 0 else order[i])=v at hp
   have h1:=Int.tmod_nonneg (L.length:Int) hp
   have h2:=Int.tmod_lt_of_pos v (show (0:Int)<(L.length:Int) by omega)
   exact ⟨(Int.tmod v (L.length:Int)).toNat,by omega,by omega⟩
  obtain ⟨S1,P1,h1,hput,hat1,_⟩:=put_at k hk md hat j hjl
  obtain ⟨S',P',h',hat',hr⟩:=ih (i+1) n S1 P1 h1 (by omega) (by omega) (by omega) hat1
  have hw:IntKind.i64.wrap ((i:Int)+1)=((i+1:Nat):Int):=by rw [wrap_i64 (by omega) (by omega)];omega
  have e30:((i:Int)==30)=false:=by rw [beq_eq_false_iff_ne];omega
  have step:f4_l10 k (n+1) order order.length i 2 1 S P L h b.Payload=f4_l10 k n order order.length ((i+1:Nat):Int) 2 1 S1 P1 L h1 b.Payload:=by
   rw [f4_l10]
   simp only [f4_l10_b,decide_eq_true (show (i:Int)<(order.length:Int) by omega),cond_true,f4_l10_j1,ifE_pos (show (0:Int)≤(i:Int) by omega),Int.toNat_natCast,g,Option.bind_some,e30,cond_false,f4_l10_j2,ifE_pos (show ¬(L.length:Int)=0 by omega),hj,hput,Bool.not_true,f4_l10_j3,hw]
  rw [step]
  exact ⟨S',P',h',hat',hr⟩
theorem all_l (k:Nat) (hk:9001≤k) {b:Bun} {m:Nat} {L:List Bun} (md:Mid b m L):∀ (d i n:Nat) (S:List Sn) (P:List Bun) (h:Int),i+d=L.length→d<n→At L S P h→(∀ j (hj:j<L.length),j<i→Seen S L[j]) →
 ∃ S' P' h',At L S' P' h'∧(∀ x∈L,Seen S' x)∧f4_l12 k n L.length i 2 1 S P h L b.Payload=some (.o2 L.length L.length false 2 1 S' P' h' L b.Payload):=by
 intro d
 induction d with
 | zero =>
  intro i n S P h hi hn hat hs
  obtain ⟨n,rfl⟩:∃ m,n=m+1:=⟨n - 1,by omega⟩
  have e2:i=L.length:=by omega
  subst e2
  refine ⟨S,P,h,hat,fun x hx => ?_,?_⟩
  ·obtain ⟨j,hj,rfl⟩:=List.getElem_of_mem hx
   exact hs j hj hj
  ·simp only [f4_l12,f4_l12_b,decide_eq_false (Int.lt_irrefl _),cond_false,Option.bind_some]
 | succ d ih =>
  intro i n S P h hi hn hat hs
  obtain ⟨n,rfl⟩:∃ m,n=m+1:=⟨n - 1,by omega⟩
  have hil:i<L.length:=by omega
  have h7:=md.h7
  obtain ⟨S1,P1,h1,hput,hat1,hm,hsi⟩:=put_at k hk md hat i hil
  obtain ⟨S',P',h',hat',ha,hr⟩:=ih (i+1) n S1 P1 h1 (by omega) (by omega) hat1 (fun j hj hji=>by
   by_cases e:j=i
   ·subst e;exact hsi
   ·exact hm _ (List.getElem_mem hj) (hs j hj (by omega)))
  have hw:IntKind.i64.wrap ((i:Int)+1)=((i+1:Nat):Int):=by rw [wrap_i64 (by omega) (by omega)];omega
  refine ⟨S',P',h',hat',ha,?_⟩
  rw [f4_l12]
  simp only [f4_l12_b,decide_eq_true (show (i:Int)<(L.length:Int) by omega),cond_true,f4_l12_j1,hput,Option.bind_some,Bool.not_true,cond_false,f4_l12_j2,hw,hr]
theorem anew_at (k:Nat) (hk:2≤k) (nd:Int) (h1:1≤nd) (h6:nd≤6):f16 k nd=some (.o0 nd 1 [] [] 0):=by
 obtain ⟨k,rfl⟩:∃ m,k=m+1:=⟨k - 1,by omega⟩
 simp only [f16,f16_e,awithin_at k (by omega) nd 1 6,Option.bind_some,decide_eq_true (show 1≤nd∧nd≤6 from ⟨h1,h6⟩),Bool.not_true,cond_false,f16_j1]
theorem okA_new {nd:Int} (h1:1≤nd) (h6:nd≤6):okA nd 1 [] []=true:=okA_iff.2 ⟨⟨h1,h6⟩,rfl,by simp,by simp,rfl,by simp⟩
theorem ends (k:Nat) (hk:9001≤k) {b:Bun} {m:Nat} {L:List Bun} (md:Mid b m L) {S:List Sn} {P:List Bun} {h:Int} (hat:At L S P h) :
 (∀ order x y z,f4_j11 k x order y z true 2 1 S P L h b.Payload=some (.o0 true))∧(∀ order y z,f4_j14 k order y z false 2 1 S P L h b.Payload=some (.o0 true)):=by
 have h7:=md.h7
 obtain ⟨S',P',h',hat',ha,hr⟩:=all_l k hk md L.length 0 k S P h (by omega) (by omega) hat (fun j hj hj0=>absurd hj0 (by omega))
 rw [Int.natCast_zero] at hr
 have fin:h'=1∧P'=[]:=by
  rcases hat'.1 with ⟨_,p2,p3,p4,y,hy,hny⟩ | ⟨h1,h2,_⟩
  ·have:=ha y hy
   rw [p4] at this
   exact absurd ((seen_map md.ch.pc p2 hy).1 this) hny
  ·exact ⟨h1,h2⟩
 obtain ⟨rfl,rfl⟩:=fin
 constructor
 ·intro order x y z
  simp only [f4_j11,hr,Option.bind_some,f4_j13,show ((1:Int)==1)=true from rfl,cond_true,List.length_nil,Int.natCast_zero,beq_self_eq_true]
 ·intro order y z
  simp only [f4_j14,hr,Option.bind_some,f4_j13,show ((1:Int)==1)=true from rfl,cond_true,List.length_nil,Int.natCast_zero,beq_self_eq_true]
theorem pureAgentWhole:StmtAgentWhole:=by
 intro load part order gl gp go
 refine ⟨60001,?_⟩
 have hb:∀ x∈load,0≤x∧x<256:=fun x hx=>wf_u8 (gl.2.2 x hx)
 have hp:=wf_i64 gp
 have e7:f7 60000=some (.o0 true):=by simp only [f7];exact ifE_pos (by omega)
 by_cases l1:(load.length:Int)<1
 ·simp only [f4,f4_e,e7,Option.bind_some,Bool.not_true,cond_false,f4_j1,decide_eq_true l1,cond_true]
 by_cases l2:(load.length:Int)>400
 ·simp only [f4,f4_e,e7,Option.bind_some,Bool.not_true,cond_false,f4_j1,decide_eq_false l1,decide_eq_true l2,cond_true]
 obtain ⟨p,hpe,hp1,hp4,hp7⟩:∃ p:Nat,(if (IntKind.i64.wrap (Int.tdiv (IntKind.i64.wrap ((load.length:Int)+(6:Int))) (7:Int)))>(IntKind.i64.wrap ((1:Int)+(Int.tmod (if (0:Int)>part then 0 else part) (400:Int)))) then (IntKind.i64.wrap (Int.tdiv (IntKind.i64.wrap ((load.length:Int)+(6:Int))) (7:Int))) else (IntKind.i64.wrap ((1:Int)+(Int.tmod (if (0:Int)>part then 0 else part) (400:Int)))))=(p:Int)∧1≤p∧p≤400∧load.length≤7 * p:=by
  have hq:(0:Int)≤(if (0:Int)>part then 0 else part):=by split<;>omega
  generalize (if (0:Int)>part then 0 else part)=v at hq
  have h1:=Int.tmod_nonneg (400:Int) hq
  have h2:=Int.tmod_lt_of_pos v (show (0:Int)<400 by omega)
  generalize Int.tmod v 400=w at h1 h2
  rw [wrap_i64 (n:=(load.length:Int)+6) (by omega) (by omega),Int.tdiv_eq_ediv_of_nonneg (by omega),wrap_i64 (n:=((load.length:Int)+6) / 7) (by omega) (by omega),wrap_i64 (n:=1+w) (by omega) (by omega)]
  by_cases hc:((load.length:Int)+6) / 7>1+w
  ·rw [if_pos hc];exact ⟨(((load.length:Int)+6) / 7).toNat,by omega,by omega,by omega,by omega⟩
  ·rw [if_neg hc];exact ⟨(1+w).toNat,by omega,by omega,by omega,by omega⟩
 obtain ⟨b,hbd⟩:∃ b,b=wished 1 1 2 100 1 0 0 load:=⟨_,rfl⟩
 have hpay:b.Payload=load:=by rw [hbd];rfl
 have hok:okP b:=by rw [hbd];unfold okP wished;dsimp only;omega
 have hfit:Fit b:=by rw [hbd];exact ⟨by show (0:Int)≤1;omega,by show load.length≤3000;omega,hb⟩
 have n1:=anew_at 60000 (by omega) 1 (by omega) (by omega)
 have n2:=anew_at 60000 (by omega) 2 (by omega) (by omega)
 have hm:=make_at 60000 (by omega) 1 1 [] [] (by simp) (by simp) (by simp) 2 100 1 0 p 0 load
 have hargs:argsOk 1 2 p b=true:=by
  unfold argsOk
  rw [decide_eq_true (show 1≤(p:Int)∧(p:Int)≤400 by omega),decide_eq_true hok]
  decide
 rw [okA_new (by omega) (by omega),cond_true,←hbd,hargs,cond_true,show ((1:Int)==4294967295)=false from rfl,cond_false,Int.toNat_natCast] at hm
 have hch:Chain b p 0 (cutB b p) b.Payload.length:=cut_chain b p hp1 b.Payload.length 0 (by omega) (by omega)
 have hl7:(cutB b p).length≤7:=by
  rw [cutB_len b p hp1,hpay]
  have:(load.length+p - 1) / p<8:=Nat.div_lt_of_lt_mul (by rw [Nat.mul_comm];omega)
  omega
 generalize hL:cutB b p=L at hm hch hl7
 have hl0:0<L.length:=by
  obtain ⟨o,m,h,_⟩:=hch.cov 0 (by omega) (by rw [hpay];omega)
  exact List.length_pos_of_mem h
 have md:Mid b p L:=⟨hok,hfit,by rw [hbd];rfl,hch,hl7,by rw [hbd];show (1:Int)≠2;omega,by rw [hbd];rfl,by rw [hbd];rfl,by rw [hbd];rfl,by rw [hbd];rfl⟩
 have hat:At L [] [] 0:=⟨.inl ⟨rfl,by simp,List.nodup_nil,rfl,L[0],List.getElem_mem hl0,by simp⟩,okA_new (by omega) (by omega),by simp⟩
 obtain ⟨S,P,h,hat',hr⟩:=order_l 60000 (by omega) md hl0 order 30 0 60000 [] [] 0 rfl (by omega) (by omega) hat
 obtain ⟨f1,f2⟩:=ends 60000 (by omega) md hat'
 rw [hpay,Int.natCast_zero] at hr
 rw [hpay] at f1 f2
 have start:f4 60001 load part order=f4_j9 60000 order false load 2 1 [] [] L:=by
  simp only [f4,f4_e,e7,Option.bind_some,Bool.not_true,cond_false,f4_j1,decide_eq_false l1,decide_eq_false l2,f4_j2,n1,n2,hpe,hm,bne_self_eq_false]
 rw [start]
 rcases hr with ⟨v,hr⟩ | hr
 ·simp only [f4_j9,hr,Option.bind_some,f1]
 ·simp only [f4_j9,hr,Option.bind_some,f2]
end Go.Proofs.YticggdfaehneeaaV