/- The first key that turns something. -/
import Derived.Test.YtiompmmbjpjjeaaDoorVPQue
namespace Go.Proofs.YtiompmmbjpjjeaaDoorV
open Go
set_option linter.unusedVariables false
set_option linter.unusedSimpArgs false
theorem rowsOf_inj {α:Type} {enc:α→List V} (h:∀ a b,enc a=enc b→a=b):∀ {a b:List α},rowsOf enc a=rowsOf enc b→a=b
 | [],[],_=>rfl
 | [],_::_,e=>by cases e
 | _::_,[],e=>by cases e
 | x::a,y::b,e=>by
  have e':enc x::rowsOf enc a=enc y::rowsOf enc b:=e
  rw [List.cons.injEq] at e'
  rw [h x y e'.1,rowsOf_inj h e'.2]
theorem encB8_inj (a b:Int) (e:encI .u8 a=encI .u8 b):a=b:=by simpa [encI] using e
theorem size_eq {k k':Nat} (h:k≤k') {b:Bun} {z z':Int} (h1:f15 k b.Source b.Dest b.Seq b.Created b.Lifetime b.HopLimit b.Hops b.Priority b.Offset b.Total b.Payload=some (.o0 z)) (h2:f15 k' b.Source b.Dest b.Seq b.Created b.Lifetime b.HopLimit b.Hops b.Priority b.Offset b.Total b.Payload=some (.o0 z')):z=z':=by
 have a1:=f15_ok k b.Source b.Dest b.Seq b.Created b.Lifetime b.HopLimit b.Hops b.Priority b.Offset b.Total b.Payload _ h1
 have a2:=f15_ok k' b.Source b.Dest b.Seq b.Created b.Lifetime b.HopLimit b.Hops b.Priority b.Offset b.Total b.Payload _ h2
 have a3:=(callV_le h a1).symm.trans a2
 simpa [R15.st] using a3
theorem ccheck_eq {k k':Nat} (h:k≤k') {L:List Bun} {z z':Int} (h1:f26 k L=some (.o0 z)) (h2:f26 k' L=some (.o0 z')):z=z':=by
 have a1:=f26_ok k L _ h1
 have a2:=f26_ok k' L _ h2
 have a3:=(callV_le h a1).symm.trans a2
 simpa [R26.st] using a3
theorem route_eq {k k':Nat} (h:k≤k') {N:Int} {C:List Ct} {l:List Int} {s to now need w v e w' v' e':Int} (h1:f14 k N C l s to now need=some (.o0 w v e)) (h2:f14 k' N C l s to now need=some (.o0 w' v' e')):w=w'∧v=v'∧e=e':=by
 have a1:=f14_ok k N C l s to now need _ h1
 have a2:=f14_ok k' N C l s to now need _ h2
 have a3:=(callV_le h a1).symm.trans a2
 simpa [R14.st] using a3
theorem order_eq {k k':Nat} (h:k≤k') {L:List Bun} {O O':List Ky} (h1:f12 k L=some (.o0 O)) (h2:f12 k' L=some (.o0 O')):O=O':=by
 have a1:=f12_ok k L _ h1
 have a2:=f12_ok k' L _ h2
 have a3:=(callV_le h a1).symm.trans a2
 have a4:rowsOf encT44 O=rowsOf encT44 O':=by simpa [R12.st] using a3
 refine rowsOf_inj (fun a b e => ?_) a4
 obtain ⟨x0,x1,x2⟩:=a
 obtain ⟨y0,y1,y2⟩:=b
 simpa [encT44] using e
theorem find_eq {k k':Nat} (h:k≤k') {L:List Bun} {c:Ky} {b b':Bun} {e e':Int} (h1:f13 k L c.Source c.Seq c.Offset=some (.o0 b.Source b.Dest b.Seq b.Created b.Lifetime b.HopLimit b.Hops b.Priority b.Offset b.Total b.Payload e)) (h2:f13 k' L c.Source c.Seq c.Offset=some (.o0 b'.Source b'.Dest b'.Seq b'.Created b'.Lifetime b'.HopLimit b'.Hops b'.Priority b'.Offset b'.Total b'.Payload e')):b=b'∧e=e':=by
 have a1:=f13_ok k L c.Source c.Seq c.Offset _ h1
 have a2:=f13_ok k' L c.Source c.Seq c.Offset _ h2
 have a3:=(callV_le h a1).symm.trans a2
 obtain ⟨b0,b1,b2,b3,b4,b5,b6,b7,b8,b9,b10⟩:=b
 obtain ⟨y0,y1,y2,y3,y4,y5,y6,y7,y8,y9,y10⟩:=b'
 simp only [R13.st,Option.some.injEq,Prod.mk.injEq,V.tup.injEq,List.cons.injEq,V.agg.injEq,V.p.injEq,Value.int.injEq,V.sl.injEq,and_true,true_and] at a3
 obtain ⟨⟨c0,c1,c2,c3,c4,c5,c6,c7,c8,c9,c10⟩,ce⟩:=a3
 have c10':=rowsOf_inj encB8_inj c10
 exact ⟨by rw [c0,c1,c2,c3,c4,c5,c6,c7,c8,c9,c10'],ce⟩
theorem find0_at (k:Nat) (hk:9010≤k) (L:List Bun) (hL:L.length≤40) (hp:∀ b∈L,b.Payload.length≤500) (he:f26 k L=some (.o0 0)) (c:Ky) (hc:∃ b∈L,c=keyB b):∃ b:Bun,f13 (k+1) L c.Source c.Seq c.Offset=some (.o0 b.Source b.Dest b.Seq b.Created b.Lifetime b.HopLimit b.Hops b.Priority b.Offset b.Total b.Payload 0)∧b.Payload.length≤500:=by
 rcases findi_at k L c (by omega) (by omega) with ⟨j,h1,hj⟩ | ⟨h0,hj⟩
 ·have g1:L[j]?=some L[j]:=List.getElem?_eq_getElem h1
  have h5:=hp L[j] (List.getElem_mem h1)
  have hr:L[j].Payload.length * 1≤roomy:=by unfold roomy;omega
  obtain ⟨k',rfl⟩:∃ m,k=m+2:=⟨k - 2,by omega⟩
  exact ⟨L[j],by simp only [f13,f13_e,he,Option.bind_some,bne_self_eq_false,cond_false,f13_j1,hj,decide_eq_false (show ¬(j:Int)<0 by omega),f13_j2,ifE_pos (show (0:Int)≤(j:Int) by omega),Int.toNat_natCast,g1,f32,f32_e,f53,ifE_pos hr],h5⟩
 ·obtain ⟨b,hb,rfl⟩:=hc
  have:=h0 b hb
  rw [isK_self] at this
  cases this
def Ext (q z:Qq):Prop:=(∃ t,z.G=q.G++t)∧(∃ t,z.W=q.W++t)∧∃ t,z.T=q.T++t
theorem Ext.refl (q:Qq):Ext q q:=⟨⟨[],by simp⟩,⟨[],by simp⟩,⟨[],by simp⟩⟩
theorem Ext.stp {q z:Qq} {room now:Int} {c:Ky} {ev:Ev} (h:Ext (stp room now c ev q) z):Ext q z:=by
 obtain ⟨⟨t,h1⟩,⟨u,h2⟩,⟨v,h3⟩⟩:=h
 cases ev with
 | skip=>exact ⟨⟨t,h1⟩,⟨u,h2⟩,⟨v,h3⟩⟩
 | stuck=>exact ⟨⟨t,h1⟩,⟨u,h2⟩,⟨[c]++v,by rw [h3];simp [Go.Proofs.YtiompmmbjpjjeaaDoorV.stp]⟩⟩
 | way w need ct =>
  rw [stp_way] at h1 h2 h3
  cases ho:openB ct now
  ·rw [ho] at h1 h2 h3
   exact ⟨⟨t,h1⟩,⟨[c]++u,by rw [h2];simp⟩,⟨v,h3⟩⟩
  rw [ho] at h1 h2 h3
  cases hr:decide ((q.G.length:Int)<room)
  ·rw [hr] at h1 h2 h3
   exact ⟨⟨t,h1⟩,⟨[c]++u,by rw [h2];simp⟩,⟨v,h3⟩⟩
  ·rw [hr] at h1 h2 h3
   exact ⟨⟨[⟨c.Source,c.Seq,c.Offset,ct.To,w⟩]++t,by rw [h1];simp⟩,⟨u,h2⟩,⟨v,h3⟩⟩
theorem loop_one (k:Nat) (hk:9100≤k) (node N:Int) (C:List Ct) (sl:List Int) (now:Int) (busy:List Ky) (L:List Bun) (hC:C.length≤60) (hb:busy.length≤60) (hL:L.length≤40) (hp:∀ b∈L,b.Payload.length≤500) (O:List Ky) (hO:O.length≤60) (room:Int) (s0:List Gg) (s1 s2:List Ky) (s3:List Int):∀ (d i n:Nat) (q:Qq),i+d=O.length→d<n→Few C.length i q→q.l.length≤60 →
 ∃ z:Qq,f25_s1_l3 k n O.length i node N C sl now busy room L s0 s1 s2 s3 q.G q.W q.T q.xl q.l q.aw O=some (.o5 O.length O.length false node N C sl now busy room L s0 s1 s2 s3 z.G z.W z.T z.xl z.l z.aw O)∧Few C.length O.length z∧Ext q z:=by
 intro d
 induction d with
 | zero =>
  intro i n q hi hn f hl
  obtain ⟨n,rfl⟩:∃ m,n=m+1:=⟨n - 1,by omega⟩
  have e:i=O.length:=by omega
  subst e
  exact ⟨q,by simp only [f25_s1_l3,f25_s1_l3_b,decide_eq_false (Int.lt_irrefl _),cond_false,Option.bind_some],f,.refl q⟩
 | succ d ih =>
  intro i n q hi hn f hl
  obtain ⟨n,rfl⟩:∃ m,n=m+1:=⟨n - 1,by omega⟩
  have h1:i<O.length:=by omega
  have g1:O[i]?=some O[i]:=List.getElem?_eq_getElem h1
  obtain ⟨ev,_,hs⟩:=key_ev k hk node N C sl now busy L hC hb hL hp O hO i O[i] g1 q.l hl
  have a1:=hs room q n s0 s1 s2 s3 rfl f.1 (by have:=f.2.1;omega) (by have:=f.2.2.1;omega) (by have:=f.2.2.2.1;omega) (by have:=f.2.2.2.2;omega)
  obtain ⟨b1,b2⟩:=f.stp room now O[i] ev
  rw [a1]
  obtain ⟨z,z1,z2,z3⟩:=ih (i+1) n _ (by omega) (by omega) b1 (by omega)
  exact ⟨z,z1,z2,z3.stp⟩
theorem bus_l (k:Nat) (busy:List Ky) (hb:busy.length≤1000) (c:Ky) (x40 x41 node N now room:Int) (C:List Ct) (l:List Int) (L:List Bun) (G:List Gg) (W T:List Ky) (xl:List Int) (b:Bun) (O:List Ky):∀ (d i n:Nat) (met:Bool),i+d=busy.length→d<n →
 f3_l3_l3 k n met x40 x41 busy.length i node N now room C l busy L G W T xl c.Source c.Seq c.Offset b.Source b.Dest b.Seq b.Created b.Lifetime b.HopLimit b.Hops b.Priority b.Offset b.Total b.Payload O=some (.o1 (met||(busy.drop i).any (fun z=>(z.Source==c.Source)&&((z.Seq==c.Seq)&&(z.Offset==c.Offset)))) x40 x41 busy.length busy.length false node N now room C l busy L G W T xl c.Source c.Seq c.Offset b.Source b.Dest b.Seq b.Created b.Lifetime b.HopLimit b.Hops b.Priority b.Offset b.Total b.Payload O):=by
 intro d
 induction d with
 | zero =>
  intro i n met hi hn
  obtain ⟨n,rfl⟩:∃ m,n=m+1:=⟨n - 1,by omega⟩
  have e:i=busy.length:=by omega
  subst e
  simp only [f3_l3_l3,f3_l3_l3_b,decide_eq_false (Int.lt_irrefl _),cond_false,Option.bind_some,List.drop_length,List.any_nil,Bool.or_false]
 | succ d ih =>
  intro i n met hi hn
  obtain ⟨n,rfl⟩:∃ m,n=m+1:=⟨n - 1,by omega⟩
  have h1:i<busy.length:=by omega
  have g1:busy[i]?=some busy[i]:=List.getElem?_eq_getElem h1
  rw [List.drop_eq_getElem_cons h1,List.any_cons]
  cases met
  ·have ih':=ih (i+1) n ((busy[i].Source==c.Source)&&((busy[i].Seq==c.Seq)&&(busy[i].Offset==c.Offset))) (by omega) (by omega)
   simp only [f3_l3_l3,f3_l3_l3_b,f3_l3_l3_j1,f3_l3_l3_j2,decide_eq_true (show (i:Int)<(busy.length:Int) by omega),cond_true,cond_false,ifE_pos (show (0:Int)≤(i:Int) by omega),ifE_pos (show (i:Int)<(busy.length:Int) by omega),Int.toNat_natCast,g1,Option.bind_some,w1 (show i<4611686018427387904 by omega),ih',Bool.false_or]
  ·have ih':=ih (i+1) n true (by omega) (by omega)
   simp only [f3_l3_l3,f3_l3_l3_b,f3_l3_l3_j1,f3_l3_l3_j2,decide_eq_true (show (i:Int)<(busy.length:Int) by omega),cond_true,ifE_pos (show (0:Int)≤(i:Int) by omega),ifE_pos (show (i:Int)<(busy.length:Int) by omega),Int.toNat_natCast,g1,Option.bind_some,w1 (show i<4611686018427387904 by omega),ih',Bool.true_or]
def LawOk (k:Nat) (node N now room:Int) (C:List Ct) (l:List Int) (busy:List Ky) (L:List Bun) (O:List Ky) (i:Nat) (z:Qq) (n:Nat):Prop :=
 f3_l3 k n O.length i node N now room C l busy L z.G z.W z.T z.xl O=some (.o0 true) ∨
 (∃ x0 x1 x2 x3 x4 x5 x6 x7 x8 x9 x10 x14 x15,f3_l3 k n O.length i node N now room C l busy L z.G z.W z.T z.xl O=some (.o2 x0 x1 x2 x3 x4 x5 x6 x7 x8 x9 x10 [] [] [] x14 x15))
theorem first_loop (k K:Nat) (hk:9100≤k) (hK:k≤K) (hK9:9200≤K) (node N:Int) (C:List Ct) (l:List Int) (now:Int) (busy:List Ky) (L:List Bun) (hC:C.length≤60) (hb:busy.length≤60) (hL:L.length≤40) (hp:∀ b∈L,b.Payload.length≤500) (hl:l.length≤60) (hlC:l.length=C.length) (O:List Ky) (hO:O.length≤60) (hin:∀ c∈O,∃ b∈L,c=keyB b) (hcc:f26 k L=some (.o0 0)) (hcc':f26 (K - 1) L=some (.o0 0)) (room:Int) (s0:List Gg) (s1 s2:List Ky) (s3:List Int):∀ (d i n n2:Nat) (q:Qq),i+d=O.length→d<n→d<n2→Few C.length i q→q.G=[]→q.W=[]→q.T=[]→q.l=l →
 ∃ z:Qq,f25_s1_l3 k n O.length i node N C l now busy room L s0 s1 s2 s3 q.G q.W q.T q.xl q.l q.aw O=some (.o5 O.length O.length false node N C l now busy room L s0 s1 s2 s3 z.G z.W z.T z.xl z.l z.aw O) ∧
  LawOk K node N now room C l busy L O i z n2:=by
 intro d
 induction d with
 | zero =>
  intro i n n2 q hi hn hn2 f qG qW qT ql
  obtain ⟨n,rfl⟩:∃ m,n=m+1:=⟨n - 1,by omega⟩
  obtain ⟨n2,rfl⟩:∃ m,n2=m+1:=⟨n2 - 1,by omega⟩
  have e:i=O.length:=by omega
  subst e
  refine ⟨q,by simp only [f25_s1_l3,f25_s1_l3_b,decide_eq_false (Int.lt_irrefl _),cond_false,Option.bind_some],.inr ⟨O.length,O.length,false,node,N,now,room,C,l,busy,L,q.xl,O,?_⟩⟩
  rw [qG,qW,qT]
  simp only [f3_l3,f3_l3_b,decide_eq_false (Int.lt_irrefl _),cond_false,Option.bind_some]
 | succ d ih =>
  intro i n n2 q hi hn hn2 f qG qW qT ql
  obtain ⟨n,rfl⟩:∃ m,n=m+1:=⟨n - 1,by omega⟩
  obtain ⟨n2,rfl⟩:∃ m,n2=m+1:=⟨n2 - 1,by omega⟩
  have h1:i<O.length:=by omega
  have g1:O[i]?=some O[i]:=List.getElem?_eq_getElem h1
  obtain ⟨ev,hev,hs⟩:=key_ev k hk node N C l now busy L hC hb hL hp O hO i O[i] g1 q.l (by rw [ql];omega)
  have a1:=hs room q n s0 s1 s2 s3 rfl f.1 (by have:=f.2.1;omega) (by have:=f.2.2.1;omega) (by have:=f.2.2.2.1;omega) (by have:=f.2.2.2.2;omega)
  obtain ⟨b1,b2⟩:=f.stp room now O[i] ev
  generalize hc:O[i]=c at *
  have hci:c∈O:=hc▸List.getElem_mem h1
  obtain ⟨k1,rfl⟩:∃ m,K=m+1:=⟨K - 1,by omega⟩
  rw [Nat.add_sub_cancel] at hcc'
  obtain ⟨bb,hfb,hbp⟩:=find0_at k1 (by omega) L hL hp hcc' c (hin c hci)
  obtain ⟨b,e,hf,hcase⟩:=hev
  obtain ⟨rfl,rfl⟩:=find_eq hK hf hfb
  have hbus:=bus_l (k1+1) busy (by omega) c O.length i node N now room C l L
  have hany:(busy.any fun z=>(z.Source==c.Source)&&((z.Seq==c.Seq)&&(z.Offset==c.Offset)))=busy.any (sameK c):=by
   congr 1
   funext z
   rw [Bool.eq_iff_iff]
   simp only [sameK,Bool.and_eq_true,beq_iff_eq]
   exact ⟨fun ⟨a,b,c⟩=>⟨a.symm,b.symm,c.symm⟩,fun ⟨a,b,c⟩=>⟨a.symm,b.symm,c.symm⟩⟩
  have hlt:=decide_eq_true (show (i:Int)<(O.length:Int) by omega)
  have h0:(0:Int)≤(i:Int):=by omega
  have h2:(i:Int)<(O.length:Int):=by omega
  have hw:=w1 (show i<4611686018427387904 by omega)
  -- the law's loop up to what is asked of the key
  have law:∀ z:Qq,f3_l3 (k1+1) (n2+1) O.length i node N now room C l busy L z.G z.W z.T z.xl O =
   Option.bind (f3_l3_j4 (k1+1) (busy.any (sameK c)) O.length i busy.length busy.length false node N now room C l busy L z.G z.W z.T z.xl c.Source c.Seq c.Offset b.Source b.Dest b.Seq b.Created b.Lifetime b.HopLimit b.Hops b.Priority b.Offset b.Total b.Payload O) fun o =>
    match o with
    | .o0 y=>some (.o0 y)
    | .o1 y y_1 y_2 y_3 y_4 y_5 y_6 y_7 y_8 y_9 y_10 y_11 y_12 y_13 y_14=>f3_l3 (k1+1) n2 y y_1 y_2 y_3 y_4 y_5 y_6 y_7 y_8 y_9 y_10 y_11 y_12 y_13 y_14
    | .o2 y y_1 y_2 y_3 y_4 y_5 y_6 y_7 y_8 y_9 y_10 y_11 y_12 y_13 y_14 y_15=>some (.o2 y y_1 y_2 y_3 y_4 y_5 y_6 y_7 y_8 y_9 y_10 y_11 y_12 y_13 y_14 y_15):=fun z=>by
   have hb2:=hbus z.G z.W z.T z.xl b O busy.length 0 (k1+1) false (by omega) (by omega)
   rw [Int.natCast_zero,List.drop_zero,Bool.false_or,hany] at hb2
   simp only [f3_l3,f3_l3_b,hlt,cond_true,f3_l3_j1,ifE_pos h0,ifE_pos h2,Int.toNat_natCast,g1,hfb,Option.bind_some,bne_self_eq_false,cond_false,f3_l3_j2,hb2]
   rfl
  have skip:∀ z:Qq,(busy.any (sameK c)=true∨b.Dest=node)→f3_l3 (k1+1) (n2+1) O.length i node N now room C l busy L z.G z.W z.T z.xl O=f3_l3 (k1+1) n2 O.length ((i+1:Nat):Int) node N now room C l busy L z.G z.W z.T z.xl O:=fun z hsk=>by
   rw [law z]
   cases hbu:busy.any (sameK c)
   ·rw [hbu] at hsk
    have hd:(b.Dest==node)=true:=by
     rcases hsk with h | h
     ·cases h
     ·simpa using h
    simp only [f3_l3_j4,hd,cond_true,cond_false,f3_l3_j5,Option.bind_some,hw]
   ·simp only [f3_l3_j4,cond_true,f3_l3_j5,Option.bind_some,hw]
  rw [a1]
  rcases hcase with ⟨hsk,rfl⟩ | ⟨_,hbu,hd,z0,w,v,e',hz,hr,hcase⟩
  ·have hsk':busy.any (sameK c)=true∨b.Dest=node:=by
    rcases hsk with h | h | h
    ·exact absurd rfl h
    ·exact .inl h
    ·exact .inr h
   obtain ⟨z,z1,z2⟩:=ih (i+1) n n2 (stp room now c .skip q) (by omega) (by omega) (by omega) b1 qG qW qT ql
   refine ⟨z,z1,?_⟩
   unfold LawOk at z2 ⊢
   rw [skip z hsk']
   exact z2
  ·have hd':(b.Dest==node)=false:=by simpa using hd
   obtain ⟨zz,_,hzz⟩:=size_at (k1+1) (by omega) b (by omega)
   have ez:(z0:Int)=zz:=size_eq hK hz hzz
   obtain ⟨w',v',e'',hr',_⟩:=route_ex (k1+1) (by omega) N C l node b.Dest now zz hl
   rw [ez] at hr
   rw [ql] at hr
   obtain ⟨rfl,rfl,rfl⟩:=route_eq hK hr hr'
   obtain ⟨z,z1,_,z3⟩:=loop_one k hk node N C l now busy L hC hb hL hp O hO room s0 s1 s2 s3 d (i+1) n (stp room now c ev q) (by omega) (by omega) b1 (by rw [b2,ql];omega)
   refine ⟨z,z1,.inl ?_⟩
   rw [law z,hbu]
   obtain ⟨⟨tG,eG⟩,⟨tW,eW⟩,⟨tT,eT⟩⟩:=z3
   rcases hcase with ⟨he',rfl⟩ | ⟨rfl,j,ct,rfl,hj,_,gC,rfl⟩
   ·have eT':z.T=c::tT:=by rw [eT];show (q.T++[c])++tT=_;rw [qT];rfl
    have hlen:((z.T.length:Nat):Int)>0:=by rw [eT'];simp only [List.length_cons];omega
    have hz0:z.T[0]?=some c:=by rw [eT'];rfl
    simp only [f3_l3_j4,hd',cond_false,f3_l3_j6,hzz,hr',Option.bind_some,show (e' != 0)=true by simpa using he',cond_true,decide_eq_true hlen,ifE_pos (show (0:Int)<(z.T.length:Int) by omega),hz0,beq_self_eq_true,Bool.and_self]
   ·rw [ql] at hj
    rw [stp_way] at eG eW eT
    have w0:(0:Int)≤(j:Int):=by omega
    have wC:(j:Int)<(C.length:Int):=by omega
    have hop:openB ct now=(decide (ct.Start≤now)&&decide (now<ct.End)):=rfl
    have waits:z.W=c::tW→f3_l3_j8 (k1+1) j false z.G z.W z.T z.xl c.Source c.Seq c.Offset ct.From ct.To ct.Start ct.End ct.Rate ct.Delay=some (.o0 true):=fun hW=>by
     have hlen:((z.W.length:Nat):Int)>0:=by rw [hW];simp only [List.length_cons];omega
     have hz0:z.W[0]?=some c:=by rw [hW];rfl
     simp only [f3_l3_j8,decide_eq_true hlen,cond_true,ifE_pos (show (0:Int)<(z.W.length:Int) by omega),hz0,Option.bind_some,beq_self_eq_true,Bool.and_self]
    have main:f3_l3_j7 (k1+1) j false node N now room C l busy z.G z.W z.T z.xl c.Source c.Seq c.Offset=some (.o0 true):=by
     simp only [f3_l3_j7,ifE_pos w0,ifE_pos wC,Int.toNat_natCast,gC,Option.bind_some]
     cases hr0:decide (room>0)
     ·rw [cond_false]
      apply waits
      rw [eW]
      have:decide ((q.G.length:Int)<room)=false:=by rw [decide_eq_false_iff_not] at hr0 ⊢;rw [qG];simpa using hr0
      rw [this,cond_false]
      cases openB ct now
      ·show (q.W++[c])++tW=_;rw [qW];rfl
      ·show (q.W++[c])++tW=_;rw [qW];rfl
     ·rw [cond_true]
      have hr1:decide ((q.G.length:Int)<room)=true:=by rw [decide_eq_true_iff] at hr0 ⊢;rw [qG];simpa using hr0
      rw [hr1,cond_true,hop] at eG eW eT
      cases hs1:decide (ct.Start≤now)
      ·rw [cond_false]
       apply waits
       rw [eW,hs1,Bool.false_and,cond_false]
       show (q.W++[c])++tW=_;rw [qW];rfl
      rw [cond_true]
      cases hs2:decide (now<ct.End)
      ·rw [cond_false]
       apply waits
       rw [eW,hs1,hs2,Bool.and_false,cond_false]
       show (q.W++[c])++tW=_;rw [qW];rfl
      rw [cond_true]
      rw [hs1,hs2,Bool.and_self,cond_true,qG] at eG
      have eG':z.G=⟨c.Source,c.Seq,c.Offset,ct.To,j⟩::tG:=eG
      have hlen:((z.G.length:Nat):Int)>0:=by rw [eG'];simp only [List.length_cons];omega
      have hz0:z.G[0]?=some ⟨c.Source,c.Seq,c.Offset,ct.To,j⟩:=by rw [eG'];rfl
      simp only [decide_eq_true hlen,cond_true,ifE_pos (show (0:Int)<(z.G.length:Int) by omega),hz0,Option.bind_some,beq_self_eq_true,Bool.and_self]
    simp only [f3_l3_j4,hd',cond_false,f3_l3_j6,hzz,hr',Option.bind_some,bne_self_eq_false,main]
theorem choose_first (k:Nat) (hk:9300≤k) (node N:Int) (C:List Ct) (l:List Int) (now:Int) (busy:List Ky) (L:List Bun) (hC:C.length≤60) (hl:l.length≤60) (hb:busy.length≤60) (hL:L.length≤40) (hp:∀ b∈L,b.Payload.length≤500) (room:Int) :
 ∃ O:List Ky,f12 k L=some (.o0 O)∧((∃ e:Int,(e != 0)=true∧f11 k node N C l now busy room L=some (.o0 e [] [] [] [])) ∨
 ∃ z:Qq,f11 k node N C l now busy room L=some (.o0 0 z.G z.W z.T z.xl)∧LawOk k node N now room C l busy L O 0 z k):=by
 obtain ⟨k,rfl⟩:∃ m,k=m+2:=⟨k - 2,by omega⟩
 have h1:=qchk_at k (by omega) node N C l now busy room (by omega)
 obtain ⟨e,he⟩:=ccheck_at k (by omega) L hL hp
 obtain ⟨e2,he2⟩:=ccheck_at (k+1) (by omega) L hL hp
 obtain rfl:=ccheck_eq (Nat.le_succ k) he he2
 obtain ⟨O,ho,lO,_⟩:=order_at k (by omega) L hL hp
 obtain ⟨O2,ho2,_,iO⟩:=order_at (k+2) (by omega) L hL hp
 obtain rfl:=order_eq (by omega:k≤k+2) ho ho2
 have hcl:=clonei_at k (by omega) l (by omega)
 refine ⟨O,ho2,?_⟩
 cases c1:chkB N C
 ·refine .inl ⟨230,rfl,?_⟩
  rw [c1,cond_false] at h1
  simp only [f11,f11_e,f25,f25_e,f25_s1,f25_s1_b,h1,Option.bind_some,show ((230:Int) != 0)=true from rfl,cond_true]
 cases c2:qB node N C l now room
 ·refine .inl ⟨2,rfl,?_⟩
  rw [c1,c2,cond_true,cond_false] at h1
  simp only [f11,f11_e,f25,f25_e,f25_s1,f25_s1_b,h1,Option.bind_some,show ((2:Int) != 0)=true from rfl,cond_true]
 rw [c1,c2,cond_true,cond_true] at h1
 cases c3:(e != 0)
 case true=>exact .inl ⟨e,c3,by simp only [f11,f11_e,f25,f25_e,f25_s1,f25_s1_b,h1,Option.bind_some,bne_self_eq_false,cond_false,f25_s1_j1,he,c3,cond_true]⟩
 have e0:e=0:=by simpa using c3
 subst e0
 have c2':=c2
 unfold qB at c2'
 simp only [Bool.and_eq_true,decide_eq_true_iff] at c2'
 obtain ⟨⟨n1,n2⟩,hle,⟨w0,w1'⟩,r0,r8⟩:=c2'
 have hlen:=leftB_len hle
 obtain ⟨z,t1,t2⟩:=first_loop k (k+2) (by omega) (by omega) (by omega) node N C l now busy L hC hb hL hp hl hlen O (by omega) iO he he2 room [] [] [] [] O.length 0 k (k+2) ⟨[],[],[],l,l,[]⟩ (by omega) (by omega) (by omega) ⟨hlen,by simp,by simp,by simp,by simp⟩ rfl rfl rfl rfl
 rw [Int.natCast_zero] at t1
 refine .inr ⟨z,?_,t2⟩
 simp only [f11,f11_e,f25,f25_e,f25_s1,f25_s1_b,h1,Option.bind_some,bne_self_eq_false,cond_false,f25_s1_j1,he,f25_s1_j2,hcl,ho,t1,f25_s1_j4]
end Go.Proofs.YtiompmmbjpjjeaaDoorV