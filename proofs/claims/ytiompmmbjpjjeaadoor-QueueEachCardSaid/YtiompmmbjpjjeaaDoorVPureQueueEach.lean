/- The plain law of QueueEach. -/
import Derived.Test.YtiompmmbjpjjeaaDoorVPRun
import Derived.Test.YtiompmmbjpjjeaaDoorVStmtQueueEach
namespace Go.Proofs.YtiompmmbjpjjeaaDoorV
open Go
set_option linter.unusedVariables false
set_option linter.unusedSimpArgs false
theorem met_l3 (k:Nat) (node N now room:Int) (C:List Ct) (l:List Int) (busy:List Ky) (L:List Bun) (G:List Gg) (W T:List Ky) (xl:List Int) (hG:G.length≤1000) (hg:∀ g∈G,GOk node now C g):∀ (d i n:Nat) (m:List (Ky×Int)),i+d=G.length→d<n →
 f6_l3 k n G.length i node N now room C l busy L G W T xl m=some (.o2 G.length G.length false node N now room C l busy L G W T xl (((G.drop i).map keyG).foldl bump m)):=by
 intro d
 induction d with
 | zero =>
  intro i n m hi hn
  obtain ⟨n,rfl⟩:∃ m,n=m+1:=⟨n - 1,by omega⟩
  have e:i=G.length:=by omega
  subst e
  rw [List.drop_length]
  simp only [f6_l3,f6_l3_b,decide_eq_false (Int.lt_irrefl _),cond_false,Option.bind_some,List.map_nil,List.foldl_nil]
 | succ d ih =>
  intro i n m hi hn
  obtain ⟨n,rfl⟩:∃ m,n=m+1:=⟨n - 1,by omega⟩
  have h1:i<G.length:=by omega
  have g1:G[i]?=some G[i]:=List.getElem?_eq_getElem h1
  have hlt:=decide_eq_true (show (i:Int)<(G.length:Int) by omega)
  have h0:(0:Int)≤(i:Int):=by omega
  have h2:(i:Int)<(G.length:Int):=by omega
  have hw:=w1 (show i<4611686018427387904 by omega)
  rw [List.drop_eq_getElem_cons h1]
  rw [List.map_cons,List.foldl_cons,←ih (i+1) n _ (by omega) (by omega)]
  obtain ⟨w,ct,e1,e2,e3,e4,e5,e6⟩:=hg _ (List.getElem_mem h1)
  have hwl:w<C.length:=(List.getElem?_eq_some_iff.1 e2).1
  simp only [f6_l3,f6_l3_b,f6_l3_j1,f6_l3_j2,hlt,cond_true,ifE_pos h0,ifE_pos h2,Int.toNat_natCast,g1,Option.bind_some,e1,ifE_pos (show (0:Int)≤(w:Int) by omega),ifE_pos (show (w:Int)<(C.length:Int) by omega),e2,e3,e4,bne_self_eq_false,cond_false,decide_eq_false (show ¬now<ct.Start by omega),decide_eq_false (show ¬now≥ct.End by omega),hw]
  rfl
theorem met_l5 (k:Nat) (node N now room:Int) (C:List Ct) (l:List Int) (busy:List Ky) (L:List Bun) (G:List Gg) (W T:List Ky) (xl:List Int) (D:List Ky) (hD:D.length≤1000):∀ (d i n:Nat) (m:List (Ky×Int)),i+d=D.length→d<n →
 f6_l5 k n D.length i node N now room C l busy L G W T xl m D=some (.o1 D.length D.length false node N now room C l busy L G W T xl ((D.drop i).foldl bump m) D):=by
 intro d
 induction d with
 | zero =>
  intro i n m hi hn
  obtain ⟨n,rfl⟩:∃ m,n=m+1:=⟨n - 1,by omega⟩
  have e:i=D.length:=by omega
  subst e
  rw [List.drop_length]
  simp only [f6_l5,f6_l5_b,decide_eq_false (Int.lt_irrefl _),cond_false,Option.bind_some,List.foldl_nil]
 | succ d ih =>
  intro i n m hi hn
  obtain ⟨n,rfl⟩:∃ m,n=m+1:=⟨n - 1,by omega⟩
  have h1:i<D.length:=by omega
  have g1:D[i]?=some D[i]:=List.getElem?_eq_getElem h1
  have hlt:=decide_eq_true (show (i:Int)<(D.length:Int) by omega)
  have h0:(0:Int)≤(i:Int):=by omega
  have h2:(i:Int)<(D.length:Int):=by omega
  have hw:=w1 (show i<4611686018427387904 by omega)
  rw [List.drop_eq_getElem_cons h1]
  rw [List.foldl_cons,←ih (i+1) n _ (by omega) (by omega)]
  simp only [f6_l5,f6_l5_b,f6_l5_j1,f6_l5_j2,hlt,cond_true,ifE_pos h0,ifE_pos h2,Int.toNat_natCast,g1,Option.bind_some,hw]
  rfl
theorem busy_l7 (k:Nat) (node N now room:Int) (C:List Ct) (l:List Int) (busy:List Ky) (L:List Bun) (G:List Gg) (W T:List Ky) (xl:List Int) (m:List (Ky×Int)) (hb:busy.length≤1000):∀ (d i n:Nat) (p:List (Ky×Bool)),i+d=busy.length→d<n →
 f6_l7 k n busy.length i node N now room C l busy L G W T xl m p=some (.o1 busy.length busy.length false node N now room C l busy L G W T xl m ((busy.drop i).foldl flag p)):=by
 intro d
 induction d with
 | zero =>
  intro i n p hi hn
  obtain ⟨n,rfl⟩:∃ m,n=m+1:=⟨n - 1,by omega⟩
  have e:i=busy.length:=by omega
  subst e
  rw [List.drop_length]
  simp only [f6_l7,f6_l7_b,decide_eq_false (Int.lt_irrefl _),cond_false,Option.bind_some,List.foldl_nil]
 | succ d ih =>
  intro i n p hi hn
  obtain ⟨n,rfl⟩:∃ m,n=m+1:=⟨n - 1,by omega⟩
  have h1:i<busy.length:=by omega
  have g1:busy[i]?=some busy[i]:=List.getElem?_eq_getElem h1
  have hlt:=decide_eq_true (show (i:Int)<(busy.length:Int) by omega)
  have h0:(0:Int)≤(i:Int):=by omega
  have h2:(i:Int)<(busy.length:Int):=by omega
  have hw:=w1 (show i<4611686018427387904 by omega)
  rw [List.drop_eq_getElem_cons h1]
  rw [List.foldl_cons,←ih (i+1) n _ (by omega) (by omega)]
  simp only [f6_l7,f6_l7_b,f6_l7_j1,f6_l7_j2,hlt,cond_true,ifE_pos h0,ifE_pos h2,Int.toNat_natCast,g1,Option.bind_some,hw]
  rfl
theorem each_l9 (k:Nat) (hk:1≤k) (node N now room:Int) (C:List Ct) (l:List Int) (busy:List Ky) (L:List Bun) (G:List Gg) (W T:List Ky) (xl:List Int) (m:List (Ky×Int)) (p:List (Ky×Bool)) (hL:L.length≤1000) (hp:∀ c,mget p c false=busy.any (sameK c)) (hm:∀ b∈L,mget m (keyB b) 0=if goB node busy b then 1 else 0):∀ (d i n x:Nat),i+d=L.length→d<n→x≤i →
 f6_l9 k n x L.length i node N now room C l busy L G W T xl m p=some (.o2 ((x+((L.drop i).filter (goB node busy)).length:Nat):Int) L.length L.length false node N now room C l busy L G W T xl m p):=by
 intro d
 induction d with
 | zero =>
  intro i n x hi hn hx
  obtain ⟨n,rfl⟩:∃ m,n=m+1:=⟨n - 1,by omega⟩
  have e:i=L.length:=by omega
  subst e
  rw [List.drop_length]
  simp only [f6_l9,f6_l9_b,decide_eq_false (Int.lt_irrefl _),cond_false,Option.bind_some,List.filter_nil,List.length_nil,Nat.add_zero]
 | succ d ih =>
  intro i n x hi hn hx
  obtain ⟨n,rfl⟩:∃ m,n=m+1:=⟨n - 1,by omega⟩
  have h1:i<L.length:=by omega
  have g1:L[i]?=some L[i]:=List.getElem?_eq_getElem h1
  have hlt:=decide_eq_true (show (i:Int)<(L.length:Int) by omega)
  have h0:(0:Int)≤(i:Int):=by omega
  have h2:(i:Int)<(L.length:Int):=by omega
  have hw:=w1 (show i<4611686018427387904 by omega)
  rw [List.drop_eq_getElem_cons h1]
  have hmi:=hm _ (List.getElem_mem h1)
  have hpi:=hp (keyB L[i])
  have hwx:=w1 (show x<4611686018427387904 by omega)
  unfold keyB at hmi hpi
  cases hb:busy.any (sameK (keyB L[i]))
  case true =>
   have hg:goB node busy L[i]=false:=by unfold goB;rw [hb];rfl
   unfold keyB at hb
   rw [hg,if_neg (by decide)] at hmi
   rw [hb] at hpi
   rw [List.filter_cons_of_neg (by simp [hg]),←ih (i+1) n x (by omega) (by omega) (by omega)]
   simp only [f6_l9,f6_l9_b,f6_l9_j1,f6_l9_j2,f6_l9_j3,hlt,cond_true,cond_false,ifE_pos h0,ifE_pos h2,Int.toNat_natCast,g1,Option.bind_some,key_at k hk,hpi,hmi,bne_self_eq_false,hw]
  case false =>
   by_cases hd:L[i].Dest=node
   ·have hg:goB node busy L[i]=false:=by unfold goB;rw [hd];simp
    unfold keyB at hb
    rw [hg,if_neg (by decide)] at hmi
    rw [hb] at hpi
    rw [List.filter_cons_of_neg (by simp [hg]),←ih (i+1) n x (by omega) (by omega) (by omega)]
    simp only [f6_l9,f6_l9_b,f6_l9_j1,f6_l9_j2,f6_l9_j3,hlt,cond_true,cond_false,ifE_pos h0,ifE_pos h2,Int.toNat_natCast,g1,Option.bind_some,key_at k hk,hpi,hmi,hd,beq_self_eq_true,bne_self_eq_false,hw]
   ·have hg:goB node busy L[i]=true:=by unfold goB;rw [hb];simpa using hd
    unfold keyB at hb
    rw [hg,if_pos rfl] at hmi
    rw [hb] at hpi
    have hd':(L[i].Dest==node)=false:=by simpa using hd
    rw [List.filter_cons_of_pos hg,List.length_cons,show x+(((L.drop (i+1)).filter (goB node busy)).length+1)=(x+1)+((L.drop (i+1)).filter (goB node busy)).length by omega,←ih (i+1) n (x+1) (by omega) (by omega) (by omega)]
    simp only [f6_l9,f6_l9_b,f6_l9_j1,f6_l9_j4,f6_l9_j5,hlt,cond_true,cond_false,ifE_pos h0,ifE_pos h2,Int.toNat_natCast,g1,Option.bind_some,key_at k hk,hpi,hmi,hd',bne_self_eq_false,hw,hwx]
theorem spend_l11 (k:Nat) (hk:10000≤k) (node N now room:Int) (C:List Ct) (l:List Int) (busy:List Ky) (L:List Bun) (G:List Gg) (W T:List Ky) (xl:List Int) (m:List (Ky×Int)) (x16:Int) (hG:G.length≤1000) (hC:C.length≤60) (hL:L.length≤40) (hp:∀ b∈L,b.Payload.length≤500) (hP:chkB N C=true) (k0:Nat) (hk0:9001≤k0) (hc:f26 k0 L=some (.o0 0)):∀ (d i n:Nat) (v:List Int),i+d=G.length→d<n→Spn k0 C L v (G.drop i) xl →
 f6_l11 k n x16 v G.length i node N now room C l busy L G W T xl m=some (.o2 x16 xl G.length G.length false node N now room C l busy L G W T xl m):=by
 intro d
 induction d with
 | zero =>
  intro i n v hi hn hs
  obtain ⟨n,rfl⟩:∃ m,n=m+1:=⟨n - 1,by omega⟩
  have e:i=G.length:=by omega
  subst e
  rw [List.drop_length] at hs
  cases hs
  simp only [f6_l11,f6_l11_b,decide_eq_false (Int.lt_irrefl _),cond_false,Option.bind_some]
 | succ d ih =>
  intro i n v hi hn hs
  obtain ⟨n,rfl⟩:∃ m,n=m+1:=⟨n - 1,by omega⟩
  have h1:i<G.length:=by omega
  have g1:G[i]?=some G[i]:=List.getElem?_eq_getElem h1
  have hlt:=decide_eq_true (show (i:Int)<(G.length:Int) by omega)
  have h0:(0:Int)≤(i:Int):=by omega
  have h2:(i:Int)<(G.length:Int):=by omega
  have hw:=w1 (show i<4611686018427387904 by omega)
  rw [List.drop_eq_getElem_cons h1] at hs
  rcases hs with _ | ⟨_,b,w,z0,x,_,_,_,hb,e,hw',hl,hx,hn',hsz,r⟩
  have hf:=find_in k (by omega) L hL hp hk0 hc b hb
  rw [e] at hf
  obtain ⟨z1,_,hz⟩:=size_at k (by omega) b (by have:=hp b hb;omega)
  have ez:(z0:Int)=(z1:Int):=by
   rcases Nat.le_total k0 k with h | h
   ·exact size_eq h hsz hz
   ·exact (size_eq h hz hsz).symm
  rw [←ez] at hz
  have hsp:=spend_ok k (by omega) N C v (by rw [leftB_len hl];exact hC) hP hl w x hx z0 (by omega) hn'
  rw [←ih (i+1) n _ (by omega) (by omega) r]
  unfold keyG at hf
  simp only [f6_l11,f6_l11_b,f6_l11_j1,f6_l11_j2,f6_l11_j3,hlt,cond_true,cond_false,ifE_pos h0,ifE_pos h2,Int.toNat_natCast,g1,Option.bind_some,hf,bne_self_eq_false,hz,hw',hsp,hw]
theorem same_l13 (k:Nat) (node N now room:Int) (C:List Ct) (l:List Int) (busy:List Ky) (L:List Bun) (G:List Gg) (W T:List Ky) (xl:List Int) (m:List (Ky×Int)) (x16:Int) (hx:xl.length≤1000):∀ (d i n:Nat),i+d=xl.length→d<n →
 f6_l13 k n x16 xl xl.length i node N now room C l busy G W T xl m=some (.o2 x16 xl xl.length xl.length false node N now room C l busy G W T xl m):=by
 intro d
 induction d with
 | zero =>
  intro i n hi hn
  obtain ⟨n,rfl⟩:∃ m,n=m+1:=⟨n - 1,by omega⟩
  have e:i=xl.length:=by omega
  subst e
  simp only [f6_l13,f6_l13_b,decide_eq_false (Int.lt_irrefl _),cond_false,Option.bind_some]
 | succ d ih =>
  intro i n hi hn
  obtain ⟨n,rfl⟩:∃ m,n=m+1:=⟨n - 1,by omega⟩
  have h1:i<xl.length:=by omega
  have g1:xl[i]?=some xl[i]:=List.getElem?_eq_getElem h1
  rw [←ih (i+1) n (by omega) (by omega)]
  simp only [f6_l13,f6_l13_b,f6_l13_j1,f6_l13_j2,decide_eq_true (show (i:Int)<(xl.length:Int) by omega),cond_true,cond_false,ifE_pos (show (0:Int)≤(i:Int) by omega),ifE_pos (show (i:Int)<(xl.length:Int) by omega),Int.toNat_natCast,g1,Option.bind_some,bne_self_eq_false,w1 (show i<4611686018427387904 by omega)]
theorem short_l (k:Nat) (n m t u:Int) (L:List Ct) (l:List Int) (b:List Ky) (L':List Ct) (l':List Int) (b':List Ky) (h:f9 (k+1) n m L l t b u=some (.o0 n m t u L' l' b')):∀ x∈l',x∈l:=by
 simp only [f9,f9_e] at h
 iterate 9 replace h:=(ifE_some.1 h).2
 rw [Option.some.injEq,R9.o0.injEq] at h
 intro x hx
 rw [←h.2.2.2.2.2.1] at hx
 exact List.mem_of_mem_take hx
theorem key_inj (k:Nat) (hk:9010≤k) {L:List Bun} (hL:L.length≤40) (hp:∀ b∈L,b.Payload.length≤500) (hc:f26 k L=some (.o0 0)) {b b':Bun} (hb:b∈L) (hb':b'∈L) (e:keyB b=keyB b'):b=b':=by
 have h1:=find_in k hk L hL hp (by omega) hc b hb
 have h2:=find_in k hk L hL hp (by omega) hc b' hb'
 rw [e] at h1
 exact (find_eq (Nat.le_refl k) h1 h2).1
theorem pureQueueEach:StmtQueueEach:=by
 intro s c gs gc
 refine ⟨60001,?_⟩
 obtain ⟨node,N,C,l,now,busy,room⟩:=s
 obtain ⟨L⟩:=c
 have hL:L.length<4611686018427387904:=by
  obtain ⟨_,h,_⟩:=gc
  have h':L.length * 104≤140737488351232:=h
  omega
 have hwf:∀ y∈l,(Lit.int .i64 y).wf=true:=gs.2.2.1.2.2
 simp only
 have e7:f8 60000=some (.o0 true):=by simp only [f8];exact ifE_pos (by omega)
 obtain ⟨C',l',b',hC,hl,hb,hs⟩:=short_at 60000 (by omega) node N now room C l busy
 have hsub:=short_l 59999 node N now room C l busy C' l' b' hs
 obtain ⟨L',hL',hp,hk⟩:=kept_at 60000 (by omega) L hL
 rcases choose_run 60000 (by omega) node N C' l' now b' L' (by omega) (by omega) (by omega) (by omega) hp room with ⟨e,he,h⟩ | ⟨k0,O,z,h0,h,f,hperm,hnd,_,hc,hP,hq,hr⟩
 ·simp only [f6,f6_e,e7,Option.bind_some,Bool.not_true,cond_false,f6_j1,hs,hk,h,he,cond_true,List.length_nil]
  rfl
 unfold qB at hq
 simp only [Bool.and_eq_true,decide_eq_true_iff] at hq
 obtain ⟨⟨n1,n2⟩,hle,⟨w0,w1'⟩,r0,r8⟩:=hq
 have hlen:=leftB_len hle
 obtain ⟨B,hB,rfl⟩:=perm_map_inv keyB hperm L' rfl
 have hmem:∀ b∈B,b∈L':=fun b hb=>hB.mem_iff.1 hb
 have hneg:∀ y∈l',0≤y:=by
  unfold leftB negA at hle
  rw [Bool.and_eq_true,Bool.not_eq_true',List.any_eq_false] at hle
  intro y hy
  have:=hle.2 y hy
  simpa using this
 have hlw:Lw C' ⟨[],[],[],l',l',[]⟩:=⟨hlen,hlen,fun i x y h1 h2=>by
  rw [h1] at h2
  cases h2
  have hm:=List.mem_of_getElem? h1
  exact ⟨hneg x hm,Int.le_refl _,(wf_i64 (hwf x (hsub x hm))).2⟩⟩
 obtain ⟨a1,⟨G',a2,a2'⟩,a3,a4⟩:=run_each k0 h0 node N C' now b' L' (by omega) (by omega) hp hc room B _ z hmem hr hlw
 have a2:z.G=G':=by simpa using a2
 subst a2
 have a3:=a3 (fun g hg=>by cases hg)
 have a4:=a4 (by simpa using r0)
 simp only [DK,List.map_nil,List.nil_append] at a1
 obtain ⟨f1,f2,f3,f4,f5⟩:=f
 have hDn:(z.G.map keyG++(z.W++z.T)).Nodup:=a1.nodup_iff.2 (hnd.sublist (List.filter_sublist.map keyB))
 have hmet:((z.W++z.T).foldl bump ((z.G.map keyG).foldl bump []))=ones (z.G.map keyG++(z.W++z.T)):=by
  rw [←List.foldl_append]
  exact bumps _ [] (by simpa using hDn)
 have hget:∀ b∈L',mget (ones (z.G.map keyG++(z.W++z.T))) (keyB b) 0=if goB node b' b then 1 else 0:=fun b hb=>by
  rw [ones_get]
  cases hg:goB node b' b
  ·rw [if_neg,if_neg (by decide)]
   intro hm
   obtain ⟨b2,h2,e2⟩:=List.mem_map.1 (a1.mem_iff.1 hm)
   rw [List.mem_filter] at h2
   have:=key_inj k0 h0 (by omega) hp hc (hmem _ h2.1) hb e2
   rw [this,hg] at h2
   cases h2.2
  ·rw [if_pos,if_pos rfl]
   exact a1.mem_iff.2 (List.mem_map.2 ⟨b,List.mem_filter.2 ⟨hB.mem_iff.2 hb,hg⟩,rfl⟩)
 have hn:(ones (z.G.map keyG++(z.W++z.T))).length=(L'.filter (goB node b')).length:=by
  unfold ones
  rw [List.length_map,a1.length_eq,List.length_map]
  exact (hB.filter _).length_eq
 have l3:=met_l3 60000 node N now room C' l' b' L' z.G z.W z.T z.xl (by omega) a3 z.G.length 0 60000 [] (by omega) (by omega)
 have l5:=fun m=>met_l5 60000 node N now room C' l' b' L' z.G z.W z.T z.xl (z.W++z.T) (by rw [List.length_append];omega) (z.W++z.T).length 0 60000 m (by omega) (by rw [List.length_append];omega)
 have l7:=fun m=>busy_l7 60000 node N now room C' l' b' L' z.G z.W z.T z.xl m (by omega) b'.length 0 60000 [] (by omega) (by omega)
 have hfl:∀ c,mget (b'.foldl flag []) c false=b'.any (sameK c):=fun c=>by rw [flags];simp [mget,mfnd]
 have l9:=each_l9 60000 (by omega) node N now room C' l' b' L' z.G z.W z.T z.xl _ _ (by omega) hfl hget L'.length 0 60000 0 (by omega) (by omega) (by omega)
 have l11:=fun m x=>spend_l11 60000 (by omega) node N now room C' l' b' L' z.G z.W z.T z.xl m x (by omega) (by omega) (by omega) hp hP k0 (by omega) hc z.G.length 0 60000 l' (by omega) (by omega) a2'
 have l13:=fun m x=>same_l13 60000 node N now room C' l' b' L' z.G z.W z.T z.xl m x (by omega) z.xl.length 0 60000 (by omega) (by omega)
 rw [List.drop_zero,Int.natCast_zero] at l3 l9
 simp only [List.drop_zero,Int.natCast_zero] at l5 l7 l11 l13
 rw [Nat.zero_add] at l9
 have r1:z.W.length * 24≤roomy:=by unfold roomy;omega
 have r2:(z.W.length+z.T.length) * 24≤roomy:=by unfold roomy;omega
 have r3:l'.length * 8≤roomy:=by unfold roomy;omega
 simp only [f6,f6_e,e7,Option.bind_some,Bool.not_true,cond_false,f6_j1,hs,hk,h,bne_self_eq_false,f6_j2,l3,f6_j4,ifE_pos r1,ifE_pos r2,l5,hmet,f6_j6,l7,f6_j8,l9,f6_j10,ifE_pos r3,l11,f6_j12,l13,f6_j14,decide_eq_true a4,cond_true,hn,beq_self_eq_true]
end Go.Proofs.YtiompmmbjpjjeaaDoorV