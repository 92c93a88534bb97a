/- The choice,key by key. -/
import Derived.Test.YtiompmmbjpjjeaaDoorVPPlanM
import Derived.Test.YtiompmmbjpjjeaaDoorVPQue
namespace Go.Proofs.YtiompmmbjpjjeaaDoorV
open Go
set_option linter.unusedVariables false
set_option linter.unusedSimpArgs false
inductive Run (k:Nat) (node N:Int) (C:List Ct) (now:Int) (busy:List Ky) (L:List Bun) (room:Int):List Ky→Qq→Qq→Prop
 | nil (q:Qq):Run k node N C now busy L room [] q q
 | cons (c:Ky) (O:List Ky) (q z:Qq) (ev:Ev) (h:EvOk k node N C now busy L c q.l ev) (r:Run k node N C now busy L room O (stp room now c ev q) z):Run k node N C now busy L room (c::O) q z
theorem loop_run (k:Nat) (hk:9100≤k) (node N:Int) (C:List Ct) (sl:List Int) (now:Int) (busy:List Ky) (L:List Bun) (hC:C.length≤60) (hb:busy.length≤60) (hL:L.length≤40) (hp:∀ b∈L,b.Payload.length≤500) (O:List Ky) (hO:O.length≤60) (room:Int) (s0:List Gg) (s1 s2:List Ky) (s3:List Int):∀ (d i n:Nat) (q:Qq),i+d=O.length→d<n→Few C.length i q→q.l.length≤60 →
 ∃ z:Qq,f25_s1_l3 k n O.length i node N C sl now busy room L s0 s1 s2 s3 q.G q.W q.T q.xl q.l q.aw O=some (.o5 O.length O.length false node N C sl now busy room L s0 s1 s2 s3 z.G z.W z.T z.xl z.l z.aw O)∧Few C.length O.length z∧Run k node N C now busy L room (O.drop i) q z:=by
 intro d
 induction d with
 | zero =>
  intro i n q hi hn f hl
  obtain ⟨n,rfl⟩:∃ m,n=m+1:=⟨n - 1,by omega⟩
  have e:i=O.length:=by omega
  subst e
  exact ⟨q,by simp only [f25_s1_l3,f25_s1_l3_b,decide_eq_false (Int.lt_irrefl _),cond_false,Option.bind_some],f,by rw [List.drop_length];exact .nil q⟩
 | succ d ih =>
  intro i n q hi hn f hl
  obtain ⟨n,rfl⟩:∃ m,n=m+1:=⟨n - 1,by omega⟩
  have h1:i<O.length:=by omega
  have g1:O[i]?=some O[i]:=List.getElem?_eq_getElem h1
  obtain ⟨ev,hev,hs⟩:=key_ev k hk node N C sl now busy L hC hb hL hp O hO i O[i] g1 q.l hl
  have a1:=hs room q n s0 s1 s2 s3 rfl f.1 (by have:=f.2.1;omega) (by have:=f.2.2.1;omega) (by have:=f.2.2.2.1;omega) (by have:=f.2.2.2.2;omega)
  obtain ⟨b1,b2⟩:=f.stp room now O[i] ev
  obtain ⟨z,e1,e2,e3⟩:=ih (i+1) n _ (by omega) (by omega) b1 (by omega)
  rw [a1]
  exact ⟨z,e1,e2,by rw [List.drop_eq_getElem_cons h1];exact .cons _ _ _ _ ev hev e3⟩
theorem choose_run (k:Nat) (hk:9200≤k) (node N:Int) (C:List Ct) (l:List Int) (now:Int) (busy:List Ky) (L:List Bun) (hC:C.length≤60) (hl:l.length≤60) (hb:busy.length≤60) (hL:L.length≤40) (hp:∀ b∈L,b.Payload.length≤500) (room:Int) :
 (∃ e:Int,(e != 0)=true∧f11 k node N C l now busy room L=some (.o0 e [] [] [] [])) ∨
 ∃ (k0:Nat) (O:List Ky) (z:Qq),9010≤k0∧f11 k node N C l now busy room L=some (.o0 0 z.G z.W z.T z.xl)∧Few C.length 40 z∧O.Perm (L.map keyB)∧O.Nodup∧(∀ b∈L,okP b)∧f26 k0 L=some (.o0 0)∧chkB N C=true∧qB node N C l now room=true∧Run k0 node N C now busy L room O ⟨[],[],[],l,l,[]⟩ z:=by
 obtain ⟨k,rfl⟩:∃ m,k=m+2:=⟨k - 2,by omega⟩
 have hq:=fun room=>qchk_at k (by omega) node N C l now busy room (by omega)
 obtain ⟨e,he,heq⟩:=ccheck_at k (by omega) L hL hp
 obtain ⟨O,ho,lO,hmem,hperm,hnd⟩:=order_at k (by omega) L hL hp
 have hcl:=clonei_at k (by omega) l (by omega)
 cases c1:chkB N C
 ·refine .inl ⟨230,rfl,?_⟩
  have:=hq room
  rw [c1,cond_false] at this
  simp only [f11,f11_e,f25,f25_e,f25_s1,f25_s1_b,this,Option.bind_some,show ((230:Int) != 0)=true from rfl,cond_true]
 cases c2:qB node N C l now room
 ·refine .inl ⟨2,rfl,?_⟩
  have:=hq room
  rw [c1,c2,cond_true,cond_false] at this
  simp only [f11,f11_e,f25,f25_e,f25_s1,f25_s1_b,this,Option.bind_some,show ((2:Int) != 0)=true from rfl,cond_true]
 have h1:=hq room
 rw [c1,c2,cond_true,cond_true] at h1
 cases c3:(e != 0)
 case true=>exact .inl ⟨e,c3,by simp only [f11,f11_e,f25,f25_e,f25_s1,f25_s1_b,h1,Option.bind_some,bne_self_eq_false,cond_false,f25_s1_j1,he,c3,cond_true]⟩
 have c2':=c2
 unfold qB at c2'
 simp only [Bool.and_eq_true,decide_eq_true_iff] at c2'
 obtain ⟨⟨n1,n2⟩,hle,⟨w0,w1'⟩,r0,r8⟩:=c2'
 have hlen:=leftB_len hle
 have e0:e=0:=by simpa using c3
 subst e0
 have hP:O.Perm (L.map keyB):=by
  rcases hperm with ⟨e',h1,h2⟩ | h
  ·exact absurd (ccheck_eq (Nat.sub_le k 1) h2 he) h1
  ·exact h
 obtain ⟨z,t1,t3,t5⟩:=loop_run k (by omega) node N C l now busy L hC hb hL hp O (by omega) room [] [] [] [] O.length 0 k ⟨[],[],[],l,l,[]⟩ (by omega) (by omega) ⟨hlen,by simp,by simp,by simp,by simp⟩ hl
 rw [Int.natCast_zero] at t1
 rw [List.drop_zero] at t5
 refine .inr ⟨k,O,z,by omega,?_,⟨t3.1,by have:=t3.2.1;omega,by have:=t3.2.2.1;omega,by have:=t3.2.2.2.1;omega,by have:=t3.2.2.2.2;omega⟩,hP,hnd,(heq rfl).1,he,rfl,rfl,t5⟩
 simp only [f11,f11_e,f25,f25_e,f25_s1,f25_s1_b,h1,Option.bind_some,bne_self_eq_false,cond_false,f25_s1_j1,he,f25_s1_j2,hcl,ho,t1,f25_s1_j4]
theorem perm_map_inv {α β:Type} (g:α→β) {O P:List β} (h:O.Perm P):∀ L:List α,P=L.map g→∃ L':List α,L'.Perm L∧O=L'.map g:=by
 induction h with
 | nil=>intro L e;exact ⟨L,.refl _,e⟩
 | cons x _ ih =>
  intro L e
  cases L with
  | nil=>cases e
  | cons a L =>
   rw [List.map_cons] at e
   injection e with e1 e2
   obtain ⟨L',p,e3⟩:=ih L e2
   exact ⟨a::L',p.cons a,by rw [List.map_cons,e1,e3]⟩
 | swap x y l =>
  intro L e
  match L,e with
  | a::b::L,e =>
   simp only [List.map_cons,List.cons.injEq] at e
   exact ⟨b::a::L,.swap ..,by rw [List.map_cons,List.map_cons,e.1,e.2.1,e.2.2]⟩
 | trans _ _ ih1 ih2 =>
  intro L e
  obtain ⟨L1,p1,e1⟩:=ih2 L e
  obtain ⟨L2,p2,e2⟩:=ih1 L1 e1
  exact ⟨L2,p2.trans p1,e2⟩
theorem spend_ok (k:Nat) (hk:200≤k) (N:Int) (C:List Ct) (l:List Int) (hl:l.length≤60) (hP:chkB N C=true) (hB:leftB C l=true) (w:Nat) (x:Int) (hx:l[w]?=some x) (n:Int) (h0:0≤n) (hn:n≤x) :
 f16 k N C l w n=some (.o1 0 (l.set w (IntKind.i64.wrap (x - n)))):=by
 obtain ⟨k,rfl⟩:∃ m,k=m+1:=⟨k - 1,by omega⟩
 have hw:w<l.length:=(List.getElem?_eq_some_iff.1 hx).1
 have e1:IntKind.i64.wrap ((l.length:Int) - (1:Int))=(l.length:Int) - 1:=wrap_i64 (by omega) (by omega)
 simp only [f16,f16_e,check_at k N C (by omega),hP,Option.bind_some,cond_true,bne_self_eq_false,cond_false,fits_at k N C l (by omega) (by omega),hB,Bool.not_true,e1,in_at k (by omega),decide_eq_true (show (0:Int)≤(w:Int) by omega),decide_eq_true (show (w:Int)≤(l.length:Int) - 1 by omega),Bool.and_self,decide_eq_false (show ¬n<0 by omega),ifE_pos (show (0:Int)≤(w:Int) by omega),Int.toNat_natCast,hx,decide_eq_false (show ¬n>x by omega),f16_j1,clonei_at k (by omega) l (by omega),ifE_pos (show (w:Int)<(l.length:Int) by omega)]
def goB (node:Int) (busy:List Ky) (b:Bun):Bool:=!(busy.any (sameK (keyB b))) && !(b.Dest==node)
def DK (q:Qq):List Ky:=q.G.map keyG++(q.W++q.T)
structure Lw (C:List Ct) (q:Qq):Prop where
 a:q.l.length=C.length
 b:q.xl.length=C.length
 c:∀ (i:Nat) (x y:Int),q.l[i]?=some x→q.xl[i]?=some y→0≤x∧x≤y∧y<9223372036854775808
def GOk (node now:Int) (C:List Ct) (g:Gg):Prop:=∃ (w:Nat) (ct:Ct),g.Contact=w∧C[w]?=some ct∧ct.From=node∧ct.To=g.To∧ct.Start≤now∧now<ct.End
inductive Spn (k:Nat) (C:List Ct) (L:List Bun):List Int→List Gg→List Int→Prop
 | nil (l:List Int):Spn k C L l [] l
 | cons (g:Gg) (b:Bun) (w n:Nat) (x:Int) (l:List Int) (G:List Gg) (z:List Int) (hb:b∈L) (e:keyB b=keyG g) (hw:g.Contact=w) (hl:leftB C l=true) (hx:l[w]?=some x) (hn:(n:Int)≤x) (hs:f15 k b.Source b.Dest b.Seq b.Created b.Lifetime b.HopLimit b.Hops b.Priority b.Offset b.Total b.Payload=some (.o0 n)) (r:Spn k C L (l.set w (IntKind.i64.wrap (x - n))) G z):Spn k C L l (g::G) z
theorem Lw.left {C:List Ct} {q:Qq} (h:Lw C q):leftB C q.xl=true:=by
 unfold leftB
 rw [decide_eq_true h.b,Bool.true_and,Bool.not_eq_true']
 unfold negA
 rw [List.any_eq_false]
 intro y hy
 obtain ⟨i,hi,rfl⟩:=List.getElem_of_mem hy
 have h1:i<q.l.length:=by rw [h.a,←h.b];exact hi
 have:=h.c i _ _ (List.getElem?_eq_getElem h1) (List.getElem?_eq_getElem hi)
 simp;omega
theorem getD_some {l:List Int} {w:Nat} {x:Int} (h:l[w]?=some x):l.getD w 0=x:=by rw [List.getD_eq_getElem?_getD,h];rfl
theorem Lw.set {C:List Ct} {q:Qq} (h:Lw C q) {w n:Nat} {x y:Int} (hx:q.l[w]?=some x) (hy:q.xl[w]?=some y) (hn:(n:Int)≤x) (q':Qq) (e1:q'.l=q.l.set w (IntKind.i64.wrap (x - n))) (e2:q'.xl=q.xl∨q'.xl=q.xl.set w (IntKind.i64.wrap (y - n))):Lw C q':=by
 obtain ⟨h0,h1,h2⟩:=h.c w x y hx hy
 have w1:IntKind.i64.wrap (x - n)=x - n:=wrap_i64 (by omega) (by omega)
 have w2:IntKind.i64.wrap (y - n)=y - n:=wrap_i64 (by omega) (by omega)
 rw [w1] at e1
 rw [w2] at e2
 have lw:w<q.l.length:=(List.getElem?_eq_some_iff.1 hx).1
 have lw':w<q.xl.length:=(List.getElem?_eq_some_iff.1 hy).1
 refine ⟨by rw [e1,List.length_set,h.a],by rcases e2 with e | e<;>rw [e]<;>simp [h.b],fun i u v hu hv => ?_⟩
 rw [e1] at hu
 by_cases hi:w=i
 ·subst hi
  rw [List.getElem?_set_self lw] at hu
  injection hu with hu
  rcases e2 with e | e<;>rw [e] at hv
  ·rw [hy] at hv;injection hv with hv;omega
  ·rw [List.getElem?_set_self lw'] at hv;injection hv with hv;omega
 ·rw [List.getElem?_set_ne hi] at hu
  rcases e2 with e | e<;>rw [e] at hv
  ·exact h.c i u v hu hv
  ·rw [List.getElem?_set_ne hi] at hv;exact h.c i u v hu hv
theorem perm_mv {α:Type} (A B R:List α) (c:α):(A++c::(B++R)).Perm ((A++B)++c::R):=List.perm_middle.trans (by rw [←List.append_assoc];exact List.perm_middle.symm)
theorem run_each (k:Nat) (hk:9010≤k) (node N:Int) (C:List Ct) (now:Int) (busy:List Ky) (L:List Bun) (hC:C.length≤60) (hL:L.length≤40) (hp:∀ b∈L,b.Payload.length≤500) (hc:f26 k L=some (.o0 0)) (room:Int):∀ (L':List Bun) (q z:Qq),(∀ b∈L',b∈L)→Run k node N C now busy L room (L'.map keyB) q z→Lw C q →
 (DK z).Perm (DK q++(L'.filter (goB node busy)).map keyB)∧(∃ G',z.G=q.G++G'∧Spn k C L q.xl G' z.xl)∧((∀ g∈q.G,GOk node now C g)→∀ g∈z.G,GOk node now C g)∧((q.G.length:Int)≤room→(z.G.length:Int)≤room)
 | [],q,z,_,h,_=>by
  cases h
  exact ⟨by simp,⟨[],by simp,.nil _⟩,id,id⟩
 | b::L',q,z,hm,h,hi=>by
  rw [List.map_cons] at h
  rcases h with _ | ⟨_,_,_,_,ev,hev,hr⟩
  obtain ⟨b',e,hf,hd⟩:=hev
  have hb:=hm b (List.mem_cons_self ..)
  obtain ⟨rfl,rfl⟩:=find_eq (Nat.le_refl k) (find_in k hk L hL hp (by omega) hc b hb) hf
  have ih:=fun q=>run_each k hk node N C now busy L hC hL hp hc room L' q z (fun b h=>hm b (List.mem_cons_of_mem _ h))
  rcases hd with ⟨hs,rfl⟩ | ⟨_,hbu,hde,z0,w,v,e',hz,hro,hd⟩
  ·have hg:goB node busy b=false:=by
    unfold goB
    rcases hs with h | h | h
    ·exact absurd rfl h
    ·rw [h];rfl
    ·rw [h];simp
   rw [List.filter_cons_of_neg (by simp [hg])]
   exact ih _ hr hi
  have hg:goB node busy b=true:=by unfold goB;rw [hbu];simpa using hde
  rw [List.filter_cons_of_pos hg,List.map_cons]
  rcases hd with ⟨_,rfl⟩ | ⟨rfl,j,ct,x,hlen,hct,g2,g3,g4,rfl⟩
  ·obtain ⟨a1,a2,a3,a4⟩:=ih _ hr ⟨hi.a,hi.b,hi.c⟩
   refine ⟨a1.trans ?_,a2,a3,a4⟩
   simp only [stp,DK]
   rw [←List.append_assoc q.W,←List.append_assoc (List.map keyG q.G),List.append_assoc (_++_) [keyB b]]
   exact .refl _
  ·have hj:j<q.l.length:=(List.getElem?_eq_some_iff.1 g2).1
   have hxl:j<q.xl.length:=by rw [hi.b,←hlen];exact hj
   obtain ⟨y,hy⟩:∃ y,q.xl[j]?=some y:=⟨_,List.getElem?_eq_getElem hxl⟩
   have hxy:=hi.c j x y g2 hy
   rw [stp_way,getD_some g2,getD_some hy] at hr
   cases ho:openB ct now<;>rw [ho] at hr
   ·rw [cond_false] at hr
    obtain ⟨a1,a2,a3,a4⟩:=ih _ hr (hi.set g2 hy g4 _ rfl (.inl rfl))
    refine ⟨a1.trans ?_,a2,a3,a4⟩
    have:=perm_mv (List.map keyG q.G++q.W) q.T ((L'.filter (goB node busy)).map keyB) (keyB b)
    simpa [DK,List.append_assoc] using this
   ·rw [cond_true] at hr
    cases hro:decide ((q.G.length:Int)<room)<;>rw [hro] at hr
    ·rw [cond_false] at hr
     obtain ⟨a1,a2,a3,a4⟩:=ih _ hr (hi.set g2 hy g4 _ rfl (.inl rfl))
     refine ⟨a1.trans ?_,a2,a3,a4⟩
     have:=perm_mv (List.map keyG q.G++q.W) q.T ((L'.filter (goB node busy)).map keyB) (keyB b)
     simpa [DK,List.append_assoc] using this
    ·rw [cond_true] at hr
     obtain ⟨a1,⟨G',a2,a2'⟩,a3,a4⟩:=ih _ hr (hi.set g2 hy g4 _ rfl (.inr rfl))
     refine ⟨a1.trans ?_,⟨_::G',by rw [a2,List.append_assoc];rfl,.cons _ b j z0 y _ _ _ hb rfl rfl hi.left hy (by omega) hz a2'⟩,fun hgs=>a3 ?_,fun _=>a4 ?_⟩
     ·have:=perm_mv (List.map keyG q.G) (q.W++q.T) ((L'.filter (goB node busy)).map keyB) (keyB b)
      simpa [DK,List.append_assoc,keyG] using this
     ·intro g hg'
      rcases List.mem_append.1 hg' with h | h
      ·exact hgs g h
      ·rw [List.mem_singleton] at h
       subst h
       unfold openB at ho
       simp only [Bool.and_eq_true,decide_eq_true_iff] at ho
       exact ⟨j,ct,rfl,hct,g3,rfl,ho.1,ho.2⟩
     ·rw [List.length_append,List.length_singleton]
      have:=of_decide_eq_true hro
      omega
section
variable {α β:Type} [DecidableEq α]
theorem mfnd_app (a:α) (v:β) (c:α):∀ (l:List (α×β)) (i:Nat),mfnd (l++[(a,v)]) c i=match mfnd l c i with | some q=>some q | none=>if a=c then some (i+l.length,v) else none
 | [],i=>by simp only [List.nil_append,mfnd,List.length_nil,Nat.add_zero]
 | e::r,i=>by
  rw [List.cons_append,mfnd,mfnd]
  split
  ·rfl
  ·rw [mfnd_app a v c r (i+1),List.length_cons,show i+1+r.length=i+(r.length+1) by omega]
theorem mfnd_set (a:α) (v v0:β) (c:α):∀ (l:List (α×β)) (i m:Nat),mfnd l a i=some (m,v0)→mfnd (l.set (m - i) (a,v)) c i=if a=c then some (m,v) else mfnd l c i
 | [],i,m,h=>by cases h
 | e::r,i,m,h=>by
  rw [mfnd] at h
  by_cases he:e.1=a
  ·rw [if_pos he] at h
   cases h
   rw [Nat.sub_self,List.set_cons_zero,mfnd,mfnd]
   by_cases hc:a=c
   ·rw [if_pos hc,if_pos hc]
   ·rw [if_neg hc,if_neg hc,if_neg (by rw [he];exact hc)]
  ·rw [if_neg he] at h
   have h1:=(mfnd_get r a (i+1) m v0 h).1
   rw [show m - i=(m - (i+1))+1 by omega,List.set_cons_succ,mfnd,mfnd,mfnd_set a v v0 c r (i+1) m h]
   by_cases hc:a=c
   ·rw [if_pos hc,if_neg (by rw [←hc];exact he),if_pos hc]
   ·rw [if_neg hc,if_neg hc]
theorem mget_mput (l:List (α×β)) (a c:α) (v z:β):mget (mput l a v) c z=if a=c then v else mget l c z:=by
 unfold mput
 cases h:mfnd l a 0 with
 | none =>
  unfold mget
  simp only [mfnd_app]
  by_cases hc:a=c
  ·subst hc;rw [h,if_pos rfl,if_pos rfl]
  ·rw [if_neg hc,if_neg hc];cases mfnd l c 0<;>rfl
 | some q =>
  obtain ⟨m,v0⟩:=q
  unfold mget
  have:=mfnd_set a v v0 c l 0 m h
  rw [Nat.sub_zero] at this
  simp only [this]
  by_cases hc:a=c
  ·rw [if_pos hc,if_pos hc]
  ·rw [if_neg hc,if_neg hc]
theorem mfnd_none (c:α):∀ (l:List (α×β)) (i:Nat),c ∉ l.map Prod.fst→mfnd l c i=none
 | [],_,_=>rfl
 | e::r,i,h=>by
  rw [List.map_cons,List.mem_cons,not_or] at h
  rw [mfnd,if_neg (fun e=>h.1 e.symm),mfnd_none c r (i+1) h.2]
end
def bump (m:List (Ky×Int)) (c:Ky):List (Ky×Int):=mput m c (IntKind.i64.wrap (mget m c 0+1))
def ones (l:List Ky):List (Ky×Int):=l.map fun c=>(c,1)
theorem bump_new (l:List Ky) (c:Ky) (h:c ∉ l):bump (ones l) c=ones (l++[c]):=by
 have:=mfnd_none c (ones l) 0 (by unfold ones;rw [List.map_map];simpa using h)
 unfold bump mput mget
 rw [this]
 simp only [ones,List.map_append,List.map_cons,List.map_nil]
 rfl
theorem bumps:∀ (D E:List Ky),(E++D).Nodup→D.foldl bump (ones E)=ones (E++D)
 | [],E,_=>by simp
 | c::D,E,h=>by
  rw [List.foldl_cons,bump_new E c (fun hc=>by rw [List.nodup_append] at h;exact h.2.2 c hc c (List.mem_cons_self ..) rfl),bumps D (E++[c]) (by simpa using h)]
  simp
theorem ones_get (D:List Ky) (c:Ky):mget (ones D) c 0=if c∈D then 1 else 0:=by
 have key:∀ (D:List Ky) (i:Nat),(match mfnd (ones D) c i with | some q=>q.2 | none=>0)=if c∈D then (1:Int) else 0:=by
  intro D
  induction D with
  | nil=>intro i;simp [ones,mfnd]
  | cons a D ih =>
   intro i
   simp only [ones,List.map_cons,mfnd]
   by_cases h:a=c
   ·rw [if_pos h,if_pos (by rw [h];exact List.mem_cons_self ..)]
   ·rw [if_neg h]
    have:=ih (i+1)
    unfold ones at this
    rw [this]
    by_cases hc:c∈D
    ·rw [if_pos hc,if_pos (List.mem_cons_of_mem _ hc)]
    ·rw [if_neg hc,if_neg (fun h'=>(List.mem_cons.1 h').elim (fun e=>h e.symm) hc)]
 have:=key D 0
 unfold mget
 revert this
 cases mfnd (ones D) c 0<;>exact id
theorem sameK_iff (c x:Ky):sameK c x=true↔c=x:=by
 obtain ⟨a,b,d⟩:=c
 obtain ⟨a',b',d'⟩:=x
 simp [sameK]
def flag (m:List (Ky×Bool)) (c:Ky):List (Ky×Bool):=mput m c true
theorem flags (c:Ky):∀ (l:List Ky) (m:List (Ky×Bool)),mget (l.foldl flag m) c false=(l.any (sameK c)||mget m c false)
 | [],m=>by simp
 | a::l,m=>by
  rw [List.foldl_cons,flags c l,List.any_cons]
  unfold flag
  rw [mget_mput]
  by_cases h:a=c
  ·rw [if_pos h,(sameK_iff c a).2 h.symm];simp
  ·rw [if_neg h,show sameK c a=false by rw [←Bool.not_eq_true,sameK_iff];exact fun e=>h e.symm,Bool.false_or]
end Go.Proofs.YtiompmmbjpjjeaaDoorV