/- Sorting: some order of what was there. -/
import Derived.Test.YtiompmmbjpjjeaaDoorVPBun
import Derived.Test.YtiompmmbjpjjeaaDoorVP18
namespace Go.Proofs.YtiompmmbjpjjeaaDoorV
open Go
set_option linter.unusedVariables false
set_option linter.unusedSimpArgs false
theorem wN {a b:Nat} (h:a+b<4611686018427387904):IntKind.i64.wrap ((a:Int)+(b:Int))=((a+b:Nat):Int):=by rw [wrap_i64 (by omega) (by omega)];omega
theorem wS {a b:Nat} (h:b≤a) (h2:a<4611686018427387904):IntKind.i64.wrap ((a:Int) - (b:Int))=((a - b:Nat):Int):=by rw [wrap_i64 (by omega) (by omega)];omega
theorem w1 {a:Nat} (h:a<4611686018427387904):IntKind.i64.wrap ((a:Int)+1)=((a+1:Nat):Int):=by rw [wrap_i64 (by omega) (by omega)];omega
theorem wm1 {a:Nat} (h0:1≤a) (h:a<4611686018427387904):IntKind.i64.wrap ((a:Int) - 1)=((a - 1:Nat):Int):=by rw [wrap_i64 (by omega) (by omega)];omega
theorem half {a b:Nat} (h:a+b<4611686018427387904):IntKind.i64.wrap (Int.fdiv (IntKind.u64.wrap (IntKind.i64.wrap ((a:Int)+(b:Int)))) (2 ^ (min 1 (IntKind.bits .u64))))=(((a+b) / 2:Nat):Int):=by
 rw [wN h,wrap_u64 (by omega) (by omega)]
 have e:(2:Int) ^ (min 1 (IntKind.bits .u64))=2:=rfl
 rw [e,Int.fdiv_eq_ediv_of_nonneg _ (by omega),wrap_i64 (by omega) (by omega)]
 omega
structure Sub (l E:List Bun):Prop where
 mk_ ::
 perm:E.Perm l
theorem Sub.l {l E:List Bun} (h:Sub l E):E.length=l.length:=h.perm.length_eq
theorem Sub.swap {l E:List Bun} (h:Sub l E) {p q:Nat} {u v:Bun} (hu:E[q]?=some u) (hv:E[p]?=some v):Sub l ((E.set p u).set q v):=by
 obtain ⟨h1,rfl⟩:=List.getElem?_eq_some_iff.1 hu
 obtain ⟨h2,rfl⟩:=List.getElem?_eq_some_iff.1 hv
 exact ⟨(List.set_set_perm h2 h1).trans h.perm⟩
theorem cmp_at (k:Nat) (hk:5≤k) (a b:Bun):∃ v,f29 k a.Source a.Dest a.Seq a.Created a.Lifetime a.HopLimit a.Hops a.Priority a.Offset a.Total a.Payload b.Source b.Dest b.Seq b.Created b.Lifetime b.HopLimit b.Hops b.Priority b.Offset b.Total b.Payload=some (.o0 v):=by
 obtain ⟨k,rfl⟩:∃ m,k=m+3:=⟨k - 3,by omega⟩
 obtain ⟨v,hv⟩:∃ v,f30 (k+2) b.Priority a.Priority=some (.o0 v):=by
  simp only [f30,f30_e,f30_j2,f30_j3,f30_j4,f30_j5,f50,f50_e,bne_self_eq_false,Option.bind_some,cond_false]
  cases decide (b.Priority<a.Priority)
  ·cases decide (b.Priority>a.Priority)
   ·exact ⟨0,rfl⟩
   ·exact ⟨1,rfl⟩
  ·exact ⟨-1,rfl⟩
 exact ⟨v,by simp only [f29,f29_e,hv,Option.bind_some]⟩
theorem swp_l (k:Nat) (a b n:Nat) (l:List Bun) (hl:l.length≤1000) (ha:a+n≤l.length) (hb:b+n≤l.length):∀ (d i m:Nat) (E:List Bun),i+d=n→d<m→Sub l E →
 ∃ E',f80_l1 k m a b n i E=some (.o1 a b n n false E')∧Sub l E':=by
 intro d
 induction d with
 | zero =>
  intro i m E hi hm hE
  obtain ⟨m,rfl⟩:∃ j,m=j+1:=⟨m - 1,by omega⟩
  have e:i=n:=by omega
  subst e
  exact ⟨E,by simp only [f80_l1,f80_l1_b,decide_eq_false (Int.lt_irrefl _),cond_false,Option.bind_some],hE⟩
 | succ d ih =>
  intro i m E hi hm hE
  obtain ⟨m,rfl⟩:∃ j,m=j+1:=⟨m - 1,by omega⟩
  have lE:=hE.l
  have ga:E[a+i]?=some (E[a+i]'(by omega)):=List.getElem?_eq_getElem (by omega)
  have gb:E[b+i]?=some (E[b+i]'(by omega)):=List.getElem?_eq_getElem (by omega)
  have ls:(E.set (a+i) (E[b+i]'(by omega))).length=E.length:=List.length_set
  have gs:(E.set (a+i) (E[b+i]'(by omega)))[b+i]?=some ((E.set (a+i) (E[b+i]'(by omega)))[b+i]'(by omega)):=List.getElem?_eq_getElem (by omega)
  obtain ⟨E',e1,e2⟩:=ih (i+1) m ((E.set (a+i) (E[b+i]'(by omega))).set (b+i) (E[a+i]'(by omega))) (by omega) (by omega) (hE.swap gb ga)
  refine ⟨E',?_,e2⟩
  rw [←e1]
  simp only [f80_l1,f80_l1_b,f80_l1_j1,f80_l1_j2,decide_eq_true (show (i:Int)<(n:Int) by omega),cond_true,wN (show b+i<4611686018427387904 by omega),wN (show a+i<4611686018427387904 by omega),w1 (show i<4611686018427387904 by omega),ifE_pos (show (0:Int)≤((b+i:Nat):Int) by omega),ifE_pos (show (0:Int)≤((a+i:Nat):Int) by omega),ifE_pos (show ((b+i:Nat):Int)<(E.length:Int) by omega),ifE_pos (show ((a+i:Nat):Int)<(E.length:Int) by omega),Int.toNat_natCast,ga,gb,gs,ls,Option.bind_some]
theorem swp_at (k:Nat) (a b n:Nat) (l E:List Bun) (hk:n+2≤k) (hl:l.length≤1000) (ha:a+n≤l.length) (hb:b+n≤l.length) (hE:Sub l E):∃ E',f80 k a b n E=some (.o0 E')∧Sub l E':=by
 obtain ⟨k,rfl⟩:∃ m,k=m+1:=⟨k - 1,by omega⟩
 obtain ⟨E',e1,e2⟩:=swp_l k a b n l hl ha hb n 0 k E (by omega) (by omega) hE
 rw [Int.natCast_zero] at e1
 exact ⟨E',by simp only [f80,f80_e,e1,Option.bind_some],e2⟩
theorem rot_l (k:Nat) (m:Nat) (l:List Bun) (hl:l.length≤1000) (hk:1100≤k):∀ (d i j n:Nat) (E:List Bun),i+j≤d→d<n→1≤i→1≤j→i≤m→m+j≤l.length→Sub l E →
 ∃ (i':Nat) (E':List Bun),1≤i'∧i'≤m∧m+i'≤l.length∧f74_l1 k n m i j E=some (.o1 m i' i' false E')∧Sub l E':=by
 intro d
 induction d with
 | zero=>intro i j n E h1 h2 h3;omega
 | succ d ih =>
  intro i j n E h1 h2 h3 h4 h5 h6 hE
  obtain ⟨n,rfl⟩:∃ q,n=q+1:=⟨n - 1,by omega⟩
  by_cases he:i=j
  ·subst he
   exact ⟨i,E,h3,h5,h6,by simp only [f74_l1,f74_l1_b,bne_self_eq_false,cond_false,Option.bind_some],hE⟩
  have hne:((i:Int) != (j:Int))=true:=by rw [bne_iff_ne];omega
  by_cases hgt:j<i
  ·obtain ⟨E1,s1,s2⟩:=swp_at k (m - i) m j l E (by omega) hl (by omega) (by omega) hE
   obtain ⟨i',E',a1,a2,a3,a4,a5⟩:=ih (i - j) j n E1 (by omega) (by omega) (by omega) h4 (by omega) h6 s2
   refine ⟨i',E',a1,a2,a3,?_,a5⟩
   rw [←a4]
   simp only [f74_l1,f74_l1_b,f74_l1_j1,hne,cond_true,decide_eq_true (show (i:Int)>(j:Int) by omega),wS (show i≤m by omega) (by omega),wS (show j≤i by omega) (by omega),s1,Option.bind_some]
  ·obtain ⟨E1,s1,s2⟩:=swp_at k (m - i) (m+j - i) i l E (by omega) hl (by omega) (by omega) hE
   obtain ⟨i',E',a1,a2,a3,a4,a5⟩:=ih i (j - i) n E1 (by omega) (by omega) h3 (by omega) h5 (by omega) s2
   refine ⟨i',E',a1,a2,a3,?_,a5⟩
   rw [←a4]
   simp only [f74_l1,f74_l1_b,f74_l1_j1,hne,cond_true,cond_false,decide_eq_false (show ¬(i:Int)>(j:Int) by omega),wS (show i≤m by omega) (by omega),wN (show m+j<4611686018427387904 by omega),wS (show i≤m+j by omega) (by omega),wS (show i≤j by omega) (by omega),s1,Option.bind_some]
theorem rot_at (k:Nat) (a m b:Nat) (l E:List Bun) (hk:2100≤k) (hl:l.length≤1000) (h1:a<m) (h2:m<b) (h3:b≤l.length) (hE:Sub l E):∃ E',f74 k a m b E=some (.o0 E')∧Sub l E':=by
 obtain ⟨k,rfl⟩:∃ m,k=m+1:=⟨k - 1,by omega⟩
 obtain ⟨i',E1,a1,a2,a3,a4,a5⟩:=rot_l k m l hl (by omega) (b - a) (m - a) (b - m) k E (by omega) (by omega) (by omega) (by omega) (by omega) (by omega) hE
 obtain ⟨E',s1,s2⟩:=swp_at k (m - i') m i' l E1 (by omega) hl (by omega) (by omega) a5
 exact ⟨E',by simp only [f74,f74_e,wS (show a≤m by omega) (by omega),wS (show m≤b by omega) (by omega),a4,Option.bind_some,f74_j2,wS a2 (by omega),s1],s2⟩
theorem sym_l1 (k:Nat) (hk:10≤k) (q:Int→Int→Int→List Bun→Option R67) (a:Nat) (l E:List Bun) (hl:l.length≤1000) (ha:a<l.length) (hE:Sub l E):∀ (d i j n:Nat),j - i≤d→d<n→i≤j→j≤l.length →
 ∃ i':Nat,i≤i'∧i'≤j∧f67_l1 k q n a i j E=some (.o1 a i' i' false E):=by
 intro d
 induction d with
 | zero =>
  intro i j n h1 h2 h3 h4
  obtain ⟨n,rfl⟩:∃ q,n=q+1:=⟨n - 1,by omega⟩
  have e:i=j:=by omega
  subst e
  exact ⟨i,Nat.le_refl _,Nat.le_refl _,by simp only [f67_l1,f67_l1_b,decide_eq_false (Int.lt_irrefl _),cond_false,Option.bind_some]⟩
 | succ d ih =>
  intro i j n h1 h2 h3 h4
  obtain ⟨n,rfl⟩:∃ q,n=q+1:=⟨n - 1,by omega⟩
  by_cases e:i=j
  ·subst e
   exact ⟨i,Nat.le_refl _,Nat.le_refl _,by simp only [f67_l1,f67_l1_b,decide_eq_false (Int.lt_irrefl _),cond_false,Option.bind_some]⟩
  have lE:=hE.l
  have hh:(i+j) / 2<E.length:=by omega
  have g1:E[(i+j) / 2]?=some E[(i+j) / 2]:=List.getElem?_eq_getElem hh
  have g2:E[a]?=some (E[a]'(by omega)):=List.getElem?_eq_getElem (by omega)
  obtain ⟨v,hv⟩:=cmp_at k (by omega) E[(i+j) / 2] (E[a]'(by omega))
  have step:f67_l1 k q (n+1) a i j E=cond (decide (v<0)) (f67_l1 k q n a ((i+j) / 2+1:Nat) j E) (f67_l1 k q n a i ((i+j) / 2:Nat) E):=by
   simp only [f67_l1,f67_l1_b,f67_l1_j1,decide_eq_true (show (i:Int)<(j:Int) by omega),cond_true,half (show i+j<4611686018427387904 by omega),ifE_pos (show (0:Int)≤(((i+j) / 2:Nat):Int) by omega),ifE_pos (show (((i+j) / 2:Nat):Int)<(E.length:Int) by omega),ifE_pos (show (0:Int)≤(a:Int) by omega),ifE_pos (show (a:Int)<(E.length:Int) by omega),Int.toNat_natCast,g1,g2,Option.bind_some,hv,w1 (show (i+j) / 2<4611686018427387904 by omega)]
   cases decide (v<0)<;>simp only [cond_true,cond_false,Option.bind_some]
  rw [step]
  cases decide (v<0)
  ·obtain ⟨i',a1,a2,a3⟩:=ih i ((i+j) / 2) n (by omega) (by omega) (by omega) (by omega)
   exact ⟨i',a1,by omega,by rw [cond_false];exact a3⟩
  ·obtain ⟨i',a1,a2,a3⟩:=ih ((i+j) / 2+1) j n (by omega) (by omega) (by omega) (by omega)
   exact ⟨i',by omega,a2,by rw [cond_true];exact a3⟩
theorem sym_l6 (k:Nat) (hk:10≤k) (q:Int→Int→Int→List Bun→Option R67) (a:Nat) (l E:List Bun) (hl:l.length≤1000) (ha:a<l.length) (hE:Sub l E):∀ (d i j n:Nat),j - i≤d→d<n→i≤j→j≤l.length →
 ∃ i':Nat,i≤i'∧i'≤j∧f67_l6 k q n a i j E=some (.o1 a i' i' false E):=by
 intro d
 induction d with
 | zero =>
  intro i j n h1 h2 h3 h4
  obtain ⟨n,rfl⟩:∃ q,n=q+1:=⟨n - 1,by omega⟩
  have e:i=j:=by omega
  subst e
  exact ⟨i,Nat.le_refl _,Nat.le_refl _,by simp only [f67_l6,f67_l6_b,decide_eq_false (Int.lt_irrefl _),cond_false,Option.bind_some]⟩
 | succ d ih =>
  intro i j n h1 h2 h3 h4
  obtain ⟨n,rfl⟩:∃ q,n=q+1:=⟨n - 1,by omega⟩
  by_cases e:i=j
  ·subst e
   exact ⟨i,Nat.le_refl _,Nat.le_refl _,by simp only [f67_l6,f67_l6_b,decide_eq_false (Int.lt_irrefl _),cond_false,Option.bind_some]⟩
  have lE:=hE.l
  have hh:(i+j) / 2<E.length:=by omega
  have g1:E[(i+j) / 2]?=some E[(i+j) / 2]:=List.getElem?_eq_getElem hh
  have g2:E[a]?=some (E[a]'(by omega)):=List.getElem?_eq_getElem (by omega)
  obtain ⟨v,hv⟩:=cmp_at k (by omega) (E[a]'(by omega)) E[(i+j) / 2]
  have step:f67_l6 k q (n+1) a i j E=cond (!decide (v<0)) (f67_l6 k q n a ((i+j) / 2+1:Nat) j E) (f67_l6 k q n a i ((i+j) / 2:Nat) E):=by
   simp only [f67_l6,f67_l6_b,f67_l6_j1,decide_eq_true (show (i:Int)<(j:Int) by omega),cond_true,half (show i+j<4611686018427387904 by omega),ifE_pos (show (0:Int)≤(((i+j) / 2:Nat):Int) by omega),ifE_pos (show (((i+j) / 2:Nat):Int)<(E.length:Int) by omega),ifE_pos (show (0:Int)≤(a:Int) by omega),ifE_pos (show (a:Int)<(E.length:Int) by omega),Int.toNat_natCast,g1,g2,Option.bind_some,hv,w1 (show (i+j) / 2<4611686018427387904 by omega)]
   cases decide (v<0)<;>simp only [Bool.not_true,Bool.not_false,cond_true,cond_false,Option.bind_some]
  rw [step]
  cases decide (v<0)
  ·obtain ⟨i',a1,a2,a3⟩:=ih ((i+j) / 2+1) j n (by omega) (by omega) (by omega) (by omega)
   exact ⟨i',by omega,a2,by rw [Bool.not_false,cond_true];exact a3⟩
  ·obtain ⟨i',a1,a2,a3⟩:=ih i ((i+j) / 2) n (by omega) (by omega) (by omega) (by omega)
   exact ⟨i',a1,by omega,by rw [Bool.not_true,cond_false];exact a3⟩
theorem sym_l3 (k:Nat) (q:Int→Int→Int→List Bun→Option R67) (i:Nat) (l:List Bun) (hl:l.length≤1000) (h0:1≤i) (hi:i≤l.length):∀ (d t n:Nat) (E:List Bun),i - 1 - t≤d→d<n→Sub l E →
 ∃ (t':Nat) (E':List Bun),f67_l3 k q n i t E=some (.o1 i t' false E')∧Sub l E':=by
 intro d
 have hw:=wm1 h0 (show i<4611686018427387904 by omega)
 induction d with
 | zero =>
  intro t n E h1 h2 hE
  obtain ⟨n,rfl⟩:∃ q,n=q+1:=⟨n - 1,by omega⟩
  exact ⟨t,E,by simp only [f67_l3,f67_l3_b,hw,decide_eq_false (show ¬(t:Int)<((i - 1:Nat):Int) by omega),cond_false,Option.bind_some],hE⟩
 | succ d ih =>
  intro t n E h1 h2 hE
  obtain ⟨n,rfl⟩:∃ q,n=q+1:=⟨n - 1,by omega⟩
  by_cases hlt:t<i - 1
  case neg=>exact ⟨t,E,by simp only [f67_l3,f67_l3_b,hw,decide_eq_false (show ¬(t:Int)<((i - 1:Nat):Int) by omega),cond_false,Option.bind_some],hE⟩
  have lE:=hE.l
  have ga:E[t]?=some (E[t]'(by omega)):=List.getElem?_eq_getElem (by omega)
  have gb:E[t+1]?=some (E[t+1]'(by omega)):=List.getElem?_eq_getElem (by omega)
  have ls:(E.set t (E[t+1]'(by omega))).length=E.length:=List.length_set
  have gs:(E.set t (E[t+1]'(by omega)))[t+1]?=some ((E.set t (E[t+1]'(by omega)))[t+1]'(by omega)):=List.getElem?_eq_getElem (by omega)
  obtain ⟨t',E',e1,e2⟩:=ih (t+1) n ((E.set t (E[t+1]'(by omega))).set (t+1) (E[t]'(by omega))) (by omega) (by omega) (hE.swap gb ga)
  refine ⟨t',E',?_,e2⟩
  rw [←e1]
  simp only [f67_l3,f67_l3_b,f67_l3_j1,f67_l3_j2,hw,decide_eq_true (show (t:Int)<((i - 1:Nat):Int) by omega),cond_true,w1 (show t<4611686018427387904 by omega),ifE_pos (show (0:Int)≤((t+1:Nat):Int) by omega),ifE_pos (show ((t+1:Nat):Int)<(E.length:Int) by omega),ifE_pos (show (0:Int)≤(t:Int) by omega),ifE_pos (show (t:Int)<(E.length:Int) by omega),Int.toNat_natCast,ga,gb,gs,ls,Option.bind_some]
theorem sym_l8 (k:Nat) (q:Int→Int→Int→List Bun→Option R67) (i:Nat) (l:List Bun) (hl:l.length≤1000):∀ (d t n:Nat) (E:List Bun),t - i≤d→d<n→t<l.length→Sub l E →
 ∃ (t':Nat) (E':List Bun),f67_l8 k q n i t E=some (.o1 i t' false E')∧Sub l E':=by
 intro d
 induction d with
 | zero =>
  intro t n E h1 h2 h3 hE
  obtain ⟨n,rfl⟩:∃ q,n=q+1:=⟨n - 1,by omega⟩
  exact ⟨t,E,by simp only [f67_l8,f67_l8_b,decide_eq_false (show ¬(t:Int)>(i:Int) by omega),cond_false,Option.bind_some],hE⟩
 | succ d ih =>
  intro t n E h1 h2 h3 hE
  obtain ⟨n,rfl⟩:∃ q,n=q+1:=⟨n - 1,by omega⟩
  by_cases hlt:i<t
  case neg=>exact ⟨t,E,by simp only [f67_l8,f67_l8_b,decide_eq_false (show ¬(t:Int)>(i:Int) by omega),cond_false,Option.bind_some],hE⟩
  have lE:=hE.l
  have ga:E[t]?=some (E[t]'(by omega)):=List.getElem?_eq_getElem (by omega)
  have gb:E[t - 1]?=some (E[t - 1]'(by omega)):=List.getElem?_eq_getElem (by omega)
  have ls:(E.set t (E[t - 1]'(by omega))).length=E.length:=List.length_set
  have gs:(E.set t (E[t - 1]'(by omega)))[t - 1]?=some ((E.set t (E[t - 1]'(by omega)))[t - 1]'(by omega)):=List.getElem?_eq_getElem (by omega)
  obtain ⟨t',E',e1,e2⟩:=ih (t - 1) n ((E.set t (E[t - 1]'(by omega))).set (t - 1) (E[t]'(by omega))) (by omega) (by omega) (by omega) (hE.swap gb ga)
  refine ⟨t',E',?_,e2⟩
  rw [←e1]
  simp only [f67_l8,f67_l8_b,f67_l8_j1,f67_l8_j2,decide_eq_true (show (t:Int)>(i:Int) by omega),cond_true,wm1 (show 1≤t by omega) (show t<4611686018427387904 by omega),ifE_pos (show (0:Int)≤((t - 1:Nat):Int) by omega),ifE_pos (show ((t - 1:Nat):Int)<(E.length:Int) by omega),ifE_pos (show (0:Int)≤(t:Int) by omega),ifE_pos (show (t:Int)<(E.length:Int) by omega),Int.toNat_natCast,ga,gb,gs,ls,Option.bind_some]
theorem sym_l12 (k:Nat) (hk:10≤k) (q:Int→Int→Int→List Bun→Option R67) (a m b mid nn p:Nat) (l E:List Bun) (hl:l.length≤1000) (hE:Sub l E) (s0 r0:Nat) (hp:r0≤p+1) (hp2:p<s0+l.length) (hr:r0≤l.length):∀ (d i j n:Nat),j - i≤d→d<n→s0≤i→i≤j→j≤r0 →
 ∃ i':Nat,i≤i'∧i'≤j∧f67_l12 k q n a m b mid nn i j p E=some (.o1 a m b mid nn i' i' p false E):=by
 intro d
 induction d with
 | zero =>
  intro i j n h1 h2 h0 h3 h4
  obtain ⟨n,rfl⟩:∃ q,n=q+1:=⟨n - 1,by omega⟩
  have e:i=j:=by omega
  subst e
  exact ⟨i,Nat.le_refl _,Nat.le_refl _,by simp only [f67_l12,f67_l12_b,decide_eq_false (Int.lt_irrefl _),cond_false,Option.bind_some]⟩
 | succ d ih =>
  intro i j n h1 h2 h0 h3 h4
  obtain ⟨n,rfl⟩:∃ q,n=q+1:=⟨n - 1,by omega⟩
  by_cases e:i=j
  ·subst e
   exact ⟨i,Nat.le_refl _,Nat.le_refl _,by simp only [f67_l12,f67_l12_b,decide_eq_false (Int.lt_irrefl _),cond_false,Option.bind_some]⟩
  have lE:=hE.l
  have hh:(i+j) / 2<E.length:=by omega
  have hpc:p - (i+j) / 2<E.length:=by omega
  have g1:E[(i+j) / 2]?=some E[(i+j) / 2]:=List.getElem?_eq_getElem hh
  have g2:E[p - (i+j) / 2]?=some E[p - (i+j) / 2]:=List.getElem?_eq_getElem hpc
  obtain ⟨v,hv⟩:=cmp_at k (by omega) E[p - (i+j) / 2] E[(i+j) / 2]
  have step:f67_l12 k q (n+1) a m b mid nn i j p E=cond (!decide (v<0)) (f67_l12 k q n a m b mid nn ((i+j) / 2+1:Nat) j p E) (f67_l12 k q n a m b mid nn i ((i+j) / 2:Nat) p E):=by
   simp only [f67_l12,f67_l12_b,f67_l12_j1,decide_eq_true (show (i:Int)<(j:Int) by omega),cond_true,half (show i+j<4611686018427387904 by omega),wS (show (i+j) / 2≤p by omega) (show p<4611686018427387904 by omega),ifE_pos (show (0:Int)≤(((i+j) / 2:Nat):Int) by omega),ifE_pos (show (((i+j) / 2:Nat):Int)<(E.length:Int) by omega),ifE_pos (show (0:Int)≤((p - (i+j) / 2:Nat):Int) by omega),ifE_pos (show ((p - (i+j) / 2:Nat):Int)<(E.length:Int) by omega),Int.toNat_natCast,g1,g2,Option.bind_some,hv,w1 (show (i+j) / 2<4611686018427387904 by omega)]
   cases decide (v<0)<;>simp only [Bool.not_true,Bool.not_false,cond_true,cond_false,Option.bind_some]
  rw [step]
  cases decide (v<0)
  ·obtain ⟨i',a1,a2,a3⟩:=ih ((i+j) / 2+1) j n (by omega) (by omega) (by omega) (by omega) (by omega)
   exact ⟨i',by omega,a2,by rw [Bool.not_false,cond_true];exact a3⟩
  ·obtain ⟨i',a1,a2,a3⟩:=ih i ((i+j) / 2) n (by omega) (by omega) (by omega) (by omega) (by omega)
   exact ⟨i',a1,by omega,by rw [Bool.not_true,cond_false];exact a3⟩
theorem sym_at (l:List Bun) (hl:l.length≤1000):∀ (d k a m b:Nat) (E:List Bun),b - a≤d→d+2200≤k→a<m→m<b→b≤l.length→Sub l E→∃ E',f67 k a m b E=some (.o0 E')∧Sub l E':=by
 intro d
 induction d with
 | zero=>intro k a m b E h1 h2 h3 h4;omega
 | succ d ih =>
  intro k a m b E h1 h2 h3 h4 h5 hE
  obtain ⟨k,rfl⟩:∃ q,k=q+1:=⟨k - 1,by omega⟩
  have again:∀ (a m b:Nat) (E:List Bun),b - a≤d→a<m→m<b→b≤l.length→Sub l E→∃ E',f67 k a m b E=some (.o0 E')∧Sub l E':=fun a m b E g1 g2 g3 g4 g5=>ih k a m b E g1 (by omega) g2 g3 g4 g5
  have hma:=wS (show a≤m by omega) (show m<4611686018427387904 by omega)
  have hbm:=wS (show m≤b by omega) (show b<4611686018427387904 by omega)
  by_cases c1:m - a=1
  ·obtain ⟨i',a1,a2,a3⟩:=sym_l1 k (by omega) (f67 k) a l E hl (by omega) hE (b - m) m b k (by omega) (by omega) (by omega) h5
   obtain ⟨t',E',e1,e2⟩:=sym_l3 k (f67 k) i' l hl (by omega) (by omega) i' a k E (by omega) (by omega) hE
   have hc:(((m - a:Nat):Int)==1)=true:=by rw [c1];rfl
   exact ⟨E',by simp only [f67,f67_e,hma,hc,cond_true,a3,Option.bind_some,f67_j2,e1,f67_j4],e2⟩
  have hc1:(((m - a:Nat):Int)==1)=false:=by rw [beq_eq_false_iff_ne];omega
  by_cases c2:b - m=1
  ·obtain ⟨i',a1,a2,a3⟩:=sym_l6 k (by omega) (f67 k) m l E hl (by omega) hE (m - a) a m k (by omega) (by omega) (by omega) (by omega)
   obtain ⟨t',E',e1,e2⟩:=sym_l8 k (f67 k) i' l hl m m k E (by omega) (by omega) (by omega) hE
   have hc:(((b - m:Nat):Int)==1)=true:=by rw [c2];rfl
   exact ⟨E',by simp only [f67,f67_e,hma,hc1,cond_false,f67_j5,hbm,hc,cond_true,a3,Option.bind_some,f67_j7,e1,f67_j9],e2⟩
  have hc2:(((b - m:Nat):Int)==1)=false:=by rw [beq_eq_false_iff_ne];omega
  have hmid:=half (show a+b<4611686018427387904 by omega)
  generalize hM:(a+b) / 2=mid at *
  have hn:=wN (show mid+m<4611686018427387904 by omega)
  -- what comes behind the search,from where it stopped
  have tail:∀ (s r:Nat),a≤s→s≤m→s≤mid→mid+m - s≤b→m≤mid+m - s→mid≤mid+m - s→∃ E',f67_j13 k (f67 k) a m b mid ((mid+m:Nat):Int) s r ((mid+m - 1:Nat):Int) false E=some (.o0 E')∧Sub l E':=by
   intro s r g1 g2 g3 g4 g5 g6
   have he:=wS (show s≤mid+m by omega) (show mid+m<4611686018427387904 by omega)
   generalize hEnd:mid+m - s=en at *
   -- the second half
   have t2:∀ E1,Sub l E1→∃ E',f67_j15 k (f67 k) b mid en E1=some (.o0 E')∧Sub l E':=by
    intro E1 s1
    by_cases q1:mid<en
    ·by_cases q2:en<b
     ·obtain ⟨E',e1,e2⟩:=again mid en b E1 (by omega) q1 q2 h5 s1
      exact ⟨E',by simp only [f67_j15,decide_eq_true (show (mid:Int)<(en:Int) by omega),decide_eq_true (show (en:Int)<(b:Int) by omega),cond_true,e1,Option.bind_some],e2⟩
     ·exact ⟨E1,by simp only [f67_j15,decide_eq_true (show (mid:Int)<(en:Int) by omega),decide_eq_false (show ¬(en:Int)<(b:Int) by omega),cond_true,cond_false],s1⟩
    ·exact ⟨E1,by simp only [f67_j15,decide_eq_false (show ¬(mid:Int)<(en:Int) by omega),cond_false],s1⟩
   have t2':∀ E1,Sub l E1→∃ E',f67_j16 k (f67 k) a b mid s en false E1=some (.o0 E')∧Sub l E':=t2
   have t1:∀ E1,Sub l E1→∃ E',f67_j14 k (f67 k) a b mid s en E1=some (.o0 E')∧Sub l E':=by
    intro E1 s1
    by_cases q1:a<s
    ·by_cases q2:s<mid
     ·obtain ⟨E2,e1,e2⟩:=again a s mid E1 (by omega) q1 q2 (by omega) s1
      obtain ⟨E',f1,f2⟩:=t2 E2 e2
      exact ⟨E',by simp only [f67_j14,decide_eq_true (show (a:Int)<(s:Int) by omega),decide_eq_true (show (s:Int)<(mid:Int) by omega),cond_true,e1,Option.bind_some,f1],f2⟩
     ·obtain ⟨E',f1,f2⟩:=t2' E1 s1
      exact ⟨E',by simp only [f67_j14,decide_eq_true (show (a:Int)<(s:Int) by omega),decide_eq_false (show ¬(s:Int)<(mid:Int) by omega),cond_true,cond_false,f1],f2⟩
    ·obtain ⟨E',f1,f2⟩:=t2' E1 s1
     exact ⟨E',by simp only [f67_j14,decide_eq_false (show ¬(a:Int)<(s:Int) by omega),cond_false,f1],f2⟩
   have t1':∀ E1,Sub l E1→∃ E',f67_j17 k (f67 k) a m b mid s en false E1=some (.o0 E')∧Sub l E':=t1
   by_cases q1:s<m
   ·by_cases q2:m<en
    ·obtain ⟨E1,e1,e2⟩:=rot_at k s m en l E (by omega) hl q1 q2 (by omega) hE
     obtain ⟨E',f1,f2⟩:=t1 E1 e2
     exact ⟨E',by simp only [f67_j13,he,decide_eq_true (show (s:Int)<(m:Int) by omega),decide_eq_true (show (m:Int)<(en:Int) by omega),cond_true,e1,Option.bind_some,f1],f2⟩
    ·obtain ⟨E',f1,f2⟩:=t1' E hE
     exact ⟨E',by simp only [f67_j13,he,decide_eq_true (show (s:Int)<(m:Int) by omega),decide_eq_false (show ¬(m:Int)<(en:Int) by omega),cond_true,cond_false,f1],f2⟩
   ·obtain ⟨E',f1,f2⟩:=t1' E hE
    exact ⟨E',by simp only [f67_j13,he,decide_eq_false (show ¬(s:Int)<(m:Int) by omega),cond_false,f1],f2⟩
  have hp:=wm1 (show 1≤mid+m by omega) (show mid+m<4611686018427387904 by omega)
  by_cases c3:mid<m
  ·have hs:=wS (show b≤mid+m by omega) (show mid+m<4611686018427387904 by omega)
   obtain ⟨i',a1,a2,a3⟩:=sym_l12 k (by omega) (f67 k) a m b mid (mid+m) (mid+m - 1) l E hl hE (mid+m - b) mid (by omega) (by omega) (by omega) mid (mid+m - b) mid k (by omega) (by omega) (by omega) (by omega) (by omega)
   obtain ⟨E',f1,f2⟩:=tail i' i' (by omega) (by omega) (by omega) (by omega) (by omega) (by omega)
   exact ⟨E',by simp only [f67,f67_e,hma,hc1,cond_false,f67_j5,hbm,hc2,f67_j10,hmid,decide_eq_true (show (m:Int)>(mid:Int) by omega),cond_true,hn,hs,f67_j11,hp,a3,Option.bind_some,f1],f2⟩
  ·obtain ⟨i',a1,a2,a3⟩:=sym_l12 k (by omega) (f67 k) a m b mid (mid+m) (mid+m - 1) l E hl hE a m (by omega) (by omega) (by omega) m a m k (by omega) (by omega) (by omega) (by omega) (by omega)
   obtain ⟨E',f1,f2⟩:=tail i' i' (by omega) (by omega) (by omega) (by omega) (by omega) (by omega)
   exact ⟨E',by simp only [f67,f67_e,hma,hc1,cond_false,f67_j5,hbm,hc2,f67_j10,hmid,decide_eq_false (show ¬(m:Int)>(mid:Int) by omega),hn,f67_j11,hp,a3,Option.bind_some,f1],f2⟩
theorem ins_l2 (k:Nat) (hk:10≤k) (a b i:Nat) (l:List Bun) (hl:l.length≤1000):∀ (d j n:Nat) (E:List Bun),j≤d→d<n→j<l.length→Sub l E →
 ∃ (j':Nat) (E':List Bun),f66_l1_l2 k n a b i j E=some (.o1 a b i j' false E')∧Sub l E':=by
 intro d
 induction d with
 | zero =>
  intro j n E h1 h2 h3 hE
  obtain ⟨n,rfl⟩:∃ q,n=q+1:=⟨n - 1,by omega⟩
  exact ⟨j,E,by simp only [f66_l1_l2,f66_l1_l2_b,decide_eq_false (show ¬(j:Int)>(a:Int) by omega),cond_false,Option.bind_some],hE⟩
 | succ d ih =>
  intro j n E h1 h2 h3 hE
  obtain ⟨n,rfl⟩:∃ q,n=q+1:=⟨n - 1,by omega⟩
  by_cases hlt:a<j
  case neg=>exact ⟨j,E,by simp only [f66_l1_l2,f66_l1_l2_b,decide_eq_false (show ¬(j:Int)>(a:Int) by omega),cond_false,Option.bind_some],hE⟩
  have lE:=hE.l
  have ga:E[j]?=some (E[j]'(by omega)):=List.getElem?_eq_getElem (by omega)
  have gb:E[j - 1]?=some (E[j - 1]'(by omega)):=List.getElem?_eq_getElem (by omega)
  have ls:(E.set j (E[j - 1]'(by omega))).length=E.length:=List.length_set
  have gs:(E.set j (E[j - 1]'(by omega)))[j - 1]?=some ((E.set j (E[j - 1]'(by omega)))[j - 1]'(by omega)):=List.getElem?_eq_getElem (by omega)
  obtain ⟨v,hv⟩:=cmp_at k (by omega) (E[j]'(by omega)) (E[j - 1]'(by omega))
  have hw:=wm1 (show 1≤j by omega) (show j<4611686018427387904 by omega)
  cases hd:decide (v<0)
  ·exact ⟨j,E,by simp only [f66_l1_l2,f66_l1_l2_b,decide_eq_true (show (j:Int)>(a:Int) by omega),cond_true,cond_false,hw,ifE_pos (show (0:Int)≤((j - 1:Nat):Int) by omega),ifE_pos (show ((j - 1:Nat):Int)<(E.length:Int) by omega),ifE_pos (show (0:Int)≤(j:Int) by omega),ifE_pos (show (j:Int)<(E.length:Int) by omega),Int.toNat_natCast,ga,gb,Option.bind_some,hv,hd],hE⟩
  ·obtain ⟨j',E',e1,e2⟩:=ih (j - 1) n ((E.set j (E[j - 1]'(by omega))).set (j - 1) (E[j]'(by omega))) (by omega) (by omega) (by omega) (hE.swap gb ga)
   refine ⟨j',E',?_,e2⟩
   rw [←e1]
   simp only [f66_l1_l2,f66_l1_l2_b,f66_l1_l2_j1,f66_l1_l2_j2,decide_eq_true (show (j:Int)>(a:Int) by omega),cond_true,hw,ifE_pos (show (0:Int)≤((j - 1:Nat):Int) by omega),ifE_pos (show ((j - 1:Nat):Int)<(E.length:Int) by omega),ifE_pos (show (0:Int)≤(j:Int) by omega),ifE_pos (show (j:Int)<(E.length:Int) by omega),Int.toNat_natCast,ga,gb,gs,ls,Option.bind_some,hv,hd]
theorem ins_l (k:Nat) (hk:1010≤k) (a b:Nat) (l:List Bun) (hl:l.length≤1000) (hb:b≤l.length):∀ (d i n:Nat) (E:List Bun),b - i≤d→d<n→Sub l E →
 ∃ (i':Nat) (E':List Bun),f66_l1 k n a b i E=some (.o1 a b i' false E')∧Sub l E':=by
 intro d
 induction d with
 | zero =>
  intro i n E h1 h2 hE
  obtain ⟨n,rfl⟩:∃ q,n=q+1:=⟨n - 1,by omega⟩
  exact ⟨i,E,by simp only [f66_l1,f66_l1_b,decide_eq_false (show ¬(i:Int)<(b:Int) by omega),cond_false,Option.bind_some],hE⟩
 | succ d ih =>
  intro i n E h1 h2 hE
  obtain ⟨n,rfl⟩:∃ q,n=q+1:=⟨n - 1,by omega⟩
  by_cases hlt:i<b
  case neg=>exact ⟨i,E,by simp only [f66_l1,f66_l1_b,decide_eq_false (show ¬(i:Int)<(b:Int) by omega),cond_false,Option.bind_some],hE⟩
  obtain ⟨j',E1,s1,s2⟩:=ins_l2 k (by omega) a b i l hl i i k E (Nat.le_refl _) (by omega) (by omega) hE
  obtain ⟨i',E',e1,e2⟩:=ih (i+1) n E1 (by omega) (by omega) s2
  refine ⟨i',E',?_,e2⟩
  rw [←e1]
  simp only [f66_l1,f66_l1_b,f66_l1_j1,f66_l1_j3,decide_eq_true (show (i:Int)<(b:Int) by omega),cond_true,s1,Option.bind_some,w1 (show i<4611686018427387904 by omega)]
theorem ins_at (k:Nat) (hk:1011≤k) (a b:Nat) (l E:List Bun) (hl:l.length≤1000) (ha:a≤100000) (hb:b≤l.length) (hE:Sub l E):∃ E',f66 k a b E=some (.o0 E')∧Sub l E':=by
 obtain ⟨k,rfl⟩:∃ m,k=m+1:=⟨k - 1,by omega⟩
 obtain ⟨i',E',e1,e2⟩:=ins_l k (by omega) a b l hl hb b (a+1) k E (by omega) (by omega) hE
 exact ⟨E',by simp only [f66,f66_e,w1 (show a<4611686018427387904 by omega),e1,Option.bind_some],e2⟩
theorem stb_l1 (k:Nat) (hk:1100≤k) (N:Nat) (l:List Bun) (hN:l.length=N) (hl:l.length≤1000):∀ (d a b n:Nat) (E:List Bun),N+1 - b≤d→d<n→a≤b→b≤2000→a≤N→Sub l E →
 ∃ (a' b':Nat) (E':List Bun),a'≤N∧f49_l1 k n N 20 a b E=some (.o1 N 20 a' b' false E')∧Sub l E':=by
 intro d
 induction d with
 | zero =>
  intro a b n E h1 h2 h3 h4 h5 hE
  obtain ⟨n,rfl⟩:∃ q,n=q+1:=⟨n - 1,by omega⟩
  exact ⟨a,b,E,h5,by simp only [f49_l1,f49_l1_b,decide_eq_false (show ¬(b:Int)≤(N:Int) by omega),cond_false,Option.bind_some],hE⟩
 | succ d ih =>
  intro a b n E h1 h2 h3 h4 h5 hE
  obtain ⟨n,rfl⟩:∃ q,n=q+1:=⟨n - 1,by omega⟩
  by_cases hle:b≤N
  case neg=>exact ⟨a,b,E,h5,by simp only [f49_l1,f49_l1_b,decide_eq_false (show ¬(b:Int)≤(N:Int) by omega),cond_false,Option.bind_some],hE⟩
  obtain ⟨E1,s1,s2⟩:=ins_at k (by omega) a b l E hl (by omega) (by omega) hE
  have hw:IntKind.i64.wrap ((b:Int)+20)=((b+20:Nat):Int):=wN (a:=b) (b:=20) (by omega)
  obtain ⟨a',b',E',q0,e1,e2⟩:=ih b (b+20) n E1 (by omega) (by omega) (by omega) (by omega) (by omega) s2
  refine ⟨a',b',E',q0,?_,e2⟩
  rw [←e1]
  simp only [f49_l1,f49_l1_b,f49_l1_j1,decide_eq_true (show (b:Int)≤(N:Int) by omega),cond_true,s1,Option.bind_some,hw]
theorem stb_l2 (k:Nat) (hk:3300≤k) (N bs:Nat) (l:List Bun) (hN:l.length=N) (hl:l.length≤1000) (h0:1≤bs) (hbs:bs≤1000):∀ (d a b n:Nat) (E:List Bun),N+1 - b≤d→d<n→b=a+2 * bs→a≤N→Sub l E →
 ∃ (a' b':Nat) (E':List Bun),a'≤N∧f49_l3_l2 k n N bs a b E=some (.o1 N bs a' b' false E')∧Sub l E':=by
 intro d
 induction d with
 | zero =>
  intro a b n E h1 h2 h3 h5 hE
  obtain ⟨n,rfl⟩:∃ q,n=q+1:=⟨n - 1,by omega⟩
  exact ⟨a,b,E,h5,by simp only [f49_l3_l2,f49_l3_l2_b,decide_eq_false (show ¬(b:Int)≤(N:Int) by omega),cond_false,Option.bind_some],hE⟩
 | succ d ih =>
  intro a b n E h1 h2 h3 h5 hE
  obtain ⟨n,rfl⟩:∃ q,n=q+1:=⟨n - 1,by omega⟩
  by_cases hle:b≤N
  case neg=>exact ⟨a,b,E,h5,by simp only [f49_l3_l2,f49_l3_l2_b,decide_eq_false (show ¬(b:Int)≤(N:Int) by omega),cond_false,Option.bind_some],hE⟩
  obtain ⟨E1,s1,s2⟩:=sym_at l hl 1000 k a (a+bs) b E (by omega) (by omega) (by omega) (by omega) (by omega) hE
  have hw0:IntKind.i64.wrap ((2:Int) * (bs:Int))=((2 * bs:Nat):Int):=by rw [wrap_i64 (by omega) (by omega)];omega
  have hw:IntKind.i64.wrap ((b:Int)+((2 * bs:Nat):Int))=((b+2 * bs:Nat):Int):=wN (by omega)
  obtain ⟨a',b',E',q0,e1,e2⟩:=ih b (b+2 * bs) n E1 (by omega) (by omega) (by omega) (by omega) s2
  refine ⟨a',b',E',q0,?_,e2⟩
  rw [←e1]
  simp only [f49_l3_l2,f49_l3_l2_b,f49_l3_l2_j1,decide_eq_true (show (b:Int)≤(N:Int) by omega),cond_true,wN (show a+bs<4611686018427387904 by omega),s1,Option.bind_some,hw0,hw]
theorem stb_l3 (k:Nat) (hk:3300≤k) (N:Nat) (l:List Bun) (hN:l.length=N) (hl:l.length≤1000):∀ (d bs n:Nat) (E:List Bun),N - bs≤d→d<n→1≤bs→Sub l E →
 ∃ (b':Nat) (E':List Bun),f49_l3 k n N bs E=some (.o1 N b' false E')∧Sub l E':=by
 intro d
 induction d with
 | zero =>
  intro bs n E h1 h2 h0 hE
  obtain ⟨n,rfl⟩:∃ q,n=q+1:=⟨n - 1,by omega⟩
  exact ⟨bs,E,by simp only [f49_l3,f49_l3_b,decide_eq_false (show ¬(bs:Int)<(N:Int) by omega),cond_false,Option.bind_some],hE⟩
 | succ d ih =>
  intro bs n E h1 h2 h0 hE
  obtain ⟨n,rfl⟩:∃ q,n=q+1:=⟨n - 1,by omega⟩
  by_cases hlt:bs<N
  case neg=>exact ⟨bs,E,by simp only [f49_l3,f49_l3_b,decide_eq_false (show ¬(bs:Int)<(N:Int) by omega),cond_false,Option.bind_some],hE⟩
  have hw0:IntKind.i64.wrap ((2:Int) * (bs:Int))=((2 * bs:Nat):Int):=by rw [wrap_i64 (by omega) (by omega)];omega
  have hw2:IntKind.i64.wrap ((bs:Int) * (2:Int))=((bs * 2:Nat):Int):=by rw [wrap_i64 (by omega) (by omega)];omega
  obtain ⟨a',b',E1,q0,s1,s2⟩:=stb_l2 k hk N bs l hN hl h0 (by omega) (N+1) 0 (2 * bs) k E (by omega) (by omega) (by omega) (by omega) hE
  rw [Int.natCast_zero] at s1
  have hw:=wN (show a'+bs<4611686018427387904 by omega)
  have go:∃ E2,Sub l E2∧f49_l3 k (n+1) N bs E=f49_l3 k n N ((bs * 2:Nat):Int) E2:=by
   by_cases q:a'+bs<N
   ·obtain ⟨E2,u1,u2⟩:=sym_at l hl 1000 k a' (a'+bs) N E1 (by omega) (by omega) (by omega) q (by omega) s2
    exact ⟨E2,u2,by simp only [f49_l3,f49_l3_b,f49_l3_j1,f49_l3_j3,f49_l3_j4,decide_eq_true (show (bs:Int)<(N:Int) by omega),cond_true,hw0,s1,Option.bind_some,hw,decide_eq_true (show ((a'+bs:Nat):Int)<(N:Int) by omega),u1,hw2]⟩
   ·exact ⟨E1,s2,by simp only [f49_l3,f49_l3_b,f49_l3_j1,f49_l3_j3,f49_l3_j5,decide_eq_true (show (bs:Int)<(N:Int) by omega),cond_true,cond_false,hw0,s1,Option.bind_some,hw,decide_eq_false (show ¬((a'+bs:Nat):Int)<(N:Int) by omega),hw2]⟩
  obtain ⟨E2,u1,u2⟩:=go
  obtain ⟨b'',E',e1,e2⟩:=ih (bs * 2) n E2 (by omega) (by omega) (by omega) u1
  exact ⟨b'',E',by rw [u2];exact e1,e2⟩
theorem srt_at (k:Nat) (hk:3400≤k) (l:List Bun) (hl:l.length≤1000):∃ E',f28 k l=some (.o0 E')∧Sub l E':=by
 obtain ⟨k,rfl⟩:∃ m,k=m+2:=⟨k - 2,by omega⟩
 obtain ⟨a',b',E1,q0,s1,s2⟩:=stb_l1 k (by omega) l.length l rfl hl (l.length+1) 0 20 k l (by omega) (by omega) (by omega) (by omega) (by omega) ⟨.refl _⟩
 obtain ⟨E2,t1,t2⟩:=ins_at k (by omega) a' l.length l E1 hl (by omega) (Nat.le_refl _) s2
 obtain ⟨b'',E',e1,e2⟩:=stb_l3 k (by omega) l.length l rfl hl l.length 20 k E2 (by omega) (by omega) (by omega) t2
 have c0:((0:Nat):Int)=0:=rfl
 have c20:((20:Nat):Int)=20:=rfl
 rw [c0,c20] at s1
 rw [c20] at e1
 exact ⟨E',by simp only [f28,f28_e,f49,f49_e,s1,Option.bind_some,f49_j2,t1,e1],e2⟩
abbrev Ky:=T44
def keyB (b:Bun):Ky:=⟨b.Source,b.Seq,b.Offset⟩
def isK (b:Bun) (c:Ky):Bool:=(b.Source==c.Source)&&((b.Seq==c.Seq)&&(b.Offset==c.Offset))
theorem isK_self (b:Bun):isK b (keyB b)=true:=by simp [isK,keyB]
theorem isK1_at (k:Nat) (hk:2≤k) (b:Bun) (c:Ky):f52 k b.Source b.Dest b.Seq b.Created b.Lifetime b.HopLimit b.Hops b.Priority b.Offset b.Total b.Payload c.Source c.Seq c.Offset=some (.o0 (isK b c) c.Source c.Seq c.Offset):=by
 obtain ⟨k,rfl⟩:∃ m,k=m+2:=⟨k - 2,by omega⟩
 simp only [f52,f52_e,f20,f20_e,Option.bind_some,isK]
theorem kidx_l (k:Nat) (hk:2≤k) (L:List Bun) (c:Ky) (hL:L.length≤1000):∀ (d i n:Nat),i+d=L.length→d<n →
 (∃ (j:Nat) (h:j<L.length),(isK L[j] c=true∧∀ (m:Nat) (hm:m<L.length),i≤m→m<j→isK L[m] c=false)∧f51_l1 k n L L.length i c.Source c.Seq c.Offset=some (.o0 j c.Source c.Seq c.Offset))∨((∀ (m:Nat) (h:m<L.length),i≤m→isK L[m] c=false)∧f51_l1 k n L L.length i c.Source c.Seq c.Offset=some (.o2 L L.length L.length false c.Source c.Seq c.Offset)):=by
 intro d
 induction d with
 | zero =>
  intro i n hi hn
  obtain ⟨n,rfl⟩:∃ m,n=m+1:=⟨n - 1,by omega⟩
  have e:i=L.length:=by omega
  subst e
  exact .inr ⟨fun m h h2=>by omega,by simp only [f51_l1,f51_l1_b,decide_eq_false (Int.lt_irrefl _),cond_false,Option.bind_some]⟩
 | succ d ih =>
  intro i n hi hn
  obtain ⟨n,rfl⟩:∃ m,n=m+1:=⟨n - 1,by omega⟩
  have h1:i<L.length:=by omega
  have g1:L[i]?=some L[i]:=List.getElem?_eq_getElem h1
  have hf:=isK1_at k hk L[i] c
  have step:f51_l1 k (n+1) L L.length i c.Source c.Seq c.Offset=cond (isK L[i] c) (some (.o0 i c.Source c.Seq c.Offset)) (f51_l1 k n L L.length ((i+1:Nat):Int) c.Source c.Seq c.Offset):=by
   simp only [f51_l1,f51_l1_b,f51_l1_j1,f51_l1_j2,decide_eq_true (show (i:Int)<(L.length:Int) by omega),cond_true,ifE_pos (show (0:Int)≤(i:Int) by omega),Int.toNat_natCast,g1,hf,Option.bind_some,w1 (show i<4611686018427387904 by omega)]
   cases isK L[i] c<;>simp only [cond_true,cond_false,Option.bind_some]
  rw [step]
  cases hc:isK L[i] c
  ·rw [cond_false]
   rcases ih (i+1) n (by omega) (by omega) with ⟨j,a1,⟨a3,a4⟩,a2⟩ | ⟨a1,a2⟩
   ·refine .inl ⟨j,a1,⟨a3,fun m hm h2 h3 => ?_⟩,a2⟩
    by_cases e:m=i
    ·subst e;exact hc
    ·exact a4 m hm (by omega) h3
   ·refine .inr ⟨fun m h h2 => ?_,a2⟩
    by_cases e:m=i
    ·subst e;exact hc
    ·exact a1 m h (by omega)
  ·exact .inl ⟨i,h1,⟨hc,fun m hm h2 h3=>by omega⟩,by rw [cond_true]⟩
theorem findi_at (k:Nat) (L:List Bun) (c:Ky) (hL:L.length≤1000) (hk:L.length+5≤k):(∃ (j:Nat) (h:j<L.length),(isK L[j] c=true∧∀ (m:Nat) (hm:m<L.length),m<j→isK L[m] c=false)∧f31 k L c.Source c.Seq c.Offset=some (.o0 j))∨((∀ b∈L,isK b c=false)∧f31 k L c.Source c.Seq c.Offset=some (.o0 (-1))):=by
 obtain ⟨k,rfl⟩:∃ m,k=m+2:=⟨k - 2,by omega⟩
 have h:=kidx_l k (by omega) L c hL L.length 0 k (by omega) (by omega)
 rw [Int.natCast_zero] at h
 rcases h with ⟨j,a1,⟨a3,a4⟩,a2⟩ | ⟨a1,a2⟩
 ·exact .inl ⟨j,a1,⟨a3,fun m hm h3=>a4 m hm (Nat.zero_le _) h3⟩,by simp only [f31,f31_e,f51,f51_e,a2,Option.bind_some]⟩
 ·refine .inr ⟨fun b hb => ?_,by simp only [f31,f31_e,f51,f51_e,f51_j2,a2,Option.bind_some]⟩
  obtain ⟨m,hm,rfl⟩:=List.mem_iff_getElem.1 hb
  exact a1 m hm (Nat.zero_le _)
theorem key_at (k:Nat) (hk:1≤k) (b:Bun):f20 k b.Source b.Dest b.Seq b.Created b.Lifetime b.HopLimit b.Hops b.Priority b.Offset b.Total b.Payload=some (.o0 b.Source b.Seq b.Offset):=by
 obtain ⟨k,rfl⟩:∃ m,k=m+1:=⟨k - 1,by omega⟩
 simp only [f20,f20_e]
theorem ccheck_l (k:Nat) (hk:9000≤k) (L:List Bun) (hL:L.length≤40) (hp:∀ b∈L,b.Payload.length≤500):∀ (d i n:Nat) (s:Int),i+d=L.length→d<n →
 (∃ e:Int,e≠0∧f26_l2 k n s L L.length i L=some (.o0 e))∨(∃ s',(∀ (m:Nat) (h:m<L.length),i≤m→okP L[m]∧∀ (q:Nat) (hq:q<L.length),q<m→isK L[q] (keyB L[m])=false)∧f26_l2 k n s L L.length i L=some (.o2 s' L L.length L.length false L)):=by
 intro d
 induction d with
 | zero =>
  intro i n s hi hn
  obtain ⟨n,rfl⟩:∃ m,n=m+1:=⟨n - 1,by omega⟩
  have e:i=L.length:=by omega
  subst e
  exact .inr ⟨s,fun m h h2=>by omega,by simp only [f26_l2,f26_l2_b,decide_eq_false (Int.lt_irrefl _),cond_false,Option.bind_some]⟩
 | succ d ih =>
  intro i n s hi hn
  obtain ⟨n,rfl⟩:∃ m,n=m+1:=⟨n - 1,by omega⟩
  have h1:i<L.length:=by omega
  have g1:L[i]?=some L[i]:=List.getElem?_eq_getElem h1
  have hb:=bchk_at k (by omega) L[i]
  have hlt:=decide_eq_true (show (i:Int)<(L.length:Int) by omega)
  have h0:(0:Int)≤(i:Int):=by omega
  by_cases ob:okP L[i]
  case neg =>
   rw [if_neg ob] at hb
   exact .inl ⟨270,by decide,by simp only [f26_l2,f26_l2_b,f26_l2_j1,hlt,cond_true,ifE_pos h0,Int.toNat_natCast,g1,hb,Option.bind_some,show ((190:Int) != 0)=true from rfl]⟩
  rw [if_pos ob] at hb
  obtain ⟨v,hv,hv2⟩:∃ v:Int,f31 k L L[i].Source L[i].Seq L[i].Offset=some (.o0 v)∧(v=(i:Int)→∀ (q:Nat) (hq:q<L.length),q<i→isK L[q] (keyB L[i])=false):=by
   rcases findi_at k L (keyB L[i]) (by omega) (by omega) with ⟨j,hj,⟨_,a4⟩,h⟩ | ⟨_,h⟩
   ·exact ⟨_,h,fun e q hq hqi=>a4 q hq (by omega)⟩
   ·exact ⟨_,h,fun e=>by omega⟩
  have hky:=key_at k (by omega) L[i]
  cases hne:(v != (i:Int))
  case true=>exact .inl ⟨270,by decide,by simp only [f26_l2,f26_l2_b,f26_l2_j1,hlt,cond_true,cond_false,ifE_pos h0,Int.toNat_natCast,g1,hb,hky,hv,Option.bind_some,bne_self_eq_false,hne]⟩
  obtain ⟨z,_,hz⟩:=size_at k (by omega) L[i] (by have:=hp L[i] (List.getElem_mem h1);omega)
  have step:f26_l2 k (n+1) s L L.length i L=f26_l2 k n (IntKind.i64.wrap (s+(z:Int))) L L.length ((i+1:Nat):Int) L:=by
   simp only [f26_l2,f26_l2_b,f26_l2_j1,f26_l2_j2,f26_l2_j3,hlt,cond_true,cond_false,ifE_pos h0,Int.toNat_natCast,g1,hb,hky,hv,hz,Option.bind_some,bne_self_eq_false,hne,w1 (show i<4611686018427387904 by omega)]
  rw [step]
  rcases ih (i+1) n (IntKind.i64.wrap (s+(z:Int))) (by omega) (by omega) with ⟨e,e0,he⟩ | ⟨s',a1,hs⟩
  ·exact .inl ⟨e,e0,he⟩
  ·refine .inr ⟨s',fun m h h2 => ?_,hs⟩
   by_cases e:m=i
   ·subst e
    exact ⟨ob,hv2 (by simpa using hne)⟩
   ·exact a1 m h (by omega)
theorem ccheck_at (k:Nat) (hk:9001≤k) (L:List Bun) (hL:L.length≤40) (hp:∀ b∈L,b.Payload.length≤500):∃ e:Int,f26 k L=some (.o0 e)∧(e=0→(∀ b∈L,okP b)∧(L.map keyB).Nodup):=by
 obtain ⟨k,rfl⟩:∃ m,k=m+1:=⟨k - 1,by omega⟩
 by_cases h:(L.length:Int)>32
 ·exact ⟨270,by simp only [f26,f26_e,decide_eq_true h,cond_true],fun e=>by omega⟩
 have hh:=ccheck_l k (by omega) L hL hp L.length 0 k 0 (by omega) (by omega)
 rw [Int.natCast_zero] at hh
 rcases hh with ⟨e,e0,he⟩ | ⟨s,ha,hs⟩
 ·exact ⟨e,by simp only [f26,f26_e,decide_eq_false h,cond_false,f26_j1,he,Option.bind_some],fun h=>absurd h e0⟩
 ·cases hd:decide (s>12000)
  ·refine ⟨0,by simp only [f26,f26_e,decide_eq_false h,cond_false,f26_j1,hs,Option.bind_some,f26_j3,hd,f26_j4],fun _=>⟨fun b hb => ?_,?_⟩⟩
   ·obtain ⟨m,hm,rfl⟩:=List.getElem_of_mem hb
    exact (ha m hm (Nat.zero_le _)).1
   ·rw [List.nodup_iff_pairwise_ne,List.pairwise_iff_getElem]
    intro q m hq hm hqm
    rw [List.length_map] at hq hm
    rw [List.getElem_map,List.getElem_map]
    intro e
    have:=(ha m hm (Nat.zero_le _)).2 q hq hqm
    rw [←e,isK_self] at this
    cases this
  ·exact ⟨270,by simp only [f26,f26_e,decide_eq_false h,cond_false,f26_j1,hs,Option.bind_some,f26_j3,hd,cond_true],fun e=>by omega⟩
theorem order_l (k:Nat) (hk:2≤k) (E:List Bun) (hE:E.length≤1000):∀ (d i n:Nat) (acc:List Ky),i+d=E.length→d<n→acc.length=i →
 f12_l2 k n E.length i acc E=some (.o1 E.length E.length false (acc++(E.drop i).map keyB) E):=by
 intro d
 induction d with
 | zero =>
  intro i n acc hi hn ha
  obtain ⟨n,rfl⟩:∃ m,n=m+1:=⟨n - 1,by omega⟩
  have e:i=E.length:=by omega
  subst e
  simp [f12_l2,f12_l2_b]
 | succ d ih =>
  intro i n acc hi hn ha
  obtain ⟨n,rfl⟩:∃ m,n=m+1:=⟨n - 1,by omega⟩
  have h1:i<E.length:=by omega
  have g1:E[i]?=some E[i]:=List.getElem?_eq_getElem h1
  have hky:=key_at k (by omega) E[i]
  have hr:(acc.length+1) * 24≤roomy:=by unfold roomy;omega
  have ih':=ih (i+1) n (acc++[keyB E[i]]) (by omega) (by omega) (by rw [List.length_append];simp;omega)
  rw [List.append_assoc,List.singleton_append] at ih'
  rw [List.drop_eq_getElem_cons h1,List.map_cons]
  rw [←ih']
  simp only [f12_l2,f12_l2_b,f12_l2_j1,f12_l2_j2,decide_eq_true (show (i:Int)<(E.length:Int) by omega),cond_true,ifE_pos (show (0:Int)≤(i:Int) by omega),ifE_pos (show (i:Int)<(E.length:Int) by omega),ifE_pos hr,Int.toNat_natCast,g1,hky,Option.bind_some,w1 (show i<4611686018427387904 by omega),keyB]
theorem cloneb_at (k:Nat) (hk:1≤k) (L:List Bun) (hr:L.length * 104≤roomy):f27 k L=some (.o0 L):=by
 obtain ⟨k,rfl⟩:∃ m,k=m+1:=⟨k - 1,by omega⟩
 simp only [f27,ifE_pos hr]
theorem order_at (k:Nat) (hk:9010≤k) (L:List Bun) (hL:L.length≤40) (hp:∀ b∈L,b.Payload.length≤500):∃ O:List Ky,f12 k L=some (.o0 O)∧O.length≤40∧(∀ c∈O,∃ b∈L,c=keyB b)∧(((∃ e:Int,e≠0∧f26 (k - 1) L=some (.o0 e))∨O.Perm (L.map keyB))∧O.Nodup):=by
 obtain ⟨k,rfl⟩:∃ m,k=m+1:=⟨k - 1,by omega⟩
 obtain ⟨e,he,he2⟩:=ccheck_at k (by omega) L hL hp
 cases hne:(e != 0)
 case true=>exact ⟨[],by simp only [f12,f12_e,he,Option.bind_some,hne,cond_true],by simp,by simp,.inl ⟨e,by simpa using hne,by simpa using he⟩,List.nodup_nil⟩
 have hr:L.length * 104≤roomy:=by unfold roomy;omega
 obtain ⟨E,hs,hE⟩:=srt_at k (by omega) L (by omega)
 have hl:=order_l k (by omega) E (by have:=hE.l;omega) E.length 0 k [] (by omega) (by have:=hE.l;omega) rfl
 rw [Int.natCast_zero,List.drop_zero,List.nil_append] at hl
 refine ⟨E.map keyB,by simp only [f12,f12_e,he,Option.bind_some,hne,cond_false,f12_j1,cloneb_at k (by omega) L hr,hs,hl,f12_j3],by rw [List.length_map,hE.l];exact hL,fun c hc => ?_,.inr (hE.perm.map keyB),?_⟩
 ·obtain ⟨b,hb,rfl⟩:=List.mem_map.1 hc
  exact ⟨b,hE.perm.mem_iff.1 hb,rfl⟩
 ·exact (hE.perm.map keyB).nodup_iff.2 (he2 (by simpa using hne)).2
theorem find_at (k:Nat) (hk:9010≤k) (L:List Bun) (hL:L.length≤40) (hp:∀ b∈L,b.Payload.length≤500) (c:Ky):∃ (b:Bun) (e:Int),f13 k L c.Source c.Seq c.Offset=some (.o0 b.Source b.Dest b.Seq b.Created b.Lifetime b.HopLimit b.Hops b.Priority b.Offset b.Total b.Payload e)∧b.Payload.length≤500:=by
 obtain ⟨k,rfl⟩:∃ m,k=m+1:=⟨k - 1,by omega⟩
 obtain ⟨e,he⟩:=ccheck_at k (by omega) L hL hp
 cases hne:(e != 0)
 case true=>exact ⟨⟨0,0,0,0,0,0,0,0,0,0,[]⟩,e,by simp only [f13,f13_e,he,Option.bind_some,hne,cond_true],by simp⟩
 rcases findi_at k L c (by omega) (by omega) with ⟨j,h1,hj⟩ | ⟨_,hj⟩
 ·have g1:L[j]?=some L[j]:=List.getElem?_eq_getElem h1
  have h5:=hp L[j] (List.getElem_mem h1)
  have hr:L[j].Payload.length * 1≤roomy:=by unfold roomy;omega
  obtain ⟨k',rfl⟩:∃ m,k=m+2:=⟨k - 2,by omega⟩
  exact ⟨L[j],0,by simp only [f13,f13_e,he,Option.bind_some,hne,cond_false,f13_j1,hj,decide_eq_false (show ¬(j:Int)<0 by omega),f13_j2,ifE_pos (show (0:Int)≤(j:Int) by omega),Int.toNat_natCast,g1,f32,f32_e,f53,ifE_pos hr],h5⟩
 ·exact ⟨⟨0,0,0,0,0,0,0,0,0,0,[]⟩,4,by simp only [f13,f13_e,he,Option.bind_some,hne,cond_false,f13_j1,hj,decide_eq_true (show (-1:Int)<0 by decide),cond_true],by simp⟩
end Go.Proofs.YtiompmmbjpjjeaaDoorV