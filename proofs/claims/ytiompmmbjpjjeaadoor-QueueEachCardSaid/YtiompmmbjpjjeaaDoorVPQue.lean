/- What is sent now: each key in its turn. -/
import Derived.Test.YtiompmmbjpjjeaaDoorVPSort
import Derived.Test.YtiompmmbjpjjeaaDoorVPPlanM
namespace Go.Proofs.YtiompmmbjpjjeaaDoorV
open Go
set_option linter.unusedVariables false
set_option linter.unusedSimpArgs false
abbrev Gg:=T56
def sameK (c x:Ky):Bool:=(c.Source==x.Source)&&((c.Seq==x.Seq)&&(c.Offset==x.Offset))
theorem has_l (k:Nat) (l:List Ky) (c:Ky) (hl:l.length≤1000):∀ (d i n:Nat),i+d=l.length→d<n →
 ((l.drop i).any (sameK c)=true∧∃ j:Nat,f64_l1 k n l l.length i c.Source c.Seq c.Offset=some (.o0 j))∨((l.drop i).any (sameK c)=false∧f64_l1 k n l l.length i c.Source c.Seq c.Offset=some (.o2 l l.length l.length false c.Source c.Seq c.Offset)):=by
 intro d
 induction d with
 | zero =>
  intro i n hi hn
  obtain ⟨n,rfl⟩:∃ m,n=m+1:=⟨n - 1,by omega⟩
  have e:i=l.length:=by omega
  subst e
  exact .inr ⟨by simp,by simp only [f64_l1,f64_l1_b,decide_eq_false (Int.lt_irrefl _),cond_false,Option.bind_some]⟩
 | succ d ih =>
  intro i n hi hn
  obtain ⟨n,rfl⟩:∃ m,n=m+1:=⟨n - 1,by omega⟩
  have h1:i<l.length:=by omega
  have g1:l[i]?=some l[i]:=List.getElem?_eq_getElem h1
  rw [List.drop_eq_getElem_cons h1,List.any_cons]
  have step:f64_l1 k (n+1) l l.length i c.Source c.Seq c.Offset=cond (sameK c l[i]) (some (.o0 i)) (f64_l1 k n l l.length ((i+1:Nat):Int) c.Source c.Seq c.Offset):=by
   simp only [f64_l1,f64_l1_b,f64_l1_j1,f64_l1_j2,decide_eq_true (show (i:Int)<(l.length:Int) by omega),cond_true,ifE_pos (show (0:Int)≤(i:Int) by omega),Int.toNat_natCast,g1,Option.bind_some,w1 (show i<4611686018427387904 by omega),sameK]
   cases (c.Source==l[i].Source)&&((c.Seq==l[i].Seq)&&(c.Offset==l[i].Offset))<;>simp only [cond_true,cond_false,Option.bind_some]
  rw [step]
  cases sameK c l[i]
  ·rw [cond_false,Bool.false_or]
   exact ih (i+1) n (by omega) (by omega)
  ·exact .inl ⟨Bool.true_or _,i,cond_true ..⟩
theorem has_at (k:Nat) (l:List Ky) (c:Ky) (hl:l.length≤1000) (hk:l.length+4≤k):f46 k l c.Source c.Seq c.Offset=some (.o0 (l.any (sameK c))):=by
 obtain ⟨k,rfl⟩:∃ m,k=m+2:=⟨k - 2,by omega⟩
 have h:=has_l k l c hl l.length 0 k (by omega) (by omega)
 rw [Int.natCast_zero,List.drop_zero] at h
 rcases h with ⟨h1,j,h2⟩ | ⟨h1,h2⟩<;>rw [h1]
 ·simp only [f46,f46_e,f64,f64_e,h2,Option.bind_some,decide_eq_true (show (j:Int)≥0 by omega)]
 ·simp only [f46,f46_e,f64,f64_e,f64_j2,h2,Option.bind_some,decide_eq_false (show ¬(-1:Int)≥0 by decide)]
def openB (c:Ct) (now:Int):Bool:=decide (c.Start≤now)&&decide (now<c.End)
theorem open_at (k:Nat) (hk:1≤k) (c:Ct) (now:Int):f47 k c.From c.To c.Start c.End c.Rate c.Delay now=some (.o0 (openB c now)):=by
 obtain ⟨k,rfl⟩:∃ m,k=m+1:=⟨k - 1,by omega⟩
 simp only [f47,f47_e,openB]
 cases decide (c.Start≤now)
 ·simp only [cond_false,Bool.false_and]
 ·simp only [cond_true,Bool.true_and]
structure Qq where
 G:List Gg
 W:List Ky
 T:List Ky
 xl:List Int
 l:List Int
 aw:List Ct
inductive Ev where
 | skip
 | stuck
 | way (w:Nat) (need:Int) (ct:Ct)
def stp (room now:Int) (c:Ky):Ev→Qq→Qq
 | .skip,q=>q
 | .stuck,q=>{ q with T:=q.T++[c] }
 | .way w need ct,q=>cond (openB ct now) (cond (decide ((q.G.length:Int)<room)) { q with G:=q.G++[⟨c.Source,c.Seq,c.Offset,ct.To,w⟩],xl:=q.xl.set w (IntKind.i64.wrap (q.xl.getD w 0 - need)),l:=q.l.set w (IntKind.i64.wrap (q.l.getD w 0 - need)) } { q with W:=q.W++[c],l:=q.l.set w (IntKind.i64.wrap (q.l.getD w 0 - need)) })
   { q with W:=q.W++[c],l:=q.l.set w (IntKind.i64.wrap (q.l.getD w 0 - need)),aw:=q.aw++[ct] }
def EvOk (k:Nat) (node N:Int) (C:List Ct) (now:Int) (busy:List Ky) (L:List Bun) (c:Ky) (l:List Int) (ev:Ev):Prop :=
 ∃ (b:Bun) (e:Int),f13 k L c.Source c.Seq c.Offset=some (.o0 b.Source b.Dest b.Seq b.Created b.Lifetime b.HopLimit b.Hops b.Priority b.Offset b.Total b.Payload e) ∧
  (((e≠0∨busy.any (sameK c)=true∨b.Dest=node)∧ev=.skip) ∨
   (e=0∧busy.any (sameK c)=false∧b.Dest≠node∧∃ (z:Nat) (w v e':Int),f15 k b.Source b.Dest b.Seq b.Created b.Lifetime b.HopLimit b.Hops b.Priority b.Offset b.Total b.Payload=some (.o0 z)∧f14 k N C l node b.Dest now z=some (.o0 w v e') ∧
    ((e'≠0∧ev=.stuck)∨(e'=0∧∃ (j:Nat) (ct:Ct) (x:Int),l.length=C.length∧C[j]?=some ct∧l[j]?=some x∧ct.From=node∧(z:Int)≤x∧ev=.way j z ct))))
theorem key_ev (k:Nat) (hk:9100≤k) (node N:Int) (C:List Ct) (sl:List Int) (now:Int) (busy:List Ky) (L:List Bun) (hC:C.length≤60) (hb:busy.length≤60) (hL:L.length≤40) (hp:∀ b∈L,b.Payload.length≤500) (O:List Ky) (hO:O.length≤60) (i:Nat) (c:Ky) (hi:O[i]?=some c) (l:List Int) (hl:l.length≤60) :
 ∃ ev,EvOk k node N C now busy L c l ev∧∀ (room:Int) (q:Qq) (n:Nat) (s0:List Gg) (s1 s2:List Ky) (s3:List Int),q.l=l→q.xl.length=C.length→q.G.length≤100→q.W.length≤100→q.T.length≤100→q.aw.length≤100 →
  f25_s1_l3 k (n+1) O.length i node N C sl now busy room L s0 s1 s2 s3 q.G q.W q.T q.xl q.l q.aw O =
  f25_s1_l3 k n O.length ((i+1:Nat):Int) node N C sl now busy room L s0 s1 s2 s3 (stp room now c ev q).G (stp room now c ev q).W (stp room now c ev q).T (stp room now c ev q).xl (stp room now c ev q).l (stp room now c ev q).aw O:=by
 obtain ⟨b,e,hf,hbp⟩:=find_at k (by omega) L hL hp c
 have h1:i<O.length:=(List.getElem?_eq_some_iff.1 hi).1
 have hlt:=decide_eq_true (show (i:Int)<(O.length:Int) by omega)
 have h0:(0:Int)≤(i:Int):=by omega
 have h2:(i:Int)<(O.length:Int):=by omega
 have hw:=w1 (show i<4611686018427387904 by omega)
 have hh:=has_at k busy c (by omega) (by omega)
 by_cases he:e=0
 case neg =>
  refine ⟨.skip,⟨b,e,hf,.inl ⟨.inl he,rfl⟩⟩,fun room q n s0 s1 s2 s3 _ _ _ _ _ _ => ?_⟩
  simp only [f25_s1_l3,f25_s1_l3_b,f25_s1_l3_j1,f25_s1_l3_j2,hlt,cond_true,ifE_pos h0,ifE_pos h2,Int.toNat_natCast,hi,hf,show (e != 0)=true by simpa using he,Option.bind_some,hw,stp]
 subst he
 cases hbu:busy.any (sameK c)
 case true =>
  rw [hbu] at hh
  refine ⟨.skip,⟨b,0,hf,.inl ⟨.inr (.inl hbu),rfl⟩⟩,fun room q n s0 s1 s2 s3 _ _ _ _ _ _ => ?_⟩
  simp only [f25_s1_l3,f25_s1_l3_b,f25_s1_l3_j1,f25_s1_l3_j2,hlt,cond_true,cond_false,ifE_pos h0,ifE_pos h2,Int.toNat_natCast,hi,hf,bne_self_eq_false,hh,Option.bind_some,hw,stp]
 rw [hbu] at hh
 by_cases hd:b.Dest=node
 ·refine ⟨.skip,⟨b,0,hf,.inl ⟨.inr (.inr hd),rfl⟩⟩,fun room q n s0 s1 s2 s3 _ _ _ _ _ _ => ?_⟩
  simp only [f25_s1_l3,f25_s1_l3_b,f25_s1_l3_j1,f25_s1_l3_j2,hlt,cond_true,cond_false,ifE_pos h0,ifE_pos h2,Int.toNat_natCast,hi,hf,bne_self_eq_false,hh,show (b.Dest==node)=true by simpa using hd,Option.bind_some,hw,stp]
 have hd':(b.Dest==node)=false:=by simpa using hd
 obtain ⟨z,_,hz⟩:=size_at k (by omega) b (by omega)
 obtain ⟨w,v,e',hr,hr0⟩:=route_ex k (by omega) N C l node b.Dest now z hl
 by_cases he':e'=0
 case neg =>
  refine ⟨.stuck,⟨b,0,hf,.inr ⟨rfl,hbu,hd,z,w,v,e',hz,hr,.inl ⟨he',rfl⟩⟩⟩,fun room q n s0 s1 s2 s3 ql _ _ _ qT _ => ?_⟩
  have r3:(q.T.length+1) * 24≤roomy:=by unfold roomy;omega
  simp only [f25_s1_l3,f25_s1_l3_b,f25_s1_l3_j1,f25_s1_l3_j3,f25_s1_l3_j11,f25_s1_l3_j12,hlt,cond_true,cond_false,ifE_pos h0,ifE_pos h2,Int.toNat_natCast,hi,hf,bne_self_eq_false,hh,hd',hz,ql,hr,show (e'==0)=false by simpa using he',ifE_pos r3,Option.bind_some,hw,stp]
 subst he'
 obtain ⟨wC,j,ct,x,rfl,gC0,gl0,hfr,hnx⟩:=hr0 rfl
 have hj:j<l.length:=(List.getElem?_eq_some_iff.1 gl0).1
 have gl:l[j]?=some l[j]:=List.getElem?_eq_getElem hj
 have gC:C[j]?=some (C[j]'(by omega)):=List.getElem?_eq_getElem (by omega)
 have hct:ct=C[j]'(by omega):=by rw [gC] at gC0;exact (Option.some.inj gC0).symm
 rw [hct] at hfr
 have w0:(0:Int)≤(j:Int):=by omega
 have hop:=open_at k (by omega) (C[j]'(by omega)) now
 refine ⟨.way j z (C[j]'(by omega)),⟨b,0,hf,.inr ⟨rfl,hbu,hd,z,j,v,0,hz,hr,.inr ⟨rfl,j,_,x,wC,gC,gl0,hfr,hnx,rfl⟩⟩⟩,fun room q n s0 s1 s2 s3 ql qx qG qW qT qa => ?_⟩
 have r1:(q.G.length+1) * 40≤roomy:=by unfold roomy;omega
 have r2:(q.W.length+1) * 24≤roomy:=by unfold roomy;omega
 have r4:(q.aw.length+1) * 48≤roomy:=by unfold roomy;omega
 have gx:q.xl[j]?=some (q.xl[j]'(by omega)):=List.getElem?_eq_getElem (by omega)
 have dl:l.getD j 0=l[j]:=by rw [List.getD_eq_getElem?_getD,gl];rfl
 have dx:q.xl.getD j 0=q.xl[j]'(by omega):=by rw [List.getD_eq_getElem?_getD,gx];rfl
 have h3:(j:Int)<(l.length:Int):=by omega
 have h4:(j:Int)<(q.xl.length:Int):=by omega
 cases ho:openB (C[j]'(by omega)) now
 ·rw [ho] at hop
  simp only [f25_s1_l3,f25_s1_l3_b,f25_s1_l3_j1,f25_s1_l3_j3,f25_s1_l3_j8,f25_s1_l3_j9,f25_s1_l3_j10,hlt,cond_true,cond_false,ifE_pos h0,ifE_pos h2,Int.toNat_natCast,hi,hf,bne_self_eq_false,hh,hd',hz,ql,hr,beq_self_eq_true,ifE_pos w0,ifE_pos h3,gl,gC,hop,ifE_pos r4,ifE_pos r2,Option.bind_some,hw,stp,ho,dl]
 rw [ho] at hop
 cases hro:decide ((q.G.length:Int)<room)
 ·simp only [f25_s1_l3,f25_s1_l3_b,f25_s1_l3_j1,f25_s1_l3_j3,f25_s1_l3_j5,f25_s1_l3_j6,f25_s1_l3_j7,hlt,cond_true,cond_false,ifE_pos h0,ifE_pos h2,Int.toNat_natCast,hi,hf,bne_self_eq_false,hh,hd',hz,ql,hr,beq_self_eq_true,ifE_pos w0,ifE_pos h3,gl,gC,hop,hro,ifE_pos r2,Option.bind_some,hw,stp,ho,dl]
 ·simp only [f25_s1_l3,f25_s1_l3_b,f25_s1_l3_j1,f25_s1_l3_j3,f25_s1_l3_j4,hlt,cond_true,cond_false,ifE_pos h0,ifE_pos h2,Int.toNat_natCast,hi,hf,bne_self_eq_false,hh,hd',hz,ql,hr,beq_self_eq_true,ifE_pos w0,ifE_pos h3,ifE_pos h4,gl,gC,gx,hop,hro,ifE_pos r1,Option.bind_some,hw,stp,ho,dl,dx]
def negA (l:List Int):Bool:=l.any fun x=>decide (x<0)
def leftB (L:List Ct) (l:List Int):Bool:=decide (l.length=L.length) && !negA l
theorem fneg_at (k:Nat) (hk:1≤k) (a:Int):f63 k a=some (.o0 (decide (a<0))):=by
 obtain ⟨k,rfl⟩:∃ m,k=m+1:=⟨k - 1,by omega⟩
 simp only [f63,f63_e]
theorem fidx_l (k:Nat) (hk:1≤k) (l:List Int) (hl:l.length≤1000):∀ (d j n:Nat),j+d=l.length→d<n →
 (negA (l.drop j)=true∧∃ i:Nat,f54b_l1 k n l l.length j=some (.o0 i))∨(negA (l.drop j)=false∧f54b_l1 k n l l.length j=some (.o2 l l.length l.length false)):=by
 intro d
 induction d with
 | zero =>
  intro j n hj hn
  obtain ⟨n,rfl⟩:∃ m,n=m+1:=⟨n - 1,by omega⟩
  have e3:j=l.length:=by omega
  subst e3
  exact .inr ⟨by simp [negA],by simp only [f54b_l1,f54b_l1_b,decide_eq_false (Int.lt_irrefl _),cond_false,Option.bind_some]⟩
 | succ d ih =>
  intro j n hj hn
  obtain ⟨n,rfl⟩:∃ m,n=m+1:=⟨n - 1,by omega⟩
  have h1:j<l.length:=by omega
  have g1:l[j]?=some l[j]:=List.getElem?_eq_getElem h1
  have hd:negA (l.drop j)=(decide (l[j]<0)||negA (l.drop (j+1))):=by rw [List.drop_eq_getElem_cons h1];rfl
  have step:f54b_l1 k (n+1) l l.length j=cond (decide (l[j]<0)) (some (.o0 j)) (f54b_l1 k n l l.length ((j+1:Nat):Int)):=by
   simp only [f54b_l1,f54b_l1_b,f54b_l1_j1,f54b_l1_j2,decide_eq_true (show (j:Int)<(l.length:Int) by omega),cond_true,ifE_pos (show (0:Int)≤(j:Int) by omega),Int.toNat_natCast,g1,Option.bind_some,fneg_at k hk,w1 (show j<4611686018427387904 by omega)]
   cases decide (l[j]<0)<;>simp only [cond_true,cond_false,Option.bind_some]
  rw [step,hd]
  cases decide (l[j]<0)
  ·rw [cond_false,Bool.false_or];exact ih (j+1) n (by omega) (by omega)
  ·exact .inl ⟨Bool.true_or _,j,cond_true ..⟩
theorem fcont_at (k:Nat) (l:List Int) (hk:l.length+4≤k) (hl:l.length≤1000):f34b k l=some (.o0 (negA l)):=by
 obtain ⟨k,rfl⟩:∃ m,k=m+2:=⟨k - 2,by omega⟩
 have h:=fidx_l k (by omega) l hl l.length 0 k (by omega) (by omega)
 rw [List.drop_zero,Int.natCast_zero] at h
 rcases h with ⟨h1,i,h2⟩ | ⟨h1,h2⟩<;>rw [h1]
 ·simp only [f34b,f34b_e,f54b,f54b_e,h2,Option.bind_some,decide_eq_true (show (i:Int)≥0 by omega)]
 ·simp only [f34b,f34b_e,f54b,f54b_e,f54b_j2,h2,Option.bind_some,decide_eq_false (show ¬(-1:Int)≥0 by decide)]
theorem len_beq (a b:Nat):(((a:Int))==(b:Int))=decide (a=b):=by
 by_cases h:a=b
 ·subst h;simp
 ·rw [decide_eq_false h];simp;omega
theorem fits_at (k:Nat) (N:Int) (L:List Ct) (l:List Int) (hk:l.length+5≤k) (hl:l.length≤1000):f40 k N L l=some (.o0 (leftB L l)):=by
 obtain ⟨k,rfl⟩:∃ m,k=m+1:=⟨k - 1,by omega⟩
 simp only [f40,f40_e,len_beq,leftB]
 by_cases h:l.length=L.length
 ·simp only [decide_eq_true h,cond_true,fcont_at k l (by omega) hl,Option.bind_some,Bool.true_and]
 ·simp only [decide_eq_false h,cond_false,Bool.false_and]
theorem in_at (k:Nat) (hk:1≤k) (a b c:Int):f41 k a b c=some (.o0 (decide (b≤a)&&decide (a≤c))):=by
 obtain ⟨k,rfl⟩:∃ m,k=m+1:=⟨k - 1,by omega⟩
 by_cases h:b≤a
 ·simp only [f41,f41_e,decide_eq_true (show a≥b from h),decide_eq_true h,cond_true,Bool.true_and]
 ·simp only [f41,f41_e,decide_eq_false (show ¬a≥b from h),decide_eq_false h,cond_false,Bool.false_and]
def qB (node N:Int) (C:List Ct) (l:List Int) (now room:Int):Bool:=(decide (1≤node)&&decide (node≤N))&&(leftB C l&&((decide (0≤now)&&decide (now≤1048576))&&(decide (0≤room)&&decide (room≤8))))
theorem qchk_at (k:Nat) (hk:200≤k) (node N:Int) (C:List Ct) (l:List Int) (now:Int) (busy:List Ky) (room:Int) (hl:l.length≤100):f24 k node N C l now busy room=some (.o0 (cond (chkB N C) (cond (qB node N C l now room) 0 2) 230)):=by
 obtain ⟨k,rfl⟩:∃ m,k=m+1:=⟨k - 1,by omega⟩
 have hp:=check_at k N C (by omega)
 have h1:=in_at k (by omega) node 1 N
 have h2:=fits_at k N C l (by omega) (by omega)
 have h3:=in_at k (by omega) now 0 1048576
 have h4:=in_at k (by omega) room 0 8
 cases hc:chkB N C
 ·rw [hc] at hp
  simp only [f24,f24_e,hp,Option.bind_some,cond_false,show ((230:Int) != 0)=true from rfl,cond_true]
 rw [hc] at hp
 unfold qB
 simp only [f24,f24_e,hp,Option.bind_some,cond_true,bne_self_eq_false,cond_false,f24_j1,h1]
 cases decide (1≤node)&&decide (node≤N)
 ·simp only [Bool.not_false,cond_true,Bool.false_and,cond_false]
 simp only [Bool.not_true,cond_false,h2,Option.bind_some,Bool.true_and]
 cases leftB C l
 ·simp only [Bool.not_false,cond_true,Bool.false_and,cond_false]
 simp only [Bool.not_true,cond_false,h3,Option.bind_some,Bool.true_and]
 cases decide (0≤now)&&decide (now≤1048576)
 ·simp only [Bool.not_false,cond_true,Bool.false_and,cond_false]
 simp only [Bool.not_true,cond_false,h4,Option.bind_some,Bool.true_and]
 cases decide (0≤room)&&decide (room≤8)
 ·simp only [Bool.not_false,cond_true,cond_false]
 ·simp only [Bool.not_true,cond_true,cond_false,f24_j2]
theorem stp_way (room now:Int) (c:Ky) (w:Nat) (need:Int) (ct:Ct) (q:Qq):stp room now c (.way w need ct) q=cond (openB ct now) (cond (decide ((q.G.length:Int)<room)) { q with G:=q.G++[⟨c.Source,c.Seq,c.Offset,ct.To,w⟩],xl:=q.xl.set w (IntKind.i64.wrap (q.xl.getD w 0 - need)),l:=q.l.set w (IntKind.i64.wrap (q.l.getD w 0 - need)) } { q with W:=q.W++[c],l:=q.l.set w (IntKind.i64.wrap (q.l.getD w 0 - need)) })
  { q with W:=q.W++[c],l:=q.l.set w (IntKind.i64.wrap (q.l.getD w 0 - need)),aw:=q.aw++[ct] }:=rfl
def Few (m i:Nat) (q:Qq):Prop:=q.xl.length=m∧q.G.length≤i∧q.W.length≤i∧q.T.length≤i∧q.aw.length≤i
theorem Few.stp {m i:Nat} {q:Qq} (h:Few m i q) (room now:Int) (c:Ky) (ev:Ev):Few m (i+1) (stp room now c ev q)∧(stp room now c ev q).l.length=q.l.length:=by
 obtain ⟨h1,h2,h3,h4,h5⟩:=h
 cases ev with
 | skip=>exact ⟨⟨h1,by show q.G.length≤i+1;omega,by show q.W.length≤i+1;omega,by show q.T.length≤i+1;omega,by show q.aw.length≤i+1;omega⟩,rfl⟩
 | stuck=>exact ⟨⟨h1,by show q.G.length≤i+1;omega,by show q.W.length≤i+1;omega,by show (q.T++[c]).length≤i+1;simp;omega,by show q.aw.length≤i+1;omega⟩,rfl⟩
 | way w need ct =>
  rw [stp_way]
  cases openB ct now
  ·exact ⟨⟨h1,by show q.G.length≤i+1;omega,by show (q.W++[c]).length≤i+1;simp;omega,by show q.T.length≤i+1;omega,by show (q.aw++[ct]).length≤i+1;simp;omega⟩,by simp⟩
  cases decide ((q.G.length:Int)<room)
  ·exact ⟨⟨h1,by show q.G.length≤i+1;omega,by show (q.W++[c]).length≤i+1;simp;omega,by show q.T.length≤i+1;omega,by show q.aw.length≤i+1;omega⟩,by simp⟩
  ·exact ⟨⟨by simpa using h1,by simp;omega,by show q.W.length≤i+1;omega,by show q.T.length≤i+1;omega,by show q.aw.length≤i+1;omega⟩,by simp⟩
def keyG (g:Gg):Ky:=⟨g.Key_Source,g.Key_Seq,g.Key_Offset⟩
structure Rr (room:Int) (q q':Qq):Prop where
 l:q.l=q'.l
 T:q.T=q'.T
 div:(q.G=q'.G∧q.W=q'.W∧(q.G.length:Int)≤room)∨(∃ g,q'.G=q.G++[g]∧(q.G.length:Int)=room∧keyG g∈q.W∧q.W.length=q'.W.length+1)
theorem Rr.stp {room now:Int} {q q':Qq} (h:Rr room q q') (c:Ky) (ev:Ev):Rr room (stp room now c ev q) (stp (room+1) now c ev q'):=by
 obtain ⟨hl,hT,hd⟩:=h
 cases ev with
 | skip=>exact ⟨hl,hT,hd⟩
 | stuck=>exact ⟨hl,by show q.T++[c]=q'.T++[c];rw [hT],hd⟩
 | way w need ct =>
  have hl2:q.l.set w (IntKind.i64.wrap (q.l.getD w 0 - need))=q'.l.set w (IntKind.i64.wrap (q'.l.getD w 0 - need)):=by rw [hl]
  rw [stp_way,stp_way]
  cases openB ct now
  ·refine ⟨hl2,hT,?_⟩
   rcases hd with ⟨a1,a2,a3⟩ | ⟨g,a1,a2,a3,a4⟩
   ·exact .inl ⟨a1,by show q.W++[c]=q'.W++[c];rw [a2],a3⟩
   ·exact .inr ⟨g,a1,a2,List.mem_append_left _ a3,by show (q.W++[c]).length=(q'.W++[c]).length+1;simp;omega⟩
  rcases hd with ⟨a1,a2,a3⟩ | ⟨g,a1,a2,a3,a4⟩
  ·by_cases hlt:(q.G.length:Int)<room
   ·rw [decide_eq_true hlt,decide_eq_true (show (q'.G.length:Int)<room+1 by rw [←a1];omega)]
    refine ⟨hl2,hT,.inl ⟨?_,a2,?_⟩⟩
    ·show q.G++_=q'.G++_;rw [a1]
    ·show ((q.G++[_]).length:Int)≤room;simp;omega
   ·rw [decide_eq_false hlt,decide_eq_true (show (q'.G.length:Int)<room+1 by rw [←a1];omega)]
    refine ⟨hl2,hT,.inr ⟨_,by show q'.G++_=q.G++_;rw [a1],by show (q.G.length:Int)=room;omega,?_,?_⟩⟩
    ·show _∈q.W++[c];simp [keyG]
    ·show (q.W++[c]).length=q'.W.length+1;rw [a2];simp
  ·have e1:¬(q.G.length:Int)<room:=by omega
   have e2:¬(q'.G.length:Int)<room+1:=by rw [a1];simp;omega
   rw [decide_eq_false e1,decide_eq_false e2]
   exact ⟨hl2,hT,.inr ⟨g,a1,a2,List.mem_append_left _ a3,by show (q.W++[c]).length=(q'.W++[c]).length+1;simp;omega⟩⟩
theorem clonei_at (k:Nat) (hk:1≤k) (l:List Int) (hr:l.length≤100):f42 k l=some (.o0 l):=by
 obtain ⟨k,rfl⟩:∃ m,k=m+1:=⟨k - 1,by omega⟩
 simp only [f42,ifE_pos (show l.length * 8≤roomy by unfold roomy;omega)]
theorem leftB_len {C:List Ct} {l:List Int} (h:leftB C l=true):l.length=C.length:=by
 unfold leftB at h
 rw [Bool.and_eq_true,decide_eq_true_iff] at h
 exact h.1
theorem short_at (k:Nat) (hk:1≤k) (n m t u:Int) (L:List Ct) (l:List Int) (b:List Ky):∃ (L':List Ct) (l':List Int) (b':List Ky),L'.length≤30∧l'.length≤30∧b'.length≤40∧f9 k n m L l t b u=some (.o0 n m t u L' l' b'):=by
 obtain ⟨k,rfl⟩:∃ m,k=m+1:=⟨k - 1,by omega⟩
 refine ⟨L.take (Int.toNat (if (30:Int)<(L.length:Int) then 30 else (L.length:Int))),l.take (Int.toNat (if (30:Int)<(l.length:Int) then 30 else (l.length:Int))),b.take (Int.toNat (if (40:Int)<(b.length:Int) then 40 else (b.length:Int))),?_,?_,?_,?_⟩
 ·rw [List.length_take];split<;>omega
 ·rw [List.length_take];split<;>omega
 ·rw [List.length_take];split<;>omega
 ·simp only [f9,f9_e]
  rw [ifE_pos (by split<;>omega),ifE_pos (by split<;>omega),ifE_pos (by rw [List.length_take];unfold roomy;split<;>omega),ifE_pos (by split<;>omega),ifE_pos (by split<;>omega),ifE_pos (by rw [List.length_take];unfold roomy;split<;>omega),ifE_pos (by split<;>omega),ifE_pos (by split<;>omega),ifE_pos (by rw [List.length_take];unfold roomy;split<;>omega)]
theorem kept_l (k:Nat) (L L0:List Bun) (hL:L.length<4611686018427387904):∀ (d i n:Nat) (acc:List Bun),36 - i≤d→d<n→i≤35→i≤L.length→acc.length=i→(∀ b∈acc,b.Payload.length≤500) →
 ∃ acc':List Bun,acc'.length≤35∧(∀ b∈acc',b.Payload.length≤500)∧((∃ x0 x1 x2 x3 x4 y0 y1 y2 y3 y4 y5 y6 y7 y8 y9 y10,f10_l1 k n L L.length i L0 acc=some (.o0 x0 x1 x2 x3 x4 acc' y0 y1 y2 y3 y4 y5 y6 y7 y8 y9 y10))∨(∃ x0 x1 x2 x3 x4,f10_l1 k n L L.length i L0 acc=some (.o2 x0 x1 x2 x3 x4 acc'))):=by
 intro d
 induction d with
 | zero=>intro i n acc h1 h2 h3;omega
 | succ d ih =>
  intro i n acc h1 h2 h3 h4 ha hb
  obtain ⟨n,rfl⟩:∃ m,n=m+1:=⟨n - 1,by omega⟩
  by_cases hlt:i<L.length
  case neg=>exact ⟨acc,by omega,hb,.inr ⟨_,_,_,_,_,by simp only [f10_l1,f10_l1_b,decide_eq_false (show ¬(i:Int)<(L.length:Int) by omega),cond_false,Option.bind_some];rfl⟩⟩
  have g1:L[i]?=some L[i]:=List.getElem?_eq_getElem hlt
  by_cases h35:i=35
  ·have e:((i:Int)==35)=true:=by rw [h35];rfl
   exact ⟨acc,by omega,hb,.inl ⟨_,_,_,_,_,_,_,_,_,_,_,_,_,_,_,_,by simp only [f10_l1,f10_l1_b,f10_l1_j1,decide_eq_true (show (i:Int)<(L.length:Int) by omega),cond_true,ifE_pos (show (0:Int)≤(i:Int) by omega),Int.toNat_natCast,g1,Option.bind_some,e];rfl⟩⟩
  have e:((i:Int)==35)=false:=by rw [beq_eq_false_iff_ne];omega
  have tl:(L[i].Payload.take (Int.toNat (if (500:Int)<(L[i].Payload.length:Int) then 500 else (L[i].Payload.length:Int)))).length≤500:=by rw [List.length_take];split<;>omega
  have r0:(0:Int)≤(if (500:Int)<(L[i].Payload.length:Int) then 500 else (L[i].Payload.length:Int)):=by split<;>omega
  have r1:Int.toNat (if (500:Int)<(L[i].Payload.length:Int) then 500 else (L[i].Payload.length:Int))≤L[i].Payload.length:=by split<;>omega
  generalize hX:(if (500:Int)<(L[i].Payload.length:Int) then 500 else (L[i].Payload.length:Int))=X at *
  have r2:(L[i].Payload.take X.toNat).length≤roomy:=by unfold roomy;omega
  have r3:(acc.length+1) * 104≤roomy:=by unfold roomy;omega
  obtain ⟨acc',a1,a2,a3⟩:=ih (i+1) n (acc++[⟨L[i].Source,L[i].Dest,L[i].Seq,L[i].Created,L[i].Lifetime,L[i].HopLimit,L[i].Hops,L[i].Priority,L[i].Offset,L[i].Total,L[i].Payload.take X.toNat⟩]) (by omega) (by omega) (by omega) (by omega) (by simp;omega) (fun b hb'=>by
   rcases List.mem_append.1 hb' with h | h
   ·exact hb b h
   ·rw [List.mem_singleton.1 h];exact tl)
  refine ⟨acc',a1,a2,?_⟩
  have step:∀ R,f10_l1 k n L L.length ((i+1:Nat):Int) L0 (acc++[⟨L[i].Source,L[i].Dest,L[i].Seq,L[i].Created,L[i].Lifetime,L[i].HopLimit,L[i].Hops,L[i].Priority,L[i].Offset,L[i].Total,L[i].Payload.take X.toNat⟩])=R→f10_l1 k (n+1) L L.length i L0 acc=R:=fun R hR=>by
   rw [←hR]
   simp only [f10_l1,f10_l1_b,f10_l1_j1,f10_l1_j2,f10_l1_j3,decide_eq_true (show (i:Int)<(L.length:Int) by omega),cond_true,cond_false,ifE_pos (show (0:Int)≤(i:Int) by omega),Int.toNat_natCast,g1,Option.bind_some,e,hX,ifE_pos r0,ifE_pos r1,ifE_pos r2,ifE_pos r3,w1 (show i<4611686018427387904 by omega)]
  rcases a3 with ⟨x0,x1,x2,x3,x4,y0,y1,y2,y3,y4,y5,y6,y7,y8,y9,y10,h⟩ | ⟨x0,x1,x2,x3,x4,h⟩
  ·exact .inl ⟨x0,x1,x2,x3,x4,y0,y1,y2,y3,y4,y5,y6,y7,y8,y9,y10,step _ h⟩
  ·exact .inr ⟨x0,x1,x2,x3,x4,step _ h⟩
theorem kept_at (k:Nat) (hk:60≤k) (L:List Bun) (hL:L.length<4611686018427387904):∃ L':List Bun,L'.length≤35∧(∀ b∈L',b.Payload.length≤500)∧f10 k L=some (.o0 L'):=by
 obtain ⟨k,rfl⟩:∃ m,k=m+1:=⟨k - 1,by omega⟩
 obtain ⟨acc',a1,a2,a3⟩:=kept_l k L [] hL 36 0 k [] (by omega) (by omega) (by omega) (by omega) rfl (by simp)
 rw [Int.natCast_zero] at a3
 refine ⟨acc',a1,a2,?_⟩
 rcases a3 with ⟨x0,x1,x2,x3,x4,y0,y1,y2,y3,y4,y5,y6,y7,y8,y9,y10,h⟩ | ⟨x0,x1,x2,x3,x4,h⟩
 ·simp only [f10,f10_e,h,Option.bind_some,f10_j2]
 ·simp only [f10,f10_e,h,Option.bind_some,f10_j3]
end Go.Proofs.YtiompmmbjpjjeaaDoorV