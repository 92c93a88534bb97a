/- Which items may be,and their bytes: what cbor.Check and cbor.Encode answer. -/
import Derived.Test.YtlelaenalbkbmaaDoorVPNod
import Derived.Test.YtlelaenalbkbmaaDoorVPValid
import Derived.Test.YtlelaenalbkbmaaDoorVPHead
namespace Go.Proofs.YtlelaenalbkbmaaDoorV
open Go
set_option linter.unusedVariables false
set_option linter.unusedSimpArgs false
def Pl (x:It):Prop:=(x.Kind=1∨x.Kind=2∨x.Kind=3∨x.Kind=4)∧(x.Kind≠1→x.Num=0)∧(x.Kind=1∨x.Kind=4→x.Bytes.length=0)∧(x.Kind≠4→x.Items.length=0)
instance (x:It):Decidable (Pl x):=by unfold Pl;infer_instance
def One (x:It):Prop:=Pl x∧x.Bytes.length≤512∧x.Items.length≤64∧(x.Kind=3→vB x.Bytes=true)
noncomputable instance (x:It):Decidable (One x):=by unfold One;infer_instance
noncomputable def mayT:Nat→It→Bool
 | 0,_=>false
 | n+1,x=>decide (One x)&&x.Items.all (mayT n)
noncomputable def encT:Nat→It→List Int
 | 0,_=>[]
 | n+1,x=>if x.Kind=1 then hd 0 x.Num else if x.Kind=4 then hd 4 (x.Items.length:Nat)++x.Items.flatMap (encT n) else hd x.Kind (x.Bytes.length:Nat)++x.Bytes
theorem plain_at (k:Nat) (hk:1≤k) (x:It):f37 k x.Kind x.Num x.Bytes x.Items=some (.o0 (decide (Pl x))):=by
 obtain ⟨k,rfl⟩:∃ m,k=m+1:=⟨k - 1,by omega⟩
 obtain ⟨a,b,c,l⟩:=x
 have hc:(((c.length:Nat):Int)==0)=decide (c.length=0):=by rw [Bool.eq_iff_iff];simp
 have hl:(((l.length:Nat):Int)==0)=decide (l.length=0):=by rw [Bool.eq_iff_iff];simp
 have hb:(b==0)=decide (b=0):=by rw [Bool.eq_iff_iff];simp
 have split:∀ (p q:Prop) [Decidable p] [Decidable q],cond (decide p) (some (R37.o0 (decide q))) (some (.o0 false))=some (.o0 (decide (p∧q))):=fun p q _ _=>by by_cases h:p<;>simp [h]
 by_cases h1:a=1
 ·subst h1
  have e:Pl (⟨1,b,c,l⟩:It)↔c.length=0∧l.length=0:=by simp [Pl]
  rw [show decide (Pl (⟨1,b,c,l⟩:It))=decide (c.length=0∧l.length=0) from decide_eq_decide.2 e]
  simp only [f37,f37_e,f37_j1,beq_self_eq_true,cond_true,List.length_nil,Int.natCast_zero,hc,hl,split]
 by_cases h4:a=4
 ·subst h4
  have e:Pl (⟨4,b,c,l⟩:It)↔b=0∧c.length=0:=by simp [Pl]
  rw [show decide (Pl (⟨4,b,c,l⟩:It))=decide (b=0∧c.length=0) from decide_eq_decide.2 e]
  simp only [f37,f37_e,f37_j1,f37_j2,show ((4:Int)==1)=false from rfl,show ((4:Int)==2)=false from rfl,show ((4:Int)==3)=false from rfl,beq_self_eq_true,cond_true,cond_false,List.length_nil,Int.natCast_zero,hc,hb,split]
  by_cases h:b=0<;>by_cases h':c.length=0<;>simp [h,h']
 have h1':(a==1)=false:=by simpa using h1
 have h4':(a==4)=false:=by simpa using h4
 by_cases h2:a=2
 ·subst h2
  have e:Pl (⟨2,b,c,l⟩:It)↔b=0∧l.length=0:=by simp [Pl]
  rw [show decide (Pl (⟨2,b,c,l⟩:It))=decide (b=0∧l.length=0) from decide_eq_decide.2 e]
  simp only [f37,f37_e,f37_j1,f37_j2,h1',beq_self_eq_true,cond_true,cond_false,List.length_nil,Int.natCast_zero,hl,hb]
  by_cases h:b=0<;>by_cases h':l.length=0<;>simp [h,h']
 have h2':(a==2)=false:=by simpa using h2
 by_cases h3:a=3
 ·subst h3
  have e:Pl (⟨3,b,c,l⟩:It)↔b=0∧l.length=0:=by simp [Pl]
  rw [show decide (Pl (⟨3,b,c,l⟩:It))=decide (b=0∧l.length=0) from decide_eq_decide.2 e]
  simp only [f37,f37_e,f37_j1,f37_j2,h1',h2',beq_self_eq_true,cond_true,cond_false,List.length_nil,Int.natCast_zero,hl,hb]
  by_cases h:b=0<;>by_cases h':l.length=0<;>simp [h,h']
 have h3':(a==3)=false:=by simpa using h3
 have e:¬Pl (⟨a,b,c,l⟩:It):=by simp [Pl,h1,h2,h3,h4]
 rw [decide_eq_false e]
 simp only [f37,f37_e,f37_j2,h1',h2',h3',h4',cond_false]
theorem may_loop (k left:Nat) (hleft:left≤100) (X:List It) (hX:X.length≤1000) (h:∀ y∈X,f25 k y.Kind y.Num y.Bytes y.Items left=some (.o0 (mayT left y))):∀ (d i n:Nat),i+d=X.length→d<n →
 f25_l2 k (f25 k) n ((left+1:Nat):Int) X X.length i=bif (X.drop i).all (mayT left) then some (.o2 ((left+1:Nat):Int) X X.length X.length false) else some (.o0 false):=by
 intro d
 induction d with
 | zero =>
  intro i n hi hn
  obtain ⟨n,rfl⟩:∃ m,n=m+1:=⟨n - 1,by omega⟩
  have e:i=X.length:=by omega
  subst e
  simp only [f25_l2,f25_l2_b,decide_eq_false (Int.lt_irrefl _),cond_false,Option.bind_some,List.drop_length,List.all_nil,cond_true]
 | succ d ih =>
  intro i n hi hn
  obtain ⟨n,rfl⟩:∃ m,n=m+1:=⟨n - 1,by omega⟩
  have h1:i<X.length:=by omega
  have g1:X[i]?=some X[i]:=List.getElem?_eq_getElem h1
  have hm:=h X[i] (List.getElem_mem h1)
  have hw:IntKind.i64.wrap (((left+1:Nat):Int) - 1)=(left:Int):=by rw [wrap_i64 (by omega) (by omega)];omega
  have ih':=ih (i+1) n (by omega) (by omega)
  rw [List.drop_eq_getElem_cons h1,List.all_cons]
  cases hb:mayT left X[i]
  ·rw [hb] at hm
   simp only [f25_l2,f25_l2_b,decide_eq_true (show (i:Int)<(X.length:Int) by omega),cond_true,f25_l2_j1,ifE_pos (show (0:Int)≤(i:Int) by omega),Int.toNat_natCast,g1,Option.bind_some,hw,hm,Bool.not_false,Bool.false_and,cond_false]
  ·rw [hb] at hm
   simp only [f25_l2,f25_l2_b,decide_eq_true (show (i:Int)<(X.length:Int) by omega),cond_true,f25_l2_j1,ifE_pos (show (0:Int)≤(i:Int) by omega),Int.toNat_natCast,g1,Option.bind_some,hw,hm,Bool.not_true,cond_false,f25_l2_j2,nextN h1 (by omega),ih',Bool.true_and]
theorem may_at (B:Nat):∀ (n:Nat),n≤100→∀ (x:It),Fit B x→∀ k,B+700+n≤k→f25 k x.Kind x.Num x.Bytes x.Items n=some (.o0 (mayT n x))
 | 0,_,x,hx,k,hk=>by
  obtain ⟨k,rfl⟩:∃ m,k=m+1:=⟨k - 1,by omega⟩
  simp only [f25,f25_e,Int.natCast_zero,beq_self_eq_true,cond_true,mayT]
 | n+1,hn,x,hx,k,hk=>by
  obtain ⟨k,rfl⟩:∃ m,k=m+1:=⟨k - 1,by omega⟩
  have hx1:(((n+1:Nat):Int)==0)=false:=by rw [beq_eq_false_iff_ne];omega
  have hp:=plain_at k (by omega) x
  have hil:=hx.items
  have hlp:=may_loop k n (by omega) x.Items (by omega) (fun y hy=>may_at B n (by omega) y (hx.item hy) k (by omega)) x.Items.length 0 k (by omega) (by omega)
  rw [List.drop_zero,Int.natCast_zero] at hlp
  have hbl:=hx.top.len
  have hv:=val_at k x.Bytes (by omega) hx.top.by'
  rw [mayT]
  by_cases p1:Pl x
  ·rw [decide_eq_true p1] at hp
   by_cases p2:x.Bytes.length≤512
   ·by_cases p3:x.Items.length≤64
    ·have d2:=decide_eq_false (show ¬((x.Bytes.length:Nat):Int)>512 by omega)
     have d3:=decide_eq_false (show ¬((x.Items.length:Nat):Int)>64 by omega)
     have fin:f25_j1 k (f25 k) ((n+1:Nat):Int) false x.Kind x.Num x.Bytes x.Items=some (.o0 (x.Items.all (mayT n))):=by
      cases ha:x.Items.all (mayT n)<;>rw [ha] at hlp
      ·simp only [f25_j1,hlp,cond_false,Option.bind_some]
      ·simp only [f25_j1,hlp,cond_true,Option.bind_some,f25_j3]
     by_cases p4:x.Kind=3
     ·have e4:(x.Kind==3)=true:=by simpa using p4
      cases hvb:vB x.Bytes<;>rw [hvb] at hv
      ·rw [decide_eq_false (show ¬One x from fun h=>by have:=h.2.2.2 p4;rw [hvb] at this;cases this),Bool.false_and]
       simp only [f25,f25_e,hx1,cond_false,hp,Option.bind_some,Bool.not_true,d2,d3,e4,cond_true,hv,Bool.not_false]
      ·rw [decide_eq_true (show One x from ⟨p1,p2,p3,fun _=>hvb⟩),Bool.true_and]
       simp only [f25,f25_e,hx1,cond_false,hp,Option.bind_some,Bool.not_true,d2,d3,e4,cond_true,hv,fin]
     ·have e4:(x.Kind==3)=false:=by simpa using p4
      rw [decide_eq_true (show One x from ⟨p1,p2,p3,fun h=>absurd h p4⟩),Bool.true_and]
      simp only [f25,f25_e,hx1,cond_false,hp,Option.bind_some,Bool.not_true,d2,d3,e4,fin]
    ·rw [decide_eq_false (show ¬One x from fun h=>p3 h.2.2.1),Bool.false_and]
     simp only [f25,f25_e,hx1,cond_false,hp,Option.bind_some,Bool.not_true,decide_eq_false (show ¬((x.Bytes.length:Nat):Int)>512 by omega),decide_eq_true (show ((x.Items.length:Nat):Int)>64 by omega),cond_true]
   ·rw [decide_eq_false (show ¬One x from fun h=>p2 h.2.1),Bool.false_and]
    simp only [f25,f25_e,hx1,cond_false,hp,Option.bind_some,Bool.not_true,decide_eq_true (show ((x.Bytes.length:Nat):Int)>512 by omega),cond_true]
  ·rw [decide_eq_false p1] at hp
   rw [decide_eq_false (show ¬One x from fun h=>p1 h.1),Bool.false_and]
   simp only [f25,f25_e,hx1,cond_false,hp,Option.bind_some,Bool.not_false,cond_true]
theorem chk_at (B:Nat) (x:It) (hx:Fit B x) (k:Nat) (hk:B+710≤k):f13 k x.Kind x.Num x.Bytes x.Items=some (.o0 (bif mayT 4 x then 0 else 170)):=by
 obtain ⟨k,rfl⟩:∃ m,k=m+1:=⟨k - 1,by omega⟩
 have hm:=may_at B 4 (by omega) x hx k (by omega)
 rw [show ((4:Nat):Int)=4 from rfl] at hm
 cases hb:mayT 4 x<;>rw [hb] at hm
 ·simp only [f13,f13_e,hm,Option.bind_some,Bool.not_false,cond_true,cond_false]
 ·simp only [f13,f13_e,hm,Option.bind_some,Bool.not_true,cond_false,f13_j1,cond_true]
theorem may_parts {n:Nat} {x:It} (h:mayT (n+1) x=true):One x∧∀ y∈x.Items,mayT n y=true:=by
 rw [mayT,Bool.and_eq_true,List.all_eq_true] at h
 exact ⟨of_decide_eq_true h.1,h.2⟩
theorem hd_l9 (t n:Int):(hd t n).length≤9:=by
 have bl:∀ (x:Int) j,(beL x j).length=j:=fun x j=>by
  induction j with
  | zero=>rfl
  | succ j ih=>rw [beL,List.length_cons,ih]
 unfold hd
 cases decide (n<24)<;>cases decide (n<256)<;>cases decide (n<65536)<;>cases decide (n<4294967296)<;>simp [bl]
theorem flat_le {n:Nat}:∀ (l:List It),(∀ y∈l,(encT n y).length≤530 * (nodes y).length)→(l.flatMap (encT n)).length≤530 * (nodesL l).length
 | [],_=>by simp [nodesL]
 | x::r,h=>by
  have h1:=h x (by simp)
  have h2:=flat_le r fun y hy=>h y (by simp [hy])
  rw [List.flatMap_cons,List.length_append,nodesL,List.length_append]
  omega
theorem enc_le:∀ (n:Nat) (x:It),mayT n x=true→(encT n x).length≤530 * (nodes x).length
 | 0,x,h=>by simp [encT]
 | n+1,x,h=>by
  obtain ⟨h1,h2⟩:=may_parts h
  have hf:=flat_le (n:=n) x.Items fun y hy=>enc_le n y (h2 y hy)
  have hb:=h1.2.1
  rw [encT,nodes_eq,List.length_cons]
  split
  ·have:=hd_l9 0 x.Num;omega
  ·split
   ·have:=hd_l9 4 (x.Items.length:Nat);rw [List.length_append];omega
   ·have:=hd_l9 x.Kind (x.Bytes.length:Nat);rw [List.length_append];omega
theorem types_at (k:Nat) (hk:1≤k) (x:Int) (h:x=1∨x=2∨x=3∨x=4):f34 k x=some (.o0 (if x=1 then 0 else x)):=by
 obtain ⟨k,rfl⟩:∃ m,k=m+1:=⟨k - 1,by omega⟩
 rcases h with rfl | rfl | rfl | rfl<;>simp [f34,f34_e,ifE]
theorem put_loops (k:Nat) (W:It→List Int) (X:List It) (hX:X.length≤1000) (hp:∀ y∈X,∀ e:List Int,e.length+(W y).length≤70000→f22b k y.Kind y.Num y.Bytes y.Items e=some (.o0 (e++W y))):∀ (d i n:Nat) (e:List Int),i+d=X.length→d<n→e.length+((X.drop i).flatMap W).length≤70000 →
 f22b_l1 k (f22b k) n X X.length i e=some (.o1 X X.length X.length false (e++(X.drop i).flatMap W))∧f22a_l1 k n X X.length i e=some (.o1 X X.length X.length false (e++(X.drop i).flatMap W)):=by
 intro d
 induction d with
 | zero =>
  intro i n e hi hn he
  obtain ⟨n,rfl⟩:∃ m,n=m+1:=⟨n - 1,by omega⟩
  have e:i=X.length:=by omega
  subst e
  rw [List.drop_length,List.flatMap_nil,List.append_nil]
  exact ⟨by simp only [f22b_l1,f22b_l1_b,decide_eq_false (Int.lt_irrefl _),cond_false,Option.bind_some],by simp only [f22a_l1,f22a_l1_b,decide_eq_false (Int.lt_irrefl _),cond_false,Option.bind_some]⟩
 | succ d ih =>
  intro i n e hi hn he
  obtain ⟨n,rfl⟩:∃ m,n=m+1:=⟨n - 1,by omega⟩
  have h1:i<X.length:=by omega
  have g1:X[i]?=some X[i]:=List.getElem?_eq_getElem h1
  have hlt:=decide_eq_true (show (i:Int)<(X.length:Int) by omega)
  rw [List.drop_eq_getElem_cons h1,List.flatMap_cons] at he ⊢
  rw [List.length_append] at he
  have hput:=hp X[i] (List.getElem_mem h1) e (by omega)
  obtain ⟨a1,a2⟩:=ih (i+1) n (e++W X[i]) (by omega) (by omega) (by rw [List.length_append];omega)
  rw [List.append_assoc] at a1 a2
  constructor
  ·simp only [f22b_l1,f22b_l1_b,hlt,cond_true,f22b_l1_j1,ifE_pos (show (0:Int)≤(i:Int) by omega),Int.toNat_natCast,g1,Option.bind_some,hput,f22b_l1_j2,nextN h1 (by omega),a1]
  ·simp only [f22a_l1,f22a_l1_b,hlt,cond_true,f22a_l1_j1,ifE_pos (show (0:Int)≤(i:Int) by omega),Int.toNat_natCast,g1,Option.bind_some,hput,f22a_l1_j2,nextN h1 (by omega),a2]
theorem put_at:∀ (n:Nat) (x:It),mayT n x=true→x.Items.length≤1000→∀ k,700+n≤k→(∀ e:List Int,e.length+(encT n x).length≤70000→f22b k x.Kind x.Num x.Bytes x.Items e=some (.o0 (e++encT n x)))∧((encT n x).length≤70000→f22a k x.Kind x.Num x.Bytes x.Items=some (.o0 (encT n x)))
 | 0,x,h,_,k,hk=>by simp [mayT] at h
 | n+1,x,h,hi,k,hk=>by
  obtain ⟨h1,h2⟩:=may_parts h
  obtain ⟨k,rfl⟩:∃ m,k=m+1:=⟨k - 1,by omega⟩
  have hK:=h1.1.1
  have h64:=h1.2.2.1
  have hty:=types_at k (by omega) x.Kind hK
  rw [encT]
  by_cases k1:x.Kind=1
  ·rw [if_pos k1] at hty
   have e1:(x.Kind==1)=true:=by simpa using k1
   simp only [if_pos k1]
   refine ⟨fun e he => ?_,fun he => ?_⟩
   ·have hh:=head_at k (by omega) 0 x.Num e (by omega)
    simp only [f22b,f22b_e,hty,Option.bind_some,e1,cond_true,hh]
   ·have hh:=head_at k (by omega) 0 x.Num [] (by simp)
    rw [List.nil_append] at hh
    simp only [f22a,f22a_e,hty,Option.bind_some,e1,cond_true,hh]
  rw [if_neg k1] at hty
  have e1:(x.Kind==1)=false:=by simpa using k1
  by_cases k4:x.Kind=4
  ·rw [k4] at hty
   have e4:(x.Kind==4)=true:=by simpa using k4
   simp only [if_neg k1,if_pos k4]
   have hwm:IntKind.u64.wrap ((x.Items.length:Nat):Int)=(x.Items.length:Nat):=wrap_u64 (by omega) (by omega)
   have hp:=fun (y:It) (hy:y∈x.Items)=>(put_at n y (h2 y hy) (by cases n with | zero=>have:=h2 y hy;simp [mayT] at this | succ n=>have:=(may_parts (h2 y hy)).1.2.2.1;omega) k (by omega)).1
   have hh9:=hd_l9 4 (x.Items.length:Nat)
   refine ⟨fun e he => ?_,fun he => ?_⟩
   ·rw [List.length_append] at he
    have hh:=head_at k (by omega) 4 (x.Items.length:Nat) e (by omega)
    obtain ⟨a1,_⟩:=put_loops k (encT n) x.Items hi hp x.Items.length 0 k (e++hd 4 (x.Items.length:Nat)) (by omega) (by omega) (by rw [List.drop_zero,List.length_append];omega)
    rw [List.drop_zero,Int.natCast_zero] at a1
    rw [k4]
    simp only [f22b,f22b_e,hty,Option.bind_some,show ((4:Int)==1)=false from rfl,beq_self_eq_true,cond_true,cond_false,hwm,hh,a1,f22b_j2,List.append_assoc]
   ·rw [List.length_append] at he
    have hh:=head_at k (by omega) 4 (x.Items.length:Nat) [] (by simp)
    rw [List.nil_append] at hh
    obtain ⟨_,a1⟩:=put_loops k (encT n) x.Items hi hp x.Items.length 0 k (hd 4 (x.Items.length:Nat)) (by omega) (by omega) (by rw [List.drop_zero];omega)
    rw [List.drop_zero,Int.natCast_zero] at a1
    rw [k4]
    simp only [f22a,f22a_e,hty,Option.bind_some,show ((4:Int)==1)=false from rfl,beq_self_eq_true,cond_true,cond_false,hwm,hh,a1,f22a_j2]
  ·have e4:(x.Kind==4)=false:=by simpa using k4
   simp only [if_neg k1,if_neg k4]
   have hb:=h1.2.1
   have hwm:IntKind.u64.wrap ((x.Bytes.length:Nat):Int)=(x.Bytes.length:Nat):=wrap_u64 (by omega) (by omega)
   have hh9:=hd_l9 x.Kind (x.Bytes.length:Nat)
   refine ⟨fun e he => ?_,fun he => ?_⟩
   ·rw [List.length_append] at he
    have hh:=head_at k (by omega) x.Kind (x.Bytes.length:Nat) e (by omega)
    have hr1:(e++hd x.Kind (x.Bytes.length:Nat)).length+x.Bytes.length≤roomy:=by rw [List.length_append];unfold roomy;omega
    simp only [f22b,f22b_e,hty,Option.bind_some,e1,e4,cond_false,f22b_j3,hwm,hh,ifE_pos hr1,List.append_assoc]
   ·have hh:=head_at k (by omega) x.Kind (x.Bytes.length:Nat) [] (by simp)
    rw [List.nil_append] at hh
    have hr1:(hd x.Kind (x.Bytes.length:Nat)).length+x.Bytes.length≤roomy:=by unfold roomy;omega
    simp only [f22a,f22a_e,hty,Option.bind_some,e1,e4,cond_false,f22a_j3,hwm,hh,ifE_pos hr1]
theorem cenc_at (B:Nat) (x:It) (hx:Fit B x) (k:Nat) (hk:B+720≤k):f10 k x.Kind x.Num x.Bytes x.Items=some (bif mayT 4 x then .o1 0 (encT 4 x) else .o0 [] 170):=by
 obtain ⟨k,rfl⟩:∃ m,k=m+1:=⟨k - 1,by omega⟩
 have hc:=chk_at B x hx k (by omega)
 cases hb:mayT 4 x<;>rw [hb] at hc
 ·simp only [f10,f10_e,hc,Option.bind_some,cond_false,show ((170:Int) != 0)=true from rfl,cond_true]
 ·have hl:=enc_le 4 x hb
  have h120:=hx.1
  have hp:=(put_at 4 x hb (by have:=hx.items;omega) k (by omega)).2 (by omega)
  simp only [f10,f10_e,hc,Option.bind_some,cond_true,bne_self_eq_false,cond_false,f10_j1,hp]
end Go.Proofs.YtlelaenalbkbmaaDoorV