/- What was seen: which may be,whether one is there,its place. -/
import Derived.Test.YticggdfaehneeaaVPBun
namespace Go.Proofs.YticggdfaehneeaaV
open Go
set_option linter.unusedVariables false
set_option linter.unusedSimpArgs false
abbrev Sn:=T65
theorem nextN {i n:Nat} (h:i<n) (hn:n<4611686018427387904):IntKind.i64.wrap ((i:Int)+1)=((i+1:Nat):Int):=by rw [wrap_i64 (by omega) (by omega)];rfl
def eqS (a b:Sn):Bool:=((a.Key_Source==b.Key_Source)&&((a.Key_Seq==b.Key_Seq)&&(a.Key_Offset==b.Key_Offset)))&&(a.N==b.N)
theorem eqS_iff (a b:Sn):eqS a b=true↔a=b:=by
 unfold eqS
 simp only [Bool.and_eq_true,beq_iff_eq]
 constructor
 ·rintro ⟨⟨h1,h2,h3⟩,h4⟩
  cases a;cases b
  simp only at h1 h2 h3 h4
  subst h1;subst h2;subst h3;subst h4
  rfl
 ·rintro rfl
  exact ⟨⟨rfl,rfl,rfl⟩,rfl⟩
theorem eqS_refl (a:Sn):eqS a a=true:=(eqS_iff a a).2 rfl
theorem eqS_comm (a b:Sn):eqS a b=eqS b a:=by rw [Bool.eq_iff_iff,eqS_iff,eqS_iff];exact eq_comm
theorem awithin_at (k:Nat) (hk:1≤k) (x a b:Int):f23 k x a b=some (.o0 (decide (a≤x∧x≤b))):=by
 obtain ⟨k,rfl⟩:∃ m,k=m+1:=⟨k - 1,by omega⟩
 simp only [f23,f23_e]
 by_cases h:a≤x
 ·simp [h]
 ·simp [h]
def idxS (s:Sn):List Sn→Nat→Int
 | [],_ => -1
 | x::l,i=>cond (eqS s x) (i:Int) (idxS s l (i+1))
theorem idx_l (k:Nat) (l:List Sn) (s:Sn) (hl:l.length≤100000):∀ (d i n:Nat),i+d=l.length→d<n →
 (∃ j:Int,idxS s (l.drop i) i=j∧f33_l1 k n l l.length i s.Key_Source s.Key_Seq s.Key_Offset s.N=some (.o0 j))∨(idxS s (l.drop i) i = -1∧f33_l1 k n l l.length i s.Key_Source s.Key_Seq s.Key_Offset s.N=some (.o2 l l.length l.length false s.Key_Source s.Key_Seq s.Key_Offset s.N)):=by
 intro d
 induction d with
 | zero =>
  intro i n hi hq
  obtain ⟨n,rfl⟩:∃ m,n=m+1:=⟨n - 1,by omega⟩
  have e3:i=l.length:=by omega
  subst e3
  right
  simp [f33_l1,f33_l1_b,idxS]
 | succ d ih =>
  intro i n hi hq
  obtain ⟨n,rfl⟩:∃ m,n=m+1:=⟨n - 1,by omega⟩
  have h1:i<l.length:=by omega
  have g1:l[i]?=some l[i]:=List.getElem?_eq_getElem h1
  have hlt:((i:Int)<(l.length:Int)):=by omega
  have hw:=nextN h1 (by omega)
  rw [List.drop_eq_getElem_cons h1,idxS]
  cases he:eqS s l[i]
  ·have he':=he
   unfold eqS at he'
   have e:f33_l1 k (n+1) l l.length i s.Key_Source s.Key_Seq s.Key_Offset s.N=f33_l1 k n l l.length ((i+1:Nat):Int) s.Key_Source s.Key_Seq s.Key_Offset s.N:=by
    simp only [f33_l1,f33_l1_b,f33_l1_j1,f33_l1_j2,decide_eq_true hlt,cond_true,cond_false,ifE_pos (show (0:Int)≤i by omega),Int.toNat_natCast,g1,Option.bind_some,he',hw]
   rw [e,cond_false]
   exact ih (i+1) n (by omega) (by omega)
  ·have he':=he
   unfold eqS at he'
   left
   refine ⟨i,rfl,?_⟩
   simp only [f33_l1,f33_l1_b,f33_l1_j1,decide_eq_true hlt,cond_true,ifE_pos (show (0:Int)≤i by omega),Int.toNat_natCast,g1,Option.bind_some,he']
theorem idx_at (k:Nat) (l:List Sn) (s:Sn) (hl:l.length≤100000) (hk:l.length+2≤k):f33 k l s.Key_Source s.Key_Seq s.Key_Offset s.N=some (.o0 (idxS s l 0)):=by
 obtain ⟨k,rfl⟩:∃ m,k=m+1:=⟨k - 1,by omega⟩
 have h:=idx_l k l s hl l.length 0 k (by omega) (by omega)
 rw [List.drop_zero,Int.natCast_zero] at h
 rcases h with ⟨j,h1,h2⟩ | ⟨h1,h2⟩<;>rw [h1]<;>simp only [f33,f33_e,f33_j2,h2,Option.bind_some]
theorem idxS_any (s:Sn):∀ (l:List Sn) (b i:Nat) (h:i<l.length),eqS s l[i]=true→(idxS s l b != ((b+i:Nat):Int))=(l.take i).any (eqS · s)
 | [],b,i,h,_=>by simp at h
 | x::l,b,0,h,he=>by
  rw [idxS]
  simp only [List.getElem_cons_zero] at he
  rw [he,cond_true]
  simp
 | x::l,b,i+1,h,he=>by
  rw [idxS,List.take_succ_cons,List.any_cons,eqS_comm x s]
  cases hx:eqS s x
  ·rw [cond_false,Bool.false_or]
   have:=idxS_any s l (b+1) i (by simpa using h) (by simpa using he)
   rw [←this,show b+1+i=b+(i+1) by omega]
  ·rw [cond_true,Bool.true_or]
   simp
   omega
def okS (s:Sn):Prop:=(1≤s.Key_Source∧s.Key_Source≤6)∧s.Key_Seq≠0∧(0≤s.Key_Offset∧s.Key_Offset≤400)∧(1≤s.N∧s.N≤400 - s.Key_Offset)
instance (s:Sn):Decidable (okS s):=by unfold okS;infer_instance
def seenF (l:List Sn):Nat→Nat→Bool
 | 0,_=>true
 | d+1,i=>match l[i]? with
  | none=>true
  | some s=>(decide (okS s) && !((l.take i).any (eqS · s)))&&seenF l d (i+1)
theorem cseen_l (k:Nat) (hk:1000≤k) (nd nx:Int) (l:List Sn) (P:List Bun) (hl:l.length≤300):∀ (d i n:Nat),i+d=l.length→d<n →
 f19_l2 k n l l.length i nd nx l P=some (cond (seenF l d i) (.o2 l l.length l.length false nd nx l P) (.o0 290)):=by
 intro d
 induction d with
 | zero =>
  intro i n hi hq
  obtain ⟨n,rfl⟩:∃ m,n=m+1:=⟨n - 1,by omega⟩
  have e3:i=l.length:=by omega
  subst e3
  simp [f19_l2,f19_l2_b,seenF]
 | succ d ih =>
  intro i n hi hq
  obtain ⟨n,rfl⟩:∃ m,n=m+1:=⟨n - 1,by omega⟩
  have h1:i<l.length:=by omega
  have g1:l[i]?=some l[i]:=List.getElem?_eq_getElem h1
  have hlt:((i:Int)<(l.length:Int)):=by omega
  have hw:=nextN h1 (by omega)
  have ih':=ih (i+1) n (by omega) (by omega)
  have w:=fun x a b=>awithin_at k (by omega) x a b
  have hx:=idx_at k l l[i] (by omega) (by omega)
  have ha:=idxS_any l[i] l 0 i h1 (eqS_refl _)
  rw [Nat.zero_add] at ha
  have hs:seenF l (d+1) i=((decide (okS l[i]) && !((l.take i).any (eqS · l[i])))&&seenF l d (i+1)):=by rw [seenF,g1]
  rw [hs]
  simp only [f19_l2,f19_l2_b,f19_l2_j1,decide_eq_true hlt,cond_true,ifE_pos (show (0:Int)≤i by omega),Int.toNat_natCast,g1,Option.bind_some,w]
  by_cases q1:1≤l[i].Key_Source∧l[i].Key_Source≤6
  case neg=>rw [decide_eq_false (fun h:okS l[i]=>q1 h.1)];simp only [decide_eq_false q1,Bool.not_false,cond_true,Bool.false_and,cond_false,Option.bind_some]
  by_cases q2:l[i].Key_Seq=0
  ·rw [decide_eq_false (fun h:okS l[i]=>h.2.1 q2)];simp only [decide_eq_true q1,Bool.not_true,cond_false,show (l[i].Key_Seq==0)=true by simpa using q2,cond_true,Bool.false_and,Option.bind_some]
  by_cases q3:0≤l[i].Key_Offset∧l[i].Key_Offset≤400
  case neg=>rw [decide_eq_false (fun h:okS l[i]=>q3 h.2.2.1)];simp only [decide_eq_true q1,Bool.not_true,cond_false,show (l[i].Key_Seq==0)=false by simpa using q2,decide_eq_false q3,Bool.not_false,cond_true,Bool.false_and,Option.bind_some]
  have hw4:IntKind.i64.wrap ((400:Int) - l[i].Key_Offset)=400 - l[i].Key_Offset:=wrap_i64 (by omega) (by omega)
  by_cases q4:1≤l[i].N∧l[i].N≤400 - l[i].Key_Offset
  case neg=>rw [decide_eq_false (fun h:okS l[i]=>q4 h.2.2.2)];simp only [decide_eq_true q1,Bool.not_true,cond_false,show (l[i].Key_Seq==0)=false by simpa using q2,decide_eq_true q3,hw4,decide_eq_false q4,Bool.not_false,cond_true,Bool.false_and,Option.bind_some]
  rw [decide_eq_true (show okS l[i] from ⟨q1,q2,q3,q4⟩),Bool.true_and]
  simp only [decide_eq_true q1,Bool.not_true,cond_false,show (l[i].Key_Seq==0)=false by simpa using q2,decide_eq_true q3,hw4,decide_eq_true q4,hx,Option.bind_some,ha]
  cases (l.take i).any (eqS · l[i])
  ·simp only [cond_false,Bool.not_false,Bool.true_and,f19_l2_j2,Option.bind_some,hw,ih']
  ·simp only [cond_true,Bool.not_true,Bool.false_and,cond_false,Option.bind_some]
end Go.Proofs.YticggdfaehneeaaV