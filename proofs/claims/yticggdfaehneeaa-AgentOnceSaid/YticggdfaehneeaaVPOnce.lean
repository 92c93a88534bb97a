/- An agent that has heard a bundle is still one that may be,and remembers it. -/
import Derived.Test.YticggdfaehneeaaVPJudge
namespace Go.Proofs.YticggdfaehneeaaV
open Go
set_option linter.unusedVariables false
set_option linter.unusedSimpArgs false
theorem seenF_iff (l : List Sn) : ∀ (d i : Nat),i + d = l.length → (seenF l d i = true ↔ ∀ j (h : j < l.length),i ≤ j → okS l[j] ∧ ∀ m (hm : m < l.length),m < j → l[m] ≠ l[j]) := by
 intro d
 induction d with
 | zero => intro i hi; exact ⟨fun _ j h h2 => by omega,fun _ => rfl⟩
 | succ d ih =>
  intro i hi
  have h1 : i < l.length := by omega
  have g1 : l[i]? = some l[i] := List.getElem?_eq_getElem h1
  have ih' := ih (i + 1) (by omega)
  have hs : seenF l (d + 1) i = ((decide (okS l[i]) && !((l.take i).any (eqS · l[i]))) && seenF l d (i + 1)) := by rw [seenF,g1]
  have ha : ((l.take i).any (eqS · l[i]) = false) ↔ ∀ m (hm : m < l.length),m < i → l[m] ≠ l[i] := by
   rw [List.any_eq_false]
   constructor
   ·intro h m hm hmi he
    refine h l[m] ?_ ((eqS_iff _ _).2 he)
    rw [List.mem_take_iff_getElem]
    exact ⟨m,by omega,rfl⟩
   ·intro h x hx he
    rw [List.mem_take_iff_getElem] at hx
    obtain ⟨m,hm,rfl⟩ := hx
    exact h m (by omega) (by omega) ((eqS_iff _ _).1 he)
  rw [hs,Bool.and_eq_true,Bool.and_eq_true,decide_eq_true_iff,Bool.not_eq_true',ih',ha]
  constructor
  ·rintro ⟨⟨a1,a2⟩,a3⟩ j hj hij
   by_cases e : j = i
   ·subst e; exact ⟨a1,a2⟩
   ·exact a3 j hj (by omega)
  ·intro h
   exact ⟨h i h1 (Nat.le_refl _),fun j hj hij => h j hj (by omega)⟩
theorem seenF_iff' (l : List Sn) : seenF l l.length 0 = true ↔ (∀ s ∈ l,okS s) ∧ l.Pairwise (· ≠ ·) := by
 rw [seenF_iff l l.length 0 (by omega),List.pairwise_iff_getElem]
 constructor
 ·intro h
  refine ⟨fun s hs => ?_,fun i j hi hj hij => (h j hj (Nat.zero_le _)).2 i hi hij⟩
  obtain ⟨j,hj,rfl⟩ := List.mem_iff_getElem.1 hs
  exact (h j hj (Nat.zero_le _)).1
 ·rintro ⟨h1,h2⟩ j hj _
  exact ⟨h1 _ (List.getElem_mem hj),fun m hm hmj => h2 m j hm hj hmj⟩
theorem okS_seen {b : Bun} (h : okP b) : okS (seenB b) := by
 unfold okP at h
 unfold okS seenB
 simp only
 omega
theorem remS_any {S : List Sn} {s : Sn} (hS : S.length ≤ 64) : (remS S s).any (eqS · s) = true := by
 rw [List.any_eq_true]
 refine ⟨s,?_,eqS_refl s⟩
 unfold remS
 by_cases h : S.length < 64
 ·rw [if_pos h]; simp
 ·rw [if_neg h,List.drop_append_of_le_length (by omega)]; simp
theorem remS_ok {S : List Sn} {s : Sn} (hS : S.length ≤ 64) (h : seenF S S.length 0 = true) (hs : okS s) (hn : S.any (eqS · s) = false) : (remS S s).length ≤ 64 ∧ seenF (remS S s) (remS S s).length 0 = true := by
 rw [seenF_iff'] at h ⊢
 have hA : (∀ x ∈ S ++ [s],okS x) ∧ (S ++ [s]).Pairwise (· ≠ ·) := by
  refine ⟨fun x hx => ?_,List.pairwise_append.2 ⟨h.2,List.pairwise_singleton _ _,fun a ha b hb e => ?_⟩⟩
  ·rcases List.mem_append.1 hx with hx | hx
   ·exact h.1 x hx
   ·rw [List.mem_singleton.1 hx]; exact hs
  ·rw [List.mem_singleton.1 hb] at e
   exact List.any_eq_false.1 hn a ha ((eqS_iff _ _).2 e)
 unfold remS
 by_cases hl : S.length < 64
 ·rw [if_pos hl]
  exact ⟨by simp; omega,hA⟩
 ·rw [if_neg hl]
  refine ⟨by simp; omega,fun x hx => hA.1 x (List.mem_of_mem_drop hx),hA.2.sublist (List.drop_sublist 1 _)⟩
theorem ofB_kept {P : List Bun} {s q : Int} {x : Bun} (h : idB s q x = false) : ofB (keptI s q P) x.Source x.Seq = ofB P x.Source x.Seq := by
 unfold ofB keptI
 rw [List.filter_filter]
 refine List.filter_congr fun y _ => ?_
 unfold idB at h ⊢
 cases h1 : (y.Source == x.Source) && (y.Seq == x.Seq)
 ·rw [Bool.false_and]
 ·rw [Bool.and_eq_true,beq_iff_eq,beq_iff_eq] at h1
  rw [h1.1,h1.2,h]; rfl
theorem okA_iff {nd nx : Int} {S : List Sn} {P : List Bun} : okA nd nx S P = true ↔ (1 ≤ nd ∧ nd ≤ 6) ∧ (nx == 0) = false ∧ S.length ≤ 64 ∧ P.length ≤ 7 ∧ seenF S S.length 0 = true ∧ ∀ b ∈ P,AB nd b = true ∧ MB P b = true := by
 unfold okA
 simp only [Bool.and_eq_true,Bool.not_eq_true',decide_eq_false_iff_not,decide_eq_true_iff,List.all_eq_true]
 constructor
 ·rintro ⟨a1,a2,a3,a4,a5,a6⟩
  exact ⟨a1,a2,by omega,by omega,a5,a6⟩
 ·rintro ⟨a1,a2,a3,a4,a5,a6⟩
  exact ⟨a1,a2,by omega,by omega,a5,a6⟩
theorem okA_kept {nd nx : Int} {S S' : List Sn} {P : List Bun} (s q : Int) (h : okA nd nx S P = true) (h1 : S'.length ≤ 64) (h2 : seenF S' S'.length 0 = true) : okA nd nx S' (keptI s q P) = true := by
 rw [okA_iff] at h ⊢
 obtain ⟨a1,a2,a3,a4,a5,a6⟩ := h
 refine ⟨a1,a2,h1,Nat.le_trans (kept_len s q P) a4,h2,fun b hb => ?_⟩
 obtain ⟨hm,hf⟩ := List.mem_filter.1 hb
 have hf' : idB s q b = false := by simpa using hf
 refine ⟨(a6 b hm).1,?_⟩
 have := (a6 b hm).2
 unfold MB at this ⊢
 rw [ofB_kept hf']
 exact this
theorem okA_same {nd nx : Int} {S S' : List Sn} {P : List Bun} (h : okA nd nx S P = true) (h1 : S'.length ≤ 64) (h2 : seenF S' S'.length 0 = true) : okA nd nx S' P = true := by
 rw [okA_iff] at h ⊢
 obtain ⟨a1,a2,a3,a4,a5,a6⟩ := h
 exact ⟨a1,a2,h1,a4,h2,a6⟩
theorem ofB_more {P : List Bun} {b : Bun} {s q : Int} : ofB (P ++ [b]) s q = ofB P s q ++ (cond (idB s q b) [b] []) := by
 unfold ofB
 rw [List.filter_append,List.filter_cons,List.filter_nil]
 unfold idB
 cases (b.Source == s) && (b.Seq == q) <;> rfl
theorem okA_more {nd nx : Int} {S S' : List Sn} {P : List Bun} {b : Bun} (h : okA nd nx S P = true) (h1 : S'.length ≤ 64) (h2 : seenF S' S'.length 0 = true) (ob : okP b) (hd : b.Dest = nd) (ht : ((b.Payload.length : Int) == b.Total) = false) (h7 : P.length ≠ 7)
  (hc : chkL (ofB P b.Source b.Seq ++ [b]) = true) (hg : ((gapsF (hasF (ofB P b.Source b.Seq ++ [b]))).length : Int) > 0) : okA nd nx S' (P ++ [b]) = true := by
 rw [okA_iff] at h ⊢
 obtain ⟨a1,a2,a3,a4,a5,a6⟩ := h
 have hg' : (((gapsF (hasF (ofB P b.Source b.Seq ++ [b]))).length : Int) == 0) = false := by rw [beq_eq_false_iff_ne]; omega
 have hB : MB (P ++ [b]) b = true := by
  unfold MB
  rw [ofB_more,show idB b.Source b.Seq b = true by unfold idB; simp,cond_true,hc,hg']; rfl
 refine ⟨a1,a2,h1,by simp; omega,h2,fun x hx => ?_⟩
 rcases List.mem_append.1 hx with hx | hx
 ·refine ⟨(a6 x hx).1,?_⟩
  cases hi : idB x.Source x.Seq b
  ·have := (a6 x hx).2
   unfold MB at this ⊢
   rw [ofB_more,hi,cond_false,List.append_nil]
   exact this
  ·unfold idB at hi
   rw [Bool.and_eq_true,beq_iff_eq,beq_iff_eq] at hi
   unfold MB at hB ⊢
   rw [← hi.1,← hi.2]
   exact hB
 ·rw [List.mem_singleton.1 hx]
  refine ⟨?_,hB⟩
  unfold AB
  rw [decide_eq_true ob,hd,ht,bne_self_eq_false]; rfl
theorem turn_ok {nd nx : Int} {S S' : List Sn} {P P' : List Bun} {b vb : Bun} {now kind : Int} (h : okA nd nx S P = true) (fP : ∀ x ∈ P,Fit x) (fb : Fit b) (st : Step nd S P b now kind vb S' P') :
  okA nd nx S' P' = true ∧ (∀ x ∈ P',Fit x) ∧
  ((S' = S ∧ P' = P ∧ (kind = 1 ∨ kind = 2 ∨ kind = 3 ∨ kind = 4 ∨ kind = 5 ∨ kind = 7)) ∨
   ((kind = 8 ∨ kind = 9 ∨ (kind = 6 ∧ vb = { b with Hops := IntKind.i64.wrap (b.Hops + 1) })) ∧ okP b ∧ expB now b = false ∧ S'.any (eqS · (seenB b)) = true)) := by
 rcases st with ⟨e1,e2,e3⟩ | ⟨ob,he,hn,e1,st⟩
 ·subst e1; subst e2
  exact ⟨h,fP,.inl ⟨rfl,rfl,e3⟩⟩
 ·obtain ⟨l1,l2⟩ := okA_len h
  have h5 := (okA_iff.1 h).2.2.2.2.1
  obtain ⟨r1,r2⟩ := remS_ok l1 h5 (okS_seen ob) hn
  have ra := remS_any (s := seenB b) l1
  subst e1
  rcases st with ⟨k1,k2,k3⟩ | ⟨k1,k3⟩ | ⟨k1,k3,d1,d2,d3,d4,d5⟩
  ·subst k3
   exact ⟨okA_same h r1 r2,fP,.inr ⟨.inr (.inr ⟨k1,k2⟩),ob,he,ra⟩⟩
  ·subst k3
   exact ⟨okA_kept b.Source b.Seq h r1 r2,fun x hx => fP x (List.mem_filter.1 hx).1,.inr ⟨.inr (.inl k1),ob,he,ra⟩⟩
  ·subst k3
   refine ⟨okA_more h r1 r2 ob d1 d2 d3 d4 d5,fun x hx => ?_,.inr ⟨.inl k1,ob,he,ra⟩⟩
   rcases List.mem_append.1 hx with hx | hx
   ·exact fP x hx
   ·rw [List.mem_singleton.1 hx]; exact fb
theorem drop_eq_iff {α : Type} {a b : List α} {i : Nat} (h1 : i < a.length) (h2 : i < b.length) : a.drop i = b.drop i ↔ a[i] = b[i] ∧ a.drop (i + 1) = b.drop (i + 1) := by
 rw [List.drop_eq_getElem_cons h1,List.drop_eq_getElem_cons h2,List.cons.injEq]
theorem eqf_l (k : Nat) (a b : List Bun) (hl : a.length ≤ 1000) (h : a.length = b.length) (hp : ∀ x ∈ a,x.Payload.length ≤ 3000) (hk : 3100 ≤ k) : ∀ (d i n : Nat),i + d = a.length → d < n →
  f40_rrf41_l2 k n b a a.length i = if a.drop i = b.drop i then some (.o2 b a a.length a.length false) else some (.o0 false) := by
 intro d
 induction d with
 | zero =>
  intro i n hi hq
  obtain ⟨n,rfl⟩ : ∃ m,n = m + 1 := ⟨n - 1,by omega⟩
  have e3 : i = a.length := by omega
  subst e3
  rw [List.drop_length,h,List.drop_length,if_pos rfl]
  simp only [f40_rrf41_l2,f40_rrf41_l2_b,decide_eq_false (Int.lt_irrefl _),cond_false,Option.bind_some]
 | succ d ih =>
  intro i n hi hq
  obtain ⟨n,rfl⟩ : ∃ m,n = m + 1 := ⟨n - 1,by omega⟩
  have h1 : i < a.length := by omega
  have h2 : i < b.length := by omega
  have g1 : a[i]? = some a[i] := List.getElem?_eq_getElem h1
  have g2 : b[i]? = some b[i] := List.getElem?_eq_getElem h2
  have hlt : ((i : Int) < (a.length : Int)) := by omega
  have hw := nextN h1 (by omega)
  have hs := same_at k a[i] b[i] (by have := hp a[i] (List.getElem_mem h1); omega) (by have := hp a[i] (List.getElem_mem h1); omega)
  have ih' := ih (i + 1) n (by omega) (by omega)
  simp only [f40_rrf41_l2,f40_rrf41_l2_b,f40_rrf41_l2_j1,f40_rrf41_l2_j2,decide_eq_true hlt,cond_true,ifE_pos (show (0 : Int) ≤ i by omega),Int.toNat_natCast,g1,g2,Option.bind_some,hs,hw]
  by_cases he : a[i] = b[i]
  ·have hd : (a.drop i = b.drop i) = (a.drop (i + 1) = b.drop (i + 1)) := propext ((drop_eq_iff h1 h2).trans ⟨fun h => h.2,fun h => ⟨he,h⟩⟩)
   simp only [decide_eq_true he,Bool.not_true,cond_false,Option.bind_some,ih',hd]
  ·have hd : ¬ (a.drop i = b.drop i) := fun h => he ((drop_eq_iff h1 h2).1 h).1
   simp only [decide_eq_false he,Bool.not_false,cond_true,Option.bind_some,if_neg hd]
theorem eqf_at (k : Nat) (hk : 4200 ≤ k) (a b : List Bun) (hl : a.length ≤ 1000) (hp : ∀ x ∈ a,x.Payload.length ≤ 3000) : f40_rrf41 k a b = some (.o0 (decide (a = b))) := by
 obtain ⟨k,rfl⟩ : ∃ m,k = m + 1 := ⟨k - 1,by omega⟩
 by_cases h : a.length = b.length
 ·have hL := eqf_l k a b hl h hp (by omega) a.length 0 k (by omega) (by omega)
  rw [List.drop_zero,List.drop_zero,Int.natCast_zero] at hL
  have hb : ((a.length : Int) != (b.length : Int)) = false := by simp [h]
  simp only [f40_rrf41,f40_rrf41_e,f40_rrf41_j1,hb,cond_false,hL]
  by_cases he : a = b
  ·simp only [if_pos he,decide_eq_true he,Option.bind_some,f40_rrf41_j3]
  ·simp only [if_neg he,decide_eq_false he,Option.bind_some]
 ·have hb : ((a.length : Int) != (b.length : Int)) = true := by simpa using fun h' => h (Int.ofNat.inj h')
  have he : a ≠ b := fun e => h (by rw [e])
  simp only [f40_rrf41,f40_rrf41_e,hb,cond_true,decide_eq_false he]
theorem seqs_l (k : Nat) (a b : List Sn) (hl : a.length ≤ 1000) (h : a.length = b.length) : ∀ (d i n : Nat),i + d = a.length → d < n →
  f39_rr_l2 k n a b a.length i = if a.drop i = b.drop i then some (.o2 a b a.length a.length false) else some (.o0 false) := by
 intro d
 induction d with
 | zero =>
  intro i n hi hq
  obtain ⟨n,rfl⟩ : ∃ m,n = m + 1 := ⟨n - 1,by omega⟩
  have e3 : i = a.length := by omega
  subst e3
  rw [List.drop_length,h,List.drop_length,if_pos rfl]
  simp only [f39_rr_l2,f39_rr_l2_b,decide_eq_false (Int.lt_irrefl _),cond_false,Option.bind_some]
 | succ d ih =>
  intro i n hi hq
  obtain ⟨n,rfl⟩ : ∃ m,n = m + 1 := ⟨n - 1,by omega⟩
  have h1 : i < a.length := by omega
  have h2 : i < b.length := by omega
  have g1 : a[i]? = some a[i] := List.getElem?_eq_getElem h1
  have g2 : b[i]? = some b[i] := List.getElem?_eq_getElem h2
  have hlt : ((i : Int) < (a.length : Int)) := by omega
  have hw := nextN h1 (by omega)
  have ih' := ih (i + 1) n (by omega) (by omega)
  have hE : eqS a[i] b[i] = decide (a[i] = b[i]) := by rw [Bool.eq_iff_iff,eqS_iff,decide_eq_true_iff]
  unfold eqS at hE
  simp only [f39_rr_l2,f39_rr_l2_b,f39_rr_l2_j1,f39_rr_l2_j2,decide_eq_true hlt,cond_true,ifE_pos (show (0 : Int) ≤ i by omega),Int.toNat_natCast,g1,g2,Option.bind_some,hE,hw]
  by_cases he : a[i] = b[i]
  ·have hd : (a.drop i = b.drop i) = (a.drop (i + 1) = b.drop (i + 1)) := propext ((drop_eq_iff h1 h2).trans ⟨fun h => h.2,fun h => ⟨he,h⟩⟩)
   simp only [decide_eq_true he,Bool.not_true,cond_false,Option.bind_some,ih',hd]
  ·have hd : ¬ (a.drop i = b.drop i) := fun h => he ((drop_eq_iff h1 h2).1 h).1
   simp only [decide_eq_false he,Bool.not_false,cond_true,Option.bind_some,if_neg hd]
theorem seqs_at (k : Nat) (hk : 1002 ≤ k) (a b : List Sn) (hl : a.length ≤ 1000) : f39_rr k a b = some (.o0 (decide (a = b))) := by
 obtain ⟨k,rfl⟩ : ∃ m,k = m + 1 := ⟨k - 1,by omega⟩
 by_cases h : a.length = b.length
 ·have hL := seqs_l k a b hl h a.length 0 k (by omega) (by omega)
  rw [List.drop_zero,List.drop_zero,Int.natCast_zero] at hL
  have hb : ((a.length : Int) != (b.length : Int)) = false := by simp [h]
  simp only [f39_rr,f39_rr_e,f39_rr_j1,hb,cond_false,hL]
  by_cases he : a = b
  ·simp only [if_pos he,decide_eq_true he,Option.bind_some,f39_rr_j3]
  ·simp only [if_neg he,decide_eq_false he,Option.bind_some]
 ·have hb : ((a.length : Int) != (b.length : Int)) = true := by simpa using fun h' => h (Int.ofNat.inj h')
  have he : a ≠ b := fun e => h (by rw [e])
  simp only [f39_rr,f39_rr_e,hb,cond_true,decide_eq_false he]
def sameAg (nd nx : Int) (S : List Sn) (P : List Bun) (nd' nx' : Int) (S' : List Sn) (P' : List Bun) : Bool := (nd == nd') && ((nx == nx') && (decide (S = S') && decide (P = P')))
theorem psame_at (k : Nat) (hk : 5000 ≤ k) (nd nx nd' nx' : Int) (S S' : List Sn) (P P' : List Bun) (hS : S.length ≤ 300) (hP : P.length ≤ 60) (hp : ∀ b ∈ P,b.Payload.length ≤ 3000) : f21_aiirrzaiirrz k nd nx S P nd' nx' S' P' = some (.o0 (sameAg nd nx S P nd' nx' S' P')) := by
 obtain ⟨k,rfl⟩ : ∃ m,k = m + 1 := ⟨k - 1,by omega⟩
 simp only [f21_aiirrzaiirrz,f21_aiirrzaiirrz_e,seqs_at k (by omega) S S' (by omega),eqf_at k (by omega) P P' (by omega) hp,Option.bind_some,sameAg]
 cases (nd == nd')
 ·simp only [cond_false,Bool.false_and]
 cases (nx == nx')
 ·simp only [cond_true,cond_false,Bool.true_and,Bool.false_and]
 cases decide (S = S')
 ·simp only [cond_true,cond_false,Bool.true_and,Bool.false_and]
 ·simp only [cond_true,Bool.true_and]
theorem large_l (k : Nat) (P : List Bun) (hP : P.length ≤ 1000) : ∀ (d i n : Nat),i + d = P.length → d < n →
  f8_aiirrzr_l2 k n P.length i P = some (cond ((P.drop i).any fun b => decide ((b.Payload.length : Int) > 3000)) (.o0 true) (.o2 P.length P.length false P)) := by
 intro d
 induction d with
 | zero =>
  intro i n hi hq
  obtain ⟨n,rfl⟩ : ∃ m,n = m + 1 := ⟨n - 1,by omega⟩
  have e3 : i = P.length := by omega
  subst e3
  simp [f8_aiirrzr_l2,f8_aiirrzr_l2_b]
 | succ d ih =>
  intro i n hi hq
  obtain ⟨n,rfl⟩ : ∃ m,n = m + 1 := ⟨n - 1,by omega⟩
  have h1 : i < P.length := by omega
  have g1 : P[i]? = some P[i] := List.getElem?_eq_getElem h1
  have hlt : ((i : Int) < (P.length : Int)) := by omega
  have hw := nextN h1 (by omega)
  have ih' := ih (i + 1) n (by omega) (by omega)
  rw [List.drop_eq_getElem_cons h1,List.any_cons]
  simp only [f8_aiirrzr_l2,f8_aiirrzr_l2_b,f8_aiirrzr_l2_j1,decide_eq_true hlt,cond_true,ifE_pos (show (0 : Int) ≤ i by omega),ifE_pos hlt,Int.toNat_natCast,g1,Option.bind_some]
  cases decide ((P[i].Payload.length : Int) > 3000)
  ·simp only [cond_false,f8_aiirrzr_l2_j2,Option.bind_some,hw,ih',Bool.false_or]
  ·simp only [cond_true,Option.bind_some,Bool.true_or]
def bigB (S : List Sn) (P : List Bun) (b : Bun) : Bool := decide ((S.length : Int) > 300) || (decide ((P.length : Int) > 60) || (P ++ [b]).any fun b => decide ((b.Payload.length : Int) > 3000))
theorem large_at (k : Nat) (hk : 100 ≤ k) (nd nx : Int) (S : List Sn) (P : List Bun) (b : Bun) : f8_aiirrzr k nd nx S P [b] = some (.o0 (bigB S P b)) := by
 obtain ⟨k,rfl⟩ : ∃ m,k = m + 1 := ⟨k - 1,by omega⟩
 simp only [f8_aiirrzr,f8_aiirrzr_e,bigB]
 cases decide ((S.length : Int) > 300)
 case true => simp only [cond_true,Bool.true_or]
 by_cases h : (P.length : Int) > 60
 ·simp only [decide_eq_true h,cond_true,cond_false,Bool.true_or,Bool.false_or]
 have r1 : P.length * 104 ≤ roomy := by unfold roomy; omega
 have r2 : (P.length + ([b] : List Bun).length) * 104 ≤ roomy := by unfold roomy; simp; omega
 have hl := large_l k (P ++ [b]) (by simp; omega) (P ++ [b]).length 0 k (by omega) (by simp; omega)
 rw [List.drop_zero,Int.natCast_zero] at hl
 simp only [decide_eq_false h,cond_false,Bool.false_or,f8_aiirrzr_j1,ifE_pos r1,ifE_pos r2,hl]
 cases (P ++ [b]).any fun b => decide ((b.Payload.length : Int) > 3000)
 ·simp only [cond_false,Option.bind_some,f8_aiirrzr_j3]
 ·simp only [cond_true,Option.bind_some]
theorem eqb_at (k : Nat) (hk : 3100 ≤ k) (a b : List Int) (ha : a.length ≤ 3000) : f20_rr k a b = some (.o0 (decide (a = b))) := by
 obtain ⟨k,rfl⟩ : ∃ m,k = m + 1 := ⟨k - 1,by omega⟩
 simp only [f20_rr,f20_rr_e,seq_at a b (by omega) k (by omega),Option.bind_some]
end Go.Proofs.YticggdfaehneeaaV