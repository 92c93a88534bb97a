/- A bundle's bytes: what stands ahead of the hops, the hops, what stands behind; no matter what the sums are. -/
import Derived.Test.YtbnnmplkbpgcaaaDoorVPSealX
import Derived.Test.YtbnnmplkbpgcaaaDoorVPBun
namespace Go.Proofs.YtbnnmplkbpgcaaaDoorV
open Go
set_option linter.unusedVariables false
set_option linter.unusedSimpArgs false
theorem flat_len (c : Nat) : ∀ (X : List It), (∀ x ∈ X, (leafB x).length ≤ c) → (X.flatMap leafB).length ≤ X.length * c
  | [], _ => by simp
  | x :: X, h => by
    have h1 := h x (List.mem_cons_self ..)
    have h2 := flat_len c X fun y hy => h y (List.mem_cons_of_mem _ hy)
    rw [List.flatMap_cons, List.length_append, List.length_cons, Nat.add_mul]
    omega
theorem numIt_leaf (n : Int) : Leaf2 (numIt n) := ⟨rfl, by simp [numIt], .inl ⟨rfl, rfl⟩⟩
theorem numIt_len (n : Int) : (leafB (numIt n)).length ≤ 9 := by show (hd 0 _).length ≤ 9; exact hd_len _ _
theorem okL_nums (l : List Int) : okL (l.map numIt) = true := by simp [okL, numIt]
theorem enc_h (k : Nat) (hk : 8000 ≤ k) (b : Bun) (hp : b.Payload.length ≤ 5000) : ∃ A B : List Int, A.length ≤ 20000 ∧ B.length ≤ 20000 ∧ ∀ h : Int,
    (∃ e, (e != 0) = true ∧ f14_ai10rz k b.Source b.Dest b.Seq b.Created b.Lifetime b.HopLimit h b.Priority b.Offset b.Total b.Payload = some (.o0 [] e)) ∨
    (0 ≤ h ∧ h ≤ 16 ∧ f14_ai10rz k b.Source b.Dest b.Seq b.Created b.Lifetime b.HopLimit h b.Priority b.Offset b.Total b.Payload = some (.o1 0 (A ++ or8 (sh5 0) (IntKind.u8.wrap h) :: B))) := by
  obtain ⟨k, rfl⟩ : ∃ m, k = m + 3 := ⟨k - 3, by omega⟩
  have hn := nums_at (k + 2) [7, b.Dest, b.Source, IntKind.i64.wrap b.Seq, b.Created, b.Lifetime, b.Offset, b.Total, b.Priority, b.HopLimit] (by simp) (by simp; omega)
  have hl1 : (([7, b.Dest, b.Source, IntKind.i64.wrap b.Seq, b.Created, b.Lifetime, b.Offset, b.Total, b.Priority, b.HopLimit].map numIt).flatMap leafB).length ≤ 90 := by
    have := flat_len 9 ([7, b.Dest, b.Source, IntKind.i64.wrap b.Seq, b.Created, b.Lifetime, b.Offset, b.Total, b.Priority, b.HopLimit].map numIt) (fun x hx => by obtain ⟨n, _, rfl⟩ := List.mem_map.1 hx; exact numIt_len n)
    simpa using this
  have hL1 : ∀ x ∈ [7, b.Dest, b.Source, IntKind.i64.wrap b.Seq, b.Created, b.Lifetime, b.Offset, b.Total, b.Priority, b.HopLimit].map numIt, Leaf2 x := fun x hx => by obtain ⟨n, _, rfl⟩ := List.mem_map.1 hx; exact numIt_leaf n
  have he1 := cenc_at (k + 2) _ hL1 (by simp) (by omega) (by simp; omega)
  rw [okL_nums, cond_true] at he1
  have hB1 : (listB ([7, b.Dest, b.Source, IntKind.i64.wrap b.Seq, b.Created, b.Lifetime, b.Offset, b.Total, b.Priority, b.HopLimit].map numIt)).length ≤ 99 := by
    unfold listB; rw [List.length_append]; have := hd_len 4 (IntKind.u64.wrap ((([7, b.Dest, b.Source, IntKind.i64.wrap b.Seq, b.Created, b.Lifetime, b.Offset, b.Total, b.Priority, b.HopLimit].map numIt).length : Nat) : Int)); omega
  generalize listB ([7, b.Dest, b.Source, IntKind.i64.wrap b.Seq, b.Created, b.Lifetime, b.Offset, b.Total, b.Priority, b.HopLimit].map numIt) = first at he1 hB1
  generalize [7, b.Dest, b.Source, IntKind.i64.wrap b.Seq, b.Created, b.Lifetime, b.Offset, b.Total, b.Priority, b.HopLimit].map numIt = X1 at hn he1
  obtain ⟨s1, hs1, ls1⟩ := seal16_ex (k + 2) first (by omega) (by omega)
  obtain ⟨s2, hs2, ls2⟩ := seal32_ex (k + 2) b.Payload (by omega) (by omega)
  have c1 : s1.length * 1 ≤ roomy := by unfold roomy; omega
  have c2 : s2.length * 1 ≤ roomy := by unfold roomy; omega
  have l1 := hd_len 2 (IntKind.u64.wrap (s1.length : Int))
  have l2 := hd_len 2 (IntKind.u64.wrap (s2.length : Int))
  have l3 := hd_len 4 (IntKind.u64.wrap (3 : Int))
  refine ⟨hd 4 (IntKind.u64.wrap 3) ++ (hd 2 (IntKind.u64.wrap (s1.length : Int)) ++ s1), hd 2 (IntKind.u64.wrap (s2.length : Int)) ++ s2, ?_, ?_, fun h => ?_⟩
  · rw [List.length_append, List.length_append]; omega
  · rw [List.length_append]; omega
  have hc := chk_at (k + 2) (by omega) { b with Hops := h }
  by_cases hok : okP { b with Hops := h }
  · rw [if_pos hok] at hc
    have hh : 0 ≤ h ∧ h ≤ 16 := by unfold okP at hok; simp only at hok; omega
    have hL2 : ∀ x ∈ [(⟨2, 0, s1, []⟩ : It), numIt h, ⟨2, 0, s2, []⟩], Leaf2 x := by
      intro x hx
      simp only [List.mem_cons, List.not_mem_nil, or_false] at hx
      rcases hx with rfl | rfl | rfl
      · exact ⟨rfl, by show s1.length ≤ 6000; omega, .inr ⟨rfl, rfl⟩⟩
      · exact numIt_leaf h
      · exact ⟨rfl, by show s2.length ≤ 6000; omega, .inr ⟨rfl, rfl⟩⟩
    have hli := list_at (k + 2) [(⟨2, 0, s1, []⟩ : It), numIt h, ⟨2, 0, s2, []⟩] (fun x hx => ⟨(hL2 x hx).1, by have := (hL2 x hx).2.1; omega⟩) (by simp) (by simp; omega)
    have hl2 := flat_len 6009 [(⟨2, 0, s1, []⟩ : It), numIt h, ⟨2, 0, s2, []⟩] fun x hx => leafB_len (hL2 x hx)
    have he2 := cenc_at (k + 2) _ hL2 (by simp) (by simp only [List.length_cons, List.length_nil] at hl2; omega) (by simp; omega)
    have hw : IntKind.u64.wrap h = h := wrap_u64 (by omega) (by omega)
    have hbytes : listB [(⟨2, 0, s1, []⟩ : It), numIt h, ⟨2, 0, s2, []⟩] = (hd 4 (IntKind.u64.wrap 3) ++ (hd 2 (IntKind.u64.wrap (s1.length : Int)) ++ s1)) ++ or8 (sh5 0) (IntKind.u8.wrap h) :: (hd 2 (IntKind.u64.wrap (s2.length : Int)) ++ s2) := by
      have e0 : hd 0 (IntKind.u64.wrap h) = [or8 (sh5 0) (IntKind.u8.wrap h)] := by rw [hw]; unfold hd; rw [decide_eq_true (show h < 24 by omega), cond_true]
      simp [listB, leafB, numIt, e0]
    simp only [numIt] at hli he2 hbytes
    cases hol : okL [(⟨2, 0, s1, []⟩ : It), ⟨1, IntKind.u64.wrap h, [], []⟩, ⟨2, 0, s2, []⟩] <;> rw [hol] at he2 <;> simp only [cond_true, cond_false] at he2
    · refine .inl ⟨190, rfl, ?_⟩
      simp only [f14_ai10rz, f14_ai10rz_e, f14_ai10rz_j1, f14_ai10rz_j5, hc, Option.bind_some, bne_self_eq_false, cond_false, hn, he1, hs1, hs2, f34_r, f34_r_e, f53_r, ifE_pos c1, ifE_pos c2, f36_i, f36_i_e, hli, he2]
      rfl
    · refine .inr ⟨hh.1, hh.2, ?_⟩
      rw [hbytes] at he2
      simp only [f14_ai10rz, f14_ai10rz_e, f14_ai10rz_j1, f14_ai10rz_j5, f14_ai10rz_j4, hc, Option.bind_some, bne_self_eq_false, cond_false, hn, he1, hs1, hs2, f34_r, f34_r_e, f53_r, ifE_pos c1, ifE_pos c2, f36_i, f36_i_e, hli, he2]
  · rw [if_neg hok] at hc
    refine .inl ⟨190, rfl, ?_⟩
    simp only [f14_ai10rz, f14_ai10rz_e, hc, Option.bind_some]
    rfl
end Go.Proofs.YtbnnmplkbpgcaaaDoorV
