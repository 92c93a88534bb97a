/- bytes.Compare answers which of two rows of bytes is the lesser one, byte by byte. -/
import Derived.Test.YtlohjfagiigchaaPx0
import Derived.Test.YtlohjfagiigchaaHOwn
import Derived.Lib.Bytealg
import Derived.Laws.Externs
namespace Go.Proofs.Ytlohjfagiigchaa.P
open Go.RowKit Go.Proofs.YtlohjfagiigchaaW.PrintWords Go.Proofs.YtlohjfagiigchaaW.PrintLast Go.Proofs.YtlohjfagiigchaaW.PrintMore
set_option linter.unusedVariables false
set_option linter.unusedSimpArgs false
def u8s (l : List Int) : List UInt8 := l.map fun n => n.toNat.toUInt8
def bytes_Compare.f (l0 : List Int) (l1 : List Int) : Option (Int) := some (Lib.compareBytes (u8s l0) (u8s l1))
theorem run_loadBytes {P : Program} (w : World) : ∀ (xs : List Int) (a : Addr) (acc : ByteArray), (∀ j, j < xs.length → w.cell? (a.add j) = some (.int .u8 (xs.getD j 0))) →
    (Extern.Bytes.loadBytes a xs.length acc).run P w = .ok ⟨acc.data ++ (u8s xs).toArray⟩ w
  | [], a, acc, _ => by
    simp only [List.length_nil, Extern.Bytes.loadBytes, u8s, List.map_nil]
    simp
  | x :: xs, a, acc, h => by
    have h0 := h 0 (by simp)
    have ha : a.add 0 = a := by simp [Addr.add]
    rw [ha] at h0
    have hrest : ∀ j, j < xs.length → w.cell? ((a.add 1).add j) = some (.int .u8 (xs.getD j 0)) := by
      intro j hj
      have := h (j + 1) (by simp; omega)
      have hadd : (a.add 1).add j = a.add (j + 1) := by
        unfold Addr.add
        split <;> simp_all <;> omega
      rw [hadd, this]
      simp
    have ih := run_loadBytes (P := P) w xs (a.add 1) (acc.push x.toNat.toUInt8) hrest
    simp only [List.length_cons, Extern.Bytes.loadBytes]
    simp only [Sem.run_bind, run_load, h0, Result.andThen, List.getD_cons_zero, ih]
    simp [u8s, ByteArray.push]
theorem run_bytesOf {P : Program} (w : World) {A : Option Addr} {c : Nat} {xs : List Int} (h : Kd.C (Kd.int .u8) w A xs.length xs) :
    (Extern.Bytes.bytesOf (.slice A xs.length c)).run P w = .ok ⟨(u8s xs).toArray⟩ w := by
  cases A with
  | none =>
    have hl : xs = [] := by
      rcases Nat.eq_zero_or_pos xs.length with h0 | h0
      · exact List.eq_nil_of_length_eq_zero h0
      · obtain ⟨ad, ha, _⟩ := h.2.2 h0
        cases ha
    subst hl
    rfl
  | some ad =>
    have hr := (Kd.reads_of_C (d := (0 : Int)) h).2.2
    have := run_loadBytes (P := P) w xs ad .empty (fun j hj => by
      obtain ⟨ad', he, hc⟩ := hr (by omega)
      injection he with he
      subst he
      exact hc j hj)
    simp only [Extern.Bytes.bytesOf]
    rw [this]
    simp [ByteArray.empty, ByteArray.emptyWithCapacity]
    rfl
set_option maxHeartbeats 8000000 in
set_option maxRecDepth 100000 in
theorem bytes_Compare.calls (A0 : Option Addr) (c0 : Nat) (l0 : List Int) (A1 : Option Addr) (c1 : Nat) (l1 : List Int) (r : Int) (w : World) (hr0 : Kd.C (Kd.int .u8) w A0 l0.length l0) (hc0 : l0.length ≤ c0) (hr1 : Kd.C (Kd.int .u8) w A1 l1.length l1) (hc1 : l1.length ≤ c1) (h : bytes_Compare.f l0 l1 = some r) :
    Calls Try.prog 18 #[.slice A0 l0.length c0, .slice A1 l1.length c1] w fun e w' => e = .returned (.int .i64 r) ∧ Drawn0 w w' := by
  obtain rfl := Option.some.inj h
  have hrun : (Extern.BytealgCompare.compare #[.slice A0 l0.length c0, .slice A1 l1.length c1]).run Try.prog w = .ok (.int .i64 (Lib.compareBytes (u8s l0) (u8s l1))) w := by
    change Sem.run Try.prog (do pure (goInt (Extern.BytealgCompare.cmp (← Extern.Bytes.bytesOf (.slice A0 l0.length c0)) (← Extern.Bytes.bytesOf (.slice A1 l1.length c1))))) w = _
    simp only [Sem.run_bind, run_bytesOf w hr0, run_bytesOf w hr1, Sem.run_pure, Result.andThen]
    rw [Lib.cmp_eq]
    rfl
  clear h
  have HRUN := Aside0.mk hrun
  clear hrun hr0 hr1
  go_enter Try.func18, Try.ntmps18
  go_wp2_with (fail)
  rw [run_callFunc_extern Try.func24 (by kernel_rfl) (by kernel_rfl) (by kernel_rfl) (e := Extern.BytealgCompare.compare) (by kernel_rfl), HRUN.out]
  simp only [Result.andThen]
  rw [Oper.upon_value]
  go_wp2
  go_ret
  exact ⟨rfl, Drawn0.refl _⟩
end Go.Proofs.Ytlohjfagiigchaa.P
