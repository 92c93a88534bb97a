/- The value interpreter's hints and the types' facts for this seat, one by one. -/
import Derived.Test.YtmogplhglcodjaaHViS
import Derived.Test.YtmogplhglcodjaaHVi26
namespace Go.Proofs.YtmogplhglcodjaaV
open Go
set_option linter.unusedVariables false
noncomputable def inf (t : TypeId) : TypeInfo := (Try.prog.info? t).getD ((Try.prog.info? 3).get (by kernel_rfl))
@[simp] theorem u_3 : Try.prog.underlying 3 = Option.some (Go.TypeDesc.int Go.IntKind.i64) := by kernel_rfl
@[simp] theorem i_3 : Try.prog.info? 3 = some (inf 3) := by kernel_rfl
@[simp] theorem is_3 : (inf 3).size = 1 := by kernel_rfl
@[simp] theorem ib_3 : (inf 3).bytes = 8 := by kernel_rfl
@[simp] theorem iz_3 : zeroRow (inf 3) = Option.some [V.p (Go.Value.int Go.IntKind.i64 0)] := by kernel_rfl
@[simp] theorem u_4 : Try.prog.underlying 4 = Option.some Go.TypeDesc.bool := by kernel_rfl
@[simp] theorem i_4 : Try.prog.info? 4 = some (inf 4) := by kernel_rfl
@[simp] theorem is_4 : (inf 4).size = 1 := by kernel_rfl
@[simp] theorem ib_4 : (inf 4).bytes = 1 := by kernel_rfl
@[simp] theorem iz_4 : zeroRow (inf 4) = Option.some [V.p (Go.Value.bool false)] := by kernel_rfl
@[simp] theorem u_22 : Try.prog.underlying 22 = Option.some (Go.TypeDesc.slice 44) := by kernel_rfl
@[simp] theorem i_22 : Try.prog.info? 22 = some (inf 22) := by kernel_rfl
@[simp] theorem is_22 : (inf 22).size = 1 := by kernel_rfl
@[simp] theorem ib_22 : (inf 22).bytes = 24 := by kernel_rfl
@[simp] theorem iz_22 : zeroRow (inf 22) = Option.some [V.nil] := by kernel_rfl
@[simp] theorem u_24 : Try.prog.underlying 24 = Option.some (Go.TypeDesc.struct (Array.mk [Go.Field.mk "Nodes" 3 0 false "" "" 0, Go.Field.mk "Contacts" 22 1 false "" "" 8])) := by kernel_rfl
@[simp] theorem i_24 : Try.prog.info? 24 = some (inf 24) := by kernel_rfl
@[simp] theorem is_24 : (inf 24).size = 2 := by kernel_rfl
@[simp] theorem ib_24 : (inf 24).bytes = 32 := by kernel_rfl
@[simp] theorem iz_24 : zeroRow (inf 24) = Option.some [V.p (Go.Value.int Go.IntKind.i64 0), V.nil] := by kernel_rfl
@[simp] theorem u_44 : Try.prog.underlying 44 = Option.some (Go.TypeDesc.struct (Array.mk [Go.Field.mk "From" 3 0 false "" "" 0, Go.Field.mk "To" 3 1 false "" "" 8, Go.Field.mk "Start" 3 2 false "" "" 16, Go.Field.mk "End" 3 3 false "" "" 24, Go.Field.mk "Rate" 3 4 false "" "" 32, Go.Field.mk "Delay" 3 5 false "" "" 40])) := by kernel_rfl
@[simp] theorem i_44 : Try.prog.info? 44 = some (inf 44) := by kernel_rfl
@[simp] theorem is_44 : (inf 44).size = 6 := by kernel_rfl
@[simp] theorem ib_44 : (inf 44).bytes = 48 := by kernel_rfl
@[simp] theorem iz_44 : zeroRow (inf 44) = Option.some [V.p (Go.Value.int Go.IntKind.i64 0), V.p (Go.Value.int Go.IntKind.i64 0), V.p (Go.Value.int Go.IntKind.i64 0), V.p (Go.Value.int Go.IntKind.i64 0), V.p (Go.Value.int Go.IntKind.i64 0), V.p (Go.Value.int Go.IntKind.i64 0)] := by kernel_rfl
@[simp] theorem sm_44 : slotMs Try.prog 8 44 = [0, 0, 0, 0, 0, 0] := by kernel_rfl
@[simp] theorem ag_44 : (Try.prog.eqGuardType Try.prog.depth 44 || Try.prog.stoodInHeld 44) = false := by kernel_rfl
@[simp] theorem gv (f : FuncId) : hints.gives f = [].contains f := rfl
@[simp] theorem hk_6_0 : hints.keep 6 0 = some [3, 4, 5] := rfl
@[simp] theorem hs_6_0 : hints.soft 6 0 = [] := rfl
@[simp] theorem hz_6_0 : hints.frz 6 0 = [] := rfl
@[simp] theorem hk_6_1 : hints.keep 6 1 = some [3, 4, 5, 11] := rfl
@[simp] theorem hs_6_1 : hints.soft 6 1 = [] := rfl
@[simp] theorem hz_6_1 : hints.frz 6 1 = [] := rfl
@[simp] theorem hk_6_2 : hints.keep 6 2 = some [6] := rfl
@[simp] theorem hs_6_2 : hints.soft 6 2 = [] := rfl
@[simp] theorem hz_6_2 : hints.frz 6 2 = [] := rfl
@[simp] theorem hk_6_3 : hints.keep 6 3 = some [3, 4, 5, 7] := rfl
@[simp] theorem hs_6_3 : hints.soft 6 3 = [] := rfl
@[simp] theorem hz_6_3 : hints.frz 6 3 = [] := rfl
@[simp] theorem hk_6_4 : hints.keep 6 4 = some [3, 4, 5, 7, 28, 29] := rfl
@[simp] theorem hs_6_4 : hints.soft 6 4 = [] := rfl
@[simp] theorem hz_6_4 : hints.frz 6 4 = [] := rfl
@[simp] theorem hk_6_5 : hints.keep 6 5 = some [3, 4, 5, 7, 28, 29, 30] := rfl
@[simp] theorem hh_6_5 : hints.head 6 5 = some [3, 4, 5, 7, 28, 29] := rfl
@[simp] theorem hc_6_5 : hints.canon 6 5 = [] := rfl
@[simp] theorem hs_6_5 : hints.soft 6 5 = [] := rfl
@[simp] theorem hz_6_5 : hints.frz 6 5 = [] := rfl
@[simp] theorem hk_6_6 : hints.keep 6 6 = some [3, 4, 5, 7, 8, 28, 29] := rfl
@[simp] theorem hs_6_6 : hints.soft 6 6 = [] := rfl
@[simp] theorem hz_6_6 : hints.frz 6 6 = [] := rfl
@[simp] theorem hk_6_7 : hints.keep 6 7 = some [3, 4, 5, 7, 28, 29] := rfl
@[simp] theorem hs_6_7 : hints.soft 6 7 = [] := rfl
@[simp] theorem hz_6_7 : hints.frz 6 7 = [] := rfl
@[simp] theorem hk_6_8 : hints.keep 6 8 = some [3, 4, 5, 7, 28, 29] := rfl
@[simp] theorem hs_6_8 : hints.soft 6 8 = [] := rfl
@[simp] theorem hz_6_8 : hints.frz 6 8 = [] := rfl
@[simp] theorem hk_6_9 : hints.keep 6 9 = some [3, 4, 5, 7, 9] := rfl
@[simp] theorem hs_6_9 : hints.soft 6 9 = [] := rfl
@[simp] theorem hz_6_9 : hints.frz 6 9 = [] := rfl
@[simp] theorem hk_6_10 : hints.keep 6 10 = some [3, 4, 5, 7, 9, 71] := rfl
@[simp] theorem hs_6_10 : hints.soft 6 10 = [] := rfl
@[simp] theorem hz_6_10 : hints.frz 6 10 = [] := rfl
@[simp] theorem hk_6_11 : hints.keep 6 11 = some [3, 4, 5, 7, 9] := rfl
@[simp] theorem hs_6_11 : hints.soft 6 11 = [] := rfl
@[simp] theorem hz_6_11 : hints.frz 6 11 = [] := rfl
@[simp] theorem hk_6_12 : hints.keep 6 12 = some [6] := rfl
@[simp] theorem hs_6_12 : hints.soft 6 12 = [] := rfl
@[simp] theorem hz_6_12 : hints.frz 6 12 = [] := rfl
@[simp] theorem hk_9_0 : hints.keep 9 0 = some [1, 2] := rfl
@[simp] theorem hs_9_0 : hints.soft 9 0 = [(2, some 1, 6, some (700000, 44))] := rfl
@[simp] theorem hz_9_0 : hints.frz 9 0 = [] := rfl
@[simp] theorem hk_9_1 : hints.keep 9 1 = some [1, 2] := rfl
@[simp] theorem hs_9_1 : hints.soft 9 1 = [] := rfl
@[simp] theorem hz_9_1 : hints.frz 9 1 = [] := rfl
@[simp] theorem hk_9_2 : hints.keep 9 2 = some [2] := rfl
@[simp] theorem hs_9_2 : hints.soft 9 2 = [] := rfl
@[simp] theorem hz_9_2 : hints.frz 9 2 = [] := rfl
@[simp] theorem hk_16_0 : hints.keep 16 0 = some [1] := rfl
@[simp] theorem hs_16_0 : hints.soft 16 0 = [] := rfl
@[simp] theorem hz_16_0 : hints.frz 16 0 = [] := rfl
@[simp] theorem hk_16_1 : hints.keep 16 1 = some [1, 27] := rfl
@[simp] theorem hs_16_1 : hints.soft 16 1 = [] := rfl
@[simp] theorem hz_16_1 : hints.frz 16 1 = [] := rfl
@[simp] theorem hk_16_2 : hints.keep 16 2 = some [2] := rfl
@[simp] theorem hs_16_2 : hints.soft 16 2 = [] := rfl
@[simp] theorem hz_16_2 : hints.frz 16 2 = [] := rfl
@[simp] theorem hk_16_3 : hints.keep 16 3 = some [2] := rfl
@[simp] theorem hs_16_3 : hints.soft 16 3 = [] := rfl
@[simp] theorem hz_16_3 : hints.frz 16 3 = [] := rfl
@[simp] theorem hk_17_0 : hints.keep 17 0 = some [2, 3] := rfl
@[simp] theorem hs_17_0 : hints.soft 17 0 = [] := rfl
@[simp] theorem hz_17_0 : hints.frz 17 0 = [] := rfl
@[simp] theorem hk_17_1 : hints.keep 17 1 = some [4] := rfl
@[simp] theorem hs_17_1 : hints.soft 17 1 = [] := rfl
@[simp] theorem hz_17_1 : hints.frz 17 1 = [] := rfl
@[simp] theorem hk_27_0 : hints.keep 27 0 = some [0, 1] := rfl
@[simp] theorem hs_27_0 : hints.soft 27 0 = [] := rfl
@[simp] theorem hz_27_0 : hints.frz 27 0 = [] := rfl
@[simp] theorem hk_27_1 : hints.keep 27 1 = some [0, 1, 10] := rfl
@[simp] theorem hs_27_1 : hints.soft 27 1 = [] := rfl
@[simp] theorem hz_27_1 : hints.frz 27 1 = [] := rfl
@[simp] theorem hk_27_2 : hints.keep 27 2 = some [4] := rfl
@[simp] theorem hs_27_2 : hints.soft 27 2 = [] := rfl
@[simp] theorem hz_27_2 : hints.frz 27 2 = [] := rfl
@[simp] theorem hk_27_3 : hints.keep 27 3 = some [0, 1, 12, 13] := rfl
@[simp] theorem hs_27_3 : hints.soft 27 3 = [] := rfl
@[simp] theorem hz_27_3 : hints.frz 27 3 = [] := rfl
@[simp] theorem hk_27_4 : hints.keep 27 4 = some [0, 1, 12, 13, 14] := rfl
@[simp] theorem hh_27_4 : hints.head 27 4 = some [0, 1, 12, 13] := rfl
@[simp] theorem hc_27_4 : hints.canon 27 4 = [] := rfl
@[simp] theorem hs_27_4 : hints.soft 27 4 = [] := rfl
@[simp] theorem hz_27_4 : hints.frz 27 4 = [] := rfl
@[simp] theorem hk_27_5 : hints.keep 27 5 = some [0, 1, 5, 12, 13] := rfl
@[simp] theorem hs_27_5 : hints.soft 27 5 = [] := rfl
@[simp] theorem hz_27_5 : hints.frz 27 5 = [] := rfl
@[simp] theorem hk_27_6 : hints.keep 27 6 = some [0, 1, 12, 13, 24] := rfl
@[simp] theorem hs_27_6 : hints.soft 27 6 = [] := rfl
@[simp] theorem hz_27_6 : hints.frz 27 6 = [] := rfl
@[simp] theorem hk_27_7 : hints.keep 27 7 = some [4] := rfl
@[simp] theorem hs_27_7 : hints.soft 27 7 = [] := rfl
@[simp] theorem hz_27_7 : hints.frz 27 7 = [] := rfl
@[simp] theorem hk_27_8 : hints.keep 27 8 = some [0, 1, 12, 13] := rfl
@[simp] theorem hs_27_8 : hints.soft 27 8 = [] := rfl
@[simp] theorem hz_27_8 : hints.frz 27 8 = [] := rfl
@[simp] theorem hk_27_9 : hints.keep 27 9 = some [4] := rfl
@[simp] theorem hs_27_9 : hints.soft 27 9 = [] := rfl
@[simp] theorem hz_27_9 : hints.frz 27 9 = [] := rfl
end Go.Proofs.YtmogplhglcodjaaV
