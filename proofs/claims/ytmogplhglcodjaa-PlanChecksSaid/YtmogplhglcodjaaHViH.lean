/- The value interpreter's hints and the types' facts for this seat, one by one. -/
import Derived.Test.YtmogplhglcodjaaHViS
import Derived.Test.YtmogplhglcodjaaHVi26
namespace Go.Proofs.YtmogplhglcodjaaV
open Go
set_option linter.unusedVariables false
noncomputable def inf (t : TypeId) : TypeInfo := (Try.prog.info? t).getD ((Try.prog.info? 3).get (by kernel_rfl))
@[simp] theorem u_3 : Try.prog.underlying 3 = Option.some (Go.TypeDesc.int Go.IntKind.i64) := by kernel_rfl
@[simp] theorem i_3 : Try.prog.info? 3 = some (inf 3) := by kernel_rfl
@[simp] theorem is_3 : (inf 3).size = 1 := by kernel_rfl
@[simp] theorem ib_3 : (inf 3).bytes = 8 := by kernel_rfl
@[simp] theorem iz_3 : zeroRow (inf 3) = Option.some [V.p (Go.Value.int Go.IntKind.i64 0)] := by kernel_rfl
@[simp] theorem sm_3 : slotMs Try.prog 8 3 = [0] := by kernel_rfl
@[simp] theorem u_22 : Try.prog.underlying 22 = Option.some (Go.TypeDesc.slice 44) := by kernel_rfl
@[simp] theorem i_22 : Try.prog.info? 22 = some (inf 22) := by kernel_rfl
@[simp] theorem is_22 : (inf 22).size = 1 := by kernel_rfl
@[simp] theorem ib_22 : (inf 22).bytes = 24 := by kernel_rfl
@[simp] theorem iz_22 : zeroRow (inf 22) = Option.some [V.nil] := by kernel_rfl
@[simp] theorem u_24 : Try.prog.underlying 24 = Option.some (Go.TypeDesc.struct (Array.mk [Go.Field.mk "Nodes" 3 0 false "" "" 0, Go.Field.mk "Contacts" 22 1 false "" "" 8])) := by kernel_rfl
@[simp] theorem i_24 : Try.prog.info? 24 = some (inf 24) := by kernel_rfl
@[simp] theorem is_24 : (inf 24).size = 2 := by kernel_rfl
@[simp] theorem ib_24 : (inf 24).bytes = 32 := by kernel_rfl
@[simp] theorem iz_24 : zeroRow (inf 24) = Option.some [V.p (Go.Value.int Go.IntKind.i64 0), V.nil] := by kernel_rfl
@[simp] theorem u_25 : Try.prog.underlying 25 = Option.some (Go.TypeDesc.slice 3) := by kernel_rfl
@[simp] theorem i_25 : Try.prog.info? 25 = some (inf 25) := by kernel_rfl
@[simp] theorem is_25 : (inf 25).size = 1 := by kernel_rfl
@[simp] theorem ib_25 : (inf 25).bytes = 24 := by kernel_rfl
@[simp] theorem iz_25 : zeroRow (inf 25) = Option.some [V.nil] := by kernel_rfl
@[simp] theorem u_27 : Try.prog.underlying 27 = Option.some (Go.TypeDesc.struct (Array.mk [Go.Field.mk "From" 3 0 false "" "" 0, Go.Field.mk "To" 3 1 false "" "" 8, Go.Field.mk "Now" 3 2 false "" "" 16, Go.Field.mk "Need" 3 3 false "" "" 24])) := by kernel_rfl
@[simp] theorem i_27 : Try.prog.info? 27 = some (inf 27) := by kernel_rfl
@[simp] theorem is_27 : (inf 27).size = 4 := by kernel_rfl
@[simp] theorem ib_27 : (inf 27).bytes = 32 := by kernel_rfl
@[simp] theorem iz_27 : zeroRow (inf 27) = Option.some [V.p (Go.Value.int Go.IntKind.i64 0), V.p (Go.Value.int Go.IntKind.i64 0), V.p (Go.Value.int Go.IntKind.i64 0), V.p (Go.Value.int Go.IntKind.i64 0)] := by kernel_rfl
@[simp] theorem u_44 : Try.prog.underlying 44 = Option.some (Go.TypeDesc.struct (Array.mk [Go.Field.mk "From" 3 0 false "" "" 0, Go.Field.mk "To" 3 1 false "" "" 8, Go.Field.mk "Start" 3 2 false "" "" 16, Go.Field.mk "End" 3 3 false "" "" 24, Go.Field.mk "Rate" 3 4 false "" "" 32, Go.Field.mk "Delay" 3 5 false "" "" 40])) := by kernel_rfl
@[simp] theorem i_44 : Try.prog.info? 44 = some (inf 44) := by kernel_rfl
@[simp] theorem is_44 : (inf 44).size = 6 := by kernel_rfl
@[simp] theorem ib_44 : (inf 44).bytes = 48 := by kernel_rfl
@[simp] theorem iz_44 : zeroRow (inf 44) = Option.some [V.p (Go.Value.int Go.IntKind.i64 0), V.p (Go.Value.int Go.IntKind.i64 0), V.p (Go.Value.int Go.IntKind.i64 0), V.p (Go.Value.int Go.IntKind.i64 0), V.p (Go.Value.int Go.IntKind.i64 0), V.p (Go.Value.int Go.IntKind.i64 0)] := by kernel_rfl
@[simp] theorem sm_44 : slotMs Try.prog 8 44 = [0, 0, 0, 0, 0, 0] := by kernel_rfl
@[simp] theorem gv (f : FuncId) : hints.gives f = [].contains f := rfl
@[simp] theorem hk_5_0 : hints.keep 5 0 = some [2, 3] := rfl
@[simp] theorem hs_5_0 : hints.soft 5 0 = [] := rfl
@[simp] theorem hz_5_0 : hints.frz 5 0 = [] := rfl
@[simp] theorem hk_5_1 : hints.keep 5 1 = some [2, 3, 12] := rfl
@[simp] theorem hs_5_1 : hints.soft 5 1 = [] := rfl
@[simp] theorem hz_5_1 : hints.frz 5 1 = [] := rfl
@[simp] theorem hk_5_2 : hints.keep 5 2 = some [4] := rfl
@[simp] theorem hs_5_2 : hints.soft 5 2 = [] := rfl
@[simp] theorem hz_5_2 : hints.frz 5 2 = [] := rfl
@[simp] theorem hk_5_3 : hints.keep 5 3 = some [2, 3, 5, 6] := rfl
@[simp] theorem hs_5_3 : hints.soft 5 3 = [] := rfl
@[simp] theorem hz_5_3 : hints.frz 5 3 = [] := rfl
@[simp] theorem hk_5_4 : hints.keep 5 4 = some [2, 3, 5, 6, 7] := rfl
@[simp] theorem hs_5_4 : hints.soft 5 4 = [] := rfl
@[simp] theorem hz_5_4 : hints.frz 5 4 = [] := rfl
@[simp] theorem hk_5_5 : hints.keep 5 5 = some [2, 3, 5, 6, 7, 30] := rfl
@[simp] theorem hs_5_5 : hints.soft 5 5 = [] := rfl
@[simp] theorem hz_5_5 : hints.frz 5 5 = [] := rfl
@[simp] theorem hk_5_6 : hints.keep 5 6 = some [4] := rfl
@[simp] theorem hs_5_6 : hints.soft 5 6 = [] := rfl
@[simp] theorem hz_5_6 : hints.frz 5 6 = [] := rfl
@[simp] theorem hk_5_7 : hints.keep 5 7 = some [2, 5, 6, 7, 8] := rfl
@[simp] theorem hs_5_7 : hints.soft 5 7 = [] := rfl
@[simp] theorem hz_5_7 : hints.frz 5 7 = [] := rfl
@[simp] theorem hk_5_8 : hints.keep 5 8 = some [2, 7, 92] := rfl
@[simp] theorem hs_5_8 : hints.soft 5 8 = [] := rfl
@[simp] theorem hz_5_8 : hints.frz 5 8 = [] := rfl
@[simp] theorem hk_5_9 : hints.keep 5 9 = some [4] := rfl
@[simp] theorem hs_5_9 : hints.soft 5 9 = [] := rfl
@[simp] theorem hz_5_9 : hints.frz 5 9 = [] := rfl
@[simp] theorem hk_5_10 : hints.keep 5 10 = some [7, 94, 95, 96] := rfl
@[simp] theorem hs_5_10 : hints.soft 5 10 = [] := rfl
@[simp] theorem hz_5_10 : hints.frz 5 10 = [] := rfl
@[simp] theorem hk_5_11 : hints.keep 5 11 = some [7, 94, 95, 96, 97] := rfl
@[simp] theorem hh_5_11 : hints.head 5 11 = some [7, 94, 95, 96] := rfl
@[simp] theorem hc_5_11 : hints.canon 5 11 = [] := rfl
@[simp] theorem hs_5_11 : hints.soft 5 11 = [] := rfl
@[simp] theorem hz_5_11 : hints.frz 5 11 = [] := rfl
@[simp] theorem hk_5_12 : hints.keep 5 12 = some [7, 9, 10, 94, 95, 96] := rfl
@[simp] theorem hs_5_12 : hints.soft 5 12 = [] := rfl
@[simp] theorem hz_5_12 : hints.frz 5 12 = [] := rfl
@[simp] theorem hk_5_13 : hints.keep 5 13 = some [7, 94, 95, 96, 122] := rfl
@[simp] theorem hs_5_13 : hints.soft 5 13 = [] := rfl
@[simp] theorem hz_5_13 : hints.frz 5 13 = [] := rfl
@[simp] theorem hk_5_14 : hints.keep 5 14 = some [4] := rfl
@[simp] theorem hs_5_14 : hints.soft 5 14 = [] := rfl
@[simp] theorem hz_5_14 : hints.frz 5 14 = [] := rfl
@[simp] theorem hk_5_15 : hints.keep 5 15 = some [7, 94, 95, 96] := rfl
@[simp] theorem hs_5_15 : hints.soft 5 15 = [] := rfl
@[simp] theorem hz_5_15 : hints.frz 5 15 = [] := rfl
@[simp] theorem hk_5_16 : hints.keep 5 16 = some [4] := rfl
@[simp] theorem hs_5_16 : hints.soft 5 16 = [] := rfl
@[simp] theorem hz_5_16 : hints.frz 5 16 = [] := rfl
@[simp] theorem hk_9_0 : hints.keep 9 0 = some [1, 2] := rfl
@[simp] theorem hs_9_0 : hints.soft 9 0 = [(2, some 1, 6, some (700000, 44))] := rfl
@[simp] theorem hz_9_0 : hints.frz 9 0 = [] := rfl
@[simp] theorem hk_9_1 : hints.keep 9 1 = some [1, 2] := rfl
@[simp] theorem hs_9_1 : hints.soft 9 1 = [] := rfl
@[simp] theorem hz_9_1 : hints.frz 9 1 = [] := rfl
@[simp] theorem hk_9_2 : hints.keep 9 2 = some [2] := rfl
@[simp] theorem hs_9_2 : hints.soft 9 2 = [] := rfl
@[simp] theorem hz_9_2 : hints.frz 9 2 = [] := rfl
@[simp] theorem hk_10_0 : hints.keep 10 0 = some [1] := rfl
@[simp] theorem hs_10_0 : hints.soft 10 0 = [] := rfl
@[simp] theorem hz_10_0 : hints.frz 10 0 = [] := rfl
@[simp] theorem hk_10_1 : hints.keep 10 1 = some [1, 20] := rfl
@[simp] theorem hs_10_1 : hints.soft 10 1 = [] := rfl
@[simp] theorem hz_10_1 : hints.frz 10 1 = [] := rfl
@[simp] theorem hk_10_2 : hints.keep 10 2 = some [2] := rfl
@[simp] theorem hs_10_2 : hints.soft 10 2 = [] := rfl
@[simp] theorem hz_10_2 : hints.frz 10 2 = [] := rfl
@[simp] theorem hk_10_3 : hints.keep 10 3 = some [1, 3] := rfl
@[simp] theorem hs_10_3 : hints.soft 10 3 = [] := rfl
@[simp] theorem hz_10_3 : hints.frz 10 3 = [] := rfl
@[simp] theorem hk_10_4 : hints.keep 10 4 = some [1, 3, 25] := rfl
@[simp] theorem hh_10_4 : hints.head 10 4 = some [1, 3] := rfl
@[simp] theorem hc_10_4 : hints.canon 10 4 = [] := rfl
@[simp] theorem hs_10_4 : hints.soft 10 4 = [] := rfl
@[simp] theorem hz_10_4 : hints.frz 10 4 = [] := rfl
@[simp] theorem hk_10_5 : hints.keep 10 5 = some [1, 3] := rfl
@[simp] theorem hs_10_5 : hints.soft 10 5 = [] := rfl
@[simp] theorem hz_10_5 : hints.frz 10 5 = [] := rfl
@[simp] theorem hk_10_6 : hints.keep 10 6 = some [1, 3, 4] := rfl
@[simp] theorem hs_10_6 : hints.soft 10 6 = [] := rfl
@[simp] theorem hz_10_6 : hints.frz 10 6 = [] := rfl
@[simp] theorem hk_10_7 : hints.keep 10 7 = some [1, 3, 4, 98] := rfl
@[simp] theorem hs_10_7 : hints.soft 10 7 = [] := rfl
@[simp] theorem hz_10_7 : hints.frz 10 7 = [] := rfl
@[simp] theorem hk_10_8 : hints.keep 10 8 = some [2] := rfl
@[simp] theorem hs_10_8 : hints.soft 10 8 = [] := rfl
@[simp] theorem hz_10_8 : hints.frz 10 8 = [] := rfl
@[simp] theorem hk_10_9 : hints.keep 10 9 = some [1, 3, 4, 5] := rfl
@[simp] theorem hs_10_9 : hints.soft 10 9 = [] := rfl
@[simp] theorem hz_10_9 : hints.frz 10 9 = [] := rfl
@[simp] theorem hk_10_10 : hints.keep 10 10 = some [1, 3, 4, 5, 101] := rfl
@[simp] theorem hh_10_10 : hints.head 10 10 = some [1, 3, 4, 5] := rfl
@[simp] theorem hc_10_10 : hints.canon 10 10 = [] := rfl
@[simp] theorem hs_10_10 : hints.soft 10 10 = [] := rfl
@[simp] theorem hz_10_10 : hints.frz 10 10 = [] := rfl
@[simp] theorem hk_10_11 : hints.keep 10 11 = some [1, 3, 4, 5] := rfl
@[simp] theorem hs_10_11 : hints.soft 10 11 = [] := rfl
@[simp] theorem hz_10_11 : hints.frz 10 11 = [] := rfl
@[simp] theorem hk_10_12 : hints.keep 10 12 = some [1, 3, 4, 5, 6] := rfl
@[simp] theorem hs_10_12 : hints.soft 10 12 = [] := rfl
@[simp] theorem hz_10_12 : hints.frz 10 12 = [] := rfl
@[simp] theorem hk_10_13 : hints.keep 10 13 = some [1, 3, 4, 5, 135] := rfl
@[simp] theorem hs_10_13 : hints.soft 10 13 = [] := rfl
@[simp] theorem hz_10_13 : hints.frz 10 13 = [] := rfl
@[simp] theorem hk_10_14 : hints.keep 10 14 = some [2] := rfl
@[simp] theorem hs_10_14 : hints.soft 10 14 = [] := rfl
@[simp] theorem hz_10_14 : hints.frz 10 14 = [] := rfl
@[simp] theorem hk_10_15 : hints.keep 10 15 = some [2] := rfl
@[simp] theorem hs_10_15 : hints.soft 10 15 = [] := rfl
@[simp] theorem hz_10_15 : hints.frz 10 15 = [] := rfl
@[simp] theorem hk_12_0 : hints.keep 12 0 = some [1] := rfl
@[simp] theorem hs_12_0 : hints.soft 12 0 = [] := rfl
@[simp] theorem hz_12_0 : hints.frz 12 0 = [] := rfl
@[simp] theorem hk_12_1 : hints.keep 12 1 = some [1, 8] := rfl
@[simp] theorem hs_12_1 : hints.soft 12 1 = [] := rfl
@[simp] theorem hz_12_1 : hints.frz 12 1 = [] := rfl
@[simp] theorem hk_12_2 : hints.keep 12 2 = some [2] := rfl
@[simp] theorem hs_12_2 : hints.soft 12 2 = [(2, none, 1, some (700128, 3))] := rfl
@[simp] theorem hz_12_2 : hints.frz 12 2 = [] := rfl
@[simp] theorem hk_12_3 : hints.keep 12 3 = some [1, 3] := rfl
@[simp] theorem hs_12_3 : hints.soft 12 3 = [(3, none, 1, some (700192, 3))] := rfl
@[simp] theorem hz_12_3 : hints.frz 12 3 = [] := rfl
@[simp] theorem hk_12_4 : hints.keep 12 4 = some [3, 10, 11, 12] := rfl
@[simp] theorem hs_12_4 : hints.soft 12 4 = [] := rfl
@[simp] theorem hz_12_4 : hints.frz 12 4 = [] := rfl
@[simp] theorem hk_12_5 : hints.keep 12 5 = some [3, 10, 11, 12, 13] := rfl
@[simp] theorem hh_12_5 : hints.head 12 5 = some [3, 10, 11, 12] := rfl
@[simp] theorem hc_12_5 : hints.canon 12 5 = [(3, none, 20000, 1, 3)] := rfl
@[simp] theorem hs_12_5 : hints.soft 12 5 = [] := rfl
@[simp] theorem hz_12_5 : hints.frz 12 5 = [] := rfl
@[simp] theorem hk_12_6 : hints.keep 12 6 = some [3, 5, 10, 11, 12] := rfl
@[simp] theorem hs_12_6 : hints.soft 12 6 = [] := rfl
@[simp] theorem hz_12_6 : hints.frz 12 6 = [] := rfl
@[simp] theorem hk_12_7 : hints.keep 12 7 = some [3, 10, 11, 12] := rfl
@[simp] theorem hs_12_7 : hints.soft 12 7 = [] := rfl
@[simp] theorem hz_12_7 : hints.frz 12 7 = [] := rfl
@[simp] theorem hk_12_8 : hints.keep 12 8 = some [3, 10, 11, 12] := rfl
@[simp] theorem hs_12_8 : hints.soft 12 8 = [] := rfl
@[simp] theorem hz_12_8 : hints.frz 12 8 = [] := rfl
@[simp] theorem hk_12_9 : hints.keep 12 9 = some [2] := rfl
@[simp] theorem hs_12_9 : hints.soft 12 9 = [] := rfl
@[simp] theorem hz_12_9 : hints.frz 12 9 = [] := rfl
@[simp] theorem hk_13_0 : hints.keep 13 0 = some [4, 5, 6, 7] := rfl
@[simp] theorem hs_13_0 : hints.soft 13 0 = [] := rfl
@[simp] theorem hz_13_0 : hints.frz 13 0 = [] := rfl
@[simp] theorem hk_13_1 : hints.keep 13 1 = some [4, 5, 6, 7, 10] := rfl
@[simp] theorem hs_13_1 : hints.soft 13 1 = [] := rfl
@[simp] theorem hz_13_1 : hints.frz 13 1 = [] := rfl
@[simp] theorem hk_13_2 : hints.keep 13 2 = some [4, 5, 6, 7, 10, 15] := rfl
@[simp] theorem hs_13_2 : hints.soft 13 2 = [] := rfl
@[simp] theorem hz_13_2 : hints.frz 13 2 = [] := rfl
@[simp] theorem hk_13_3 : hints.keep 13 3 = some [8, 9] := rfl
@[simp] theorem hs_13_3 : hints.soft 13 3 = [] := rfl
@[simp] theorem hz_13_3 : hints.frz 13 3 = [] := rfl
@[simp] theorem hk_13_4 : hints.keep 13 4 = some [11] := rfl
@[simp] theorem hs_13_4 : hints.soft 13 4 = [] := rfl
@[simp] theorem hz_13_4 : hints.frz 13 4 = [] := rfl
@[simp] theorem hk_13_5 : hints.keep 13 5 = some [11, 22] := rfl
@[simp] theorem hs_13_5 : hints.soft 13 5 = [] := rfl
@[simp] theorem hz_13_5 : hints.frz 13 5 = [] := rfl
@[simp] theorem hk_13_6 : hints.keep 13 6 = some [8, 9] := rfl
@[simp] theorem hs_13_6 : hints.soft 13 6 = [] := rfl
@[simp] theorem hz_13_6 : hints.frz 13 6 = [] := rfl
@[simp] theorem hk_13_7 : hints.keep 13 7 = some [8, 9] := rfl
@[simp] theorem hs_13_7 : hints.soft 13 7 = [] := rfl
@[simp] theorem hz_13_7 : hints.frz 13 7 = [] := rfl
@[simp] theorem hk_14_0 : hints.keep 14 0 = some [1] := rfl
@[simp] theorem hs_14_0 : hints.soft 14 0 = [] := rfl
@[simp] theorem hz_14_0 : hints.frz 14 0 = [] := rfl
@[simp] theorem hk_14_1 : hints.keep 14 1 = some [1, 16] := rfl
@[simp] theorem hs_14_1 : hints.soft 14 1 = [] := rfl
@[simp] theorem hz_14_1 : hints.frz 14 1 = [] := rfl
@[simp] theorem hk_14_2 : hints.keep 14 2 = some [2] := rfl
@[simp] theorem hs_14_2 : hints.soft 14 2 = [] := rfl
@[simp] theorem hz_14_2 : hints.frz 14 2 = [] := rfl
@[simp] theorem hk_14_3 : hints.keep 14 3 = some [1, 18, 19, 20] := rfl
@[simp] theorem hs_14_3 : hints.soft 14 3 = [] := rfl
@[simp] theorem hz_14_3 : hints.frz 14 3 = [] := rfl
@[simp] theorem hk_14_4 : hints.keep 14 4 = some [1, 18, 19, 20, 21] := rfl
@[simp] theorem hh_14_4 : hints.head 14 4 = some [1, 18, 19, 20] := rfl
@[simp] theorem hc_14_4 : hints.canon 14 4 = [] := rfl
@[simp] theorem hs_14_4 : hints.soft 14 4 = [] := rfl
@[simp] theorem hz_14_4 : hints.frz 14 4 = [] := rfl
@[simp] theorem hk_14_5 : hints.keep 14 5 = some [1, 3, 4, 18, 19, 20] := rfl
@[simp] theorem hs_14_5 : hints.soft 14 5 = [] := rfl
@[simp] theorem hz_14_5 : hints.frz 14 5 = [] := rfl
@[simp] theorem hk_14_6 : hints.keep 14 6 = some [1, 3, 4, 18, 19, 20, 74] := rfl
@[simp] theorem hs_14_6 : hints.soft 14 6 = [] := rfl
@[simp] theorem hz_14_6 : hints.frz 14 6 = [] := rfl
@[simp] theorem hk_14_7 : hints.keep 14 7 = some [2] := rfl
@[simp] theorem hs_14_7 : hints.soft 14 7 = [] := rfl
@[simp] theorem hz_14_7 : hints.frz 14 7 = [] := rfl
@[simp] theorem hk_14_8 : hints.keep 14 8 = some [1, 4, 18, 19, 20, 78, 79, 80] := rfl
@[simp] theorem hs_14_8 : hints.soft 14 8 = [] := rfl
@[simp] theorem hz_14_8 : hints.frz 14 8 = [] := rfl
@[simp] theorem hk_14_9 : hints.keep 14 9 = some [1, 4, 18, 19, 20, 78, 79, 80, 81] := rfl
@[simp] theorem hh_14_9 : hints.head 14 9 = some [1, 4, 18, 19, 20, 78, 79, 80] := rfl
@[simp] theorem hc_14_9 : hints.canon 14 9 = [] := rfl
@[simp] theorem hs_14_9 : hints.soft 14 9 = [] := rfl
@[simp] theorem hz_14_9 : hints.frz 14 9 = [] := rfl
@[simp] theorem hk_14_10 : hints.keep 14 10 = some [1, 4, 6, 18, 19, 20, 78, 79, 80] := rfl
@[simp] theorem hs_14_10 : hints.soft 14 10 = [] := rfl
@[simp] theorem hz_14_10 : hints.frz 14 10 = [] := rfl
@[simp] theorem hk_14_11 : hints.keep 14 11 = some [1, 4, 18, 19, 20, 78, 79, 80, 109] := rfl
@[simp] theorem hs_14_11 : hints.soft 14 11 = [] := rfl
@[simp] theorem hz_14_11 : hints.frz 14 11 = [] := rfl
@[simp] theorem hk_14_12 : hints.keep 14 12 = some [2] := rfl
@[simp] theorem hs_14_12 : hints.soft 14 12 = [] := rfl
@[simp] theorem hz_14_12 : hints.frz 14 12 = [] := rfl
@[simp] theorem hk_14_13 : hints.keep 14 13 = some [1, 4, 18, 19, 20, 78, 79, 80] := rfl
@[simp] theorem hs_14_13 : hints.soft 14 13 = [] := rfl
@[simp] theorem hz_14_13 : hints.frz 14 13 = [] := rfl
@[simp] theorem hk_14_14 : hints.keep 14 14 = some [1, 18, 19, 20] := rfl
@[simp] theorem hs_14_14 : hints.soft 14 14 = [] := rfl
@[simp] theorem hz_14_14 : hints.frz 14 14 = [] := rfl
@[simp] theorem hk_14_15 : hints.keep 14 15 = some [2] := rfl
@[simp] theorem hs_14_15 : hints.soft 14 15 = [] := rfl
@[simp] theorem hz_14_15 : hints.frz 14 15 = [] := rfl
@[simp] theorem hk_15_0 : hints.keep 15 0 = some [1, 2, 3, 4] := rfl
@[simp] theorem hs_15_0 : hints.soft 15 0 = [] := rfl
@[simp] theorem hz_15_0 : hints.frz 15 0 = [] := rfl
@[simp] theorem hk_15_1 : hints.keep 15 1 = some [1, 2, 3, 4, 9] := rfl
@[simp] theorem hs_15_1 : hints.soft 15 1 = [] := rfl
@[simp] theorem hz_15_1 : hints.frz 15 1 = [] := rfl
@[simp] theorem hk_15_2 : hints.keep 15 2 = some [1, 2, 3, 4, 9, 15] := rfl
@[simp] theorem hh_15_2 : hints.head 15 2 = some [1, 2, 3, 4, 9] := rfl
@[simp] theorem hc_15_2 : hints.canon 15 2 = [] := rfl
@[simp] theorem hs_15_2 : hints.soft 15 2 = [] := rfl
@[simp] theorem hz_15_2 : hints.frz 15 2 = [] := rfl
@[simp] theorem hk_15_3 : hints.keep 15 3 = some [1, 2, 3, 4, 9] := rfl
@[simp] theorem hs_15_3 : hints.soft 15 3 = [] := rfl
@[simp] theorem hz_15_3 : hints.frz 15 3 = [] := rfl
@[simp] theorem hk_15_4 : hints.keep 15 4 = some [1, 2, 3, 4, 9, 10] := rfl
@[simp] theorem hs_15_4 : hints.soft 15 4 = [] := rfl
@[simp] theorem hz_15_4 : hints.frz 15 4 = [] := rfl
@[simp] theorem hk_15_5 : hints.keep 15 5 = some [1, 2, 3, 4, 9, 44] := rfl
@[simp] theorem hs_15_5 : hints.soft 15 5 = [] := rfl
@[simp] theorem hz_15_5 : hints.frz 15 5 = [] := rfl
@[simp] theorem hk_15_6 : hints.keep 15 6 = some [8] := rfl
@[simp] theorem hs_15_6 : hints.soft 15 6 = [] := rfl
@[simp] theorem hz_15_6 : hints.frz 15 6 = [] := rfl
@[simp] theorem hk_15_7 : hints.keep 15 7 = some [8] := rfl
@[simp] theorem hs_15_7 : hints.soft 15 7 = [] := rfl
@[simp] theorem hz_15_7 : hints.frz 15 7 = [] := rfl
@[simp] theorem hk_16_0 : hints.keep 16 0 = some [1] := rfl
@[simp] theorem hs_16_0 : hints.soft 16 0 = [] := rfl
@[simp] theorem hz_16_0 : hints.frz 16 0 = [] := rfl
@[simp] theorem hk_16_1 : hints.keep 16 1 = some [1, 27] := rfl
@[simp] theorem hs_16_1 : hints.soft 16 1 = [] := rfl
@[simp] theorem hz_16_1 : hints.frz 16 1 = [] := rfl
@[simp] theorem hk_16_2 : hints.keep 16 2 = some [2] := rfl
@[simp] theorem hs_16_2 : hints.soft 16 2 = [] := rfl
@[simp] theorem hz_16_2 : hints.frz 16 2 = [] := rfl
@[simp] theorem hk_16_3 : hints.keep 16 3 = some [2] := rfl
@[simp] theorem hs_16_3 : hints.soft 16 3 = [] := rfl
@[simp] theorem hz_16_3 : hints.frz 16 3 = [] := rfl
@[simp] theorem hk_21_0 : hints.keep 21 0 = some [0, 1, 2] := rfl
@[simp] theorem hs_21_0 : hints.soft 21 0 = [] := rfl
@[simp] theorem hz_21_0 : hints.frz 21 0 = [] := rfl
@[simp] theorem hk_21_1 : hints.keep 21 1 = some [6] := rfl
@[simp] theorem hs_21_1 : hints.soft 21 1 = [] := rfl
@[simp] theorem hz_21_1 : hints.frz 21 1 = [] := rfl
@[simp] theorem hk_25_0 : hints.keep 25 0 = some [0, 1] := rfl
@[simp] theorem hs_25_0 : hints.soft 25 0 = [] := rfl
@[simp] theorem hz_25_0 : hints.frz 25 0 = [] := rfl
@[simp] theorem hk_25_1 : hints.keep 25 1 = some [0, 1, 7, 8] := rfl
@[simp] theorem hs_25_1 : hints.soft 25 1 = [] := rfl
@[simp] theorem hz_25_1 : hints.frz 25 1 = [] := rfl
@[simp] theorem hk_25_2 : hints.keep 25 2 = some [0, 1, 7, 8, 9] := rfl
@[simp] theorem hh_25_2 : hints.head 25 2 = some [0, 1, 7, 8] := rfl
@[simp] theorem hc_25_2 : hints.canon 25 2 = [] := rfl
@[simp] theorem hs_25_2 : hints.soft 25 2 = [] := rfl
@[simp] theorem hz_25_2 : hints.frz 25 2 = [] := rfl
@[simp] theorem hk_25_3 : hints.keep 25 3 = some [0, 1, 5, 7, 8] := rfl
@[simp] theorem hs_25_3 : hints.soft 25 3 = [] := rfl
@[simp] theorem hz_25_3 : hints.frz 25 3 = [] := rfl
@[simp] theorem hk_25_4 : hints.keep 25 4 = some [0, 1, 5, 7, 8, 16] := rfl
@[simp] theorem hs_25_4 : hints.soft 25 4 = [] := rfl
@[simp] theorem hz_25_4 : hints.frz 25 4 = [] := rfl
@[simp] theorem hk_25_5 : hints.keep 25 5 = some [4] := rfl
@[simp] theorem hs_25_5 : hints.soft 25 5 = [] := rfl
@[simp] theorem hz_25_5 : hints.frz 25 5 = [] := rfl
@[simp] theorem hk_25_6 : hints.keep 25 6 = some [0, 1, 7, 8] := rfl
@[simp] theorem hs_25_6 : hints.soft 25 6 = [] := rfl
@[simp] theorem hz_25_6 : hints.frz 25 6 = [] := rfl
@[simp] theorem hk_25_7 : hints.keep 25 7 = some [4] := rfl
@[simp] theorem hs_25_7 : hints.soft 25 7 = [] := rfl
@[simp] theorem hz_25_7 : hints.frz 25 7 = [] := rfl
@[simp] theorem hk_26_0 : hints.keep 26 0 = some [1, 2, 3, 4] := rfl
@[simp] theorem hs_26_0 : hints.soft 26 0 = [] := rfl
@[simp] theorem hz_26_0 : hints.frz 26 0 = [] := rfl
@[simp] theorem hk_26_1 : hints.keep 26 1 = some [5] := rfl
@[simp] theorem hs_26_1 : hints.soft 26 1 = [] := rfl
@[simp] theorem hz_26_1 : hints.frz 26 1 = [] := rfl
end Go.Proofs.YtmogplhglcodjaaV
