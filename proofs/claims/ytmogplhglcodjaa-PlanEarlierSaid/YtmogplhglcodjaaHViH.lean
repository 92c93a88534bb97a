/- The value interpreter's hints and the types' facts for this seat, one by one. -/
import Derived.Test.YtmogplhglcodjaaHViS
import Derived.Test.YtmogplhglcodjaaHVi26
namespace Go.Proofs.YtmogplhglcodjaaV
open Go
set_option linter.unusedVariables false
noncomputable def inf (t : TypeId) : TypeInfo := (Try.prog.info? t).getD ((Try.prog.info? 3).get (by kernel_rfl))
@[simp] theorem u_3 : Try.prog.underlying 3 = Option.some (Go.TypeDesc.int Go.IntKind.i64) := by kernel_rfl
@[simp] theorem i_3 : Try.prog.info? 3 = some (inf 3) := by kernel_rfl
@[simp] theorem is_3 : (inf 3).size = 1 := by kernel_rfl
@[simp] theorem ib_3 : (inf 3).bytes = 8 := by kernel_rfl
@[simp] theorem iz_3 : zeroRow (inf 3) = Option.some [V.p (Go.Value.int Go.IntKind.i64 0)] := by kernel_rfl
@[simp] theorem sm_3 : slotMs Try.prog 8 3 = [0] := by kernel_rfl
@[simp] theorem u_4 : Try.prog.underlying 4 = Option.some Go.TypeDesc.bool := by kernel_rfl
@[simp] theorem i_4 : Try.prog.info? 4 = some (inf 4) := by kernel_rfl
@[simp] theorem is_4 : (inf 4).size = 1 := by kernel_rfl
@[simp] theorem ib_4 : (inf 4).bytes = 1 := by kernel_rfl
@[simp] theorem iz_4 : zeroRow (inf 4) = Option.some [V.p (Go.Value.bool false)] := by kernel_rfl
@[simp] theorem u_22 : Try.prog.underlying 22 = Option.some (Go.TypeDesc.slice 44) := by kernel_rfl
@[simp] theorem i_22 : Try.prog.info? 22 = some (inf 22) := by kernel_rfl
@[simp] theorem is_22 : (inf 22).size = 1 := by kernel_rfl
@[simp] theorem ib_22 : (inf 22).bytes = 24 := by kernel_rfl
@[simp] theorem iz_22 : zeroRow (inf 22) = Option.some [V.nil] := by kernel_rfl
@[simp] theorem u_24 : Try.prog.underlying 24 = Option.some (Go.TypeDesc.struct (Array.mk [Go.Field.mk "Nodes" 3 0 false "" "" 0, Go.Field.mk "Contacts" 22 1 false "" "" 8])) := by kernel_rfl
@[simp] theorem i_24 : Try.prog.info? 24 = some (inf 24) := by kernel_rfl
@[simp] theorem is_24 : (inf 24).size = 2 := by kernel_rfl
@[simp] theorem ib_24 : (inf 24).bytes = 32 := by kernel_rfl
@[simp] theorem iz_24 : zeroRow (inf 24) = Option.some [V.p (Go.Value.int Go.IntKind.i64 0), V.nil] := by kernel_rfl
@[simp] theorem u_25 : Try.prog.underlying 25 = Option.some (Go.TypeDesc.slice 3) := by kernel_rfl
@[simp] theorem i_25 : Try.prog.info? 25 = some (inf 25) := by kernel_rfl
@[simp] theorem is_25 : (inf 25).size = 1 := by kernel_rfl
@[simp] theorem ib_25 : (inf 25).bytes = 24 := by kernel_rfl
@[simp] theorem iz_25 : zeroRow (inf 25) = Option.some [V.nil] := by kernel_rfl
@[simp] theorem u_27 : Try.prog.underlying 27 = Option.some (Go.TypeDesc.struct (Array.mk [Go.Field.mk "From" 3 0 false "" "" 0, Go.Field.mk "To" 3 1 false "" "" 8, Go.Field.mk "Now" 3 2 false "" "" 16, Go.Field.mk "Need" 3 3 false "" "" 24])) := by kernel_rfl
@[simp] theorem i_27 : Try.prog.info? 27 = some (inf 27) := by kernel_rfl
@[simp] theorem is_27 : (inf 27).size = 4 := by kernel_rfl
@[simp] theorem ib_27 : (inf 27).bytes = 32 := by kernel_rfl
@[simp] theorem iz_27 : zeroRow (inf 27) = Option.some [V.p (Go.Value.int Go.IntKind.i64 0), V.p (Go.Value.int Go.IntKind.i64 0), V.p (Go.Value.int Go.IntKind.i64 0), V.p (Go.Value.int Go.IntKind.i64 0)] := by kernel_rfl
@[simp] theorem u_44 : Try.prog.underlying 44 = Option.some (Go.TypeDesc.struct (Array.mk [Go.Field.mk "From" 3 0 false "" "" 0, Go.Field.mk "To" 3 1 false "" "" 8, Go.Field.mk "Start" 3 2 false "" "" 16, Go.Field.mk "End" 3 3 false "" "" 24, Go.Field.mk "Rate" 3 4 false "" "" 32, Go.Field.mk "Delay" 3 5 false "" "" 40])) := by kernel_rfl
@[simp] theorem i_44 : Try.prog.info? 44 = some (inf 44) := by kernel_rfl
@[simp] theorem is_44 : (inf 44).size = 6 := by kernel_rfl
@[simp] theorem ib_44 : (inf 44).bytes = 48 := by kernel_rfl
@[simp] theorem iz_44 : zeroRow (inf 44) = Option.some [V.p (Go.Value.int Go.IntKind.i64 0), V.p (Go.Value.int Go.IntKind.i64 0), V.p (Go.Value.int Go.IntKind.i64 0), V.p (Go.Value.int Go.IntKind.i64 0), V.p (Go.Value.int Go.IntKind.i64 0), V.p (Go.Value.int Go.IntKind.i64 0)] := by kernel_rfl
@[simp] theorem u_54 : Try.prog.underlying 54 = Option.some (Go.TypeDesc.struct (Array.mk [Go.Field.mk "Plan" 24 0 true "" "" 0, Go.Field.mk "left" 25 2 false "" "heliograph/plan" 32, Go.Field.mk "need" 3 3 false "" "heliograph/plan" 56])) := by kernel_rfl
@[simp] theorem i_54 : Try.prog.info? 54 = some (inf 54) := by kernel_rfl
@[simp] theorem is_54 : (inf 54).size = 4 := by kernel_rfl
@[simp] theorem ib_54 : (inf 54).bytes = 64 := by kernel_rfl
@[simp] theorem iz_54 : zeroRow (inf 54) = Option.some [V.p (Go.Value.int Go.IntKind.i64 0), V.nil, V.nil, V.p (Go.Value.int Go.IntKind.i64 0)] := by kernel_rfl
@[simp] theorem bl_54 (σ : St) (ps : List (Nat × Operand)) : buildV Try.prog σ 54 ps = (fillL [(0, 2), (2, 1), (3, 1)] [V.p (Go.Value.int Go.IntKind.i64 0), V.nil, V.nil, V.p (Go.Value.int Go.IntKind.i64 0)] (evL σ ps)).map .agg := build_eval i_54 iz_54 u_54 (by kernel_rfl)
@[simp] theorem u_60 : Try.prog.underlying 60 = Option.some (Go.TypeDesc.array 7 3) := by kernel_rfl
@[simp] theorem i_60 : Try.prog.info? 60 = some (inf 60) := by kernel_rfl
@[simp] theorem is_60 : (inf 60).size = 7 := by kernel_rfl
@[simp] theorem ib_60 : (inf 60).bytes = 56 := by kernel_rfl
@[simp] theorem iz_60 : zeroRow (inf 60) = Option.some [V.p (Go.Value.int Go.IntKind.i64 0), V.p (Go.Value.int Go.IntKind.i64 0), V.p (Go.Value.int Go.IntKind.i64 0), V.p (Go.Value.int Go.IntKind.i64 0), V.p (Go.Value.int Go.IntKind.i64 0), V.p (Go.Value.int Go.IntKind.i64 0), V.p (Go.Value.int Go.IntKind.i64 0)] := by kernel_rfl
@[simp] theorem u_67 : Try.prog.underlying 67 = Option.some (Go.TypeDesc.array 7 4) := by kernel_rfl
@[simp] theorem i_67 : Try.prog.info? 67 = some (inf 67) := by kernel_rfl
@[simp] theorem is_67 : (inf 67).size = 7 := by kernel_rfl
@[simp] theorem ib_67 : (inf 67).bytes = 7 := by kernel_rfl
@[simp] theorem iz_67 : zeroRow (inf 67) = Option.some [V.p (Go.Value.bool false), V.p (Go.Value.bool false), V.p (Go.Value.bool false), V.p (Go.Value.bool false), V.p (Go.Value.bool false), V.p (Go.Value.bool false), V.p (Go.Value.bool false)] := by kernel_rfl
@[simp] theorem gv (f : FuncId) : hints.gives f = [].contains f := rfl
@[simp] theorem hk_4_0 : hints.keep 4 0 = some [2, 3, 4] := rfl
@[simp] theorem hs_4_0 : hints.soft 4 0 = [] := rfl
@[simp] theorem hz_4_0 : hints.frz 4 0 = [] := rfl
@[simp] theorem hk_4_1 : hints.keep 4 1 = some [2, 3, 4, 19] := rfl
@[simp] theorem hs_4_1 : hints.soft 4 1 = [] := rfl
@[simp] theorem hz_4_1 : hints.frz 4 1 = [] := rfl
@[simp] theorem hk_4_2 : hints.keep 4 2 = some [6] := rfl
@[simp] theorem hs_4_2 : hints.soft 4 2 = [] := rfl
@[simp] theorem hz_4_2 : hints.frz 4 2 = [] := rfl
@[simp] theorem hk_4_3 : hints.keep 4 3 = some [2, 3, 4, 7] := rfl
@[simp] theorem hs_4_3 : hints.soft 4 3 = [] := rfl
@[simp] theorem hz_4_3 : hints.frz 4 3 = [] := rfl
@[simp] theorem hk_4_4 : hints.keep 4 4 = some [2, 3, 4, 7, 9, 10] := rfl
@[simp] theorem hs_4_4 : hints.soft 4 4 = [] := rfl
@[simp] theorem hz_4_4 : hints.frz 4 4 = [] := rfl
@[simp] theorem hk_4_5 : hints.keep 4 5 = some [2, 3, 4, 7, 9, 38] := rfl
@[simp] theorem hs_4_5 : hints.soft 4 5 = [] := rfl
@[simp] theorem hz_4_5 : hints.frz 4 5 = [] := rfl
@[simp] theorem hk_4_6 : hints.keep 4 6 = some [6] := rfl
@[simp] theorem hs_4_6 : hints.soft 4 6 = [] := rfl
@[simp] theorem hz_4_6 : hints.frz 4 6 = [] := rfl
@[simp] theorem hk_4_7 : hints.keep 4 7 = some [2, 3, 4, 7, 9, 42, 43] := rfl
@[simp] theorem hs_4_7 : hints.soft 4 7 = [] := rfl
@[simp] theorem hz_4_7 : hints.frz 4 7 = [] := rfl
@[simp] theorem hk_4_8 : hints.keep 4 8 = some [2, 3, 4, 7, 9, 42, 43, 44] := rfl
@[simp] theorem hh_4_8 : hints.head 4 8 = some [2, 3, 4, 7, 9, 42, 43] := rfl
@[simp] theorem hc_4_8 : hints.canon 4 8 = [] := rfl
@[simp] theorem hs_4_8 : hints.soft 4 8 = [] := rfl
@[simp] theorem hz_4_8 : hints.frz 4 8 = [] := rfl
@[simp] theorem hk_4_9 : hints.keep 4 9 = some [2, 3, 4, 7, 9, 11, 42, 43] := rfl
@[simp] theorem hs_4_9 : hints.soft 4 9 = [] := rfl
@[simp] theorem hz_4_9 : hints.frz 4 9 = [] := rfl
@[simp] theorem hk_4_10 : hints.keep 4 10 = some [2, 3, 4, 7, 9, 11, 42, 43, 49] := rfl
@[simp] theorem hs_4_10 : hints.soft 4 10 = [] := rfl
@[simp] theorem hz_4_10 : hints.frz 4 10 = [] := rfl
@[simp] theorem hk_4_11 : hints.keep 4 11 = some [2, 3, 4, 7, 9, 42, 43] := rfl
@[simp] theorem hs_4_11 : hints.soft 4 11 = [] := rfl
@[simp] theorem hz_4_11 : hints.frz 4 11 = [] := rfl
@[simp] theorem hk_4_12 : hints.keep 4 12 = some [2, 3, 4, 7, 9, 42, 43] := rfl
@[simp] theorem hs_4_12 : hints.soft 4 12 = [] := rfl
@[simp] theorem hz_4_12 : hints.frz 4 12 = [] := rfl
@[simp] theorem hk_4_13 : hints.keep 4 13 = some [3, 4, 7, 9, 13, 14] := rfl
@[simp] theorem hs_4_13 : hints.soft 4 13 = [] := rfl
@[simp] theorem hz_4_13 : hints.frz 4 13 = [] := rfl
@[simp] theorem hk_4_14 : hints.keep 4 14 = some [9, 13, 14, 16, 17] := rfl
@[simp] theorem hs_4_14 : hints.soft 4 14 = [] := rfl
@[simp] theorem hz_4_14 : hints.frz 4 14 = [] := rfl
@[simp] theorem hk_4_15 : hints.keep 4 15 = some [6] := rfl
@[simp] theorem hs_4_15 : hints.soft 4 15 = [] := rfl
@[simp] theorem hz_4_15 : hints.frz 4 15 = [] := rfl
@[simp] theorem hk_8_0 : hints.keep 8 0 = some [1, 2, 4, 5, 6, 9] := rfl
@[simp] theorem hs_8_0 : hints.soft 8 0 = [] := rfl
@[simp] theorem hz_8_0 : hints.frz 8 0 = [] := rfl
@[simp] theorem hk_8_1 : hints.keep 8 1 = some [1, 2, 4, 5, 6, 9, 15] := rfl
@[simp] theorem hs_8_1 : hints.soft 8 1 = [] := rfl
@[simp] theorem hz_8_1 : hints.frz 8 1 = [] := rfl
@[simp] theorem hk_8_2 : hints.keep 8 2 = some [1, 2, 4, 5, 6, 9, 15, 26] := rfl
@[simp] theorem hs_8_2 : hints.soft 8 2 = [] := rfl
@[simp] theorem hz_8_2 : hints.frz 8 2 = [] := rfl
@[simp] theorem hk_8_3 : hints.keep 8 3 = some [12, 13, 14] := rfl
@[simp] theorem hs_8_3 : hints.soft 8 3 = [] := rfl
@[simp] theorem hz_8_3 : hints.frz 8 3 = [] := rfl
@[simp] theorem hk_8_4 : hints.keep 8 4 = some [1, 2, 4, 5, 6, 9, 65] := rfl
@[simp] theorem hs_8_4 : hints.soft 8 4 = [] := rfl
@[simp] theorem hz_8_4 : hints.frz 8 4 = [] := rfl
@[simp] theorem hk_8_5 : hints.keep 8 5 = some [12, 13, 14] := rfl
@[simp] theorem hs_8_5 : hints.soft 8 5 = [] := rfl
@[simp] theorem hz_8_5 : hints.frz 8 5 = [] := rfl
@[simp] theorem hk_8_6 : hints.keep 8 6 = some [2, 4, 6, 9, 16] := rfl
@[simp] theorem hs_8_6 : hints.soft 8 6 = [] := rfl
@[simp] theorem hz_8_6 : hints.frz 8 6 = [] := rfl
@[simp] theorem hk_8_7 : hints.keep 8 7 = some [2, 4, 6, 9, 16, 17, 18] := rfl
@[simp] theorem hs_8_7 : hints.soft 8 7 = [] := rfl
@[simp] theorem hz_8_7 : hints.frz 8 7 = [] := rfl
@[simp] theorem hk_8_8 : hints.keep 8 8 = some [6, 9, 16, 17, 18, 73] := rfl
@[simp] theorem hs_8_8 : hints.soft 8 8 = [] := rfl
@[simp] theorem hz_8_8 : hints.frz 8 8 = [] := rfl
@[simp] theorem hk_8_9 : hints.keep 8 9 = some [6, 9, 16, 17, 18, 19, 75] := rfl
@[simp] theorem hs_8_9 : hints.soft 8 9 = [] := rfl
@[simp] theorem hz_8_9 : hints.frz 8 9 = [] := rfl
@[simp] theorem hk_8_10 : hints.keep 8 10 = some [6, 9, 16, 17, 18, 19, 20] := rfl
@[simp] theorem hs_8_10 : hints.soft 8 10 = [] := rfl
@[simp] theorem hz_8_10 : hints.frz 8 10 = [] := rfl
@[simp] theorem hk_8_11 : hints.keep 8 11 = some [17, 18, 19, 21, 22] := rfl
@[simp] theorem hs_8_11 : hints.soft 8 11 = [] := rfl
@[simp] theorem hz_8_11 : hints.frz 8 11 = [] := rfl
@[simp] theorem hk_8_12 : hints.keep 8 12 = some [17, 18, 19, 21, 98] := rfl
@[simp] theorem hs_8_12 : hints.soft 8 12 = [] := rfl
@[simp] theorem hz_8_12 : hints.frz 8 12 = [] := rfl
@[simp] theorem hk_8_13 : hints.keep 8 13 = some [] := rfl
@[simp] theorem hs_8_13 : hints.soft 8 13 = [] := rfl
@[simp] theorem hz_8_13 : hints.frz 8 13 = [] := rfl
@[simp] theorem hk_8_14 : hints.keep 8 14 = some [17, 18, 102] := rfl
@[simp] theorem hs_8_14 : hints.soft 8 14 = [] := rfl
@[simp] theorem hz_8_14 : hints.frz 8 14 = [] := rfl
@[simp] theorem hk_8_15 : hints.keep 8 15 = some [12, 13, 14] := rfl
@[simp] theorem hs_8_15 : hints.soft 8 15 = [] := rfl
@[simp] theorem hz_8_15 : hints.frz 8 15 = [] := rfl
@[simp] theorem hk_8_16 : hints.keep 8 16 = some [12, 13, 14] := rfl
@[simp] theorem hs_8_16 : hints.soft 8 16 = [] := rfl
@[simp] theorem hz_8_16 : hints.frz 8 16 = [] := rfl
@[simp] theorem hk_12_0 : hints.keep 12 0 = some [1] := rfl
@[simp] theorem hs_12_0 : hints.soft 12 0 = [] := rfl
@[simp] theorem hz_12_0 : hints.frz 12 0 = [] := rfl
@[simp] theorem hk_12_1 : hints.keep 12 1 = some [1, 8] := rfl
@[simp] theorem hs_12_1 : hints.soft 12 1 = [] := rfl
@[simp] theorem hz_12_1 : hints.frz 12 1 = [] := rfl
@[simp] theorem hk_12_2 : hints.keep 12 2 = some [2] := rfl
@[simp] theorem hs_12_2 : hints.soft 12 2 = [(2, none, 1, some (700128, 3))] := rfl
@[simp] theorem hz_12_2 : hints.frz 12 2 = [] := rfl
@[simp] theorem hk_12_3 : hints.keep 12 3 = some [1, 3] := rfl
@[simp] theorem hs_12_3 : hints.soft 12 3 = [(3, none, 1, some (700192, 3))] := rfl
@[simp] theorem hz_12_3 : hints.frz 12 3 = [] := rfl
@[simp] theorem hk_12_4 : hints.keep 12 4 = some [3, 10, 11, 12] := rfl
@[simp] theorem hs_12_4 : hints.soft 12 4 = [] := rfl
@[simp] theorem hz_12_4 : hints.frz 12 4 = [] := rfl
@[simp] theorem hk_12_5 : hints.keep 12 5 = some [3, 10, 11, 12, 13] := rfl
@[simp] theorem hh_12_5 : hints.head 12 5 = some [3, 10, 11, 12] := rfl
@[simp] theorem hc_12_5 : hints.canon 12 5 = [(3, none, 20000, 1, 3)] := rfl
@[simp] theorem hs_12_5 : hints.soft 12 5 = [] := rfl
@[simp] theorem hz_12_5 : hints.frz 12 5 = [] := rfl
@[simp] theorem hk_12_6 : hints.keep 12 6 = some [3, 5, 10, 11, 12] := rfl
@[simp] theorem hs_12_6 : hints.soft 12 6 = [] := rfl
@[simp] theorem hz_12_6 : hints.frz 12 6 = [] := rfl
@[simp] theorem hk_12_7 : hints.keep 12 7 = some [3, 10, 11, 12] := rfl
@[simp] theorem hs_12_7 : hints.soft 12 7 = [] := rfl
@[simp] theorem hz_12_7 : hints.frz 12 7 = [] := rfl
@[simp] theorem hk_12_8 : hints.keep 12 8 = some [3, 10, 11, 12] := rfl
@[simp] theorem hs_12_8 : hints.soft 12 8 = [] := rfl
@[simp] theorem hz_12_8 : hints.frz 12 8 = [] := rfl
@[simp] theorem hk_12_9 : hints.keep 12 9 = some [2] := rfl
@[simp] theorem hs_12_9 : hints.soft 12 9 = [] := rfl
@[simp] theorem hz_12_9 : hints.frz 12 9 = [] := rfl
@[simp] theorem hk_14_0 : hints.keep 14 0 = some [1] := rfl
@[simp] theorem hs_14_0 : hints.soft 14 0 = [] := rfl
@[simp] theorem hz_14_0 : hints.frz 14 0 = [] := rfl
@[simp] theorem hk_14_1 : hints.keep 14 1 = some [1, 16] := rfl
@[simp] theorem hs_14_1 : hints.soft 14 1 = [] := rfl
@[simp] theorem hz_14_1 : hints.frz 14 1 = [] := rfl
@[simp] theorem hk_14_2 : hints.keep 14 2 = some [2] := rfl
@[simp] theorem hs_14_2 : hints.soft 14 2 = [] := rfl
@[simp] theorem hz_14_2 : hints.frz 14 2 = [] := rfl
@[simp] theorem hk_14_3 : hints.keep 14 3 = some [1, 18, 19, 20] := rfl
@[simp] theorem hs_14_3 : hints.soft 14 3 = [] := rfl
@[simp] theorem hz_14_3 : hints.frz 14 3 = [] := rfl
@[simp] theorem hk_14_4 : hints.keep 14 4 = some [1, 18, 19, 20, 21] := rfl
@[simp] theorem hh_14_4 : hints.head 14 4 = some [1, 18, 19, 20] := rfl
@[simp] theorem hc_14_4 : hints.canon 14 4 = [] := rfl
@[simp] theorem hs_14_4 : hints.soft 14 4 = [] := rfl
@[simp] theorem hz_14_4 : hints.frz 14 4 = [] := rfl
@[simp] theorem hk_14_5 : hints.keep 14 5 = some [1, 3, 4, 18, 19, 20] := rfl
@[simp] theorem hs_14_5 : hints.soft 14 5 = [] := rfl
@[simp] theorem hz_14_5 : hints.frz 14 5 = [] := rfl
@[simp] theorem hk_14_6 : hints.keep 14 6 = some [1, 3, 4, 18, 19, 20, 74] := rfl
@[simp] theorem hs_14_6 : hints.soft 14 6 = [] := rfl
@[simp] theorem hz_14_6 : hints.frz 14 6 = [] := rfl
@[simp] theorem hk_14_7 : hints.keep 14 7 = some [2] := rfl
@[simp] theorem hs_14_7 : hints.soft 14 7 = [] := rfl
@[simp] theorem hz_14_7 : hints.frz 14 7 = [] := rfl
@[simp] theorem hk_14_8 : hints.keep 14 8 = some [1, 4, 18, 19, 20, 78, 79, 80] := rfl
@[simp] theorem hs_14_8 : hints.soft 14 8 = [] := rfl
@[simp] theorem hz_14_8 : hints.frz 14 8 = [] := rfl
@[simp] theorem hk_14_9 : hints.keep 14 9 = some [1, 4, 18, 19, 20, 78, 79, 80, 81] := rfl
@[simp] theorem hh_14_9 : hints.head 14 9 = some [1, 4, 18, 19, 20, 78, 79, 80] := rfl
@[simp] theorem hc_14_9 : hints.canon 14 9 = [] := rfl
@[simp] theorem hs_14_9 : hints.soft 14 9 = [] := rfl
@[simp] theorem hz_14_9 : hints.frz 14 9 = [] := rfl
@[simp] theorem hk_14_10 : hints.keep 14 10 = some [1, 4, 6, 18, 19, 20, 78, 79, 80] := rfl
@[simp] theorem hs_14_10 : hints.soft 14 10 = [] := rfl
@[simp] theorem hz_14_10 : hints.frz 14 10 = [] := rfl
@[simp] theorem hk_14_11 : hints.keep 14 11 = some [1, 4, 18, 19, 20, 78, 79, 80, 109] := rfl
@[simp] theorem hs_14_11 : hints.soft 14 11 = [] := rfl
@[simp] theorem hz_14_11 : hints.frz 14 11 = [] := rfl
@[simp] theorem hk_14_12 : hints.keep 14 12 = some [2] := rfl
@[simp] theorem hs_14_12 : hints.soft 14 12 = [] := rfl
@[simp] theorem hz_14_12 : hints.frz 14 12 = [] := rfl
@[simp] theorem hk_14_13 : hints.keep 14 13 = some [1, 4, 18, 19, 20, 78, 79, 80] := rfl
@[simp] theorem hs_14_13 : hints.soft 14 13 = [] := rfl
@[simp] theorem hz_14_13 : hints.frz 14 13 = [] := rfl
@[simp] theorem hk_14_14 : hints.keep 14 14 = some [1, 18, 19, 20] := rfl
@[simp] theorem hs_14_14 : hints.soft 14 14 = [] := rfl
@[simp] theorem hz_14_14 : hints.frz 14 14 = [] := rfl
@[simp] theorem hk_14_15 : hints.keep 14 15 = some [2] := rfl
@[simp] theorem hs_14_15 : hints.soft 14 15 = [] := rfl
@[simp] theorem hz_14_15 : hints.frz 14 15 = [] := rfl
@[simp] theorem hk_16_0 : hints.keep 16 0 = some [1] := rfl
@[simp] theorem hs_16_0 : hints.soft 16 0 = [] := rfl
@[simp] theorem hz_16_0 : hints.frz 16 0 = [] := rfl
@[simp] theorem hk_16_1 : hints.keep 16 1 = some [1, 27] := rfl
@[simp] theorem hs_16_1 : hints.soft 16 1 = [] := rfl
@[simp] theorem hz_16_1 : hints.frz 16 1 = [] := rfl
@[simp] theorem hk_16_2 : hints.keep 16 2 = some [2] := rfl
@[simp] theorem hs_16_2 : hints.soft 16 2 = [] := rfl
@[simp] theorem hz_16_2 : hints.frz 16 2 = [] := rfl
@[simp] theorem hk_16_3 : hints.keep 16 3 = some [2] := rfl
@[simp] theorem hs_16_3 : hints.soft 16 3 = [] := rfl
@[simp] theorem hz_16_3 : hints.frz 16 3 = [] := rfl
@[simp] theorem hk_19_0 : hints.keep 19 0 = some [0, 1] := rfl
@[simp] theorem hs_19_0 : hints.soft 19 0 = [] := rfl
@[simp] theorem hz_19_0 : hints.frz 19 0 = [] := rfl
@[simp] theorem hk_19_1 : hints.keep 19 1 = some [4] := rfl
@[simp] theorem hs_19_1 : hints.soft 19 1 = [] := rfl
@[simp] theorem hz_19_1 : hints.frz 19 1 = [] := rfl
@[simp] theorem hk_20_0 : hints.keep 20 0 = some [0] := rfl
@[simp] theorem hs_20_0 : hints.soft 20 0 = [] := rfl
@[simp] theorem hz_20_0 : hints.frz 20 0 = [] := rfl
@[simp] theorem hk_20_1 : hints.keep 20 1 = some [2] := rfl
@[simp] theorem hs_20_1 : hints.soft 20 1 = [] := rfl
@[simp] theorem hz_20_1 : hints.frz 20 1 = [] := rfl
@[simp] theorem hk_21_0 : hints.keep 21 0 = some [0, 1, 2] := rfl
@[simp] theorem hs_21_0 : hints.soft 21 0 = [] := rfl
@[simp] theorem hz_21_0 : hints.frz 21 0 = [] := rfl
@[simp] theorem hk_21_1 : hints.keep 21 1 = some [6] := rfl
@[simp] theorem hs_21_1 : hints.soft 21 1 = [] := rfl
@[simp] theorem hz_21_1 : hints.frz 21 1 = [] := rfl
@[simp] theorem hk_22_0 : hints.keep 22 0 = some [3, 4, 5] := rfl
@[simp] theorem hs_22_0 : hints.soft 22 0 = [] := rfl
@[simp] theorem hz_22_0 : hints.frz 22 0 = [] := rfl
@[simp] theorem hk_22_1 : hints.keep 22 1 = some [6] := rfl
@[simp] theorem hs_22_1 : hints.soft 22 1 = [] := rfl
@[simp] theorem hz_22_1 : hints.frz 22 1 = [] := rfl
@[simp] theorem hk_23_0 : hints.keep 23 0 = some [1, 2, 3, 4] := rfl
@[simp] theorem hs_23_0 : hints.soft 23 0 = [] := rfl
@[simp] theorem hz_23_0 : hints.frz 23 0 = [] := rfl
@[simp] theorem hk_23_1 : hints.keep 23 1 = some [1, 2, 3, 4, 10] := rfl
@[simp] theorem hs_23_1 : hints.soft 23 1 = [] := rfl
@[simp] theorem hz_23_1 : hints.frz 23 1 = [] := rfl
@[simp] theorem hk_23_2 : hints.keep 23 2 = some [1, 2, 3, 4, 10, 11, 12] := rfl
@[simp] theorem hs_23_2 : hints.soft 23 2 = [] := rfl
@[simp] theorem hz_23_2 : hints.frz 23 2 = [] := rfl
@[simp] theorem hk_23_3 : hints.keep 23 3 = some [2, 4, 10, 11, 12] := rfl
@[simp] theorem hs_23_3 : hints.soft 23 3 = [] := rfl
@[simp] theorem hz_23_3 : hints.frz 23 3 = [] := rfl
@[simp] theorem hk_23_4 : hints.keep 23 4 = some [2, 4, 10, 11, 12, 13] := rfl
@[simp] theorem hh_23_4 : hints.head 23 4 = some [2, 4, 10, 11, 12] := rfl
@[simp] theorem hc_23_4 : hints.canon 23 4 = [] := rfl
@[simp] theorem hs_23_4 : hints.soft 23 4 = [] := rfl
@[simp] theorem hz_23_4 : hints.frz 23 4 = [] := rfl
@[simp] theorem hk_23_5 : hints.keep 23 5 = some [2, 4, 10, 11, 12, 13, 14] := rfl
@[simp] theorem hs_23_5 : hints.soft 23 5 = [] := rfl
@[simp] theorem hz_23_5 : hints.frz 23 5 = [] := rfl
@[simp] theorem hk_23_6 : hints.keep 23 6 = some [2, 4, 10, 11, 12, 13, 14, 27] := rfl
@[simp] theorem hh_23_6 : hints.head 23 6 = some [2, 4, 10, 11, 12, 13, 14] := rfl
@[simp] theorem hc_23_6 : hints.canon 23 6 = [] := rfl
@[simp] theorem hs_23_6 : hints.soft 23 6 = [] := rfl
@[simp] theorem hz_23_6 : hints.frz 23 6 = [] := rfl
@[simp] theorem hk_23_7 : hints.keep 23 7 = some [2, 4, 10, 11, 12, 13, 14] := rfl
@[simp] theorem hs_23_7 : hints.soft 23 7 = [] := rfl
@[simp] theorem hz_23_7 : hints.frz 23 7 = [] := rfl
@[simp] theorem hk_23_8 : hints.keep 23 8 = some [2, 4, 10, 11, 12, 13, 14, 51] := rfl
@[simp] theorem hs_23_8 : hints.soft 23 8 = [] := rfl
@[simp] theorem hz_23_8 : hints.frz 23 8 = [] := rfl
@[simp] theorem hk_23_9 : hints.keep 23 9 = some [2, 4, 10, 11, 12, 13, 14] := rfl
@[simp] theorem hs_23_9 : hints.soft 23 9 = [] := rfl
@[simp] theorem hz_23_9 : hints.frz 23 9 = [] := rfl
@[simp] theorem hk_23_10 : hints.keep 23 10 = some [2, 4, 10, 11, 12, 13, 59] := rfl
@[simp] theorem hs_23_10 : hints.soft 23 10 = [] := rfl
@[simp] theorem hz_23_10 : hints.frz 23 10 = [] := rfl
@[simp] theorem hk_23_11 : hints.keep 23 11 = some [2, 4, 10, 11, 12, 13] := rfl
@[simp] theorem hs_23_11 : hints.soft 23 11 = [] := rfl
@[simp] theorem hz_23_11 : hints.frz 23 11 = [] := rfl
@[simp] theorem hk_23_12 : hints.keep 23 12 = some [2, 4, 10, 11, 12, 67] := rfl
@[simp] theorem hs_23_12 : hints.soft 23 12 = [] := rfl
@[simp] theorem hz_23_12 : hints.frz 23 12 = [] := rfl
@[simp] theorem hk_23_13 : hints.keep 23 13 = some [4, 10, 11, 15, 69] := rfl
@[simp] theorem hs_23_13 : hints.soft 23 13 = [] := rfl
@[simp] theorem hz_23_13 : hints.frz 23 13 = [] := rfl
@[simp] theorem hk_23_14 : hints.keep 23 14 = some [4, 10, 11, 15, 16] := rfl
@[simp] theorem hs_23_14 : hints.soft 23 14 = [] := rfl
@[simp] theorem hz_23_14 : hints.frz 23 14 = [] := rfl
@[simp] theorem hk_23_15 : hints.keep 23 15 = some [10, 11, 16, 17] := rfl
@[simp] theorem hs_23_15 : hints.soft 23 15 = [] := rfl
@[simp] theorem hz_23_15 : hints.frz 23 15 = [] := rfl
@[simp] theorem hk_23_16 : hints.keep 23 16 = some [10, 11, 16, 17, 87] := rfl
@[simp] theorem hs_23_16 : hints.soft 23 16 = [] := rfl
@[simp] theorem hz_23_16 : hints.frz 23 16 = [] := rfl
@[simp] theorem hk_23_17 : hints.keep 23 17 = some [] := rfl
@[simp] theorem hs_23_17 : hints.soft 23 17 = [] := rfl
@[simp] theorem hz_23_17 : hints.frz 23 17 = [] := rfl
@[simp] theorem hk_23_18 : hints.keep 23 18 = some [8, 9] := rfl
@[simp] theorem hs_23_18 : hints.soft 23 18 = [] := rfl
@[simp] theorem hz_23_18 : hints.frz 23 18 = [] := rfl
@[simp] theorem hk_28_0 : hints.keep 28 0 = some [0, 1] := rfl
@[simp] theorem hs_28_0 : hints.soft 28 0 = [] := rfl
@[simp] theorem hz_28_0 : hints.frz 28 0 = [] := rfl
@[simp] theorem hk_28_1 : hints.keep 28 1 = some [0, 1, 7, 8] := rfl
@[simp] theorem hs_28_1 : hints.soft 28 1 = [] := rfl
@[simp] theorem hz_28_1 : hints.frz 28 1 = [] := rfl
@[simp] theorem hk_28_2 : hints.keep 28 2 = some [0, 1, 7, 8, 9] := rfl
@[simp] theorem hh_28_2 : hints.head 28 2 = some [0, 1, 7, 8] := rfl
@[simp] theorem hc_28_2 : hints.canon 28 2 = [] := rfl
@[simp] theorem hs_28_2 : hints.soft 28 2 = [] := rfl
@[simp] theorem hz_28_2 : hints.frz 28 2 = [] := rfl
@[simp] theorem hk_28_3 : hints.keep 28 3 = some [0, 1, 5, 7, 8] := rfl
@[simp] theorem hs_28_3 : hints.soft 28 3 = [] := rfl
@[simp] theorem hz_28_3 : hints.frz 28 3 = [] := rfl
@[simp] theorem hk_28_4 : hints.keep 28 4 = some [0, 1, 5, 7, 8, 16] := rfl
@[simp] theorem hs_28_4 : hints.soft 28 4 = [] := rfl
@[simp] theorem hz_28_4 : hints.frz 28 4 = [] := rfl
@[simp] theorem hk_28_5 : hints.keep 28 5 = some [4] := rfl
@[simp] theorem hs_28_5 : hints.soft 28 5 = [] := rfl
@[simp] theorem hz_28_5 : hints.frz 28 5 = [] := rfl
@[simp] theorem hk_28_6 : hints.keep 28 6 = some [0, 1, 7, 8] := rfl
@[simp] theorem hs_28_6 : hints.soft 28 6 = [] := rfl
@[simp] theorem hz_28_6 : hints.frz 28 6 = [] := rfl
@[simp] theorem hk_28_7 : hints.keep 28 7 = some [4] := rfl
@[simp] theorem hs_28_7 : hints.soft 28 7 = [] := rfl
@[simp] theorem hz_28_7 : hints.frz 28 7 = [] := rfl
@[simp] theorem hk_29_0 : hints.keep 29 0 = some [0, 1, 2, 3, 9, 10, 11] := rfl
@[simp] theorem hs_29_0 : hints.soft 29 0 = [] := rfl
@[simp] theorem hz_29_0 : hints.frz 29 0 = [] := rfl
@[simp] theorem hk_29_1 : hints.keep 29 1 = some [0, 1, 2, 3, 9, 10, 11, 12] := rfl
@[simp] theorem hh_29_1 : hints.head 29 1 = some [0, 1, 2, 3, 9, 10, 11] := rfl
@[simp] theorem hc_29_1 : hints.canon 29 1 = [] := rfl
@[simp] theorem hs_29_1 : hints.soft 29 1 = [] := rfl
@[simp] theorem hz_29_1 : hints.frz 29 1 = [] := rfl
@[simp] theorem hk_29_2 : hints.keep 29 2 = some [0, 1, 2, 3, 5, 6, 9, 10, 11] := rfl
@[simp] theorem hs_29_2 : hints.soft 29 2 = [] := rfl
@[simp] theorem hz_29_2 : hints.frz 29 2 = [] := rfl
@[simp] theorem hk_29_3 : hints.keep 29 3 = some [0, 1, 2, 3, 9, 10, 11, 49] := rfl
@[simp] theorem hs_29_3 : hints.soft 29 3 = [] := rfl
@[simp] theorem hz_29_3 : hints.frz 29 3 = [] := rfl
@[simp] theorem hk_29_4 : hints.keep 29 4 = some [0, 1, 2, 3, 9, 10, 11] := rfl
@[simp] theorem hs_29_4 : hints.soft 29 4 = [] := rfl
@[simp] theorem hz_29_4 : hints.frz 29 4 = [] := rfl
@[simp] theorem hk_8_1000011 : hints.keep 8 1000011 = some [17, 18] := rfl
@[simp] theorem hh_8_1000011 : hints.head 8 1000011 = some [6, 9, 16, 17, 18] := rfl
@[simp] theorem hk_23_1000015 : hints.keep 23 1000015 = some [2, 4, 10, 11, 12] := rfl
@[simp] theorem hh_23_1000015 : hints.head 23 1000015 = some [4, 10, 11] := rfl
end Go.Proofs.YtmogplhglcodjaaV
