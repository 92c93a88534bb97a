/- The value interpreter's hints and the types' facts for this seat, one by one. -/
import Derived.Test.YthjefcamonmjpaaHViS
import Derived.Test.YthjefcamonmjpaaHVi25
namespace Go.Proofs.YthjefcamonmjpaaV
open Go
set_option linter.unusedVariables false
noncomputable def inf (t : TypeId) : TypeInfo := (Try.prog.info? t).getD ((Try.prog.info? 3).get (by kernel_rfl))
@[simp] theorem u_3 : Try.prog.underlying 3 = Option.some (Go.TypeDesc.int Go.IntKind.i64) := by kernel_rfl
@[simp] theorem i_3 : Try.prog.info? 3 = some (inf 3) := by kernel_rfl
@[simp] theorem is_3 : (inf 3).size = 1 := by kernel_rfl
@[simp] theorem ib_3 : (inf 3).bytes = 8 := by kernel_rfl
@[simp] theorem iz_3 : zeroRow (inf 3) = Option.some [V.p (Go.Value.int Go.IntKind.i64 0)] := by kernel_rfl
@[simp] theorem u_4 : Try.prog.underlying 4 = Option.some Go.TypeDesc.bool := by kernel_rfl
@[simp] theorem i_4 : Try.prog.info? 4 = some (inf 4) := by kernel_rfl
@[simp] theorem is_4 : (inf 4).size = 1 := by kernel_rfl
@[simp] theorem ib_4 : (inf 4).bytes = 1 := by kernel_rfl
@[simp] theorem iz_4 : zeroRow (inf 4) = Option.some [V.p (Go.Value.bool false)] := by kernel_rfl
@[simp] theorem u_5 : Try.prog.underlying 5 = Option.some (Go.TypeDesc.int Go.IntKind.u8) := by kernel_rfl
@[simp] theorem i_5 : Try.prog.info? 5 = some (inf 5) := by kernel_rfl
@[simp] theorem is_5 : (inf 5).size = 1 := by kernel_rfl
@[simp] theorem ib_5 : (inf 5).bytes = 1 := by kernel_rfl
@[simp] theorem iz_5 : zeroRow (inf 5) = Option.some [V.p (Go.Value.int Go.IntKind.u8 0)] := by kernel_rfl
@[simp] theorem u_9 : Try.prog.underlying 9 = Option.some Go.TypeDesc.string := by kernel_rfl
@[simp] theorem i_9 : Try.prog.info? 9 = some (inf 9) := by kernel_rfl
@[simp] theorem is_9 : (inf 9).size = 1 := by kernel_rfl
@[simp] theorem ib_9 : (inf 9).bytes = 16 := by kernel_rfl
@[simp] theorem iz_9 : zeroRow (inf 9) = Option.some [V.p (Go.Value.string (ByteArray.mk (Array.mk [])))] := by kernel_rfl
@[simp] theorem u_22 : Try.prog.underlying 22 = Option.some (Go.TypeDesc.int Go.IntKind.u32) := by kernel_rfl
@[simp] theorem i_22 : Try.prog.info? 22 = some (inf 22) := by kernel_rfl
@[simp] theorem is_22 : (inf 22).size = 1 := by kernel_rfl
@[simp] theorem ib_22 : (inf 22).bytes = 4 := by kernel_rfl
@[simp] theorem iz_22 : zeroRow (inf 22) = Option.some [V.p (Go.Value.int Go.IntKind.u32 0)] := by kernel_rfl
@[simp] theorem u_23 : Try.prog.underlying 23 = Option.some (Go.TypeDesc.slice 5) := by kernel_rfl
@[simp] theorem i_23 : Try.prog.info? 23 = some (inf 23) := by kernel_rfl
@[simp] theorem is_23 : (inf 23).size = 1 := by kernel_rfl
@[simp] theorem ib_23 : (inf 23).bytes = 24 := by kernel_rfl
@[simp] theorem iz_23 : zeroRow (inf 23) = Option.some [V.nil] := by kernel_rfl
@[simp] theorem u_24 : Try.prog.underlying 24 = Option.some (Go.TypeDesc.slice 45) := by kernel_rfl
@[simp] theorem i_24 : Try.prog.info? 24 = some (inf 24) := by kernel_rfl
@[simp] theorem is_24 : (inf 24).size = 1 := by kernel_rfl
@[simp] theorem ib_24 : (inf 24).bytes = 24 := by kernel_rfl
@[simp] theorem iz_24 : zeroRow (inf 24) = Option.some [V.nil] := by kernel_rfl
@[simp] theorem u_26 : Try.prog.underlying 26 = Option.some (Go.TypeDesc.struct (Array.mk [Go.Field.mk "Kind" 3 0 false "" "" 0, Go.Field.mk "Source" 3 1 false "" "" 8, Go.Field.mk "Session" 22 2 false "" "" 16, Go.Field.mk "Serial" 22 3 false "" "" 20, Go.Field.mk "Checks" 22 4 false "" "" 24, Go.Field.mk "Offset" 3 5 false "" "" 32, Go.Field.mk "Total" 3 6 false "" "" 40, Go.Field.mk "Lower" 3 7 false "" "" 48, Go.Field.mk "Upper" 3 8 false "" "" 56, Go.Field.mk "Reason" 3 9 false "" "" 64, Go.Field.mk "Check" 4 10 false "" "" 72, Go.Field.mk "Data" 23 11 false "" "" 80, Go.Field.mk "Claims" 24 12 false "" "" 104])) := by kernel_rfl
@[simp] theorem i_26 : Try.prog.info? 26 = some (inf 26) := by kernel_rfl
@[simp] theorem is_26 : (inf 26).size = 13 := by kernel_rfl
@[simp] theorem ib_26 : (inf 26).bytes = 128 := by kernel_rfl
@[simp] theorem iz_26 : zeroRow (inf 26) = Option.some [V.p (Go.Value.int Go.IntKind.i64 0), V.p (Go.Value.int Go.IntKind.i64 0), V.p (Go.Value.int Go.IntKind.u32 0), V.p (Go.Value.int Go.IntKind.u32 0), V.p (Go.Value.int Go.IntKind.u32 0), V.p (Go.Value.int Go.IntKind.i64 0), V.p (Go.Value.int Go.IntKind.i64 0), V.p (Go.Value.int Go.IntKind.i64 0), V.p (Go.Value.int Go.IntKind.i64 0), V.p (Go.Value.int Go.IntKind.i64 0), V.p (Go.Value.bool false), V.nil, V.nil] := by kernel_rfl
@[simp] theorem u_45 : Try.prog.underlying 45 = Option.some (Go.TypeDesc.struct (Array.mk [Go.Field.mk "At" 3 0 false "" "" 0, Go.Field.mk "N" 3 1 false "" "" 8])) := by kernel_rfl
@[simp] theorem i_45 : Try.prog.info? 45 = some (inf 45) := by kernel_rfl
@[simp] theorem is_45 : (inf 45).size = 2 := by kernel_rfl
@[simp] theorem ib_45 : (inf 45).bytes = 16 := by kernel_rfl
@[simp] theorem iz_45 : zeroRow (inf 45) = Option.some [V.p (Go.Value.int Go.IntKind.i64 0), V.p (Go.Value.int Go.IntKind.i64 0)] := by kernel_rfl
@[simp] theorem ag_45 : (Try.prog.eqGuardType Try.prog.depth 45 || Try.prog.stoodInHeld 45) = false := by kernel_rfl
@[simp] theorem bl_45 (σ : St) (ps : List (Nat × Operand)) : buildV Try.prog σ 45 ps = (fillL [(0, 1), (1, 1)] [V.p (Go.Value.int Go.IntKind.i64 0), V.p (Go.Value.int Go.IntKind.i64 0)] (evL σ ps)).map .agg := build_eval i_45 iz_45 u_45 (by kernel_rfl)
@[simp] theorem u_47 : Try.prog.underlying 47 = Option.some (Go.TypeDesc.struct (Array.mk [Go.Field.mk "kind" 3 0 false "" "heliograph/segment" 0, Go.Field.mk "source" 3 1 false "" "heliograph/segment" 8, Go.Field.mk "offset" 3 2 false "" "heliograph/segment" 16, Go.Field.mk "total" 3 3 false "" "heliograph/segment" 24, Go.Field.mk "lower" 3 4 false "" "heliograph/segment" 32, Go.Field.mk "upper" 3 5 false "" "heliograph/segment" 40, Go.Field.mk "reason" 3 6 false "" "heliograph/segment" 48, Go.Field.mk "session" 22 7 false "" "heliograph/segment" 56, Go.Field.mk "serial" 22 8 false "" "heliograph/segment" 60, Go.Field.mk "checks" 22 9 false "" "heliograph/segment" 64, Go.Field.mk "check" 4 10 false "" "heliograph/segment" 68])) := by kernel_rfl
@[simp] theorem i_47 : Try.prog.info? 47 = some (inf 47) := by kernel_rfl
@[simp] theorem is_47 : (inf 47).size = 11 := by kernel_rfl
@[simp] theorem ib_47 : (inf 47).bytes = 72 := by kernel_rfl
@[simp] theorem iz_47 : zeroRow (inf 47) = Option.some [V.p (Go.Value.int Go.IntKind.i64 0), V.p (Go.Value.int Go.IntKind.i64 0), V.p (Go.Value.int Go.IntKind.i64 0), V.p (Go.Value.int Go.IntKind.i64 0), V.p (Go.Value.int Go.IntKind.i64 0), V.p (Go.Value.int Go.IntKind.i64 0), V.p (Go.Value.int Go.IntKind.i64 0), V.p (Go.Value.int Go.IntKind.u32 0), V.p (Go.Value.int Go.IntKind.u32 0), V.p (Go.Value.int Go.IntKind.u32 0), V.p (Go.Value.bool false)] := by kernel_rfl
@[simp] theorem ag_47 : (Try.prog.eqGuardType Try.prog.depth 47 || Try.prog.stoodInHeld 47) = false := by kernel_rfl
@[simp] theorem bl_47 (σ : St) (ps : List (Nat × Operand)) : buildV Try.prog σ 47 ps = (fillL [(0, 1), (1, 1), (2, 1), (3, 1), (4, 1), (5, 1), (6, 1), (7, 1), (8, 1), (9, 1), (10, 1)] [V.p (Go.Value.int Go.IntKind.i64 0), V.p (Go.Value.int Go.IntKind.i64 0), V.p (Go.Value.int Go.IntKind.i64 0), V.p (Go.Value.int Go.IntKind.i64 0), V.p (Go.Value.int Go.IntKind.i64 0), V.p (Go.Value.int Go.IntKind.i64 0), V.p (Go.Value.int Go.IntKind.i64 0), V.p (Go.Value.int Go.IntKind.u32 0), V.p (Go.Value.int Go.IntKind.u32 0), V.p (Go.Value.int Go.IntKind.u32 0), V.p (Go.Value.bool false)] (evL σ ps)).map .agg := build_eval i_47 iz_47 u_47 (by kernel_rfl)
@[simp] theorem gv (f : FuncId) : hints.gives f = [].contains f := rfl
@[simp] theorem hk_3_0 : hints.keep 3 0 = some [2, 3] := rfl
@[simp] theorem hs_3_0 : hints.soft 3 0 = [] := rfl
@[simp] theorem hz_3_0 : hints.frz 3 0 = [] := rfl
@[simp] theorem hk_3_1 : hints.keep 3 1 = some [2, 3, 6] := rfl
@[simp] theorem hs_3_1 : hints.soft 3 1 = [] := rfl
@[simp] theorem hz_3_1 : hints.frz 3 1 = [] := rfl
@[simp] theorem hk_3_2 : hints.keep 3 2 = some [4] := rfl
@[simp] theorem hs_3_2 : hints.soft 3 2 = [] := rfl
@[simp] theorem hz_3_2 : hints.frz 3 2 = [] := rfl
@[simp] theorem hk_3_3 : hints.keep 3 3 = some [2, 3] := rfl
@[simp] theorem hs_3_3 : hints.soft 3 3 = [] := rfl
@[simp] theorem hz_3_3 : hints.frz 3 3 = [2] := rfl
@[simp] theorem hk_3_4 : hints.keep 3 4 = some [4] := rfl
@[simp] theorem hs_3_4 : hints.soft 3 4 = [] := rfl
@[simp] theorem hz_3_4 : hints.frz 3 4 = [] := rfl
@[simp] theorem hk_8_0 : hints.keep 8 0 = some [1, 2] := rfl
@[simp] theorem hs_8_0 : hints.soft 8 0 = [(2, some 11, 1, some (700000, 5)), (2, some 12, 2, some (700001, 45))] := rfl
@[simp] theorem hz_8_0 : hints.frz 8 0 = [] := rfl
@[simp] theorem hk_8_1 : hints.keep 8 1 = some [1, 2, 3, 4] := rfl
@[simp] theorem hs_8_1 : hints.soft 8 1 = [] := rfl
@[simp] theorem hz_8_1 : hints.frz 8 1 = [] := rfl
@[simp] theorem hk_8_2 : hints.keep 8 2 = some [1, 2, 4] := rfl
@[simp] theorem hs_8_2 : hints.soft 8 2 = [] := rfl
@[simp] theorem hz_8_2 : hints.frz 8 2 = [] := rfl
@[simp] theorem hk_8_3 : hints.keep 8 3 = some [1, 2] := rfl
@[simp] theorem hs_8_3 : hints.soft 8 3 = [] := rfl
@[simp] theorem hz_8_3 : hints.frz 8 3 = [] := rfl
@[simp] theorem hk_8_4 : hints.keep 8 4 = some [2] := rfl
@[simp] theorem hs_8_4 : hints.soft 8 4 = [] := rfl
@[simp] theorem hz_8_4 : hints.frz 8 4 = [] := rfl
@[simp] theorem hk_9_0 : hints.keep 9 0 = some [2, 3] := rfl
@[simp] theorem hs_9_0 : hints.soft 9 0 = [(3, some 11, 1, none), (3, some 12, 2, none)] := rfl
@[simp] theorem hz_9_0 : hints.frz 9 0 = [] := rfl
@[simp] theorem hk_9_1 : hints.keep 9 1 = some [2, 3, 5] := rfl
@[simp] theorem hs_9_1 : hints.soft 9 1 = [] := rfl
@[simp] theorem hz_9_1 : hints.frz 9 1 = [] := rfl
@[simp] theorem hk_9_2 : hints.keep 9 2 = some [4] := rfl
@[simp] theorem hs_9_2 : hints.soft 9 2 = [] := rfl
@[simp] theorem hz_9_2 : hints.frz 9 2 = [] := rfl
@[simp] theorem hk_10_0 : hints.keep 10 0 = some [2, 3] := rfl
@[simp] theorem hs_10_0 : hints.soft 10 0 = [] := rfl
@[simp] theorem hz_10_0 : hints.frz 10 0 = [] := rfl
@[simp] theorem hk_10_1 : hints.keep 10 1 = some [2, 3, 12] := rfl
@[simp] theorem hs_10_1 : hints.soft 10 1 = [] := rfl
@[simp] theorem hz_10_1 : hints.frz 10 1 = [] := rfl
@[simp] theorem hk_10_2 : hints.keep 10 2 = some [4] := rfl
@[simp] theorem hs_10_2 : hints.soft 10 2 = [] := rfl
@[simp] theorem hz_10_2 : hints.frz 10 2 = [] := rfl
@[simp] theorem hk_10_3 : hints.keep 10 3 = some [2, 3, 15, 16] := rfl
@[simp] theorem hs_10_3 : hints.soft 10 3 = [] := rfl
@[simp] theorem hz_10_3 : hints.frz 10 3 = [] := rfl
@[simp] theorem hk_10_4 : hints.keep 10 4 = some [2, 3, 15, 16, 17] := rfl
@[simp] theorem hh_10_4 : hints.head 10 4 = some [2, 3, 15, 16] := rfl
@[simp] theorem hc_10_4 : hints.canon 10 4 = [] := rfl
@[simp] theorem hs_10_4 : hints.soft 10 4 = [] := rfl
@[simp] theorem hz_10_4 : hints.frz 10 4 = [] := rfl
@[simp] theorem hk_10_5 : hints.keep 10 5 = some [2, 3, 5, 15, 16] := rfl
@[simp] theorem hs_10_5 : hints.soft 10 5 = [] := rfl
@[simp] theorem hz_10_5 : hints.frz 10 5 = [] := rfl
@[simp] theorem hk_10_6 : hints.keep 10 6 = some [2, 3, 15, 16, 29] := rfl
@[simp] theorem hs_10_6 : hints.soft 10 6 = [] := rfl
@[simp] theorem hz_10_6 : hints.frz 10 6 = [] := rfl
@[simp] theorem hk_10_7 : hints.keep 10 7 = some [4] := rfl
@[simp] theorem hs_10_7 : hints.soft 10 7 = [] := rfl
@[simp] theorem hz_10_7 : hints.frz 10 7 = [] := rfl
@[simp] theorem hk_10_8 : hints.keep 10 8 = some [2, 3, 15, 16] := rfl
@[simp] theorem hs_10_8 : hints.soft 10 8 = [] := rfl
@[simp] theorem hz_10_8 : hints.frz 10 8 = [] := rfl
@[simp] theorem hk_10_9 : hints.keep 10 9 = some [4] := rfl
@[simp] theorem hs_10_9 : hints.soft 10 9 = [] := rfl
@[simp] theorem hz_10_9 : hints.frz 10 9 = [] := rfl
@[simp] theorem hk_11_0 : hints.keep 11 0 = some [1, 2] := rfl
@[simp] theorem hs_11_0 : hints.soft 11 0 = [(2, some 11, 1, some (700000, 5)), (2, some 12, 2, some (700001, 45))] := rfl
@[simp] theorem hz_11_0 : hints.frz 11 0 = [] := rfl
@[simp] theorem hk_11_1 : hints.keep 11 1 = some [1, 2] := rfl
@[simp] theorem hs_11_1 : hints.soft 11 1 = [] := rfl
@[simp] theorem hz_11_1 : hints.frz 11 1 = [] := rfl
@[simp] theorem hk_11_2 : hints.keep 11 2 = some [2] := rfl
@[simp] theorem hs_11_2 : hints.soft 11 2 = [] := rfl
@[simp] theorem hz_11_2 : hints.frz 11 2 = [] := rfl
@[simp] theorem hk_19_0 : hints.keep 19 0 = some [1, 2] := rfl
@[simp] theorem hs_19_0 : hints.soft 19 0 = [] := rfl
@[simp] theorem hz_19_0 : hints.frz 19 0 = [] := rfl
@[simp] theorem hk_19_1 : hints.keep 19 1 = some [2] := rfl
@[simp] theorem hs_19_1 : hints.soft 19 1 = [] := rfl
@[simp] theorem hz_19_1 : hints.frz 19 1 = [] := rfl
@[simp] theorem hk_20_0 : hints.keep 20 0 = some [0, 1] := rfl
@[simp] theorem hs_20_0 : hints.soft 20 0 = [] := rfl
@[simp] theorem hz_20_0 : hints.frz 20 0 = [] := rfl
@[simp] theorem hk_20_1 : hints.keep 20 1 = some [0, 1, 10] := rfl
@[simp] theorem hs_20_1 : hints.soft 20 1 = [] := rfl
@[simp] theorem hz_20_1 : hints.frz 20 1 = [] := rfl
@[simp] theorem hk_20_2 : hints.keep 20 2 = some [4] := rfl
@[simp] theorem hs_20_2 : hints.soft 20 2 = [] := rfl
@[simp] theorem hz_20_2 : hints.frz 20 2 = [] := rfl
@[simp] theorem hk_20_3 : hints.keep 20 3 = some [0, 1, 12, 13] := rfl
@[simp] theorem hs_20_3 : hints.soft 20 3 = [] := rfl
@[simp] theorem hz_20_3 : hints.frz 20 3 = [] := rfl
@[simp] theorem hk_20_4 : hints.keep 20 4 = some [0, 1, 12, 13, 14] := rfl
@[simp] theorem hh_20_4 : hints.head 20 4 = some [0, 1, 12, 13] := rfl
@[simp] theorem hc_20_4 : hints.canon 20 4 = [] := rfl
@[simp] theorem hs_20_4 : hints.soft 20 4 = [] := rfl
@[simp] theorem hz_20_4 : hints.frz 20 4 = [] := rfl
@[simp] theorem hk_20_5 : hints.keep 20 5 = some [0, 1, 5, 12, 13] := rfl
@[simp] theorem hs_20_5 : hints.soft 20 5 = [] := rfl
@[simp] theorem hz_20_5 : hints.frz 20 5 = [] := rfl
@[simp] theorem hk_20_6 : hints.keep 20 6 = some [0, 1, 12, 13, 24] := rfl
@[simp] theorem hs_20_6 : hints.soft 20 6 = [] := rfl
@[simp] theorem hz_20_6 : hints.frz 20 6 = [] := rfl
@[simp] theorem hk_20_7 : hints.keep 20 7 = some [4] := rfl
@[simp] theorem hs_20_7 : hints.soft 20 7 = [] := rfl
@[simp] theorem hz_20_7 : hints.frz 20 7 = [] := rfl
@[simp] theorem hk_20_8 : hints.keep 20 8 = some [0, 1, 12, 13] := rfl
@[simp] theorem hs_20_8 : hints.soft 20 8 = [] := rfl
@[simp] theorem hz_20_8 : hints.frz 20 8 = [] := rfl
@[simp] theorem hk_20_9 : hints.keep 20 9 = some [4] := rfl
@[simp] theorem hs_20_9 : hints.soft 20 9 = [] := rfl
@[simp] theorem hz_20_9 : hints.frz 20 9 = [] := rfl
@[simp] theorem hk_21_0 : hints.keep 21 0 = some [0, 1] := rfl
@[simp] theorem hs_21_0 : hints.soft 21 0 = [] := rfl
@[simp] theorem hz_21_0 : hints.frz 21 0 = [] := rfl
@[simp] theorem hk_21_1 : hints.keep 21 1 = some [0, 1, 10] := rfl
@[simp] theorem hs_21_1 : hints.soft 21 1 = [] := rfl
@[simp] theorem hz_21_1 : hints.frz 21 1 = [] := rfl
@[simp] theorem hk_21_2 : hints.keep 21 2 = some [4] := rfl
@[simp] theorem hs_21_2 : hints.soft 21 2 = [] := rfl
@[simp] theorem hz_21_2 : hints.frz 21 2 = [] := rfl
@[simp] theorem hk_21_3 : hints.keep 21 3 = some [0, 1, 12, 13] := rfl
@[simp] theorem hs_21_3 : hints.soft 21 3 = [] := rfl
@[simp] theorem hz_21_3 : hints.frz 21 3 = [] := rfl
@[simp] theorem hk_21_4 : hints.keep 21 4 = some [0, 1, 12, 13, 14] := rfl
@[simp] theorem hh_21_4 : hints.head 21 4 = some [0, 1, 12, 13] := rfl
@[simp] theorem hc_21_4 : hints.canon 21 4 = [] := rfl
@[simp] theorem hs_21_4 : hints.soft 21 4 = [] := rfl
@[simp] theorem hz_21_4 : hints.frz 21 4 = [] := rfl
@[simp] theorem hk_21_5 : hints.keep 21 5 = some [0, 1, 5, 12, 13] := rfl
@[simp] theorem hs_21_5 : hints.soft 21 5 = [] := rfl
@[simp] theorem hz_21_5 : hints.frz 21 5 = [] := rfl
@[simp] theorem hk_21_6 : hints.keep 21 6 = some [0, 1, 12, 13, 24] := rfl
@[simp] theorem hs_21_6 : hints.soft 21 6 = [] := rfl
@[simp] theorem hz_21_6 : hints.frz 21 6 = [] := rfl
@[simp] theorem hk_21_7 : hints.keep 21 7 = some [4] := rfl
@[simp] theorem hs_21_7 : hints.soft 21 7 = [] := rfl
@[simp] theorem hz_21_7 : hints.frz 21 7 = [] := rfl
@[simp] theorem hk_21_8 : hints.keep 21 8 = some [0, 1, 12, 13] := rfl
@[simp] theorem hs_21_8 : hints.soft 21 8 = [] := rfl
@[simp] theorem hz_21_8 : hints.frz 21 8 = [] := rfl
@[simp] theorem hk_21_9 : hints.keep 21 9 = some [4] := rfl
@[simp] theorem hs_21_9 : hints.soft 21 9 = [] := rfl
@[simp] theorem hz_21_9 : hints.frz 21 9 = [] := rfl
end Go.Proofs.YthjefcamonmjpaaV
