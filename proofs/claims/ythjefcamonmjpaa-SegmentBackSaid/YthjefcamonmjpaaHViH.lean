/- The value interpreter's hints and the types' facts for this seat, one by one. -/
import Derived.Test.YthjefcamonmjpaaHViS
import Derived.Test.YthjefcamonmjpaaHVi26
namespace Go.Proofs.YthjefcamonmjpaaV
open Go
set_option linter.unusedVariables false
noncomputable def inf (t : TypeId) : TypeInfo := (Try.prog.info? t).getD ((Try.prog.info? 3).get (by kernel_rfl))
@[simp] theorem u_3 : Try.prog.underlying 3 = Option.some (Go.TypeDesc.int Go.IntKind.i64) := by kernel_rfl
@[simp] theorem i_3 : Try.prog.info? 3 = some (inf 3) := by kernel_rfl
@[simp] theorem is_3 : (inf 3).size = 1 := by kernel_rfl
@[simp] theorem ib_3 : (inf 3).bytes = 8 := by kernel_rfl
@[simp] theorem iz_3 : zeroRow (inf 3) = Option.some [V.p (Go.Value.int Go.IntKind.i64 0)] := by kernel_rfl
@[simp] theorem sm_3 : slotMs Try.prog 8 3 = [0] := by kernel_rfl
@[simp] theorem u_4 : Try.prog.underlying 4 = Option.some Go.TypeDesc.bool := by kernel_rfl
@[simp] theorem i_4 : Try.prog.info? 4 = some (inf 4) := by kernel_rfl
@[simp] theorem is_4 : (inf 4).size = 1 := by kernel_rfl
@[simp] theorem ib_4 : (inf 4).bytes = 1 := by kernel_rfl
@[simp] theorem iz_4 : zeroRow (inf 4) = Option.some [V.p (Go.Value.bool false)] := by kernel_rfl
@[simp] theorem u_5 : Try.prog.underlying 5 = Option.some (Go.TypeDesc.int Go.IntKind.u8) := by kernel_rfl
@[simp] theorem i_5 : Try.prog.info? 5 = some (inf 5) := by kernel_rfl
@[simp] theorem is_5 : (inf 5).size = 1 := by kernel_rfl
@[simp] theorem ib_5 : (inf 5).bytes = 1 := by kernel_rfl
@[simp] theorem iz_5 : zeroRow (inf 5) = Option.some [V.p (Go.Value.int Go.IntKind.u8 0)] := by kernel_rfl
@[simp] theorem sm_5 : slotMs Try.prog 8 5 = [0] := by kernel_rfl
@[simp] theorem u_9 : Try.prog.underlying 9 = Option.some Go.TypeDesc.string := by kernel_rfl
@[simp] theorem i_9 : Try.prog.info? 9 = some (inf 9) := by kernel_rfl
@[simp] theorem is_9 : (inf 9).size = 1 := by kernel_rfl
@[simp] theorem ib_9 : (inf 9).bytes = 16 := by kernel_rfl
@[simp] theorem iz_9 : zeroRow (inf 9) = Option.some [V.p (Go.Value.string (ByteArray.mk (Array.mk [])))] := by kernel_rfl
@[simp] theorem u_22 : Try.prog.underlying 22 = Option.some (Go.TypeDesc.int Go.IntKind.u32) := by kernel_rfl
@[simp] theorem i_22 : Try.prog.info? 22 = some (inf 22) := by kernel_rfl
@[simp] theorem is_22 : (inf 22).size = 1 := by kernel_rfl
@[simp] theorem ib_22 : (inf 22).bytes = 4 := by kernel_rfl
@[simp] theorem iz_22 : zeroRow (inf 22) = Option.some [V.p (Go.Value.int Go.IntKind.u32 0)] := by kernel_rfl
@[simp] theorem u_23 : Try.prog.underlying 23 = Option.some (Go.TypeDesc.slice 5) := by kernel_rfl
@[simp] theorem i_23 : Try.prog.info? 23 = some (inf 23) := by kernel_rfl
@[simp] theorem is_23 : (inf 23).size = 1 := by kernel_rfl
@[simp] theorem ib_23 : (inf 23).bytes = 24 := by kernel_rfl
@[simp] theorem iz_23 : zeroRow (inf 23) = Option.some [V.nil] := by kernel_rfl
@[simp] theorem u_24 : Try.prog.underlying 24 = Option.some (Go.TypeDesc.slice 45) := by kernel_rfl
@[simp] theorem i_24 : Try.prog.info? 24 = some (inf 24) := by kernel_rfl
@[simp] theorem is_24 : (inf 24).size = 1 := by kernel_rfl
@[simp] theorem ib_24 : (inf 24).bytes = 24 := by kernel_rfl
@[simp] theorem iz_24 : zeroRow (inf 24) = Option.some [V.nil] := by kernel_rfl
@[simp] theorem u_26 : Try.prog.underlying 26 = Option.some (Go.TypeDesc.struct (Array.mk [Go.Field.mk "Kind" 3 0 false "" "" 0, Go.Field.mk "Source" 3 1 false "" "" 8, Go.Field.mk "Session" 22 2 false "" "" 16, Go.Field.mk "Serial" 22 3 false "" "" 20, Go.Field.mk "Checks" 22 4 false "" "" 24, Go.Field.mk "Offset" 3 5 false "" "" 32, Go.Field.mk "Total" 3 6 false "" "" 40, Go.Field.mk "Lower" 3 7 false "" "" 48, Go.Field.mk "Upper" 3 8 false "" "" 56, Go.Field.mk "Reason" 3 9 false "" "" 64, Go.Field.mk "Check" 4 10 false "" "" 72, Go.Field.mk "Data" 23 11 false "" "" 80, Go.Field.mk "Claims" 24 12 false "" "" 104])) := by kernel_rfl
@[simp] theorem i_26 : Try.prog.info? 26 = some (inf 26) := by kernel_rfl
@[simp] theorem is_26 : (inf 26).size = 13 := by kernel_rfl
@[simp] theorem ib_26 : (inf 26).bytes = 128 := by kernel_rfl
@[simp] theorem iz_26 : zeroRow (inf 26) = Option.some [V.p (Go.Value.int Go.IntKind.i64 0), V.p (Go.Value.int Go.IntKind.i64 0), V.p (Go.Value.int Go.IntKind.u32 0), V.p (Go.Value.int Go.IntKind.u32 0), V.p (Go.Value.int Go.IntKind.u32 0), V.p (Go.Value.int Go.IntKind.i64 0), V.p (Go.Value.int Go.IntKind.i64 0), V.p (Go.Value.int Go.IntKind.i64 0), V.p (Go.Value.int Go.IntKind.i64 0), V.p (Go.Value.int Go.IntKind.i64 0), V.p (Go.Value.bool false), V.nil, V.nil] := by kernel_rfl
@[simp] theorem bl_26 (σ : St) (ps : List (Nat × Operand)) : buildV Try.prog σ 26 ps = (fillL [(0, 1), (1, 1), (2, 1), (3, 1), (4, 1), (5, 1), (6, 1), (7, 1), (8, 1), (9, 1), (10, 1), (11, 1), (12, 1)] [V.p (Go.Value.int Go.IntKind.i64 0), V.p (Go.Value.int Go.IntKind.i64 0), V.p (Go.Value.int Go.IntKind.u32 0), V.p (Go.Value.int Go.IntKind.u32 0), V.p (Go.Value.int Go.IntKind.u32 0), V.p (Go.Value.int Go.IntKind.i64 0), V.p (Go.Value.int Go.IntKind.i64 0), V.p (Go.Value.int Go.IntKind.i64 0), V.p (Go.Value.int Go.IntKind.i64 0), V.p (Go.Value.int Go.IntKind.i64 0), V.p (Go.Value.bool false), V.nil, V.nil] (evL σ ps)).map .agg := build_eval i_26 iz_26 u_26 (by kernel_rfl)
@[simp] theorem u_45 : Try.prog.underlying 45 = Option.some (Go.TypeDesc.struct (Array.mk [Go.Field.mk "At" 3 0 false "" "" 0, Go.Field.mk "N" 3 1 false "" "" 8])) := by kernel_rfl
@[simp] theorem i_45 : Try.prog.info? 45 = some (inf 45) := by kernel_rfl
@[simp] theorem is_45 : (inf 45).size = 2 := by kernel_rfl
@[simp] theorem ib_45 : (inf 45).bytes = 16 := by kernel_rfl
@[simp] theorem iz_45 : zeroRow (inf 45) = Option.some [V.p (Go.Value.int Go.IntKind.i64 0), V.p (Go.Value.int Go.IntKind.i64 0)] := by kernel_rfl
@[simp] theorem sm_45 : slotMs Try.prog 8 45 = [0, 0] := by kernel_rfl
@[simp] theorem ag_45 : (Try.prog.eqGuardType Try.prog.depth 45 || Try.prog.stoodInHeld 45) = false := by kernel_rfl
@[simp] theorem bl_45 (σ : St) (ps : List (Nat × Operand)) : buildV Try.prog σ 45 ps = (fillL [(0, 1), (1, 1)] [V.p (Go.Value.int Go.IntKind.i64 0), V.p (Go.Value.int Go.IntKind.i64 0)] (evL σ ps)).map .agg := build_eval i_45 iz_45 u_45 (by kernel_rfl)
@[simp] theorem u_47 : Try.prog.underlying 47 = Option.some (Go.TypeDesc.struct (Array.mk [Go.Field.mk "kind" 3 0 false "" "heliograph/segment" 0, Go.Field.mk "source" 3 1 false "" "heliograph/segment" 8, Go.Field.mk "offset" 3 2 false "" "heliograph/segment" 16, Go.Field.mk "total" 3 3 false "" "heliograph/segment" 24, Go.Field.mk "lower" 3 4 false "" "heliograph/segment" 32, Go.Field.mk "upper" 3 5 false "" "heliograph/segment" 40, Go.Field.mk "reason" 3 6 false "" "heliograph/segment" 48, Go.Field.mk "session" 22 7 false "" "heliograph/segment" 56, Go.Field.mk "serial" 22 8 false "" "heliograph/segment" 60, Go.Field.mk "checks" 22 9 false "" "heliograph/segment" 64, Go.Field.mk "check" 4 10 false "" "heliograph/segment" 68])) := by kernel_rfl
@[simp] theorem i_47 : Try.prog.info? 47 = some (inf 47) := by kernel_rfl
@[simp] theorem is_47 : (inf 47).size = 11 := by kernel_rfl
@[simp] theorem ib_47 : (inf 47).bytes = 72 := by kernel_rfl
@[simp] theorem iz_47 : zeroRow (inf 47) = Option.some [V.p (Go.Value.int Go.IntKind.i64 0), V.p (Go.Value.int Go.IntKind.i64 0), V.p (Go.Value.int Go.IntKind.i64 0), V.p (Go.Value.int Go.IntKind.i64 0), V.p (Go.Value.int Go.IntKind.i64 0), V.p (Go.Value.int Go.IntKind.i64 0), V.p (Go.Value.int Go.IntKind.i64 0), V.p (Go.Value.int Go.IntKind.u32 0), V.p (Go.Value.int Go.IntKind.u32 0), V.p (Go.Value.int Go.IntKind.u32 0), V.p (Go.Value.bool false)] := by kernel_rfl
@[simp] theorem ag_47 : (Try.prog.eqGuardType Try.prog.depth 47 || Try.prog.stoodInHeld 47) = false := by kernel_rfl
@[simp] theorem bl_47 (σ : St) (ps : List (Nat × Operand)) : buildV Try.prog σ 47 ps = (fillL [(0, 1), (1, 1), (2, 1), (3, 1), (4, 1), (5, 1), (6, 1), (7, 1), (8, 1), (9, 1), (10, 1)] [V.p (Go.Value.int Go.IntKind.i64 0), V.p (Go.Value.int Go.IntKind.i64 0), V.p (Go.Value.int Go.IntKind.i64 0), V.p (Go.Value.int Go.IntKind.i64 0), V.p (Go.Value.int Go.IntKind.i64 0), V.p (Go.Value.int Go.IntKind.i64 0), V.p (Go.Value.int Go.IntKind.i64 0), V.p (Go.Value.int Go.IntKind.u32 0), V.p (Go.Value.int Go.IntKind.u32 0), V.p (Go.Value.int Go.IntKind.u32 0), V.p (Go.Value.bool false)] (evL σ ps)).map .agg := build_eval i_47 iz_47 u_47 (by kernel_rfl)
@[simp] theorem u_52 : Try.prog.underlying 52 = Option.some (Go.TypeDesc.struct (Array.mk [Go.Field.mk "b" 23 0 false "" "heliograph/segment" 0])) := by kernel_rfl
@[simp] theorem i_52 : Try.prog.info? 52 = some (inf 52) := by kernel_rfl
@[simp] theorem is_52 : (inf 52).size = 1 := by kernel_rfl
@[simp] theorem ib_52 : (inf 52).bytes = 24 := by kernel_rfl
@[simp] theorem iz_52 : zeroRow (inf 52) = Option.some [V.nil] := by kernel_rfl
@[simp] theorem bl_52 (σ : St) (ps : List (Nat × Operand)) : buildV Try.prog σ 52 ps = (fillL [(0, 1)] [V.nil] (evL σ ps)).map .agg := build_eval i_52 iz_52 u_52 (by kernel_rfl)
@[simp] theorem u_57 : Try.prog.underlying 57 = Option.some (Go.TypeDesc.struct (Array.mk [Go.Field.mk "b" 23 0 false "" "heliograph/segment" 0, Go.Field.mk "bad" 4 1 false "" "heliograph/segment" 24])) := by kernel_rfl
@[simp] theorem i_57 : Try.prog.info? 57 = some (inf 57) := by kernel_rfl
@[simp] theorem is_57 : (inf 57).size = 2 := by kernel_rfl
@[simp] theorem ib_57 : (inf 57).bytes = 32 := by kernel_rfl
@[simp] theorem iz_57 : zeroRow (inf 57) = Option.some [V.nil, V.p (Go.Value.bool false)] := by kernel_rfl
@[simp] theorem bl_57 (σ : St) (ps : List (Nat × Operand)) : buildV Try.prog σ 57 ps = (fillL [(0, 1), (1, 1)] [V.nil, V.p (Go.Value.bool false)] (evL σ ps)).map .agg := build_eval i_57 iz_57 u_57 (by kernel_rfl)
@[simp] theorem u_63 : Try.prog.underlying 63 = Option.some (Go.TypeDesc.slice 3) := by kernel_rfl
@[simp] theorem i_63 : Try.prog.info? 63 = some (inf 63) := by kernel_rfl
@[simp] theorem is_63 : (inf 63).size = 1 := by kernel_rfl
@[simp] theorem ib_63 : (inf 63).bytes = 24 := by kernel_rfl
@[simp] theorem iz_63 : zeroRow (inf 63) = Option.some [V.nil] := by kernel_rfl
@[simp] theorem u_65 : Try.prog.underlying 65 = Option.some (Go.TypeDesc.int Go.IntKind.u64) := by kernel_rfl
@[simp] theorem i_65 : Try.prog.info? 65 = some (inf 65) := by kernel_rfl
@[simp] theorem is_65 : (inf 65).size = 1 := by kernel_rfl
@[simp] theorem ib_65 : (inf 65).bytes = 8 := by kernel_rfl
@[simp] theorem iz_65 : zeroRow (inf 65) = Option.some [V.p (Go.Value.int Go.IntKind.u64 0)] := by kernel_rfl
@[simp] theorem gv (f : FuncId) : hints.gives f = [].contains f := rfl
@[simp] theorem hk_5_0 : hints.keep 5 0 = some [1, 2] := rfl
@[simp] theorem hs_5_0 : hints.soft 5 0 = [] := rfl
@[simp] theorem hz_5_0 : hints.frz 5 0 = [] := rfl
@[simp] theorem hk_5_1 : hints.keep 5 1 = some [1, 2, 13] := rfl
@[simp] theorem hs_5_1 : hints.soft 5 1 = [] := rfl
@[simp] theorem hz_5_1 : hints.frz 5 1 = [] := rfl
@[simp] theorem hk_5_2 : hints.keep 5 2 = some [4] := rfl
@[simp] theorem hs_5_2 : hints.soft 5 2 = [] := rfl
@[simp] theorem hz_5_2 : hints.frz 5 2 = [] := rfl
@[simp] theorem hk_5_3 : hints.keep 5 3 = some [1, 2] := rfl
@[simp] theorem hs_5_3 : hints.soft 5 3 = [] := rfl
@[simp] theorem hz_5_3 : hints.frz 5 3 = [] := rfl
@[simp] theorem hk_5_4 : hints.keep 5 4 = some [1, 2, 5, 6] := rfl
@[simp] theorem hs_5_4 : hints.soft 5 4 = [] := rfl
@[simp] theorem hz_5_4 : hints.frz 5 4 = [] := rfl
@[simp] theorem hk_5_5 : hints.keep 5 5 = some [1, 2, 5, 6, 27] := rfl
@[simp] theorem hs_5_5 : hints.soft 5 5 = [] := rfl
@[simp] theorem hz_5_5 : hints.frz 5 5 = [] := rfl
@[simp] theorem hk_5_6 : hints.keep 5 6 = some [1, 2, 5, 7, 8] := rfl
@[simp] theorem hs_5_6 : hints.soft 5 6 = [] := rfl
@[simp] theorem hz_5_6 : hints.frz 5 6 = [] := rfl
@[simp] theorem hk_5_7 : hints.keep 5 7 = some [1, 52] := rfl
@[simp] theorem hs_5_7 : hints.soft 5 7 = [] := rfl
@[simp] theorem hz_5_7 : hints.frz 5 7 = [] := rfl
@[simp] theorem hk_5_8 : hints.keep 5 8 = some [4] := rfl
@[simp] theorem hs_5_8 : hints.soft 5 8 = [] := rfl
@[simp] theorem hz_5_8 : hints.frz 5 8 = [] := rfl
@[simp] theorem hk_5_9 : hints.keep 5 9 = some [1, 60] := rfl
@[simp] theorem hs_5_9 : hints.soft 5 9 = [] := rfl
@[simp] theorem hz_5_9 : hints.frz 5 9 = [] := rfl
@[simp] theorem hk_5_10 : hints.keep 5 10 = some [4] := rfl
@[simp] theorem hs_5_10 : hints.soft 5 10 = [] := rfl
@[simp] theorem hz_5_10 : hints.frz 5 10 = [] := rfl
@[simp] theorem hk_5_11 : hints.keep 5 11 = some [1, 9, 10] := rfl
@[simp] theorem hs_5_11 : hints.soft 5 11 = [] := rfl
@[simp] theorem hz_5_11 : hints.frz 5 11 = [] := rfl
@[simp] theorem hk_5_12 : hints.keep 5 12 = some [1, 9, 10, 67] := rfl
@[simp] theorem hs_5_12 : hints.soft 5 12 = [] := rfl
@[simp] theorem hz_5_12 : hints.frz 5 12 = [] := rfl
@[simp] theorem hk_5_13 : hints.keep 5 13 = some [4] := rfl
@[simp] theorem hs_5_13 : hints.soft 5 13 = [] := rfl
@[simp] theorem hz_5_13 : hints.frz 5 13 = [] := rfl
@[simp] theorem hk_5_14 : hints.keep 5 14 = some [1, 6, 9, 11] := rfl
@[simp] theorem hs_5_14 : hints.soft 5 14 = [] := rfl
@[simp] theorem hz_5_14 : hints.frz 5 14 = [] := rfl
@[simp] theorem hk_5_15 : hints.keep 5 15 = some [4] := rfl
@[simp] theorem hs_5_15 : hints.soft 5 15 = [] := rfl
@[simp] theorem hz_5_15 : hints.frz 5 15 = [] := rfl
@[simp] theorem hk_8_0 : hints.keep 8 0 = some [1, 2] := rfl
@[simp] theorem hs_8_0 : hints.soft 8 0 = [(2, some 11, 1, some (700000, 5)), (2, some 12, 2, some (700001, 45))] := rfl
@[simp] theorem hz_8_0 : hints.frz 8 0 = [] := rfl
@[simp] theorem hk_8_1 : hints.keep 8 1 = some [1, 2, 3, 4] := rfl
@[simp] theorem hs_8_1 : hints.soft 8 1 = [] := rfl
@[simp] theorem hz_8_1 : hints.frz 8 1 = [] := rfl
@[simp] theorem hk_8_2 : hints.keep 8 2 = some [1, 2, 4] := rfl
@[simp] theorem hs_8_2 : hints.soft 8 2 = [] := rfl
@[simp] theorem hz_8_2 : hints.frz 8 2 = [] := rfl
@[simp] theorem hk_8_3 : hints.keep 8 3 = some [1, 2] := rfl
@[simp] theorem hs_8_3 : hints.soft 8 3 = [] := rfl
@[simp] theorem hz_8_3 : hints.frz 8 3 = [] := rfl
@[simp] theorem hk_8_4 : hints.keep 8 4 = some [2] := rfl
@[simp] theorem hs_8_4 : hints.soft 8 4 = [] := rfl
@[simp] theorem hz_8_4 : hints.frz 8 4 = [] := rfl
@[simp] theorem hk_9_0 : hints.keep 9 0 = some [2, 3] := rfl
@[simp] theorem hs_9_0 : hints.soft 9 0 = [(3, some 11, 1, none), (3, some 12, 2, none)] := rfl
@[simp] theorem hz_9_0 : hints.frz 9 0 = [] := rfl
@[simp] theorem hk_9_1 : hints.keep 9 1 = some [2, 3, 5] := rfl
@[simp] theorem hs_9_1 : hints.soft 9 1 = [] := rfl
@[simp] theorem hz_9_1 : hints.frz 9 1 = [] := rfl
@[simp] theorem hk_9_2 : hints.keep 9 2 = some [4] := rfl
@[simp] theorem hs_9_2 : hints.soft 9 2 = [] := rfl
@[simp] theorem hz_9_2 : hints.frz 9 2 = [] := rfl
@[simp] theorem hk_12_0 : hints.keep 12 0 = some [1] := rfl
@[simp] theorem hs_12_0 : hints.soft 12 0 = [] := rfl
@[simp] theorem hz_12_0 : hints.frz 12 0 = [] := rfl
@[simp] theorem hk_12_1 : hints.keep 12 1 = some [1, 4] := rfl
@[simp] theorem hs_12_1 : hints.soft 12 1 = [] := rfl
@[simp] theorem hz_12_1 : hints.frz 12 1 = [] := rfl
@[simp] theorem hk_12_2 : hints.keep 12 2 = some [1, 4, 11] := rfl
@[simp] theorem hs_12_2 : hints.soft 12 2 = [] := rfl
@[simp] theorem hz_12_2 : hints.frz 12 2 = [] := rfl
@[simp] theorem hk_12_3 : hints.keep 12 3 = some [2, 3] := rfl
@[simp] theorem hs_12_3 : hints.soft 12 3 = [(2, none, 1, some (700192, 5))] := rfl
@[simp] theorem hz_12_3 : hints.frz 12 3 = [] := rfl
@[simp] theorem hk_12_4 : hints.keep 12 4 = some [1, 5] := rfl
@[simp] theorem hs_12_4 : hints.soft 12 4 = [] := rfl
@[simp] theorem hz_12_4 : hints.frz 12 4 = [] := rfl
@[simp] theorem hk_12_5 : hints.keep 12 5 = some [1, 5] := rfl
@[simp] theorem hs_12_5 : hints.soft 12 5 = [] := rfl
@[simp] theorem hz_12_5 : hints.frz 12 5 = [] := rfl
@[simp] theorem hk_12_6 : hints.keep 12 6 = some [1, 5, 28] := rfl
@[simp] theorem hs_12_6 : hints.soft 12 6 = [] := rfl
@[simp] theorem hz_12_6 : hints.frz 12 6 = [] := rfl
@[simp] theorem hk_12_7 : hints.keep 12 7 = some [1, 5, 28, 29] := rfl
@[simp] theorem hs_12_7 : hints.soft 12 7 = [] := rfl
@[simp] theorem hz_12_7 : hints.frz 12 7 = [] := rfl
@[simp] theorem hk_12_8 : hints.keep 12 8 = some [1, 5, 32] := rfl
@[simp] theorem hs_12_8 : hints.soft 12 8 = [] := rfl
@[simp] theorem hz_12_8 : hints.frz 12 8 = [] := rfl
@[simp] theorem hk_12_9 : hints.keep 12 9 = some [1, 5] := rfl
@[simp] theorem hs_12_9 : hints.soft 12 9 = [] := rfl
@[simp] theorem hz_12_9 : hints.frz 12 9 = [] := rfl
@[simp] theorem hk_12_10 : hints.keep 12 10 = some [1, 5] := rfl
@[simp] theorem hs_12_10 : hints.soft 12 10 = [] := rfl
@[simp] theorem hz_12_10 : hints.frz 12 10 = [] := rfl
@[simp] theorem hk_12_11 : hints.keep 12 11 = some [1, 5] := rfl
@[simp] theorem hs_12_11 : hints.soft 12 11 = [] := rfl
@[simp] theorem hz_12_11 : hints.frz 12 11 = [] := rfl
@[simp] theorem hk_12_12 : hints.keep 12 12 = some [5] := rfl
@[simp] theorem hs_12_12 : hints.soft 12 12 = [] := rfl
@[simp] theorem hz_12_12 : hints.frz 12 12 = [] := rfl
@[simp] theorem hk_12_13 : hints.keep 12 13 = some [1, 5, 28, 62] := rfl
@[simp] theorem hs_12_13 : hints.soft 12 13 = [] := rfl
@[simp] theorem hz_12_13 : hints.frz 12 13 = [] := rfl
@[simp] theorem hk_12_14 : hints.keep 12 14 = some [1, 5] := rfl
@[simp] theorem hs_12_14 : hints.soft 12 14 = [] := rfl
@[simp] theorem hz_12_14 : hints.frz 12 14 = [] := rfl
@[simp] theorem hk_12_15 : hints.keep 12 15 = some [5, 81, 82, 83] := rfl
@[simp] theorem hs_12_15 : hints.soft 12 15 = [] := rfl
@[simp] theorem hz_12_15 : hints.frz 12 15 = [] := rfl
@[simp] theorem hk_12_16 : hints.keep 12 16 = some [5, 81, 82, 83, 84] := rfl
@[simp] theorem hh_12_16 : hints.head 12 16 = some [5, 81, 82, 83] := rfl
@[simp] theorem hc_12_16 : hints.canon 12 16 = [] := rfl
@[simp] theorem hs_12_16 : hints.soft 12 16 = [] := rfl
@[simp] theorem hz_12_16 : hints.frz 12 16 = [] := rfl
@[simp] theorem hk_12_17 : hints.keep 12 17 = some [5, 7, 81, 82, 83] := rfl
@[simp] theorem hs_12_17 : hints.soft 12 17 = [] := rfl
@[simp] theorem hz_12_17 : hints.frz 12 17 = [] := rfl
@[simp] theorem hk_12_18 : hints.keep 12 18 = some [5, 81, 82, 83] := rfl
@[simp] theorem hs_12_18 : hints.soft 12 18 = [] := rfl
@[simp] theorem hz_12_18 : hints.frz 12 18 = [] := rfl
@[simp] theorem hk_12_19 : hints.keep 12 19 = some [5, 81, 82, 83] := rfl
@[simp] theorem hs_12_19 : hints.soft 12 19 = [] := rfl
@[simp] theorem hz_12_19 : hints.frz 12 19 = [] := rfl
@[simp] theorem hk_12_20 : hints.keep 12 20 = some [1, 5, 28, 95] := rfl
@[simp] theorem hs_12_20 : hints.soft 12 20 = [] := rfl
@[simp] theorem hz_12_20 : hints.frz 12 20 = [] := rfl
@[simp] theorem hk_12_21 : hints.keep 12 21 = some [5] := rfl
@[simp] theorem hs_12_21 : hints.soft 12 21 = [] := rfl
@[simp] theorem hz_12_21 : hints.frz 12 21 = [] := rfl
@[simp] theorem hk_12_22 : hints.keep 12 22 = some [1, 5, 28, 103] := rfl
@[simp] theorem hs_12_22 : hints.soft 12 22 = [] := rfl
@[simp] theorem hz_12_22 : hints.frz 12 22 = [] := rfl
@[simp] theorem hk_12_23 : hints.keep 12 23 = some [1, 5, 103] := rfl
@[simp] theorem hs_12_23 : hints.soft 12 23 = [] := rfl
@[simp] theorem hz_12_23 : hints.frz 12 23 = [] := rfl
@[simp] theorem hk_12_24 : hints.keep 12 24 = some [5] := rfl
@[simp] theorem hs_12_24 : hints.soft 12 24 = [] := rfl
@[simp] theorem hz_12_24 : hints.frz 12 24 = [] := rfl
@[simp] theorem hk_12_25 : hints.keep 12 25 = some [2, 3] := rfl
@[simp] theorem hs_12_25 : hints.soft 12 25 = [] := rfl
@[simp] theorem hz_12_25 : hints.frz 12 25 = [] := rfl
@[simp] theorem hk_13_0 : hints.keep 13 0 = some [0, 2] := rfl
@[simp] theorem hs_13_0 : hints.soft 13 0 = [(2, some 11, 1, none), (2, some 12, 2, some (700001, 45))] := rfl
@[simp] theorem hz_13_0 : hints.frz 13 0 = [] := rfl
@[simp] theorem hk_13_1 : hints.keep 13 1 = some [0, 2, 10] := rfl
@[simp] theorem hs_13_1 : hints.soft 13 1 = [] := rfl
@[simp] theorem hz_13_1 : hints.frz 13 1 = [] := rfl
@[simp] theorem hk_13_2 : hints.keep 13 2 = some [2, 3] := rfl
@[simp] theorem hs_13_2 : hints.soft 13 2 = [(2, some 11, 1, none), (2, some 12, 2, some (700129, 45))] := rfl
@[simp] theorem hz_13_2 : hints.frz 13 2 = [] := rfl
@[simp] theorem hk_13_3 : hints.keep 13 3 = some [2, 4, 5] := rfl
@[simp] theorem hs_13_3 : hints.soft 13 3 = [] := rfl
@[simp] theorem hz_13_3 : hints.frz 13 3 = [4] := rfl
@[simp] theorem hk_13_4 : hints.keep 13 4 = some [2, 4, 18] := rfl
@[simp] theorem hs_13_4 : hints.soft 13 4 = [] := rfl
@[simp] theorem hz_13_4 : hints.frz 13 4 = [] := rfl
@[simp] theorem hk_13_5 : hints.keep 13 5 = some [2, 3] := rfl
@[simp] theorem hs_13_5 : hints.soft 13 5 = [(2, some 11, 1, none), (2, some 12, 2, some (700321, 45))] := rfl
@[simp] theorem hz_13_5 : hints.frz 13 5 = [] := rfl
@[simp] theorem hk_13_6 : hints.keep 13 6 = some [2, 4, 6] := rfl
@[simp] theorem hs_13_6 : hints.soft 13 6 = [] := rfl
@[simp] theorem hz_13_6 : hints.frz 13 6 = [] := rfl
@[simp] theorem hk_13_7 : hints.keep 13 7 = some [2, 6, 7] := rfl
@[simp] theorem hs_13_7 : hints.soft 13 7 = [(7, some 11, 1, none), (7, some 12, 2, some (700449, 45))] := rfl
@[simp] theorem hz_13_7 : hints.frz 13 7 = [] := rfl
@[simp] theorem hk_13_8 : hints.keep 13 8 = some [2, 6, 7] := rfl
@[simp] theorem hs_13_8 : hints.soft 13 8 = [] := rfl
@[simp] theorem hz_13_8 : hints.frz 13 8 = [] := rfl
@[simp] theorem hk_13_9 : hints.keep 13 9 = some [2, 7, 52] := rfl
@[simp] theorem hs_13_9 : hints.soft 13 9 = [] := rfl
@[simp] theorem hz_13_9 : hints.frz 13 9 = [] := rfl
@[simp] theorem hk_13_10 : hints.keep 13 10 = some [2, 3] := rfl
@[simp] theorem hs_13_10 : hints.soft 13 10 = [(2, some 11, 1, none), (2, some 12, 2, some (700641, 45))] := rfl
@[simp] theorem hz_13_10 : hints.frz 13 10 = [] := rfl
@[simp] theorem hk_13_11 : hints.keep 13 11 = some [2, 3] := rfl
@[simp] theorem hs_13_11 : hints.soft 13 11 = [] := rfl
@[simp] theorem hz_13_11 : hints.frz 13 11 = [] := rfl
@[simp] theorem hk_14_0 : hints.keep 14 0 = some [1] := rfl
@[simp] theorem hs_14_0 : hints.soft 14 0 = [] := rfl
@[simp] theorem hz_14_0 : hints.frz 14 0 = [] := rfl
@[simp] theorem hk_14_1 : hints.keep 14 1 = some [3] := rfl
@[simp] theorem hs_14_1 : hints.soft 14 1 = [] := rfl
@[simp] theorem hz_14_1 : hints.frz 14 1 = [] := rfl
@[simp] theorem hk_14_2 : hints.keep 14 2 = some [2] := rfl
@[simp] theorem hs_14_2 : hints.soft 14 2 = [] := rfl
@[simp] theorem hz_14_2 : hints.frz 14 2 = [] := rfl
@[simp] theorem hk_15_0 : hints.keep 15 0 = some [1] := rfl
@[simp] theorem hs_15_0 : hints.soft 15 0 = [] := rfl
@[simp] theorem hz_15_0 : hints.frz 15 0 = [] := rfl
@[simp] theorem hk_15_1 : hints.keep 15 1 = some [1, 3] := rfl
@[simp] theorem hs_15_1 : hints.soft 15 1 = [(3, some 11, 1, none), (3, some 12, 2, none)] := rfl
@[simp] theorem hz_15_1 : hints.frz 15 1 = [] := rfl
@[simp] theorem hk_15_2 : hints.keep 15 2 = some [1, 3, 4] := rfl
@[simp] theorem hs_15_2 : hints.soft 15 2 = [] := rfl
@[simp] theorem hz_15_2 : hints.frz 15 2 = [] := rfl
@[simp] theorem hk_15_3 : hints.keep 15 3 = some [1, 3, 4, 22] := rfl
@[simp] theorem hs_15_3 : hints.soft 15 3 = [] := rfl
@[simp] theorem hz_15_3 : hints.frz 15 3 = [] := rfl
@[simp] theorem hk_15_4 : hints.keep 15 4 = some [1, 3, 4] := rfl
@[simp] theorem hs_15_4 : hints.soft 15 4 = [] := rfl
@[simp] theorem hz_15_4 : hints.frz 15 4 = [] := rfl
@[simp] theorem hk_15_5 : hints.keep 15 5 = some [1, 3, 4, 22, 23] := rfl
@[simp] theorem hs_15_5 : hints.soft 15 5 = [] := rfl
@[simp] theorem hz_15_5 : hints.frz 15 5 = [] := rfl
@[simp] theorem hk_15_6 : hints.keep 15 6 = some [1, 3, 4, 5] := rfl
@[simp] theorem hs_15_6 : hints.soft 15 6 = [] := rfl
@[simp] theorem hz_15_6 : hints.frz 15 6 = [] := rfl
@[simp] theorem hk_15_7 : hints.keep 15 7 = some [1, 3, 4, 5] := rfl
@[simp] theorem hs_15_7 : hints.soft 15 7 = [] := rfl
@[simp] theorem hz_15_7 : hints.frz 15 7 = [] := rfl
@[simp] theorem hk_15_8 : hints.keep 15 8 = some [1, 3, 4] := rfl
@[simp] theorem hs_15_8 : hints.soft 15 8 = [] := rfl
@[simp] theorem hz_15_8 : hints.frz 15 8 = [] := rfl
@[simp] theorem hk_15_9 : hints.keep 15 9 = some [1, 3, 4, 22, 70] := rfl
@[simp] theorem hs_15_9 : hints.soft 15 9 = [] := rfl
@[simp] theorem hz_15_9 : hints.frz 15 9 = [] := rfl
@[simp] theorem hk_15_10 : hints.keep 15 10 = some [1, 3, 4] := rfl
@[simp] theorem hs_15_10 : hints.soft 15 10 = [] := rfl
@[simp] theorem hz_15_10 : hints.frz 15 10 = [] := rfl
@[simp] theorem hk_15_11 : hints.keep 15 11 = some [1, 3, 4] := rfl
@[simp] theorem hs_15_11 : hints.soft 15 11 = [] := rfl
@[simp] theorem hz_15_11 : hints.frz 15 11 = [] := rfl
@[simp] theorem hk_15_12 : hints.keep 15 12 = some [1, 3, 4, 22, 120] := rfl
@[simp] theorem hs_15_12 : hints.soft 15 12 = [] := rfl
@[simp] theorem hz_15_12 : hints.frz 15 12 = [] := rfl
@[simp] theorem hk_15_13 : hints.keep 15 13 = some [1, 3, 4] := rfl
@[simp] theorem hs_15_13 : hints.soft 15 13 = [] := rfl
@[simp] theorem hz_15_13 : hints.frz 15 13 = [] := rfl
@[simp] theorem hk_15_14 : hints.keep 15 14 = some [1, 3, 4] := rfl
@[simp] theorem hs_15_14 : hints.soft 15 14 = [] := rfl
@[simp] theorem hz_15_14 : hints.frz 15 14 = [] := rfl
@[simp] theorem hk_15_15 : hints.keep 15 15 = some [1, 3, 4, 22, 131] := rfl
@[simp] theorem hs_15_15 : hints.soft 15 15 = [] := rfl
@[simp] theorem hz_15_15 : hints.frz 15 15 = [] := rfl
@[simp] theorem hk_15_16 : hints.keep 15 16 = some [1, 3, 4, 22, 131] := rfl
@[simp] theorem hs_15_16 : hints.soft 15 16 = [] := rfl
@[simp] theorem hz_15_16 : hints.frz 15 16 = [] := rfl
@[simp] theorem hk_15_17 : hints.keep 15 17 = some [1, 3, 4] := rfl
@[simp] theorem hs_15_17 : hints.soft 15 17 = [] := rfl
@[simp] theorem hz_15_17 : hints.frz 15 17 = [] := rfl
@[simp] theorem hk_15_18 : hints.keep 15 18 = some [1, 3, 4] := rfl
@[simp] theorem hs_15_18 : hints.soft 15 18 = [] := rfl
@[simp] theorem hz_15_18 : hints.frz 15 18 = [] := rfl
@[simp] theorem hk_15_19 : hints.keep 15 19 = some [1, 3, 4, 22, 143] := rfl
@[simp] theorem hs_15_19 : hints.soft 15 19 = [] := rfl
@[simp] theorem hz_15_19 : hints.frz 15 19 = [] := rfl
@[simp] theorem hk_15_20 : hints.keep 15 20 = some [1, 3, 4, 143] := rfl
@[simp] theorem hs_15_20 : hints.soft 15 20 = [] := rfl
@[simp] theorem hz_15_20 : hints.frz 15 20 = [] := rfl
@[simp] theorem hk_15_21 : hints.keep 15 21 = some [153] := rfl
@[simp] theorem hs_15_21 : hints.soft 15 21 = [] := rfl
@[simp] theorem hz_15_21 : hints.frz 15 21 = [] := rfl
@[simp] theorem hk_15_22 : hints.keep 15 22 = some [2] := rfl
@[simp] theorem hs_15_22 : hints.soft 15 22 = [] := rfl
@[simp] theorem hz_15_22 : hints.frz 15 22 = [] := rfl
@[simp] theorem hk_15_23 : hints.keep 15 23 = some [2] := rfl
@[simp] theorem hs_15_23 : hints.soft 15 23 = [] := rfl
@[simp] theorem hz_15_23 : hints.frz 15 23 = [] := rfl
@[simp] theorem hk_16_0 : hints.keep 16 0 = some [0, 1] := rfl
@[simp] theorem hs_16_0 : hints.soft 16 0 = [] := rfl
@[simp] theorem hz_16_0 : hints.frz 16 0 = [] := rfl
@[simp] theorem hk_16_1 : hints.keep 16 1 = some [4] := rfl
@[simp] theorem hs_16_1 : hints.soft 16 1 = [] := rfl
@[simp] theorem hz_16_1 : hints.frz 16 1 = [] := rfl
@[simp] theorem hk_19_0 : hints.keep 19 0 = some [1, 2] := rfl
@[simp] theorem hs_19_0 : hints.soft 19 0 = [] := rfl
@[simp] theorem hz_19_0 : hints.frz 19 0 = [] := rfl
@[simp] theorem hk_19_1 : hints.keep 19 1 = some [2] := rfl
@[simp] theorem hs_19_1 : hints.soft 19 1 = [] := rfl
@[simp] theorem hz_19_1 : hints.frz 19 1 = [] := rfl
@[simp] theorem hk_20_0 : hints.keep 20 0 = some [0, 1] := rfl
@[simp] theorem hs_20_0 : hints.soft 20 0 = [] := rfl
@[simp] theorem hz_20_0 : hints.frz 20 0 = [] := rfl
@[simp] theorem hk_20_1 : hints.keep 20 1 = some [0, 1, 10] := rfl
@[simp] theorem hs_20_1 : hints.soft 20 1 = [] := rfl
@[simp] theorem hz_20_1 : hints.frz 20 1 = [] := rfl
@[simp] theorem hk_20_2 : hints.keep 20 2 = some [4] := rfl
@[simp] theorem hs_20_2 : hints.soft 20 2 = [] := rfl
@[simp] theorem hz_20_2 : hints.frz 20 2 = [] := rfl
@[simp] theorem hk_20_3 : hints.keep 20 3 = some [0, 1, 12, 13] := rfl
@[simp] theorem hs_20_3 : hints.soft 20 3 = [] := rfl
@[simp] theorem hz_20_3 : hints.frz 20 3 = [] := rfl
@[simp] theorem hk_20_4 : hints.keep 20 4 = some [0, 1, 12, 13, 14] := rfl
@[simp] theorem hh_20_4 : hints.head 20 4 = some [0, 1, 12, 13] := rfl
@[simp] theorem hc_20_4 : hints.canon 20 4 = [] := rfl
@[simp] theorem hs_20_4 : hints.soft 20 4 = [] := rfl
@[simp] theorem hz_20_4 : hints.frz 20 4 = [] := rfl
@[simp] theorem hk_20_5 : hints.keep 20 5 = some [0, 1, 5, 12, 13] := rfl
@[simp] theorem hs_20_5 : hints.soft 20 5 = [] := rfl
@[simp] theorem hz_20_5 : hints.frz 20 5 = [] := rfl
@[simp] theorem hk_20_6 : hints.keep 20 6 = some [0, 1, 12, 13, 24] := rfl
@[simp] theorem hs_20_6 : hints.soft 20 6 = [] := rfl
@[simp] theorem hz_20_6 : hints.frz 20 6 = [] := rfl
@[simp] theorem hk_20_7 : hints.keep 20 7 = some [4] := rfl
@[simp] theorem hs_20_7 : hints.soft 20 7 = [] := rfl
@[simp] theorem hz_20_7 : hints.frz 20 7 = [] := rfl
@[simp] theorem hk_20_8 : hints.keep 20 8 = some [0, 1, 12, 13] := rfl
@[simp] theorem hs_20_8 : hints.soft 20 8 = [] := rfl
@[simp] theorem hz_20_8 : hints.frz 20 8 = [] := rfl
@[simp] theorem hk_20_9 : hints.keep 20 9 = some [4] := rfl
@[simp] theorem hs_20_9 : hints.soft 20 9 = [] := rfl
@[simp] theorem hz_20_9 : hints.frz 20 9 = [] := rfl
@[simp] theorem hk_21_0 : hints.keep 21 0 = some [0, 1] := rfl
@[simp] theorem hs_21_0 : hints.soft 21 0 = [] := rfl
@[simp] theorem hz_21_0 : hints.frz 21 0 = [] := rfl
@[simp] theorem hk_21_1 : hints.keep 21 1 = some [0, 1, 10] := rfl
@[simp] theorem hs_21_1 : hints.soft 21 1 = [] := rfl
@[simp] theorem hz_21_1 : hints.frz 21 1 = [] := rfl
@[simp] theorem hk_21_2 : hints.keep 21 2 = some [4] := rfl
@[simp] theorem hs_21_2 : hints.soft 21 2 = [] := rfl
@[simp] theorem hz_21_2 : hints.frz 21 2 = [] := rfl
@[simp] theorem hk_21_3 : hints.keep 21 3 = some [0, 1, 12, 13] := rfl
@[simp] theorem hs_21_3 : hints.soft 21 3 = [] := rfl
@[simp] theorem hz_21_3 : hints.frz 21 3 = [] := rfl
@[simp] theorem hk_21_4 : hints.keep 21 4 = some [0, 1, 12, 13, 14] := rfl
@[simp] theorem hh_21_4 : hints.head 21 4 = some [0, 1, 12, 13] := rfl
@[simp] theorem hc_21_4 : hints.canon 21 4 = [] := rfl
@[simp] theorem hs_21_4 : hints.soft 21 4 = [] := rfl
@[simp] theorem hz_21_4 : hints.frz 21 4 = [] := rfl
@[simp] theorem hk_21_5 : hints.keep 21 5 = some [0, 1, 5, 12, 13] := rfl
@[simp] theorem hs_21_5 : hints.soft 21 5 = [] := rfl
@[simp] theorem hz_21_5 : hints.frz 21 5 = [] := rfl
@[simp] theorem hk_21_6 : hints.keep 21 6 = some [0, 1, 12, 13, 24] := rfl
@[simp] theorem hs_21_6 : hints.soft 21 6 = [] := rfl
@[simp] theorem hz_21_6 : hints.frz 21 6 = [] := rfl
@[simp] theorem hk_21_7 : hints.keep 21 7 = some [4] := rfl
@[simp] theorem hs_21_7 : hints.soft 21 7 = [] := rfl
@[simp] theorem hz_21_7 : hints.frz 21 7 = [] := rfl
@[simp] theorem hk_21_8 : hints.keep 21 8 = some [0, 1, 12, 13] := rfl
@[simp] theorem hs_21_8 : hints.soft 21 8 = [] := rfl
@[simp] theorem hz_21_8 : hints.frz 21 8 = [] := rfl
@[simp] theorem hk_21_9 : hints.keep 21 9 = some [4] := rfl
@[simp] theorem hs_21_9 : hints.soft 21 9 = [] := rfl
@[simp] theorem hz_21_9 : hints.frz 21 9 = [] := rfl
@[simp] theorem hk_22_0 : hints.keep 22 0 = some [0, 6, 7, 8] := rfl
@[simp] theorem hs_22_0 : hints.soft 22 0 = [] := rfl
@[simp] theorem hz_22_0 : hints.frz 22 0 = [] := rfl
@[simp] theorem hk_22_1 : hints.keep 22 1 = some [0, 6, 7, 8, 9] := rfl
@[simp] theorem hh_22_1 : hints.head 22 1 = some [0, 6, 7, 8] := rfl
@[simp] theorem hc_22_1 : hints.canon 22 1 = [(0, some 0, 20000, 1, 5)] := rfl
@[simp] theorem hs_22_1 : hints.soft 22 1 = [] := rfl
@[simp] theorem hz_22_1 : hints.frz 22 1 = [] := rfl
@[simp] theorem hk_22_2 : hints.keep 22 2 = some [0, 5, 6, 7, 8] := rfl
@[simp] theorem hs_22_2 : hints.soft 22 2 = [] := rfl
@[simp] theorem hz_22_2 : hints.frz 22 2 = [] := rfl
@[simp] theorem hk_22_3 : hints.keep 22 3 = some [0, 6, 7, 8] := rfl
@[simp] theorem hs_22_3 : hints.soft 22 3 = [] := rfl
@[simp] theorem hz_22_3 : hints.frz 22 3 = [] := rfl
@[simp] theorem hk_22_4 : hints.keep 22 4 = some [0, 6, 7, 8] := rfl
@[simp] theorem hs_22_4 : hints.soft 22 4 = [] := rfl
@[simp] theorem hz_22_4 : hints.frz 22 4 = [] := rfl
@[simp] theorem hk_23_0 : hints.keep 23 0 = some [0] := rfl
@[simp] theorem hs_23_0 : hints.soft 23 0 = [] := rfl
@[simp] theorem hz_23_0 : hints.frz 23 0 = [] := rfl
@[simp] theorem hk_23_1 : hints.keep 23 1 = some [2] := rfl
@[simp] theorem hs_23_1 : hints.soft 23 1 = [] := rfl
@[simp] theorem hz_23_1 : hints.frz 23 1 = [] := rfl
@[simp] theorem hk_24_0 : hints.keep 24 0 = some [0] := rfl
@[simp] theorem hs_24_0 : hints.soft 24 0 = [] := rfl
@[simp] theorem hz_24_0 : hints.frz 24 0 = [] := rfl
@[simp] theorem hk_24_1 : hints.keep 24 1 = some [2, 3] := rfl
@[simp] theorem hs_24_1 : hints.soft 24 1 = [] := rfl
@[simp] theorem hz_24_1 : hints.frz 24 1 = [] := rfl
@[simp] theorem hk_25_0 : hints.keep 25 0 = some [0] := rfl
@[simp] theorem hs_25_0 : hints.soft 25 0 = [] := rfl
@[simp] theorem hz_25_0 : hints.frz 25 0 = [] := rfl
@[simp] theorem hk_25_1 : hints.keep 25 1 = some [0, 3, 4, 5] := rfl
@[simp] theorem hs_25_1 : hints.soft 25 1 = [] := rfl
@[simp] theorem hz_25_1 : hints.frz 25 1 = [] := rfl
@[simp] theorem hk_25_2 : hints.keep 25 2 = some [0, 3, 4] := rfl
@[simp] theorem hs_25_2 : hints.soft 25 2 = [] := rfl
@[simp] theorem hz_25_2 : hints.frz 25 2 = [] := rfl
@[simp] theorem hk_25_3 : hints.keep 25 3 = some [0, 3, 4, 33] := rfl
@[simp] theorem hs_25_3 : hints.soft 25 3 = [] := rfl
@[simp] theorem hz_25_3 : hints.frz 25 3 = [] := rfl
@[simp] theorem hk_25_4 : hints.keep 25 4 = some [2] := rfl
@[simp] theorem hs_25_4 : hints.soft 25 4 = [] := rfl
@[simp] theorem hz_25_4 : hints.frz 25 4 = [] := rfl
@[simp] theorem hk_25_5 : hints.keep 25 5 = some [3] := rfl
@[simp] theorem hs_25_5 : hints.soft 25 5 = [] := rfl
@[simp] theorem hz_25_5 : hints.frz 25 5 = [] := rfl
@[simp] theorem hk_25_6 : hints.keep 25 6 = some [2] := rfl
@[simp] theorem hs_25_6 : hints.soft 25 6 = [] := rfl
@[simp] theorem hz_25_6 : hints.frz 25 6 = [] := rfl
@[simp] theorem hk_26_0 : hints.keep 26 0 = some [0, 1, 9] := rfl
@[simp] theorem hs_26_0 : hints.soft 26 0 = [] := rfl
@[simp] theorem hz_26_0 : hints.frz 26 0 = [] := rfl
@[simp] theorem hk_26_1 : hints.keep 26 1 = some [0, 1, 9, 10] := rfl
@[simp] theorem hs_26_1 : hints.soft 26 1 = [] := rfl
@[simp] theorem hz_26_1 : hints.frz 26 1 = [] := rfl
@[simp] theorem hk_26_2 : hints.keep 26 2 = some [0, 1, 13] := rfl
@[simp] theorem hs_26_2 : hints.soft 26 2 = [] := rfl
@[simp] theorem hz_26_2 : hints.frz 26 2 = [] := rfl
@[simp] theorem hk_26_3 : hints.keep 26 3 = some [0, 1, 13, 14] := rfl
@[simp] theorem hs_26_3 : hints.soft 26 3 = [] := rfl
@[simp] theorem hz_26_3 : hints.frz 26 3 = [] := rfl
@[simp] theorem hk_26_4 : hints.keep 26 4 = some [0, 1] := rfl
@[simp] theorem hs_26_4 : hints.soft 26 4 = [] := rfl
@[simp] theorem hz_26_4 : hints.frz 26 4 = [] := rfl
@[simp] theorem hk_26_5 : hints.keep 26 5 = some [0, 1, 25] := rfl
@[simp] theorem hs_26_5 : hints.soft 26 5 = [] := rfl
@[simp] theorem hz_26_5 : hints.frz 26 5 = [] := rfl
@[simp] theorem hk_26_6 : hints.keep 26 6 = some [0, 1] := rfl
@[simp] theorem hs_26_6 : hints.soft 26 6 = [] := rfl
@[simp] theorem hz_26_6 : hints.frz 26 6 = [] := rfl
@[simp] theorem hk_26_7 : hints.keep 26 7 = some [0, 1, 4] := rfl
@[simp] theorem hs_26_7 : hints.soft 26 7 = [] := rfl
@[simp] theorem hz_26_7 : hints.frz 26 7 = [] := rfl
@[simp] theorem hk_26_8 : hints.keep 26 8 = some [0, 1, 4, 45] := rfl
@[simp] theorem hs_26_8 : hints.soft 26 8 = [] := rfl
@[simp] theorem hz_26_8 : hints.frz 26 8 = [] := rfl
@[simp] theorem hk_26_9 : hints.keep 26 9 = some [] := rfl
@[simp] theorem hs_26_9 : hints.soft 26 9 = [] := rfl
@[simp] theorem hz_26_9 : hints.frz 26 9 = [] := rfl
@[simp] theorem hk_26_10 : hints.keep 26 10 = some [0, 1, 9, 65] := rfl
@[simp] theorem hs_26_10 : hints.soft 26 10 = [] := rfl
@[simp] theorem hz_26_10 : hints.frz 26 10 = [] := rfl
@[simp] theorem hk_26_11 : hints.keep 26 11 = some [0, 1] := rfl
@[simp] theorem hs_26_11 : hints.soft 26 11 = [] := rfl
@[simp] theorem hz_26_11 : hints.frz 26 11 = [] := rfl
@[simp] theorem hk_26_12 : hints.keep 26 12 = some [0, 1, 5] := rfl
@[simp] theorem hs_26_12 : hints.soft 26 12 = [] := rfl
@[simp] theorem hz_26_12 : hints.frz 26 12 = [] := rfl
@[simp] theorem hk_26_13 : hints.keep 26 13 = some [0, 1, 5, 92] := rfl
@[simp] theorem hs_26_13 : hints.soft 26 13 = [] := rfl
@[simp] theorem hz_26_13 : hints.frz 26 13 = [] := rfl
@[simp] theorem hk_26_14 : hints.keep 26 14 = some [0, 1, 93, 94] := rfl
@[simp] theorem hs_26_14 : hints.soft 26 14 = [] := rfl
@[simp] theorem hz_26_14 : hints.frz 26 14 = [] := rfl
@[simp] theorem hk_26_15 : hints.keep 26 15 = some [0, 1, 93, 94, 95] := rfl
@[simp] theorem hh_26_15 : hints.head 26 15 = some [0, 1, 93, 94] := rfl
@[simp] theorem hc_26_15 : hints.canon 26 15 = [(1, some 12, 20000, 2, 45)] := rfl
@[simp] theorem hs_26_15 : hints.soft 26 15 = [] := rfl
@[simp] theorem hz_26_15 : hints.frz 26 15 = [] := rfl
@[simp] theorem hk_26_16 : hints.keep 26 16 = some [0, 1, 93, 94] := rfl
@[simp] theorem hs_26_16 : hints.soft 26 16 = [] := rfl
@[simp] theorem hz_26_16 : hints.frz 26 16 = [] := rfl
@[simp] theorem hk_26_17 : hints.keep 26 17 = some [0, 1, 93, 94] := rfl
@[simp] theorem hs_26_17 : hints.soft 26 17 = [] := rfl
@[simp] theorem hz_26_17 : hints.frz 26 17 = [] := rfl
@[simp] theorem hk_26_18 : hints.keep 26 18 = some [0, 1, 9, 111] := rfl
@[simp] theorem hs_26_18 : hints.soft 26 18 = [] := rfl
@[simp] theorem hz_26_18 : hints.frz 26 18 = [] := rfl
@[simp] theorem hk_26_19 : hints.keep 26 19 = some [] := rfl
@[simp] theorem hs_26_19 : hints.soft 26 19 = [] := rfl
@[simp] theorem hz_26_19 : hints.frz 26 19 = [] := rfl
@[simp] theorem hk_26_20 : hints.keep 26 20 = some [0, 1, 9, 119] := rfl
@[simp] theorem hs_26_20 : hints.soft 26 20 = [] := rfl
@[simp] theorem hz_26_20 : hints.frz 26 20 = [] := rfl
@[simp] theorem hk_26_21 : hints.keep 26 21 = some [0, 1, 119] := rfl
@[simp] theorem hs_26_21 : hints.soft 26 21 = [] := rfl
@[simp] theorem hz_26_21 : hints.frz 26 21 = [] := rfl
@[simp] theorem hk_26_22 : hints.keep 26 22 = some [] := rfl
@[simp] theorem hs_26_22 : hints.soft 26 22 = [] := rfl
@[simp] theorem hz_26_22 : hints.frz 26 22 = [] := rfl
@[simp] theorem hk_26_23 : hints.keep 26 23 = some [] := rfl
@[simp] theorem hs_26_23 : hints.soft 26 23 = [] := rfl
@[simp] theorem hz_26_23 : hints.frz 26 23 = [] := rfl
@[simp] theorem hk_27_0 : hints.keep 27 0 = some [0, 1, 2] := rfl
@[simp] theorem hs_27_0 : hints.soft 27 0 = [] := rfl
@[simp] theorem hz_27_0 : hints.frz 27 0 = [] := rfl
@[simp] theorem hk_27_1 : hints.keep 27 1 = some [6] := rfl
@[simp] theorem hs_27_1 : hints.soft 27 1 = [] := rfl
@[simp] theorem hz_27_1 : hints.frz 27 1 = [] := rfl
@[simp] theorem hk_28_0 : hints.keep 28 0 = some [0, 1, 2] := rfl
@[simp] theorem hs_28_0 : hints.soft 28 0 = [] := rfl
@[simp] theorem hz_28_0 : hints.frz 28 0 = [] := rfl
@[simp] theorem hk_28_1 : hints.keep 28 1 = some [0, 2, 7] := rfl
@[simp] theorem hs_28_1 : hints.soft 28 1 = [] := rfl
@[simp] theorem hz_28_1 : hints.frz 28 1 = [] := rfl
@[simp] theorem hk_28_2 : hints.keep 28 2 = some [0, 2, 7, 12, 13, 14] := rfl
@[simp] theorem hs_28_2 : hints.soft 28 2 = [] := rfl
@[simp] theorem hz_28_2 : hints.frz 28 2 = [] := rfl
@[simp] theorem hk_28_3 : hints.keep 28 3 = some [0, 2, 7, 12, 13, 14, 15] := rfl
@[simp] theorem hh_28_3 : hints.head 28 3 = some [0, 2, 7, 12, 13, 14] := rfl
@[simp] theorem hc_28_3 : hints.canon 28 3 = [] := rfl
@[simp] theorem hs_28_3 : hints.soft 28 3 = [] := rfl
@[simp] theorem hz_28_3 : hints.frz 28 3 = [] := rfl
@[simp] theorem hk_28_4 : hints.keep 28 4 = some [0, 2, 7, 9, 12, 13, 14] := rfl
@[simp] theorem hs_28_4 : hints.soft 28 4 = [] := rfl
@[simp] theorem hz_28_4 : hints.frz 28 4 = [] := rfl
@[simp] theorem hk_28_5 : hints.keep 28 5 = some [0, 2, 9, 12, 13, 14, 41] := rfl
@[simp] theorem hs_28_5 : hints.soft 28 5 = [] := rfl
@[simp] theorem hz_28_5 : hints.frz 28 5 = [] := rfl
@[simp] theorem hk_28_6 : hints.keep 28 6 = some [6] := rfl
@[simp] theorem hs_28_6 : hints.soft 28 6 = [] := rfl
@[simp] theorem hz_28_6 : hints.frz 28 6 = [] := rfl
@[simp] theorem hk_28_7 : hints.keep 28 7 = some [0, 2, 7, 12, 13, 14] := rfl
@[simp] theorem hs_28_7 : hints.soft 28 7 = [] := rfl
@[simp] theorem hz_28_7 : hints.frz 28 7 = [] := rfl
@[simp] theorem hk_28_8 : hints.keep 28 8 = some [0, 2, 7, 12, 13, 14] := rfl
@[simp] theorem hs_28_8 : hints.soft 28 8 = [] := rfl
@[simp] theorem hz_28_8 : hints.frz 28 8 = [] := rfl
@[simp] theorem hk_28_9 : hints.keep 28 9 = some [6] := rfl
@[simp] theorem hs_28_9 : hints.soft 28 9 = [] := rfl
@[simp] theorem hz_28_9 : hints.frz 28 9 = [] := rfl
@[simp] theorem hk_29_0 : hints.keep 29 0 = some [0, 1] := rfl
@[simp] theorem hs_29_0 : hints.soft 29 0 = [] := rfl
@[simp] theorem hz_29_0 : hints.frz 29 0 = [] := rfl
@[simp] theorem hk_29_1 : hints.keep 29 1 = some [0, 1, 5] := rfl
@[simp] theorem hs_29_1 : hints.soft 29 1 = [] := rfl
@[simp] theorem hz_29_1 : hints.frz 29 1 = [] := rfl
@[simp] theorem hk_29_2 : hints.keep 29 2 = some [0, 1, 5, 6] := rfl
@[simp] theorem hs_29_2 : hints.soft 29 2 = [] := rfl
@[simp] theorem hz_29_2 : hints.frz 29 2 = [] := rfl
@[simp] theorem hk_29_3 : hints.keep 29 3 = some [1, 5, 6] := rfl
@[simp] theorem hs_29_3 : hints.soft 29 3 = [] := rfl
@[simp] theorem hz_29_3 : hints.frz 29 3 = [] := rfl
@[simp] theorem hk_29_4 : hints.keep 29 4 = some [1, 6, 7] := rfl
@[simp] theorem hs_29_4 : hints.soft 29 4 = [] := rfl
@[simp] theorem hz_29_4 : hints.frz 29 4 = [] := rfl
@[simp] theorem hk_29_5 : hints.keep 29 5 = some [1, 6, 7, 24] := rfl
@[simp] theorem hh_29_5 : hints.head 29 5 = some [1, 6, 7] := rfl
@[simp] theorem hc_29_5 : hints.canon 29 5 = [(6, none, 20000, 1, 5)] := rfl
@[simp] theorem hs_29_5 : hints.soft 29 5 = [] := rfl
@[simp] theorem hz_29_5 : hints.frz 29 5 = [] := rfl
@[simp] theorem hk_29_6 : hints.keep 29 6 = some [1, 6, 7] := rfl
@[simp] theorem hs_29_6 : hints.soft 29 6 = [] := rfl
@[simp] theorem hz_29_6 : hints.frz 29 6 = [] := rfl
@[simp] theorem hk_29_7 : hints.keep 29 7 = some [1, 6, 7, 8] := rfl
@[simp] theorem hs_29_7 : hints.soft 29 7 = [] := rfl
@[simp] theorem hz_29_7 : hints.frz 29 7 = [] := rfl
@[simp] theorem hk_29_8 : hints.keep 29 8 = some [1, 6, 7, 8, 34] := rfl
@[simp] theorem hs_29_8 : hints.soft 29 8 = [] := rfl
@[simp] theorem hz_29_8 : hints.frz 29 8 = [] := rfl
@[simp] theorem hk_29_9 : hints.keep 29 9 = some [1, 6, 7, 8] := rfl
@[simp] theorem hs_29_9 : hints.soft 29 9 = [] := rfl
@[simp] theorem hz_29_9 : hints.frz 29 9 = [] := rfl
@[simp] theorem hk_29_10 : hints.keep 29 10 = some [1, 6, 7] := rfl
@[simp] theorem hs_29_10 : hints.soft 29 10 = [] := rfl
@[simp] theorem hz_29_10 : hints.frz 29 10 = [] := rfl
@[simp] theorem hk_29_11 : hints.keep 29 11 = some [4] := rfl
@[simp] theorem hs_29_11 : hints.soft 29 11 = [] := rfl
@[simp] theorem hz_29_11 : hints.frz 29 11 = [] := rfl
@[simp] theorem hk_30_0 : hints.keep 30 0 = some [0, 1, 2] := rfl
@[simp] theorem hs_30_0 : hints.soft 30 0 = [] := rfl
@[simp] theorem hz_30_0 : hints.frz 30 0 = [] := rfl
@[simp] theorem hk_30_1 : hints.keep 30 1 = some [1, 2, 7] := rfl
@[simp] theorem hs_30_1 : hints.soft 30 1 = [] := rfl
@[simp] theorem hz_30_1 : hints.frz 30 1 = [] := rfl
@[simp] theorem hk_30_2 : hints.keep 30 2 = some [1, 7, 11, 12] := rfl
@[simp] theorem hs_30_2 : hints.soft 30 2 = [] := rfl
@[simp] theorem hz_30_2 : hints.frz 30 2 = [] := rfl
@[simp] theorem hk_30_3 : hints.keep 30 3 = some [1, 7, 11, 12, 13] := rfl
@[simp] theorem hh_30_3 : hints.head 30 3 = some [1, 7, 11, 12] := rfl
@[simp] theorem hc_30_3 : hints.canon 30 3 = [(7, none, 20000, 1, 5)] := rfl
@[simp] theorem hs_30_3 : hints.soft 30 3 = [] := rfl
@[simp] theorem hz_30_3 : hints.frz 30 3 = [] := rfl
@[simp] theorem hk_30_4 : hints.keep 30 4 = some [1, 7, 8, 11, 12] := rfl
@[simp] theorem hs_30_4 : hints.soft 30 4 = [] := rfl
@[simp] theorem hz_30_4 : hints.frz 30 4 = [] := rfl
@[simp] theorem hk_30_5 : hints.keep 30 5 = some [1, 7, 11, 12] := rfl
@[simp] theorem hs_30_5 : hints.soft 30 5 = [] := rfl
@[simp] theorem hz_30_5 : hints.frz 30 5 = [] := rfl
@[simp] theorem hk_30_6 : hints.keep 30 6 = some [1, 7, 11, 12] := rfl
@[simp] theorem hs_30_6 : hints.soft 30 6 = [] := rfl
@[simp] theorem hz_30_6 : hints.frz 30 6 = [] := rfl
@[simp] theorem hk_30_7 : hints.keep 30 7 = some [6] := rfl
@[simp] theorem hs_30_7 : hints.soft 30 7 = [] := rfl
@[simp] theorem hz_30_7 : hints.frz 30 7 = [] := rfl
@[simp] theorem hk_31_0 : hints.keep 31 0 = some [0] := rfl
@[simp] theorem hs_31_0 : hints.soft 31 0 = [] := rfl
@[simp] theorem hz_31_0 : hints.frz 31 0 = [] := rfl
@[simp] theorem hk_31_1 : hints.keep 31 1 = some [2] := rfl
@[simp] theorem hs_31_1 : hints.soft 31 1 = [] := rfl
@[simp] theorem hz_31_1 : hints.frz 31 1 = [] := rfl
@[simp] theorem hk_32_0 : hints.keep 32 0 = some [0, 1, 2] := rfl
@[simp] theorem hs_32_0 : hints.soft 32 0 = [] := rfl
@[simp] theorem hz_32_0 : hints.frz 32 0 = [] := rfl
@[simp] theorem hk_32_1 : hints.keep 32 1 = some [0, 1, 2, 12] := rfl
@[simp] theorem hs_32_1 : hints.soft 32 1 = [] := rfl
@[simp] theorem hz_32_1 : hints.frz 32 1 = [] := rfl
@[simp] theorem hk_32_2 : hints.keep 32 2 = some [6, 7] := rfl
@[simp] theorem hs_32_2 : hints.soft 32 2 = [(6, none, 1, none)] := rfl
@[simp] theorem hz_32_2 : hints.frz 32 2 = [] := rfl
@[simp] theorem hk_32_3 : hints.keep 32 3 = some [0, 2, 8] := rfl
@[simp] theorem hs_32_3 : hints.soft 32 3 = [] := rfl
@[simp] theorem hz_32_3 : hints.frz 32 3 = [] := rfl
@[simp] theorem hk_32_4 : hints.keep 32 4 = some [0, 8, 25] := rfl
@[simp] theorem hs_32_4 : hints.soft 32 4 = [] := rfl
@[simp] theorem hz_32_4 : hints.frz 32 4 = [] := rfl
@[simp] theorem hk_32_5 : hints.keep 32 5 = some [6, 7] := rfl
@[simp] theorem hs_32_5 : hints.soft 32 5 = [(6, none, 1, none)] := rfl
@[simp] theorem hz_32_5 : hints.frz 32 5 = [] := rfl
@[simp] theorem hk_32_6 : hints.keep 32 6 = some [6, 7] := rfl
@[simp] theorem hs_32_6 : hints.soft 32 6 = [] := rfl
@[simp] theorem hz_32_6 : hints.frz 32 6 = [] := rfl
@[simp] theorem hk_33_0 : hints.keep 33 0 = some [0] := rfl
@[simp] theorem hs_33_0 : hints.soft 33 0 = [] := rfl
@[simp] theorem hz_33_0 : hints.frz 33 0 = [] := rfl
@[simp] theorem hk_33_1 : hints.keep 33 1 = some [0, 5, 6] := rfl
@[simp] theorem hs_33_1 : hints.soft 33 1 = [] := rfl
@[simp] theorem hz_33_1 : hints.frz 33 1 = [] := rfl
@[simp] theorem hk_33_2 : hints.keep 33 2 = some [0, 5, 6, 16] := rfl
@[simp] theorem hs_33_2 : hints.soft 33 2 = [] := rfl
@[simp] theorem hz_33_2 : hints.frz 33 2 = [] := rfl
@[simp] theorem hk_33_3 : hints.keep 33 3 = some [2, 3, 4] := rfl
@[simp] theorem hs_33_3 : hints.soft 33 3 = [] := rfl
@[simp] theorem hz_33_3 : hints.frz 33 3 = [] := rfl
@[simp] theorem hk_33_4 : hints.keep 33 4 = some [0, 5, 6, 20] := rfl
@[simp] theorem hs_33_4 : hints.soft 33 4 = [] := rfl
@[simp] theorem hz_33_4 : hints.frz 33 4 = [] := rfl
@[simp] theorem hk_33_5 : hints.keep 33 5 = some [2, 3, 4] := rfl
@[simp] theorem hs_33_5 : hints.soft 33 5 = [] := rfl
@[simp] theorem hz_33_5 : hints.frz 33 5 = [] := rfl
@[simp] theorem hk_33_6 : hints.keep 33 6 = some [0, 5, 6, 23] := rfl
@[simp] theorem hs_33_6 : hints.soft 33 6 = [] := rfl
@[simp] theorem hz_33_6 : hints.frz 33 6 = [] := rfl
@[simp] theorem hk_33_7 : hints.keep 33 7 = some [2, 3, 4] := rfl
@[simp] theorem hs_33_7 : hints.soft 33 7 = [] := rfl
@[simp] theorem hz_33_7 : hints.frz 33 7 = [] := rfl
@[simp] theorem hk_33_8 : hints.keep 33 8 = some [0, 5, 6, 7] := rfl
@[simp] theorem hs_33_8 : hints.soft 33 8 = [] := rfl
@[simp] theorem hz_33_8 : hints.frz 33 8 = [] := rfl
@[simp] theorem hk_33_9 : hints.keep 33 9 = some [0, 5, 6, 7] := rfl
@[simp] theorem hs_33_9 : hints.soft 33 9 = [] := rfl
@[simp] theorem hz_33_9 : hints.frz 33 9 = [] := rfl
@[simp] theorem hk_33_10 : hints.keep 33 10 = some [0, 5, 6, 7] := rfl
@[simp] theorem hs_33_10 : hints.soft 33 10 = [] := rfl
@[simp] theorem hz_33_10 : hints.frz 33 10 = [] := rfl
@[simp] theorem hk_33_11 : hints.keep 33 11 = some [0, 5, 6, 37] := rfl
@[simp] theorem hs_33_11 : hints.soft 33 11 = [] := rfl
@[simp] theorem hz_33_11 : hints.frz 33 11 = [] := rfl
@[simp] theorem hk_33_12 : hints.keep 33 12 = some [2, 3, 4] := rfl
@[simp] theorem hs_33_12 : hints.soft 33 12 = [] := rfl
@[simp] theorem hz_33_12 : hints.frz 33 12 = [] := rfl
@[simp] theorem hk_35_0 : hints.keep 35 0 = some [0] := rfl
@[simp] theorem hs_35_0 : hints.soft 35 0 = [] := rfl
@[simp] theorem hz_35_0 : hints.frz 35 0 = [] := rfl
@[simp] theorem hk_35_1 : hints.keep 35 1 = some [2] := rfl
@[simp] theorem hs_35_1 : hints.soft 35 1 = [] := rfl
@[simp] theorem hz_35_1 : hints.frz 35 1 = [] := rfl
@[simp] theorem hk_36_0 : hints.keep 36 0 = some [0, 1] := rfl
@[simp] theorem hs_36_0 : hints.soft 36 0 = [] := rfl
@[simp] theorem hz_36_0 : hints.frz 36 0 = [] := rfl
@[simp] theorem hk_36_1 : hints.keep 36 1 = some [0, 1, 5] := rfl
@[simp] theorem hs_36_1 : hints.soft 36 1 = [] := rfl
@[simp] theorem hz_36_1 : hints.frz 36 1 = [] := rfl
@[simp] theorem hk_36_2 : hints.keep 36 2 = some [1, 5, 11, 12, 13] := rfl
@[simp] theorem hs_36_2 : hints.soft 36 2 = [] := rfl
@[simp] theorem hz_36_2 : hints.frz 36 2 = [] := rfl
@[simp] theorem hk_36_3 : hints.keep 36 3 = some [1, 5, 11, 12, 13, 14] := rfl
@[simp] theorem hh_36_3 : hints.head 36 3 = some [1, 5, 11, 12, 13] := rfl
@[simp] theorem hc_36_3 : hints.canon 36 3 = [] := rfl
@[simp] theorem hs_36_3 : hints.soft 36 3 = [] := rfl
@[simp] theorem hz_36_3 : hints.frz 36 3 = [] := rfl
@[simp] theorem hk_36_4 : hints.keep 36 4 = some [1, 5, 7, 11, 12, 13] := rfl
@[simp] theorem hs_36_4 : hints.soft 36 4 = [] := rfl
@[simp] theorem hz_36_4 : hints.frz 36 4 = [] := rfl
@[simp] theorem hk_36_5 : hints.keep 36 5 = some [1, 5, 11, 12, 13] := rfl
@[simp] theorem hs_36_5 : hints.soft 36 5 = [] := rfl
@[simp] theorem hz_36_5 : hints.frz 36 5 = [] := rfl
@[simp] theorem hk_36_6 : hints.keep 36 6 = some [1, 5, 11, 12, 13, 21] := rfl
@[simp] theorem hs_36_6 : hints.soft 36 6 = [] := rfl
@[simp] theorem hz_36_6 : hints.frz 36 6 = [] := rfl
@[simp] theorem hk_36_7 : hints.keep 36 7 = some [1, 5, 11, 12, 13, 21, 22] := rfl
@[simp] theorem hh_36_7 : hints.head 36 7 = some [1, 5, 11, 12, 13, 21] := rfl
@[simp] theorem hc_36_7 : hints.canon 36 7 = [] := rfl
@[simp] theorem hs_36_7 : hints.soft 36 7 = [] := rfl
@[simp] theorem hz_36_7 : hints.frz 36 7 = [] := rfl
@[simp] theorem hk_36_8 : hints.keep 36 8 = some [1, 5, 8, 11, 12, 13, 21] := rfl
@[simp] theorem hs_36_8 : hints.soft 36 8 = [] := rfl
@[simp] theorem hz_36_8 : hints.frz 36 8 = [] := rfl
@[simp] theorem hk_36_9 : hints.keep 36 9 = some [1, 5, 8, 11, 12, 13, 21] := rfl
@[simp] theorem hs_36_9 : hints.soft 36 9 = [] := rfl
@[simp] theorem hz_36_9 : hints.frz 36 9 = [] := rfl
@[simp] theorem hk_36_10 : hints.keep 36 10 = some [1, 5, 11, 12, 13, 21, 28] := rfl
@[simp] theorem hs_36_10 : hints.soft 36 10 = [] := rfl
@[simp] theorem hz_36_10 : hints.frz 36 10 = [] := rfl
@[simp] theorem hk_36_11 : hints.keep 36 11 = some [1, 5, 11, 12, 13, 21] := rfl
@[simp] theorem hs_36_11 : hints.soft 36 11 = [] := rfl
@[simp] theorem hz_36_11 : hints.frz 36 11 = [] := rfl
@[simp] theorem hk_36_12 : hints.keep 36 12 = some [1, 5, 11, 12, 13, 21] := rfl
@[simp] theorem hs_36_12 : hints.soft 36 12 = [] := rfl
@[simp] theorem hz_36_12 : hints.frz 36 12 = [] := rfl
@[simp] theorem hk_36_13 : hints.keep 36 13 = some [1, 5, 11, 12, 13] := rfl
@[simp] theorem hs_36_13 : hints.soft 36 13 = [] := rfl
@[simp] theorem hz_36_13 : hints.frz 36 13 = [] := rfl
@[simp] theorem hk_36_14 : hints.keep 36 14 = some [4] := rfl
@[simp] theorem hs_36_14 : hints.soft 36 14 = [] := rfl
@[simp] theorem hz_36_14 : hints.frz 36 14 = [] := rfl
@[simp] theorem hk_37_0 : hints.keep 37 0 = some [0, 2] := rfl
@[simp] theorem hs_37_0 : hints.soft 37 0 = [] := rfl
@[simp] theorem hz_37_0 : hints.frz 37 0 = [] := rfl
@[simp] theorem hk_37_1 : hints.keep 37 1 = some [0, 2, 4] := rfl
@[simp] theorem hs_37_1 : hints.soft 37 1 = [] := rfl
@[simp] theorem hz_37_1 : hints.frz 37 1 = [] := rfl
@[simp] theorem hk_37_2 : hints.keep 37 2 = some [0] := rfl
@[simp] theorem hs_37_2 : hints.soft 37 2 = [] := rfl
@[simp] theorem hz_37_2 : hints.frz 37 2 = [] := rfl
@[simp] theorem hk_37_3 : hints.keep 37 3 = some [0, 2] := rfl
@[simp] theorem hs_37_3 : hints.soft 37 3 = [] := rfl
@[simp] theorem hz_37_3 : hints.frz 37 3 = [] := rfl
@[simp] theorem hk_37_4 : hints.keep 37 4 = some [0, 2, 8] := rfl
@[simp] theorem hs_37_4 : hints.soft 37 4 = [] := rfl
@[simp] theorem hz_37_4 : hints.frz 37 4 = [] := rfl
@[simp] theorem hk_37_5 : hints.keep 37 5 = some [0, 2] := rfl
@[simp] theorem hs_37_5 : hints.soft 37 5 = [] := rfl
@[simp] theorem hz_37_5 : hints.frz 37 5 = [] := rfl
@[simp] theorem hk_37_6 : hints.keep 37 6 = some [0, 2] := rfl
@[simp] theorem hs_37_6 : hints.soft 37 6 = [] := rfl
@[simp] theorem hz_37_6 : hints.frz 37 6 = [] := rfl
@[simp] theorem hk_37_7 : hints.keep 37 7 = some [0, 2, 14] := rfl
@[simp] theorem hs_37_7 : hints.soft 37 7 = [] := rfl
@[simp] theorem hz_37_7 : hints.frz 37 7 = [] := rfl
@[simp] theorem hk_37_8 : hints.keep 37 8 = some [0, 2] := rfl
@[simp] theorem hs_37_8 : hints.soft 37 8 = [] := rfl
@[simp] theorem hz_37_8 : hints.frz 37 8 = [] := rfl
@[simp] theorem hk_37_9 : hints.keep 37 9 = some [0, 2] := rfl
@[simp] theorem hs_37_9 : hints.soft 37 9 = [] := rfl
@[simp] theorem hz_37_9 : hints.frz 37 9 = [] := rfl
@[simp] theorem hk_37_10 : hints.keep 37 10 = some [2] := rfl
@[simp] theorem hs_37_10 : hints.soft 37 10 = [] := rfl
@[simp] theorem hz_37_10 : hints.frz 37 10 = [] := rfl
end Go.Proofs.YthjefcamonmjpaaV
