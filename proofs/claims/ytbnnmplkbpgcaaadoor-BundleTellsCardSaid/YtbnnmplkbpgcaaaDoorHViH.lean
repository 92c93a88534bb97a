/- The value interpreter's hints and the types' facts for this seat, one by one. -/
import Derived.Test.YtbnnmplkbpgcaaaDoorHViS
import Derived.Test.YtbnnmplkbpgcaaaDoorHVi26
namespace Go.Proofs.YtbnnmplkbpgcaaaDoorV
open Go
set_option linter.unusedVariables false
noncomputable def inf (t : TypeId) : TypeInfo := (Tryd.prog.info? t).getD ((Tryd.prog.info? 3).get (by kernel_rfl))
@[simp] theorem u_3 : Tryd.prog.underlying 3 = Option.some (Go.TypeDesc.int Go.IntKind.i64) := by kernel_rfl
@[simp] theorem i_3 : Tryd.prog.info? 3 = some (inf 3) := by kernel_rfl
@[simp] theorem is_3 : (inf 3).size = 1 := by kernel_rfl
@[simp] theorem ib_3 : (inf 3).bytes = 8 := by kernel_rfl
@[simp] theorem iz_3 : zeroRow (inf 3) = Option.some [V.p (Go.Value.int Go.IntKind.i64 0)] := by kernel_rfl
@[simp] theorem u_4 : Tryd.prog.underlying 4 = Option.some Go.TypeDesc.bool := by kernel_rfl
@[simp] theorem i_4 : Tryd.prog.info? 4 = some (inf 4) := by kernel_rfl
@[simp] theorem is_4 : (inf 4).size = 1 := by kernel_rfl
@[simp] theorem ib_4 : (inf 4).bytes = 1 := by kernel_rfl
@[simp] theorem iz_4 : zeroRow (inf 4) = Option.some [V.p (Go.Value.bool false)] := by kernel_rfl
@[simp] theorem u_5 : Tryd.prog.underlying 5 = Option.some (Go.TypeDesc.int Go.IntKind.u8) := by kernel_rfl
@[simp] theorem i_5 : Tryd.prog.info? 5 = some (inf 5) := by kernel_rfl
@[simp] theorem is_5 : (inf 5).size = 1 := by kernel_rfl
@[simp] theorem ib_5 : (inf 5).bytes = 1 := by kernel_rfl
@[simp] theorem iz_5 : zeroRow (inf 5) = Option.some [V.p (Go.Value.int Go.IntKind.u8 0)] := by kernel_rfl
@[simp] theorem sm_5 : slotMs Tryd.prog 8 5 = [0] := by kernel_rfl
@[simp] theorem u_22 : Tryd.prog.underlying 22 = Option.some (Go.TypeDesc.slice 5) := by kernel_rfl
@[simp] theorem i_22 : Tryd.prog.info? 22 = some (inf 22) := by kernel_rfl
@[simp] theorem is_22 : (inf 22).size = 1 := by kernel_rfl
@[simp] theorem ib_22 : (inf 22).bytes = 24 := by kernel_rfl
@[simp] theorem iz_22 : zeroRow (inf 22) = Option.some [V.nil] := by kernel_rfl
@[simp] theorem u_24 : Tryd.prog.underlying 24 = Option.some (Go.TypeDesc.int Go.IntKind.u32) := by kernel_rfl
@[simp] theorem i_24 : Tryd.prog.info? 24 = some (inf 24) := by kernel_rfl
@[simp] theorem is_24 : (inf 24).size = 1 := by kernel_rfl
@[simp] theorem ib_24 : (inf 24).bytes = 4 := by kernel_rfl
@[simp] theorem iz_24 : zeroRow (inf 24) = Option.some [V.p (Go.Value.int Go.IntKind.u32 0)] := by kernel_rfl
@[simp] theorem u_26 : Tryd.prog.underlying 26 = Option.some (Go.TypeDesc.struct (Array.mk [Go.Field.mk "Source" 3 0 false "" "" 0, Go.Field.mk "Dest" 3 1 false "" "" 8, Go.Field.mk "Seq" 24 2 false "" "" 16, Go.Field.mk "Created" 3 3 false "" "" 24, Go.Field.mk "Lifetime" 3 4 false "" "" 32, Go.Field.mk "HopLimit" 3 5 false "" "" 40, Go.Field.mk "Hops" 3 6 false "" "" 48, Go.Field.mk "Priority" 3 7 false "" "" 56, Go.Field.mk "Offset" 3 8 false "" "" 64, Go.Field.mk "Total" 3 9 false "" "" 72, Go.Field.mk "Payload" 22 10 false "" "" 80])) := by kernel_rfl
@[simp] theorem i_26 : Tryd.prog.info? 26 = some (inf 26) := by kernel_rfl
@[simp] theorem is_26 : (inf 26).size = 11 := by kernel_rfl
@[simp] theorem ib_26 : (inf 26).bytes = 104 := by kernel_rfl
@[simp] theorem iz_26 : zeroRow (inf 26) = Option.some [V.p (Go.Value.int Go.IntKind.i64 0), V.p (Go.Value.int Go.IntKind.i64 0), V.p (Go.Value.int Go.IntKind.u32 0), V.p (Go.Value.int Go.IntKind.i64 0), V.p (Go.Value.int Go.IntKind.i64 0), V.p (Go.Value.int Go.IntKind.i64 0), V.p (Go.Value.int Go.IntKind.i64 0), V.p (Go.Value.int Go.IntKind.i64 0), V.p (Go.Value.int Go.IntKind.i64 0), V.p (Go.Value.int Go.IntKind.i64 0), V.nil] := by kernel_rfl
@[simp] theorem u_43 : Tryd.prog.underlying 43 = Option.some (Go.TypeDesc.struct (Array.mk [Go.Field.mk "Source" 3 0 false "" "" 0, Go.Field.mk "Seq" 24 1 false "" "" 8])) := by kernel_rfl
@[simp] theorem i_43 : Tryd.prog.info? 43 = some (inf 43) := by kernel_rfl
@[simp] theorem is_43 : (inf 43).size = 2 := by kernel_rfl
@[simp] theorem ib_43 : (inf 43).bytes = 16 := by kernel_rfl
@[simp] theorem iz_43 : zeroRow (inf 43) = Option.some [V.p (Go.Value.int Go.IntKind.i64 0), V.p (Go.Value.int Go.IntKind.u32 0)] := by kernel_rfl
@[simp] theorem ag_43 : (Tryd.prog.eqGuardType Tryd.prog.depth 43 || Tryd.prog.stoodInHeld 43) = false := by kernel_rfl
@[simp] theorem bl_43 (σ : St) (ps : List (Nat × Operand)) : buildV Tryd.prog σ 43 ps = (fillL [(0, 1), (1, 1)] [V.p (Go.Value.int Go.IntKind.i64 0), V.p (Go.Value.int Go.IntKind.u32 0)] (evL σ ps)).map .agg := build_eval i_43 iz_43 u_43 (by kernel_rfl)
@[simp] theorem u_86 : Tryd.prog.underlying 86 = Option.some (Go.TypeDesc.struct (Array.mk [Go.Field.mk "source" 3 0 false "" "heliograph/bundle" 0, Go.Field.mk "dest" 3 1 false "" "heliograph/bundle" 8, Go.Field.mk "created" 3 2 false "" "heliograph/bundle" 16, Go.Field.mk "life" 3 3 false "" "heliograph/bundle" 24, Go.Field.mk "limit" 3 4 false "" "heliograph/bundle" 32, Go.Field.mk "hops" 3 5 false "" "heliograph/bundle" 40, Go.Field.mk "priority" 3 6 false "" "heliograph/bundle" 48, Go.Field.mk "offset" 3 7 false "" "heliograph/bundle" 56, Go.Field.mk "total" 3 8 false "" "heliograph/bundle" 64, Go.Field.mk "seq" 24 9 false "" "heliograph/bundle" 72])) := by kernel_rfl
@[simp] theorem i_86 : Tryd.prog.info? 86 = some (inf 86) := by kernel_rfl
@[simp] theorem is_86 : (inf 86).size = 10 := by kernel_rfl
@[simp] theorem ib_86 : (inf 86).bytes = 80 := by kernel_rfl
@[simp] theorem iz_86 : zeroRow (inf 86) = Option.some [V.p (Go.Value.int Go.IntKind.i64 0), V.p (Go.Value.int Go.IntKind.i64 0), V.p (Go.Value.int Go.IntKind.i64 0), V.p (Go.Value.int Go.IntKind.i64 0), V.p (Go.Value.int Go.IntKind.i64 0), V.p (Go.Value.int Go.IntKind.i64 0), V.p (Go.Value.int Go.IntKind.i64 0), V.p (Go.Value.int Go.IntKind.i64 0), V.p (Go.Value.int Go.IntKind.i64 0), V.p (Go.Value.int Go.IntKind.u32 0)] := by kernel_rfl
@[simp] theorem ag_86 : (Tryd.prog.eqGuardType Tryd.prog.depth 86 || Tryd.prog.stoodInHeld 86) = false := by kernel_rfl
@[simp] theorem bl_86 (σ : St) (ps : List (Nat × Operand)) : buildV Tryd.prog σ 86 ps = (fillL [(0, 1), (1, 1), (2, 1), (3, 1), (4, 1), (5, 1), (6, 1), (7, 1), (8, 1), (9, 1)] [V.p (Go.Value.int Go.IntKind.i64 0), V.p (Go.Value.int Go.IntKind.i64 0), V.p (Go.Value.int Go.IntKind.i64 0), V.p (Go.Value.int Go.IntKind.i64 0), V.p (Go.Value.int Go.IntKind.i64 0), V.p (Go.Value.int Go.IntKind.i64 0), V.p (Go.Value.int Go.IntKind.i64 0), V.p (Go.Value.int Go.IntKind.i64 0), V.p (Go.Value.int Go.IntKind.i64 0), V.p (Go.Value.int Go.IntKind.u32 0)] (evL σ ps)).map .agg := build_eval i_86 iz_86 u_86 (by kernel_rfl)
@[simp] theorem gv (f : FuncId) : hints.gives f = [51, 67, 73, 74, 75, 76].contains f := rfl
@[simp] theorem hk_8_0 : hints.keep 8 0 = some [2, 3, 4] := rfl
@[simp] theorem hs_8_0 : hints.soft 8 0 = [] := rfl
@[simp] theorem hz_8_0 : hints.frz 8 0 = [] := rfl
@[simp] theorem hk_8_1 : hints.keep 8 1 = some [2, 3, 4, 8] := rfl
@[simp] theorem hs_8_1 : hints.soft 8 1 = [] := rfl
@[simp] theorem hz_8_1 : hints.frz 8 1 = [] := rfl
@[simp] theorem hk_8_2 : hints.keep 8 2 = some [6] := rfl
@[simp] theorem hs_8_2 : hints.soft 8 2 = [] := rfl
@[simp] theorem hz_8_2 : hints.frz 8 2 = [] := rfl
@[simp] theorem hk_8_3 : hints.keep 8 3 = some [2, 3, 4, 18] := rfl
@[simp] theorem hs_8_3 : hints.soft 8 3 = [] := rfl
@[simp] theorem hz_8_3 : hints.frz 8 3 = [] := rfl
@[simp] theorem hk_8_4 : hints.keep 8 4 = some [6] := rfl
@[simp] theorem hs_8_4 : hints.soft 8 4 = [] := rfl
@[simp] theorem hz_8_4 : hints.frz 8 4 = [] := rfl
@[simp] theorem hk_8_5 : hints.keep 8 5 = some [2, 3, 32] := rfl
@[simp] theorem hs_8_5 : hints.soft 8 5 = [] := rfl
@[simp] theorem hz_8_5 : hints.frz 8 5 = [] := rfl
@[simp] theorem hk_8_6 : hints.keep 8 6 = some [6] := rfl
@[simp] theorem hs_8_6 : hints.soft 8 6 = [] := rfl
@[simp] theorem hz_8_6 : hints.frz 8 6 = [] := rfl
@[simp] theorem hk_8_7 : hints.keep 8 7 = some [2, 3, 51] := rfl
@[simp] theorem hs_8_7 : hints.soft 8 7 = [] := rfl
@[simp] theorem hz_8_7 : hints.frz 8 7 = [] := rfl
@[simp] theorem hk_8_8 : hints.keep 8 8 = some [6] := rfl
@[simp] theorem hs_8_8 : hints.soft 8 8 = [] := rfl
@[simp] theorem hz_8_8 : hints.frz 8 8 = [] := rfl
@[simp] theorem hk_8_9 : hints.keep 8 9 = some [6] := rfl
@[simp] theorem hs_8_9 : hints.soft 8 9 = [] := rfl
@[simp] theorem hz_8_9 : hints.frz 8 9 = [] := rfl
@[simp] theorem hk_12_0 : hints.keep 12 0 = some [2, 3] := rfl
@[simp] theorem hs_12_0 : hints.soft 12 0 = [] := rfl
@[simp] theorem hz_12_0 : hints.frz 12 0 = [] := rfl
@[simp] theorem hk_12_1 : hints.keep 12 1 = some [4] := rfl
@[simp] theorem hs_12_1 : hints.soft 12 1 = [] := rfl
@[simp] theorem hz_12_1 : hints.frz 12 1 = [] := rfl
@[simp] theorem hk_13_0 : hints.keep 13 0 = some [1, 2] := rfl
@[simp] theorem hs_13_0 : hints.soft 13 0 = [(2, some 10, 1, some (700000, 5))] := rfl
@[simp] theorem hz_13_0 : hints.frz 13 0 = [] := rfl
@[simp] theorem hk_13_1 : hints.keep 13 1 = some [1, 2] := rfl
@[simp] theorem hs_13_1 : hints.soft 13 1 = [] := rfl
@[simp] theorem hz_13_1 : hints.frz 13 1 = [] := rfl
@[simp] theorem hk_13_2 : hints.keep 13 2 = some [2] := rfl
@[simp] theorem hs_13_2 : hints.soft 13 2 = [] := rfl
@[simp] theorem hz_13_2 : hints.frz 13 2 = [] := rfl
@[simp] theorem hk_15_0 : hints.keep 15 0 = some [1] := rfl
@[simp] theorem hs_15_0 : hints.soft 15 0 = [] := rfl
@[simp] theorem hz_15_0 : hints.frz 15 0 = [] := rfl
@[simp] theorem hk_15_1 : hints.keep 15 1 = some [1, 45] := rfl
@[simp] theorem hs_15_1 : hints.soft 15 1 = [] := rfl
@[simp] theorem hz_15_1 : hints.frz 15 1 = [] := rfl
@[simp] theorem hk_15_2 : hints.keep 15 2 = some [2] := rfl
@[simp] theorem hs_15_2 : hints.soft 15 2 = [] := rfl
@[simp] theorem hz_15_2 : hints.frz 15 2 = [] := rfl
@[simp] theorem hk_15_3 : hints.keep 15 3 = some [1, 85] := rfl
@[simp] theorem hs_15_3 : hints.soft 15 3 = [] := rfl
@[simp] theorem hz_15_3 : hints.frz 15 3 = [] := rfl
@[simp] theorem hk_15_4 : hints.keep 15 4 = some [2] := rfl
@[simp] theorem hs_15_4 : hints.soft 15 4 = [] := rfl
@[simp] theorem hz_15_4 : hints.frz 15 4 = [] := rfl
@[simp] theorem hk_15_5 : hints.keep 15 5 = some [2] := rfl
@[simp] theorem hs_15_5 : hints.soft 15 5 = [] := rfl
@[simp] theorem hz_15_5 : hints.frz 15 5 = [] := rfl
@[simp] theorem hk_16_0 : hints.keep 16 0 = some [1] := rfl
@[simp] theorem hs_16_0 : hints.soft 16 0 = [] := rfl
@[simp] theorem hz_16_0 : hints.frz 16 0 = [] := rfl
@[simp] theorem hk_16_1 : hints.keep 16 1 = some [1, 3] := rfl
@[simp] theorem hs_16_1 : hints.soft 16 1 = [] := rfl
@[simp] theorem hz_16_1 : hints.frz 16 1 = [] := rfl
@[simp] theorem hk_16_2 : hints.keep 16 2 = some [1, 3] := rfl
@[simp] theorem hs_16_2 : hints.soft 16 2 = [] := rfl
@[simp] theorem hz_16_2 : hints.frz 16 2 = [] := rfl
@[simp] theorem hk_16_3 : hints.keep 16 3 = some [1, 3] := rfl
@[simp] theorem hs_16_3 : hints.soft 16 3 = [] := rfl
@[simp] theorem hz_16_3 : hints.frz 16 3 = [] := rfl
@[simp] theorem hk_16_4 : hints.keep 16 4 = some [3] := rfl
@[simp] theorem hs_16_4 : hints.soft 16 4 = [] := rfl
@[simp] theorem hz_16_4 : hints.frz 16 4 = [] := rfl
@[simp] theorem hk_16_5 : hints.keep 16 5 = some [72] := rfl
@[simp] theorem hs_16_5 : hints.soft 16 5 = [] := rfl
@[simp] theorem hz_16_5 : hints.frz 16 5 = [] := rfl
@[simp] theorem hk_16_6 : hints.keep 16 6 = some [2] := rfl
@[simp] theorem hs_16_6 : hints.soft 16 6 = [] := rfl
@[simp] theorem hz_16_6 : hints.frz 16 6 = [] := rfl
@[simp] theorem hk_16_7 : hints.keep 16 7 = some [2] := rfl
@[simp] theorem hs_16_7 : hints.soft 16 7 = [] := rfl
@[simp] theorem hz_16_7 : hints.frz 16 7 = [] := rfl
@[simp] theorem hk_19_0 : hints.keep 19 0 = some [0, 1] := rfl
@[simp] theorem hs_19_0 : hints.soft 19 0 = [] := rfl
@[simp] theorem hz_19_0 : hints.frz 19 0 = [] := rfl
@[simp] theorem hk_19_1 : hints.keep 19 1 = some [0, 1, 10] := rfl
@[simp] theorem hs_19_1 : hints.soft 19 1 = [] := rfl
@[simp] theorem hz_19_1 : hints.frz 19 1 = [] := rfl
@[simp] theorem hk_19_2 : hints.keep 19 2 = some [4] := rfl
@[simp] theorem hs_19_2 : hints.soft 19 2 = [] := rfl
@[simp] theorem hz_19_2 : hints.frz 19 2 = [] := rfl
@[simp] theorem hk_19_3 : hints.keep 19 3 = some [0, 1, 5] := rfl
@[simp] theorem hs_19_3 : hints.soft 19 3 = [] := rfl
@[simp] theorem hz_19_3 : hints.frz 19 3 = [] := rfl
@[simp] theorem hk_19_4 : hints.keep 19 4 = some [0, 1, 5, 14] := rfl
@[simp] theorem hh_19_4 : hints.head 19 4 = some [0, 1, 5] := rfl
@[simp] theorem hc_19_4 : hints.canon 19 4 = [] := rfl
@[simp] theorem hs_19_4 : hints.soft 19 4 = [] := rfl
@[simp] theorem hz_19_4 : hints.frz 19 4 = [] := rfl
@[simp] theorem hk_19_5 : hints.keep 19 5 = some [0, 1, 5] := rfl
@[simp] theorem hs_19_5 : hints.soft 19 5 = [] := rfl
@[simp] theorem hz_19_5 : hints.frz 19 5 = [] := rfl
@[simp] theorem hk_19_6 : hints.keep 19 6 = some [0, 1, 5, 25] := rfl
@[simp] theorem hs_19_6 : hints.soft 19 6 = [] := rfl
@[simp] theorem hz_19_6 : hints.frz 19 6 = [] := rfl
@[simp] theorem hk_19_7 : hints.keep 19 7 = some [4] := rfl
@[simp] theorem hs_19_7 : hints.soft 19 7 = [] := rfl
@[simp] theorem hz_19_7 : hints.frz 19 7 = [] := rfl
@[simp] theorem hk_19_8 : hints.keep 19 8 = some [4] := rfl
@[simp] theorem hs_19_8 : hints.soft 19 8 = [] := rfl
@[simp] theorem hz_19_8 : hints.frz 19 8 = [] := rfl
@[simp] theorem hk_20_0 : hints.keep 20 0 = some [2, 3] := rfl
@[simp] theorem hs_20_0 : hints.soft 20 0 = [] := rfl
@[simp] theorem hz_20_0 : hints.frz 20 0 = [] := rfl
@[simp] theorem hk_20_1 : hints.keep 20 1 = some [2, 3, 5, 6] := rfl
@[simp] theorem hs_20_1 : hints.soft 20 1 = [] := rfl
@[simp] theorem hz_20_1 : hints.frz 20 1 = [] := rfl
@[simp] theorem hk_20_2 : hints.keep 20 2 = some [2, 3, 5, 6] := rfl
@[simp] theorem hs_20_2 : hints.soft 20 2 = [(5, some 10, 1, none), (6, some 10, 1, none)] := rfl
@[simp] theorem hz_20_2 : hints.frz 20 2 = [] := rfl
@[simp] theorem hk_20_3 : hints.keep 20 3 = some [4] := rfl
@[simp] theorem hs_20_3 : hints.soft 20 3 = [] := rfl
@[simp] theorem hz_20_3 : hints.frz 20 3 = [] := rfl
@[simp] theorem hk_21_0 : hints.keep 21 0 = some [0, 1] := rfl
@[simp] theorem hs_21_0 : hints.soft 21 0 = [] := rfl
@[simp] theorem hz_21_0 : hints.frz 21 0 = [] := rfl
@[simp] theorem hk_21_1 : hints.keep 21 1 = some [4] := rfl
@[simp] theorem hs_21_1 : hints.soft 21 1 = [] := rfl
@[simp] theorem hz_21_1 : hints.frz 21 1 = [] := rfl
@[simp] theorem hk_22_0 : hints.keep 22 0 = some [1, 2] := rfl
@[simp] theorem hs_22_0 : hints.soft 22 0 = [] := rfl
@[simp] theorem hz_22_0 : hints.frz 22 0 = [] := rfl
@[simp] theorem hk_22_1 : hints.keep 22 1 = some [2] := rfl
@[simp] theorem hs_22_1 : hints.soft 22 1 = [] := rfl
@[simp] theorem hz_22_1 : hints.frz 22 1 = [] := rfl
@[simp] theorem hk_23_0 : hints.keep 23 0 = some [1] := rfl
@[simp] theorem hs_23_0 : hints.soft 23 0 = [] := rfl
@[simp] theorem hz_23_0 : hints.frz 23 0 = [] := rfl
@[simp] theorem hk_23_1 : hints.keep 23 1 = some [2] := rfl
@[simp] theorem hs_23_1 : hints.soft 23 1 = [] := rfl
@[simp] theorem hz_23_1 : hints.frz 23 1 = [] := rfl
@[simp] theorem hk_24_0 : hints.keep 24 0 = some [1, 2] := rfl
@[simp] theorem hs_24_0 : hints.soft 24 0 = [] := rfl
@[simp] theorem hz_24_0 : hints.frz 24 0 = [] := rfl
@[simp] theorem hk_24_1 : hints.keep 24 1 = some [4] := rfl
@[simp] theorem hs_24_1 : hints.soft 24 1 = [] := rfl
@[simp] theorem hz_24_1 : hints.frz 24 1 = [] := rfl
@[simp] theorem hk_38_0 : hints.keep 38 0 = some [0, 1, 2] := rfl
@[simp] theorem hs_38_0 : hints.soft 38 0 = [] := rfl
@[simp] theorem hz_38_0 : hints.frz 38 0 = [] := rfl
@[simp] theorem hk_38_1 : hints.keep 38 1 = some [6] := rfl
@[simp] theorem hs_38_1 : hints.soft 38 1 = [] := rfl
@[simp] theorem hz_38_1 : hints.frz 38 1 = [] := rfl
@[simp] theorem hk_42_0 : hints.keep 42 0 = some [2, 3] := rfl
@[simp] theorem hs_42_0 : hints.soft 42 0 = [] := rfl
@[simp] theorem hz_42_0 : hints.frz 42 0 = [] := rfl
@[simp] theorem hk_42_1 : hints.keep 42 1 = some [2, 3, 5] := rfl
@[simp] theorem hs_42_1 : hints.soft 42 1 = [] := rfl
@[simp] theorem hz_42_1 : hints.frz 42 1 = [] := rfl
@[simp] theorem hk_42_2 : hints.keep 42 2 = some [4] := rfl
@[simp] theorem hs_42_2 : hints.soft 42 2 = [] := rfl
@[simp] theorem hz_42_2 : hints.frz 42 2 = [] := rfl
@[simp] theorem hk_43_0 : hints.keep 43 0 = some [0, 1] := rfl
@[simp] theorem hs_43_0 : hints.soft 43 0 = [] := rfl
@[simp] theorem hz_43_0 : hints.frz 43 0 = [] := rfl
@[simp] theorem hk_43_1 : hints.keep 43 1 = some [0, 1, 10] := rfl
@[simp] theorem hs_43_1 : hints.soft 43 1 = [] := rfl
@[simp] theorem hz_43_1 : hints.frz 43 1 = [] := rfl
@[simp] theorem hk_43_2 : hints.keep 43 2 = some [4] := rfl
@[simp] theorem hs_43_2 : hints.soft 43 2 = [] := rfl
@[simp] theorem hz_43_2 : hints.frz 43 2 = [] := rfl
@[simp] theorem hk_43_3 : hints.keep 43 3 = some [0, 1, 12, 13] := rfl
@[simp] theorem hs_43_3 : hints.soft 43 3 = [] := rfl
@[simp] theorem hz_43_3 : hints.frz 43 3 = [] := rfl
@[simp] theorem hk_43_4 : hints.keep 43 4 = some [0, 1, 12, 13, 14] := rfl
@[simp] theorem hh_43_4 : hints.head 43 4 = some [0, 1, 12, 13] := rfl
@[simp] theorem hc_43_4 : hints.canon 43 4 = [] := rfl
@[simp] theorem hs_43_4 : hints.soft 43 4 = [] := rfl
@[simp] theorem hz_43_4 : hints.frz 43 4 = [] := rfl
@[simp] theorem hk_43_5 : hints.keep 43 5 = some [0, 1, 5, 12, 13] := rfl
@[simp] theorem hs_43_5 : hints.soft 43 5 = [] := rfl
@[simp] theorem hz_43_5 : hints.frz 43 5 = [] := rfl
@[simp] theorem hk_43_6 : hints.keep 43 6 = some [0, 1, 12, 13, 24] := rfl
@[simp] theorem hs_43_6 : hints.soft 43 6 = [] := rfl
@[simp] theorem hz_43_6 : hints.frz 43 6 = [] := rfl
@[simp] theorem hk_43_7 : hints.keep 43 7 = some [4] := rfl
@[simp] theorem hs_43_7 : hints.soft 43 7 = [] := rfl
@[simp] theorem hz_43_7 : hints.frz 43 7 = [] := rfl
@[simp] theorem hk_43_8 : hints.keep 43 8 = some [0, 1, 12, 13] := rfl
@[simp] theorem hs_43_8 : hints.soft 43 8 = [] := rfl
@[simp] theorem hz_43_8 : hints.frz 43 8 = [] := rfl
@[simp] theorem hk_43_9 : hints.keep 43 9 = some [4] := rfl
@[simp] theorem hs_43_9 : hints.soft 43 9 = [] := rfl
@[simp] theorem hz_43_9 : hints.frz 43 9 = [] := rfl
@[simp] theorem hk_59_0 : hints.keep 59 0 = some [1, 2] := rfl
@[simp] theorem hs_59_0 : hints.soft 59 0 = [] := rfl
@[simp] theorem hz_59_0 : hints.frz 59 0 = [] := rfl
@[simp] theorem hk_59_1 : hints.keep 59 1 = some [2] := rfl
@[simp] theorem hs_59_1 : hints.soft 59 1 = [] := rfl
@[simp] theorem hz_59_1 : hints.frz 59 1 = [] := rfl
end Go.Proofs.YtbnnmplkbpgcaaaDoorV
