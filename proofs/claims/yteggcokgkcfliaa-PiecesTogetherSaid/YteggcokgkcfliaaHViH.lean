/- The value interpreter's hints and the types' facts for this seat, one by one. -/
import Derived.Test.YteggcokgkcfliaaHViS
import Derived.Test.YteggcokgkcfliaaHVi26
namespace Go.Proofs.YteggcokgkcfliaaV
open Go
set_option linter.unusedVariables false
noncomputable def inf (t : TypeId) : TypeInfo := (Try.prog.info? t).getD ((Try.prog.info? 3).get (by kernel_rfl))
@[simp] theorem u_3 : Try.prog.underlying 3 = Option.some (Go.TypeDesc.int Go.IntKind.i64) := by kernel_rfl
@[simp] theorem i_3 : Try.prog.info? 3 = some (inf 3) := by kernel_rfl
@[simp] theorem is_3 : (inf 3).size = 1 := by kernel_rfl
@[simp] theorem ib_3 : (inf 3).bytes = 8 := by kernel_rfl
@[simp] theorem iz_3 : zeroRow (inf 3) = Option.some [V.p (Go.Value.int Go.IntKind.i64 0)] := by kernel_rfl
@[simp] theorem u_4 : Try.prog.underlying 4 = Option.some Go.TypeDesc.bool := by kernel_rfl
@[simp] theorem i_4 : Try.prog.info? 4 = some (inf 4) := by kernel_rfl
@[simp] theorem is_4 : (inf 4).size = 1 := by kernel_rfl
@[simp] theorem ib_4 : (inf 4).bytes = 1 := by kernel_rfl
@[simp] theorem iz_4 : zeroRow (inf 4) = Option.some [V.p (Go.Value.bool false)] := by kernel_rfl
@[simp] theorem u_5 : Try.prog.underlying 5 = Option.some (Go.TypeDesc.int Go.IntKind.u8) := by kernel_rfl
@[simp] theorem i_5 : Try.prog.info? 5 = some (inf 5) := by kernel_rfl
@[simp] theorem is_5 : (inf 5).size = 1 := by kernel_rfl
@[simp] theorem ib_5 : (inf 5).bytes = 1 := by kernel_rfl
@[simp] theorem iz_5 : zeroRow (inf 5) = Option.some [V.p (Go.Value.int Go.IntKind.u8 0)] := by kernel_rfl
@[simp] theorem sm_5 : slotMs Try.prog 8 5 = [0] := by kernel_rfl
@[simp] theorem u_9 : Try.prog.underlying 9 = Option.some Go.TypeDesc.string := by kernel_rfl
@[simp] theorem i_9 : Try.prog.info? 9 = some (inf 9) := by kernel_rfl
@[simp] theorem is_9 : (inf 9).size = 1 := by kernel_rfl
@[simp] theorem ib_9 : (inf 9).bytes = 16 := by kernel_rfl
@[simp] theorem iz_9 : zeroRow (inf 9) = Option.some [V.p (Go.Value.string (ByteArray.mk (Array.mk [])))] := by kernel_rfl
@[simp] theorem u_22 : Try.prog.underlying 22 = Option.some (Go.TypeDesc.int Go.IntKind.u32) := by kernel_rfl
@[simp] theorem i_22 : Try.prog.info? 22 = some (inf 22) := by kernel_rfl
@[simp] theorem is_22 : (inf 22).size = 1 := by kernel_rfl
@[simp] theorem ib_22 : (inf 22).bytes = 4 := by kernel_rfl
@[simp] theorem iz_22 : zeroRow (inf 22) = Option.some [V.p (Go.Value.int Go.IntKind.u32 0)] := by kernel_rfl
@[simp] theorem u_23 : Try.prog.underlying 23 = Option.some (Go.TypeDesc.slice 5) := by kernel_rfl
@[simp] theorem i_23 : Try.prog.info? 23 = some (inf 23) := by kernel_rfl
@[simp] theorem is_23 : (inf 23).size = 1 := by kernel_rfl
@[simp] theorem ib_23 : (inf 23).bytes = 24 := by kernel_rfl
@[simp] theorem iz_23 : zeroRow (inf 23) = Option.some [V.nil] := by kernel_rfl
@[simp] theorem u_25 : Try.prog.underlying 25 = Option.some (Go.TypeDesc.struct (Array.mk [Go.Field.mk "Source" 3 0 false "" "" 0, Go.Field.mk "Dest" 3 1 false "" "" 8, Go.Field.mk "Seq" 22 2 false "" "" 16, Go.Field.mk "Created" 3 3 false "" "" 24, Go.Field.mk "Lifetime" 3 4 false "" "" 32, Go.Field.mk "HopLimit" 3 5 false "" "" 40, Go.Field.mk "Hops" 3 6 false "" "" 48, Go.Field.mk "Priority" 3 7 false "" "" 56, Go.Field.mk "Offset" 3 8 false "" "" 64, Go.Field.mk "Total" 3 9 false "" "" 72, Go.Field.mk "Payload" 23 10 false "" "" 80])) := by kernel_rfl
@[simp] theorem i_25 : Try.prog.info? 25 = some (inf 25) := by kernel_rfl
@[simp] theorem is_25 : (inf 25).size = 11 := by kernel_rfl
@[simp] theorem ib_25 : (inf 25).bytes = 104 := by kernel_rfl
@[simp] theorem iz_25 : zeroRow (inf 25) = Option.some [V.p (Go.Value.int Go.IntKind.i64 0), V.p (Go.Value.int Go.IntKind.i64 0), V.p (Go.Value.int Go.IntKind.u32 0), V.p (Go.Value.int Go.IntKind.i64 0), V.p (Go.Value.int Go.IntKind.i64 0), V.p (Go.Value.int Go.IntKind.i64 0), V.p (Go.Value.int Go.IntKind.i64 0), V.p (Go.Value.int Go.IntKind.i64 0), V.p (Go.Value.int Go.IntKind.i64 0), V.p (Go.Value.int Go.IntKind.i64 0), V.nil] := by kernel_rfl
@[simp] theorem u_57 : Try.prog.underlying 57 = Option.some (Go.TypeDesc.pointer 3) := by kernel_rfl
@[simp] theorem i_57 : Try.prog.info? 57 = some (inf 57) := by kernel_rfl
@[simp] theorem is_57 : (inf 57).size = 1 := by kernel_rfl
@[simp] theorem ib_57 : (inf 57).bytes = 8 := by kernel_rfl
@[simp] theorem iz_57 : zeroRow (inf 57) = Option.some [V.p (Go.Value.pointer Option.none)] := by kernel_rfl
@[simp] theorem u_58 : Try.prog.underlying 58 = Option.some (Go.TypeDesc.array 2 57) := by kernel_rfl
@[simp] theorem i_58 : Try.prog.info? 58 = some (inf 58) := by kernel_rfl
@[simp] theorem is_58 : (inf 58).size = 2 := by kernel_rfl
@[simp] theorem ib_58 : (inf 58).bytes = 16 := by kernel_rfl
@[simp] theorem iz_58 : zeroRow (inf 58) = Option.some [V.p (Go.Value.pointer Option.none), V.p (Go.Value.pointer Option.none)] := by kernel_rfl
theorem bl_58 (σ : St) (ps : List (Nat × Operand)) : buildV Try.prog σ 58 ps = (fillA [V.p (Go.Value.pointer Option.none), V.p (Go.Value.pointer Option.none)] (evL σ ps)).map .agg := by rw [build_evalA i_58 iz_58 u_58 i_57]; simp only [is_57, Nat.mul_one]; rfl
@[simp] theorem u_59 : Try.prog.underlying 59 = Option.some (Go.TypeDesc.slice 58) := by kernel_rfl
@[simp] theorem i_59 : Try.prog.info? 59 = some (inf 59) := by kernel_rfl
@[simp] theorem is_59 : (inf 59).size = 1 := by kernel_rfl
@[simp] theorem ib_59 : (inf 59).bytes = 24 := by kernel_rfl
@[simp] theorem iz_59 : zeroRow (inf 59) = Option.some [V.nil] := by kernel_rfl
@[simp] theorem u_69 : Try.prog.underlying 69 = Option.some (Go.TypeDesc.struct (Array.mk [Go.Field.mk "source" 3 0 false "" "heliograph/bundle" 0, Go.Field.mk "dest" 3 1 false "" "heliograph/bundle" 8, Go.Field.mk "created" 3 2 false "" "heliograph/bundle" 16, Go.Field.mk "life" 3 3 false "" "heliograph/bundle" 24, Go.Field.mk "limit" 3 4 false "" "heliograph/bundle" 32, Go.Field.mk "hops" 3 5 false "" "heliograph/bundle" 40, Go.Field.mk "priority" 3 6 false "" "heliograph/bundle" 48, Go.Field.mk "offset" 3 7 false "" "heliograph/bundle" 56, Go.Field.mk "total" 3 8 false "" "heliograph/bundle" 64, Go.Field.mk "seq" 22 9 false "" "heliograph/bundle" 72])) := by kernel_rfl
@[simp] theorem i_69 : Try.prog.info? 69 = some (inf 69) := by kernel_rfl
@[simp] theorem is_69 : (inf 69).size = 10 := by kernel_rfl
@[simp] theorem ib_69 : (inf 69).bytes = 80 := by kernel_rfl
@[simp] theorem iz_69 : zeroRow (inf 69) = Option.some [V.p (Go.Value.int Go.IntKind.i64 0), V.p (Go.Value.int Go.IntKind.i64 0), V.p (Go.Value.int Go.IntKind.i64 0), V.p (Go.Value.int Go.IntKind.i64 0), V.p (Go.Value.int Go.IntKind.i64 0), V.p (Go.Value.int Go.IntKind.i64 0), V.p (Go.Value.int Go.IntKind.i64 0), V.p (Go.Value.int Go.IntKind.i64 0), V.p (Go.Value.int Go.IntKind.i64 0), V.p (Go.Value.int Go.IntKind.u32 0)] := by kernel_rfl
@[simp] theorem ag_69 : (Try.prog.eqGuardType Try.prog.depth 69 || Try.prog.stoodInHeld 69) = false := by kernel_rfl
@[simp] theorem bl_69 (σ : St) (ps : List (Nat × Operand)) : buildV Try.prog σ 69 ps = (fillL [(0, 1), (1, 1), (2, 1), (3, 1), (4, 1), (5, 1), (6, 1), (7, 1), (8, 1), (9, 1)] [V.p (Go.Value.int Go.IntKind.i64 0), V.p (Go.Value.int Go.IntKind.i64 0), V.p (Go.Value.int Go.IntKind.i64 0), V.p (Go.Value.int Go.IntKind.i64 0), V.p (Go.Value.int Go.IntKind.i64 0), V.p (Go.Value.int Go.IntKind.i64 0), V.p (Go.Value.int Go.IntKind.i64 0), V.p (Go.Value.int Go.IntKind.i64 0), V.p (Go.Value.int Go.IntKind.i64 0), V.p (Go.Value.int Go.IntKind.u32 0)] (evL σ ps)).map .agg := build_eval i_69 iz_69 u_69 (by kernel_rfl)
@[simp] theorem gv (f : FuncId) : hints.gives f = [].contains f := rfl
@[simp] theorem hk_4_0 : hints.keep 4 0 = some [2, 3] := rfl
@[simp] theorem hs_4_0 : hints.soft 4 0 = [] := rfl
@[simp] theorem hz_4_0 : hints.frz 4 0 = [] := rfl
@[simp] theorem hk_4_1 : hints.keep 4 1 = some [2, 3, 6] := rfl
@[simp] theorem hs_4_1 : hints.soft 4 1 = [] := rfl
@[simp] theorem hz_4_1 : hints.frz 4 1 = [] := rfl
@[simp] theorem hk_4_2 : hints.keep 4 2 = some [4] := rfl
@[simp] theorem hs_4_2 : hints.soft 4 2 = [] := rfl
@[simp] theorem hz_4_2 : hints.frz 4 2 = [] := rfl
@[simp] theorem hk_4_3 : hints.keep 4 3 = some [2, 3] := rfl
@[simp] theorem hs_4_3 : hints.soft 4 3 = [] := rfl
@[simp] theorem hz_4_3 : hints.frz 4 3 = [] := rfl
@[simp] theorem hk_4_4 : hints.keep 4 4 = some [4] := rfl
@[simp] theorem hs_4_4 : hints.soft 4 4 = [] := rfl
@[simp] theorem hz_4_4 : hints.frz 4 4 = [] := rfl
@[simp] theorem hk_10_0 : hints.keep 10 0 = some [1, 2] := rfl
@[simp] theorem hs_10_0 : hints.soft 10 0 = [(2, some 10, 1, some (700000, 5))] := rfl
@[simp] theorem hz_10_0 : hints.frz 10 0 = [] := rfl
@[simp] theorem hk_10_1 : hints.keep 10 1 = some [1, 2] := rfl
@[simp] theorem hs_10_1 : hints.soft 10 1 = [] := rfl
@[simp] theorem hz_10_1 : hints.frz 10 1 = [] := rfl
@[simp] theorem hk_10_2 : hints.keep 10 2 = some [2] := rfl
@[simp] theorem hs_10_2 : hints.soft 10 2 = [] := rfl
@[simp] theorem hz_10_2 : hints.frz 10 2 = [] := rfl
@[simp] theorem hk_12_0 : hints.keep 12 0 = some [1] := rfl
@[simp] theorem hs_12_0 : hints.soft 12 0 = [] := rfl
@[simp] theorem hz_12_0 : hints.frz 12 0 = [] := rfl
@[simp] theorem hk_12_1 : hints.keep 12 1 = some [1, 45] := rfl
@[simp] theorem hs_12_1 : hints.soft 12 1 = [] := rfl
@[simp] theorem hz_12_1 : hints.frz 12 1 = [] := rfl
@[simp] theorem hk_12_2 : hints.keep 12 2 = some [2] := rfl
@[simp] theorem hs_12_2 : hints.soft 12 2 = [] := rfl
@[simp] theorem hz_12_2 : hints.frz 12 2 = [] := rfl
@[simp] theorem hk_12_3 : hints.keep 12 3 = some [1, 85] := rfl
@[simp] theorem hs_12_3 : hints.soft 12 3 = [] := rfl
@[simp] theorem hz_12_3 : hints.frz 12 3 = [] := rfl
@[simp] theorem hk_12_4 : hints.keep 12 4 = some [2] := rfl
@[simp] theorem hs_12_4 : hints.soft 12 4 = [] := rfl
@[simp] theorem hz_12_4 : hints.frz 12 4 = [] := rfl
@[simp] theorem hk_12_5 : hints.keep 12 5 = some [2] := rfl
@[simp] theorem hs_12_5 : hints.soft 12 5 = [] := rfl
@[simp] theorem hz_12_5 : hints.frz 12 5 = [] := rfl
@[simp] theorem hk_15_0 : hints.keep 15 0 = some [2, 3] := rfl
@[simp] theorem hs_15_0 : hints.soft 15 0 = [] := rfl
@[simp] theorem hz_15_0 : hints.frz 15 0 = [] := rfl
@[simp] theorem hk_15_1 : hints.keep 15 1 = some [4] := rfl
@[simp] theorem hs_15_1 : hints.soft 15 1 = [] := rfl
@[simp] theorem hz_15_1 : hints.frz 15 1 = [] := rfl
@[simp] theorem hk_16_0 : hints.keep 16 0 = some [2, 3] := rfl
@[simp] theorem hs_16_0 : hints.soft 16 0 = [] := rfl
@[simp] theorem hz_16_0 : hints.frz 16 0 = [] := rfl
@[simp] theorem hk_16_1 : hints.keep 16 1 = some [2, 3, 17] := rfl
@[simp] theorem hs_16_1 : hints.soft 16 1 = [] := rfl
@[simp] theorem hz_16_1 : hints.frz 16 1 = [] := rfl
@[simp] theorem hk_16_2 : hints.keep 16 2 = some [4] := rfl
@[simp] theorem hs_16_2 : hints.soft 16 2 = [] := rfl
@[simp] theorem hz_16_2 : hints.frz 16 2 = [] := rfl
@[simp] theorem hk_16_3 : hints.keep 16 3 = some [2, 3, 5] := rfl
@[simp] theorem hs_16_3 : hints.soft 16 3 = [] := rfl
@[simp] theorem hz_16_3 : hints.frz 16 3 = [] := rfl
@[simp] theorem hk_16_4 : hints.keep 16 4 = some [2, 3, 5, 25, 26, 27] := rfl
@[simp] theorem hs_16_4 : hints.soft 16 4 = [] := rfl
@[simp] theorem hz_16_4 : hints.frz 16 4 = [] := rfl
@[simp] theorem hk_16_5 : hints.keep 16 5 = some [2, 3, 5, 25, 26, 27, 28] := rfl
@[simp] theorem hh_16_5 : hints.head 16 5 = some [2, 3, 5, 25, 26, 27] := rfl
@[simp] theorem hc_16_5 : hints.canon 16 5 = [] := rfl
@[simp] theorem hs_16_5 : hints.soft 16 5 = [] := rfl
@[simp] theorem hz_16_5 : hints.frz 16 5 = [] := rfl
@[simp] theorem hk_16_6 : hints.keep 16 6 = some [2, 3, 5, 7, 25, 26, 27] := rfl
@[simp] theorem hs_16_6 : hints.soft 16 6 = [] := rfl
@[simp] theorem hz_16_6 : hints.frz 16 6 = [] := rfl
@[simp] theorem hk_16_7 : hints.keep 16 7 = some [2, 3, 5, 25, 26, 27] := rfl
@[simp] theorem hs_16_7 : hints.soft 16 7 = [] := rfl
@[simp] theorem hz_16_7 : hints.frz 16 7 = [] := rfl
@[simp] theorem hk_16_8 : hints.keep 16 8 = some [2, 3, 5, 25, 26, 27] := rfl
@[simp] theorem hs_16_8 : hints.soft 16 8 = [] := rfl
@[simp] theorem hz_16_8 : hints.frz 16 8 = [] := rfl
@[simp] theorem hk_16_9 : hints.keep 16 9 = some [2, 3, 5] := rfl
@[simp] theorem hs_16_9 : hints.soft 16 9 = [] := rfl
@[simp] theorem hz_16_9 : hints.frz 16 9 = [] := rfl
@[simp] theorem hk_16_10 : hints.keep 16 10 = some [2, 3, 45] := rfl
@[simp] theorem hs_16_10 : hints.soft 16 10 = [] := rfl
@[simp] theorem hz_16_10 : hints.frz 16 10 = [] := rfl
@[simp] theorem hk_16_11 : hints.keep 16 11 = some [4] := rfl
@[simp] theorem hs_16_11 : hints.soft 16 11 = [] := rfl
@[simp] theorem hz_16_11 : hints.frz 16 11 = [] := rfl
@[simp] theorem hk_16_12 : hints.keep 16 12 = some [2, 3, 8, 9] := rfl
@[simp] theorem hs_16_12 : hints.soft 16 12 = [] := rfl
@[simp] theorem hz_16_12 : hints.frz 16 12 = [] := rfl
@[simp] theorem hk_16_13 : hints.keep 16 13 = some [4] := rfl
@[simp] theorem hs_16_13 : hints.soft 16 13 = [] := rfl
@[simp] theorem hz_16_13 : hints.frz 16 13 = [] := rfl
@[simp] theorem hk_17_0 : hints.keep 17 0 = some [2, 3] := rfl
@[simp] theorem hs_17_0 : hints.soft 17 0 = [] := rfl
@[simp] theorem hz_17_0 : hints.frz 17 0 = [] := rfl
@[simp] theorem hk_17_1 : hints.keep 17 1 = some [2, 3, 16] := rfl
@[simp] theorem hs_17_1 : hints.soft 17 1 = [] := rfl
@[simp] theorem hz_17_1 : hints.frz 17 1 = [] := rfl
@[simp] theorem hk_17_2 : hints.keep 17 2 = some [4] := rfl
@[simp] theorem hs_17_2 : hints.soft 17 2 = [] := rfl
@[simp] theorem hz_17_2 : hints.frz 17 2 = [] := rfl
@[simp] theorem hk_17_3 : hints.keep 17 3 = some [2, 3, 5] := rfl
@[simp] theorem hs_17_3 : hints.soft 17 3 = [] := rfl
@[simp] theorem hz_17_3 : hints.frz 17 3 = [] := rfl
@[simp] theorem hk_17_4 : hints.keep 17 4 = some [2, 3, 5] := rfl
@[simp] theorem hs_17_4 : hints.soft 17 4 = [] := rfl
@[simp] theorem hz_17_4 : hints.frz 17 4 = [] := rfl
@[simp] theorem hk_17_5 : hints.keep 17 5 = some [2, 3, 30] := rfl
@[simp] theorem hs_17_5 : hints.soft 17 5 = [] := rfl
@[simp] theorem hz_17_5 : hints.frz 17 5 = [] := rfl
@[simp] theorem hk_17_6 : hints.keep 17 6 = some [4] := rfl
@[simp] theorem hs_17_6 : hints.soft 17 6 = [] := rfl
@[simp] theorem hz_17_6 : hints.frz 17 6 = [] := rfl
@[simp] theorem hk_17_7 : hints.keep 17 7 = some [2, 3, 32, 33, 34] := rfl
@[simp] theorem hs_17_7 : hints.soft 17 7 = [] := rfl
@[simp] theorem hz_17_7 : hints.frz 17 7 = [] := rfl
@[simp] theorem hk_17_8 : hints.keep 17 8 = some [2, 3, 32, 33, 34, 35] := rfl
@[simp] theorem hh_17_8 : hints.head 17 8 = some [2, 3, 32, 33, 34] := rfl
@[simp] theorem hc_17_8 : hints.canon 17 8 = [] := rfl
@[simp] theorem hs_17_8 : hints.soft 17 8 = [] := rfl
@[simp] theorem hz_17_8 : hints.frz 17 8 = [] := rfl
@[simp] theorem hk_17_9 : hints.keep 17 9 = some [2, 3, 6, 7, 32, 33, 34] := rfl
@[simp] theorem hs_17_9 : hints.soft 17 9 = [] := rfl
@[simp] theorem hz_17_9 : hints.frz 17 9 = [] := rfl
@[simp] theorem hk_17_10 : hints.keep 17 10 = some [2, 3, 7, 8, 32, 33, 34] := rfl
@[simp] theorem hs_17_10 : hints.soft 17 10 = [] := rfl
@[simp] theorem hz_17_10 : hints.frz 17 10 = [] := rfl
@[simp] theorem hk_17_11 : hints.keep 17 11 = some [2, 3, 32, 33, 34, 63] := rfl
@[simp] theorem hs_17_11 : hints.soft 17 11 = [] := rfl
@[simp] theorem hz_17_11 : hints.frz 17 11 = [] := rfl
@[simp] theorem hk_17_12 : hints.keep 17 12 = some [4] := rfl
@[simp] theorem hs_17_12 : hints.soft 17 12 = [] := rfl
@[simp] theorem hz_17_12 : hints.frz 17 12 = [] := rfl
@[simp] theorem hk_17_13 : hints.keep 17 13 = some [2, 3, 32, 33, 34] := rfl
@[simp] theorem hs_17_13 : hints.soft 17 13 = [] := rfl
@[simp] theorem hz_17_13 : hints.frz 17 13 = [] := rfl
@[simp] theorem hk_17_14 : hints.keep 17 14 = some [4] := rfl
@[simp] theorem hs_17_14 : hints.soft 17 14 = [] := rfl
@[simp] theorem hz_17_14 : hints.frz 17 14 = [] := rfl
@[simp] theorem hk_20_0 : hints.keep 20 0 = some [2, 3] := rfl
@[simp] theorem hs_20_0 : hints.soft 20 0 = [(3, some 10, 1, none)] := rfl
@[simp] theorem hz_20_0 : hints.frz 20 0 = [] := rfl
@[simp] theorem hk_20_1 : hints.keep 20 1 = some [2, 3, 5, 6] := rfl
@[simp] theorem hs_20_1 : hints.soft 20 1 = [] := rfl
@[simp] theorem hz_20_1 : hints.frz 20 1 = [] := rfl
@[simp] theorem hk_20_2 : hints.keep 20 2 = some [2, 3, 5, 6] := rfl
@[simp] theorem hs_20_2 : hints.soft 20 2 = [(5, some 10, 1, none), (6, some 10, 1, none)] := rfl
@[simp] theorem hz_20_2 : hints.frz 20 2 = [] := rfl
@[simp] theorem hk_20_3 : hints.keep 20 3 = some [4] := rfl
@[simp] theorem hs_20_3 : hints.soft 20 3 = [] := rfl
@[simp] theorem hz_20_3 : hints.frz 20 3 = [] := rfl
@[simp] theorem hk_26_0 : hints.keep 26 0 = some [1] := rfl
@[simp] theorem hs_26_0 : hints.soft 26 0 = [] := rfl
@[simp] theorem hz_26_0 : hints.frz 26 0 = [] := rfl
@[simp] theorem hk_26_1 : hints.keep 26 1 = some [1, 3] := rfl
@[simp] theorem hs_26_1 : hints.soft 26 1 = [] := rfl
@[simp] theorem hz_26_1 : hints.frz 26 1 = [] := rfl
@[simp] theorem hk_26_2 : hints.keep 26 2 = some [1, 3] := rfl
@[simp] theorem hs_26_2 : hints.soft 26 2 = [] := rfl
@[simp] theorem hz_26_2 : hints.frz 26 2 = [] := rfl
@[simp] theorem hk_26_3 : hints.keep 26 3 = some [1, 3] := rfl
@[simp] theorem hs_26_3 : hints.soft 26 3 = [] := rfl
@[simp] theorem hz_26_3 : hints.frz 26 3 = [] := rfl
@[simp] theorem hk_26_4 : hints.keep 26 4 = some [3] := rfl
@[simp] theorem hs_26_4 : hints.soft 26 4 = [] := rfl
@[simp] theorem hz_26_4 : hints.frz 26 4 = [] := rfl
@[simp] theorem hk_26_5 : hints.keep 26 5 = some [72] := rfl
@[simp] theorem hs_26_5 : hints.soft 26 5 = [] := rfl
@[simp] theorem hz_26_5 : hints.frz 26 5 = [] := rfl
@[simp] theorem hk_26_6 : hints.keep 26 6 = some [2] := rfl
@[simp] theorem hs_26_6 : hints.soft 26 6 = [] := rfl
@[simp] theorem hz_26_6 : hints.frz 26 6 = [] := rfl
@[simp] theorem hk_26_7 : hints.keep 26 7 = some [2] := rfl
@[simp] theorem hs_26_7 : hints.soft 26 7 = [] := rfl
@[simp] theorem hz_26_7 : hints.frz 26 7 = [] := rfl
@[simp] theorem hk_29_0 : hints.keep 29 0 = some [0, 1] := rfl
@[simp] theorem hs_29_0 : hints.soft 29 0 = [] := rfl
@[simp] theorem hz_29_0 : hints.frz 29 0 = [] := rfl
@[simp] theorem hk_29_1 : hints.keep 29 1 = some [0, 1, 10] := rfl
@[simp] theorem hs_29_1 : hints.soft 29 1 = [] := rfl
@[simp] theorem hz_29_1 : hints.frz 29 1 = [] := rfl
@[simp] theorem hk_29_2 : hints.keep 29 2 = some [4] := rfl
@[simp] theorem hs_29_2 : hints.soft 29 2 = [] := rfl
@[simp] theorem hz_29_2 : hints.frz 29 2 = [] := rfl
@[simp] theorem hk_29_3 : hints.keep 29 3 = some [0, 1, 5] := rfl
@[simp] theorem hs_29_3 : hints.soft 29 3 = [] := rfl
@[simp] theorem hz_29_3 : hints.frz 29 3 = [] := rfl
@[simp] theorem hk_29_4 : hints.keep 29 4 = some [0, 1, 5, 14] := rfl
@[simp] theorem hh_29_4 : hints.head 29 4 = some [0, 1, 5] := rfl
@[simp] theorem hc_29_4 : hints.canon 29 4 = [] := rfl
@[simp] theorem hs_29_4 : hints.soft 29 4 = [] := rfl
@[simp] theorem hz_29_4 : hints.frz 29 4 = [] := rfl
@[simp] theorem hk_29_5 : hints.keep 29 5 = some [0, 1, 5] := rfl
@[simp] theorem hs_29_5 : hints.soft 29 5 = [] := rfl
@[simp] theorem hz_29_5 : hints.frz 29 5 = [] := rfl
@[simp] theorem hk_29_6 : hints.keep 29 6 = some [0, 1, 5, 25] := rfl
@[simp] theorem hs_29_6 : hints.soft 29 6 = [] := rfl
@[simp] theorem hz_29_6 : hints.frz 29 6 = [] := rfl
@[simp] theorem hk_29_7 : hints.keep 29 7 = some [4] := rfl
@[simp] theorem hs_29_7 : hints.soft 29 7 = [] := rfl
@[simp] theorem hz_29_7 : hints.frz 29 7 = [] := rfl
@[simp] theorem hk_29_8 : hints.keep 29 8 = some [4] := rfl
@[simp] theorem hs_29_8 : hints.soft 29 8 = [] := rfl
@[simp] theorem hz_29_8 : hints.frz 29 8 = [] := rfl
@[simp] theorem hk_30_0 : hints.keep 30 0 = some [0, 1] := rfl
@[simp] theorem hs_30_0 : hints.soft 30 0 = [] := rfl
@[simp] theorem hz_30_0 : hints.frz 30 0 = [] := rfl
@[simp] theorem hk_30_1 : hints.keep 30 1 = some [4] := rfl
@[simp] theorem hs_30_1 : hints.soft 30 1 = [] := rfl
@[simp] theorem hz_30_1 : hints.frz 30 1 = [] := rfl
@[simp] theorem hk_33_0 : hints.keep 33 0 = some [0, 1] := rfl
@[simp] theorem hs_33_0 : hints.soft 33 0 = [] := rfl
@[simp] theorem hz_33_0 : hints.frz 33 0 = [] := rfl
@[simp] theorem hk_33_1 : hints.keep 33 1 = some [4] := rfl
@[simp] theorem hs_33_1 : hints.soft 33 1 = [] := rfl
@[simp] theorem hz_33_1 : hints.frz 33 1 = [] := rfl
@[simp] theorem hk_34_0 : hints.keep 34 0 = some [2, 3] := rfl
@[simp] theorem hs_34_0 : hints.soft 34 0 = [] := rfl
@[simp] theorem hz_34_0 : hints.frz 34 0 = [] := rfl
@[simp] theorem hk_34_1 : hints.keep 34 1 = some [2, 3, 5] := rfl
@[simp] theorem hs_34_1 : hints.soft 34 1 = [] := rfl
@[simp] theorem hz_34_1 : hints.frz 34 1 = [] := rfl
@[simp] theorem hk_34_2 : hints.keep 34 2 = some [4] := rfl
@[simp] theorem hs_34_2 : hints.soft 34 2 = [] := rfl
@[simp] theorem hz_34_2 : hints.frz 34 2 = [] := rfl
@[simp] theorem hk_36_0 : hints.keep 36 0 = some [0, 1, 2] := rfl
@[simp] theorem hs_36_0 : hints.soft 36 0 = [] := rfl
@[simp] theorem hz_36_0 : hints.frz 36 0 = [] := rfl
@[simp] theorem hk_36_1 : hints.keep 36 1 = some [6] := rfl
@[simp] theorem hs_36_1 : hints.soft 36 1 = [] := rfl
@[simp] theorem hz_36_1 : hints.frz 36 1 = [] := rfl
@[simp] theorem hk_38_0 : hints.keep 38 0 = some [0, 1] := rfl
@[simp] theorem hs_38_0 : hints.soft 38 0 = [] := rfl
@[simp] theorem hz_38_0 : hints.frz 38 0 = [] := rfl
@[simp] theorem hk_38_1 : hints.keep 38 1 = some [0, 1, 10] := rfl
@[simp] theorem hs_38_1 : hints.soft 38 1 = [] := rfl
@[simp] theorem hz_38_1 : hints.frz 38 1 = [] := rfl
@[simp] theorem hk_38_2 : hints.keep 38 2 = some [4] := rfl
@[simp] theorem hs_38_2 : hints.soft 38 2 = [] := rfl
@[simp] theorem hz_38_2 : hints.frz 38 2 = [] := rfl
@[simp] theorem hk_38_3 : hints.keep 38 3 = some [0, 1, 12, 13] := rfl
@[simp] theorem hs_38_3 : hints.soft 38 3 = [] := rfl
@[simp] theorem hz_38_3 : hints.frz 38 3 = [] := rfl
@[simp] theorem hk_38_4 : hints.keep 38 4 = some [0, 1, 12, 13, 14] := rfl
@[simp] theorem hh_38_4 : hints.head 38 4 = some [0, 1, 12, 13] := rfl
@[simp] theorem hc_38_4 : hints.canon 38 4 = [] := rfl
@[simp] theorem hs_38_4 : hints.soft 38 4 = [] := rfl
@[simp] theorem hz_38_4 : hints.frz 38 4 = [] := rfl
@[simp] theorem hk_38_5 : hints.keep 38 5 = some [0, 1, 5, 12, 13] := rfl
@[simp] theorem hs_38_5 : hints.soft 38 5 = [] := rfl
@[simp] theorem hz_38_5 : hints.frz 38 5 = [] := rfl
@[simp] theorem hk_38_6 : hints.keep 38 6 = some [0, 1, 12, 13, 24] := rfl
@[simp] theorem hs_38_6 : hints.soft 38 6 = [] := rfl
@[simp] theorem hz_38_6 : hints.frz 38 6 = [] := rfl
@[simp] theorem hk_38_7 : hints.keep 38 7 = some [4] := rfl
@[simp] theorem hs_38_7 : hints.soft 38 7 = [] := rfl
@[simp] theorem hz_38_7 : hints.frz 38 7 = [] := rfl
@[simp] theorem hk_38_8 : hints.keep 38 8 = some [0, 1, 12, 13] := rfl
@[simp] theorem hs_38_8 : hints.soft 38 8 = [] := rfl
@[simp] theorem hz_38_8 : hints.frz 38 8 = [] := rfl
@[simp] theorem hk_38_9 : hints.keep 38 9 = some [4] := rfl
@[simp] theorem hs_38_9 : hints.soft 38 9 = [] := rfl
@[simp] theorem hz_38_9 : hints.frz 38 9 = [] := rfl
@[simp] theorem hk_39_0 : hints.keep 39 0 = some [1, 2] := rfl
@[simp] theorem hs_39_0 : hints.soft 39 0 = [] := rfl
@[simp] theorem hz_39_0 : hints.frz 39 0 = [] := rfl
@[simp] theorem hk_39_1 : hints.keep 39 1 = some [2] := rfl
@[simp] theorem hs_39_1 : hints.soft 39 1 = [] := rfl
@[simp] theorem hz_39_1 : hints.frz 39 1 = [] := rfl
end Go.Proofs.YteggcokgkcfliaaV
