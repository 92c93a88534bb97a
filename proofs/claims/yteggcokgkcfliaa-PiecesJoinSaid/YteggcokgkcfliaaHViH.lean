/- The value interpreter's hints and the types' facts for this seat, one by one. -/
import Derived.Test.YteggcokgkcfliaaHViS
import Derived.Test.YteggcokgkcfliaaHVi26
namespace Go.Proofs.YteggcokgkcfliaaV
open Go
set_option linter.unusedVariables false
noncomputable def inf (t : TypeId) : TypeInfo := (Try.prog.info? t).getD ((Try.prog.info? 3).get (by kernel_rfl))
@[simp] theorem u_3 : Try.prog.underlying 3 = Option.some (Go.TypeDesc.int Go.IntKind.i64) := by kernel_rfl
@[simp] theorem i_3 : Try.prog.info? 3 = some (inf 3) := by kernel_rfl
@[simp] theorem is_3 : (inf 3).size = 1 := by kernel_rfl
@[simp] theorem ib_3 : (inf 3).bytes = 8 := by kernel_rfl
@[simp] theorem iz_3 : zeroRow (inf 3) = Option.some [V.p (Go.Value.int Go.IntKind.i64 0)] := by kernel_rfl
@[simp] theorem u_4 : Try.prog.underlying 4 = Option.some Go.TypeDesc.bool := by kernel_rfl
@[simp] theorem i_4 : Try.prog.info? 4 = some (inf 4) := by kernel_rfl
@[simp] theorem is_4 : (inf 4).size = 1 := by kernel_rfl
@[simp] theorem ib_4 : (inf 4).bytes = 1 := by kernel_rfl
@[simp] theorem iz_4 : zeroRow (inf 4) = Option.some [V.p (Go.Value.bool false)] := by kernel_rfl
@[simp] theorem sm_4 : slotMs Try.prog 8 4 = [0] := by kernel_rfl
@[simp] theorem u_5 : Try.prog.underlying 5 = Option.some (Go.TypeDesc.int Go.IntKind.u8) := by kernel_rfl
@[simp] theorem i_5 : Try.prog.info? 5 = some (inf 5) := by kernel_rfl
@[simp] theorem is_5 : (inf 5).size = 1 := by kernel_rfl
@[simp] theorem ib_5 : (inf 5).bytes = 1 := by kernel_rfl
@[simp] theorem iz_5 : zeroRow (inf 5) = Option.some [V.p (Go.Value.int Go.IntKind.u8 0)] := by kernel_rfl
@[simp] theorem sm_5 : slotMs Try.prog 8 5 = [0] := by kernel_rfl
@[simp] theorem u_9 : Try.prog.underlying 9 = Option.some Go.TypeDesc.string := by kernel_rfl
@[simp] theorem i_9 : Try.prog.info? 9 = some (inf 9) := by kernel_rfl
@[simp] theorem is_9 : (inf 9).size = 1 := by kernel_rfl
@[simp] theorem ib_9 : (inf 9).bytes = 16 := by kernel_rfl
@[simp] theorem iz_9 : zeroRow (inf 9) = Option.some [V.p (Go.Value.string (ByteArray.mk (Array.mk [])))] := by kernel_rfl
@[simp] theorem u_22 : Try.prog.underlying 22 = Option.some (Go.TypeDesc.int Go.IntKind.u32) := by kernel_rfl
@[simp] theorem i_22 : Try.prog.info? 22 = some (inf 22) := by kernel_rfl
@[simp] theorem is_22 : (inf 22).size = 1 := by kernel_rfl
@[simp] theorem ib_22 : (inf 22).bytes = 4 := by kernel_rfl
@[simp] theorem iz_22 : zeroRow (inf 22) = Option.some [V.p (Go.Value.int Go.IntKind.u32 0)] := by kernel_rfl
@[simp] theorem u_23 : Try.prog.underlying 23 = Option.some (Go.TypeDesc.slice 5) := by kernel_rfl
@[simp] theorem i_23 : Try.prog.info? 23 = some (inf 23) := by kernel_rfl
@[simp] theorem is_23 : (inf 23).size = 1 := by kernel_rfl
@[simp] theorem ib_23 : (inf 23).bytes = 24 := by kernel_rfl
@[simp] theorem iz_23 : zeroRow (inf 23) = Option.some [V.nil] := by kernel_rfl
@[simp] theorem u_25 : Try.prog.underlying 25 = Option.some (Go.TypeDesc.struct (Array.mk [Go.Field.mk "Source" 3 0 false "" "" 0, Go.Field.mk "Dest" 3 1 false "" "" 8, Go.Field.mk "Seq" 22 2 false "" "" 16, Go.Field.mk "Created" 3 3 false "" "" 24, Go.Field.mk "Lifetime" 3 4 false "" "" 32, Go.Field.mk "HopLimit" 3 5 false "" "" 40, Go.Field.mk "Hops" 3 6 false "" "" 48, Go.Field.mk "Priority" 3 7 false "" "" 56, Go.Field.mk "Offset" 3 8 false "" "" 64, Go.Field.mk "Total" 3 9 false "" "" 72, Go.Field.mk "Payload" 23 10 false "" "" 80])) := by kernel_rfl
@[simp] theorem i_25 : Try.prog.info? 25 = some (inf 25) := by kernel_rfl
@[simp] theorem is_25 : (inf 25).size = 11 := by kernel_rfl
@[simp] theorem ib_25 : (inf 25).bytes = 104 := by kernel_rfl
@[simp] theorem iz_25 : zeroRow (inf 25) = Option.some [V.p (Go.Value.int Go.IntKind.i64 0), V.p (Go.Value.int Go.IntKind.i64 0), V.p (Go.Value.int Go.IntKind.u32 0), V.p (Go.Value.int Go.IntKind.i64 0), V.p (Go.Value.int Go.IntKind.i64 0), V.p (Go.Value.int Go.IntKind.i64 0), V.p (Go.Value.int Go.IntKind.i64 0), V.p (Go.Value.int Go.IntKind.i64 0), V.p (Go.Value.int Go.IntKind.i64 0), V.p (Go.Value.int Go.IntKind.i64 0), V.nil] := by kernel_rfl
@[simp] theorem sm_25 : slotMs Try.prog 8 25 = [0, 0, 0, 0, 0, 0, 0, 0, 0, 0, 1] := by kernel_rfl
@[simp] theorem bl_25 (σ : St) (ps : List (Nat × Operand)) : buildV Try.prog σ 25 ps = (fillL [(0, 1), (1, 1), (2, 1), (3, 1), (4, 1), (5, 1), (6, 1), (7, 1), (8, 1), (9, 1), (10, 1)] [V.p (Go.Value.int Go.IntKind.i64 0), V.p (Go.Value.int Go.IntKind.i64 0), V.p (Go.Value.int Go.IntKind.u32 0), V.p (Go.Value.int Go.IntKind.i64 0), V.p (Go.Value.int Go.IntKind.i64 0), V.p (Go.Value.int Go.IntKind.i64 0), V.p (Go.Value.int Go.IntKind.i64 0), V.p (Go.Value.int Go.IntKind.i64 0), V.p (Go.Value.int Go.IntKind.i64 0), V.p (Go.Value.int Go.IntKind.i64 0), V.nil] (evL σ ps)).map .agg := build_eval i_25 iz_25 u_25 (by kernel_rfl)
@[simp] theorem u_28 : Try.prog.underlying 28 = Option.some (Go.TypeDesc.slice 25) := by kernel_rfl
@[simp] theorem i_28 : Try.prog.info? 28 = some (inf 28) := by kernel_rfl
@[simp] theorem is_28 : (inf 28).size = 1 := by kernel_rfl
@[simp] theorem ib_28 : (inf 28).bytes = 24 := by kernel_rfl
@[simp] theorem iz_28 : zeroRow (inf 28) = Option.some [V.nil] := by kernel_rfl
@[simp] theorem u_41 : Try.prog.underlying 41 = Option.some (Go.TypeDesc.slice 47) := by kernel_rfl
@[simp] theorem i_41 : Try.prog.info? 41 = some (inf 41) := by kernel_rfl
@[simp] theorem is_41 : (inf 41).size = 1 := by kernel_rfl
@[simp] theorem ib_41 : (inf 41).bytes = 24 := by kernel_rfl
@[simp] theorem iz_41 : zeroRow (inf 41) = Option.some [V.nil] := by kernel_rfl
@[simp] theorem u_47 : Try.prog.underlying 47 = Option.some (Go.TypeDesc.struct (Array.mk [Go.Field.mk "At" 3 0 false "" "" 0, Go.Field.mk "N" 3 1 false "" "" 8])) := by kernel_rfl
@[simp] theorem i_47 : Try.prog.info? 47 = some (inf 47) := by kernel_rfl
@[simp] theorem is_47 : (inf 47).size = 2 := by kernel_rfl
@[simp] theorem ib_47 : (inf 47).bytes = 16 := by kernel_rfl
@[simp] theorem iz_47 : zeroRow (inf 47) = Option.some [V.p (Go.Value.int Go.IntKind.i64 0), V.p (Go.Value.int Go.IntKind.i64 0)] := by kernel_rfl
@[simp] theorem sm_47 : slotMs Try.prog 8 47 = [0, 0] := by kernel_rfl
@[simp] theorem ag_47 : (Try.prog.eqGuardType Try.prog.depth 47 || Try.prog.stoodInHeld 47) = false := by kernel_rfl
@[simp] theorem bl_47 (σ : St) (ps : List (Nat × Operand)) : buildV Try.prog σ 47 ps = (fillL [(0, 1), (1, 1)] [V.p (Go.Value.int Go.IntKind.i64 0), V.p (Go.Value.int Go.IntKind.i64 0)] (evL σ ps)).map .agg := build_eval i_47 iz_47 u_47 (by kernel_rfl)
@[simp] theorem u_57 : Try.prog.underlying 57 = Option.some (Go.TypeDesc.pointer 3) := by kernel_rfl
@[simp] theorem i_57 : Try.prog.info? 57 = some (inf 57) := by kernel_rfl
@[simp] theorem is_57 : (inf 57).size = 1 := by kernel_rfl
@[simp] theorem ib_57 : (inf 57).bytes = 8 := by kernel_rfl
@[simp] theorem iz_57 : zeroRow (inf 57) = Option.some [V.p (Go.Value.pointer Option.none)] := by kernel_rfl
@[simp] theorem u_58 : Try.prog.underlying 58 = Option.some (Go.TypeDesc.array 2 57) := by kernel_rfl
@[simp] theorem i_58 : Try.prog.info? 58 = some (inf 58) := by kernel_rfl
@[simp] theorem is_58 : (inf 58).size = 2 := by kernel_rfl
@[simp] theorem ib_58 : (inf 58).bytes = 16 := by kernel_rfl
@[simp] theorem iz_58 : zeroRow (inf 58) = Option.some [V.p (Go.Value.pointer Option.none), V.p (Go.Value.pointer Option.none)] := by kernel_rfl
theorem bl_58 (σ : St) (ps : List (Nat × Operand)) : buildV Try.prog σ 58 ps = (fillA [V.p (Go.Value.pointer Option.none), V.p (Go.Value.pointer Option.none)] (evL σ ps)).map .agg := by rw [build_evalA i_58 iz_58 u_58 i_57]; simp only [is_57, Nat.mul_one]; rfl
@[simp] theorem u_59 : Try.prog.underlying 59 = Option.some (Go.TypeDesc.slice 58) := by kernel_rfl
@[simp] theorem i_59 : Try.prog.info? 59 = some (inf 59) := by kernel_rfl
@[simp] theorem is_59 : (inf 59).size = 1 := by kernel_rfl
@[simp] theorem ib_59 : (inf 59).bytes = 24 := by kernel_rfl
@[simp] theorem iz_59 : zeroRow (inf 59) = Option.some [V.nil] := by kernel_rfl
@[simp] theorem u_60 : Try.prog.underlying 60 = Option.some (Go.TypeDesc.slice 4) := by kernel_rfl
@[simp] theorem i_60 : Try.prog.info? 60 = some (inf 60) := by kernel_rfl
@[simp] theorem is_60 : (inf 60).size = 1 := by kernel_rfl
@[simp] theorem ib_60 : (inf 60).bytes = 24 := by kernel_rfl
@[simp] theorem iz_60 : zeroRow (inf 60) = Option.some [V.nil] := by kernel_rfl
@[simp] theorem u_69 : Try.prog.underlying 69 = Option.some (Go.TypeDesc.struct (Array.mk [Go.Field.mk "source" 3 0 false "" "heliograph/bundle" 0, Go.Field.mk "dest" 3 1 false "" "heliograph/bundle" 8, Go.Field.mk "created" 3 2 false "" "heliograph/bundle" 16, Go.Field.mk "life" 3 3 false "" "heliograph/bundle" 24, Go.Field.mk "limit" 3 4 false "" "heliograph/bundle" 32, Go.Field.mk "hops" 3 5 false "" "heliograph/bundle" 40, Go.Field.mk "priority" 3 6 false "" "heliograph/bundle" 48, Go.Field.mk "offset" 3 7 false "" "heliograph/bundle" 56, Go.Field.mk "total" 3 8 false "" "heliograph/bundle" 64, Go.Field.mk "seq" 22 9 false "" "heliograph/bundle" 72])) := by kernel_rfl
@[simp] theorem i_69 : Try.prog.info? 69 = some (inf 69) := by kernel_rfl
@[simp] theorem is_69 : (inf 69).size = 10 := by kernel_rfl
@[simp] theorem ib_69 : (inf 69).bytes = 80 := by kernel_rfl
@[simp] theorem iz_69 : zeroRow (inf 69) = Option.some [V.p (Go.Value.int Go.IntKind.i64 0), V.p (Go.Value.int Go.IntKind.i64 0), V.p (Go.Value.int Go.IntKind.i64 0), V.p (Go.Value.int Go.IntKind.i64 0), V.p (Go.Value.int Go.IntKind.i64 0), V.p (Go.Value.int Go.IntKind.i64 0), V.p (Go.Value.int Go.IntKind.i64 0), V.p (Go.Value.int Go.IntKind.i64 0), V.p (Go.Value.int Go.IntKind.i64 0), V.p (Go.Value.int Go.IntKind.u32 0)] := by kernel_rfl
@[simp] theorem ag_69 : (Try.prog.eqGuardType Try.prog.depth 69 || Try.prog.stoodInHeld 69) = false := by kernel_rfl
@[simp] theorem bl_69 (σ : St) (ps : List (Nat × Operand)) : buildV Try.prog σ 69 ps = (fillL [(0, 1), (1, 1), (2, 1), (3, 1), (4, 1), (5, 1), (6, 1), (7, 1), (8, 1), (9, 1)] [V.p (Go.Value.int Go.IntKind.i64 0), V.p (Go.Value.int Go.IntKind.i64 0), V.p (Go.Value.int Go.IntKind.i64 0), V.p (Go.Value.int Go.IntKind.i64 0), V.p (Go.Value.int Go.IntKind.i64 0), V.p (Go.Value.int Go.IntKind.i64 0), V.p (Go.Value.int Go.IntKind.i64 0), V.p (Go.Value.int Go.IntKind.i64 0), V.p (Go.Value.int Go.IntKind.i64 0), V.p (Go.Value.int Go.IntKind.u32 0)] (evL σ ps)).map .agg := build_eval i_69 iz_69 u_69 (by kernel_rfl)
@[simp] theorem gv (f : FuncId) : hints.gives f = [].contains f := rfl
@[simp] theorem hk_6_0 : hints.keep 6 0 = some [0] := rfl
@[simp] theorem hs_6_0 : hints.soft 6 0 = [] := rfl
@[simp] theorem hz_6_0 : hints.frz 6 0 = [] := rfl
@[simp] theorem hk_6_1 : hints.keep 6 1 = some [0, 14] := rfl
@[simp] theorem hs_6_1 : hints.soft 6 1 = [] := rfl
@[simp] theorem hz_6_1 : hints.frz 6 1 = [] := rfl
@[simp] theorem hk_6_2 : hints.keep 6 2 = some [2] := rfl
@[simp] theorem hs_6_2 : hints.soft 6 2 = [] := rfl
@[simp] theorem hz_6_2 : hints.frz 6 2 = [] := rfl
@[simp] theorem hk_6_3 : hints.keep 6 3 = some [0] := rfl
@[simp] theorem hs_6_3 : hints.soft 6 3 = [] := rfl
@[simp] theorem hz_6_3 : hints.frz 6 3 = [] := rfl
@[simp] theorem hk_6_4 : hints.keep 6 4 = some [0, 3] := rfl
@[simp] theorem hs_6_4 : hints.soft 6 4 = [] := rfl
@[simp] theorem hz_6_4 : hints.frz 6 4 = [] := rfl
@[simp] theorem hk_6_5 : hints.keep 6 5 = some [0, 3, 4, 5] := rfl
@[simp] theorem hs_6_5 : hints.soft 6 5 = [] := rfl
@[simp] theorem hz_6_5 : hints.frz 6 5 = [] := rfl
@[simp] theorem hk_6_6 : hints.keep 6 6 = some [0, 3, 4, 5, 6, 7] := rfl
@[simp] theorem hs_6_6 : hints.soft 6 6 = [] := rfl
@[simp] theorem hz_6_6 : hints.frz 6 6 = [] := rfl
@[simp] theorem hk_6_7 : hints.keep 6 7 = some [0, 3, 4, 37] := rfl
@[simp] theorem hs_6_7 : hints.soft 6 7 = [] := rfl
@[simp] theorem hz_6_7 : hints.frz 6 7 = [] := rfl
@[simp] theorem hk_6_8 : hints.keep 6 8 = some [2] := rfl
@[simp] theorem hs_6_8 : hints.soft 6 8 = [] := rfl
@[simp] theorem hz_6_8 : hints.frz 6 8 = [] := rfl
@[simp] theorem hk_6_9 : hints.keep 6 9 = some [0, 3, 4, 40, 41] := rfl
@[simp] theorem hs_6_9 : hints.soft 6 9 = [] := rfl
@[simp] theorem hz_6_9 : hints.frz 6 9 = [] := rfl
@[simp] theorem hk_6_10 : hints.keep 6 10 = some [0, 3, 4, 40, 41, 42] := rfl
@[simp] theorem hh_6_10 : hints.head 6 10 = some [0, 3, 4, 40, 41] := rfl
@[simp] theorem hc_6_10 : hints.canon 6 10 = [] := rfl
@[simp] theorem hs_6_10 : hints.soft 6 10 = [] := rfl
@[simp] theorem hz_6_10 : hints.frz 6 10 = [] := rfl
@[simp] theorem hk_6_11 : hints.keep 6 11 = some [0, 3, 4, 8, 40, 41] := rfl
@[simp] theorem hs_6_11 : hints.soft 6 11 = [] := rfl
@[simp] theorem hz_6_11 : hints.frz 6 11 = [] := rfl
@[simp] theorem hk_6_12 : hints.keep 6 12 = some [0, 3, 4, 40, 41] := rfl
@[simp] theorem hs_6_12 : hints.soft 6 12 = [] := rfl
@[simp] theorem hz_6_12 : hints.frz 6 12 = [] := rfl
@[simp] theorem hk_6_13 : hints.keep 6 13 = some [0, 3, 4, 40, 41] := rfl
@[simp] theorem hs_6_13 : hints.soft 6 13 = [] := rfl
@[simp] theorem hz_6_13 : hints.frz 6 13 = [] := rfl
@[simp] theorem hk_6_14 : hints.keep 6 14 = some [0, 3, 9, 10] := rfl
@[simp] theorem hs_6_14 : hints.soft 6 14 = [] := rfl
@[simp] theorem hz_6_14 : hints.frz 6 14 = [] := rfl
@[simp] theorem hk_6_15 : hints.keep 6 15 = some [3, 9, 10, 60] := rfl
@[simp] theorem hs_6_15 : hints.soft 6 15 = [] := rfl
@[simp] theorem hz_6_15 : hints.frz 6 15 = [] := rfl
@[simp] theorem hk_6_16 : hints.keep 6 16 = some [2] := rfl
@[simp] theorem hs_6_16 : hints.soft 6 16 = [] := rfl
@[simp] theorem hz_6_16 : hints.frz 6 16 = [] := rfl
@[simp] theorem hk_6_17 : hints.keep 6 17 = some [3, 9, 10, 63] := rfl
@[simp] theorem hs_6_17 : hints.soft 6 17 = [] := rfl
@[simp] theorem hz_6_17 : hints.frz 6 17 = [] := rfl
@[simp] theorem hk_6_18 : hints.keep 6 18 = some [2] := rfl
@[simp] theorem hs_6_18 : hints.soft 6 18 = [] := rfl
@[simp] theorem hz_6_18 : hints.frz 6 18 = [] := rfl
@[simp] theorem hk_6_19 : hints.keep 6 19 = some [9, 10, 11] := rfl
@[simp] theorem hs_6_19 : hints.soft 6 19 = [] := rfl
@[simp] theorem hz_6_19 : hints.frz 6 19 = [] := rfl
@[simp] theorem hk_6_20 : hints.keep 6 20 = some [9, 11, 81] := rfl
@[simp] theorem hs_6_20 : hints.soft 6 20 = [] := rfl
@[simp] theorem hz_6_20 : hints.frz 6 20 = [] := rfl
@[simp] theorem hk_6_21 : hints.keep 6 21 = some [2] := rfl
@[simp] theorem hs_6_21 : hints.soft 6 21 = [] := rfl
@[simp] theorem hz_6_21 : hints.frz 6 21 = [] := rfl
@[simp] theorem hk_6_22 : hints.keep 6 22 = some [9, 11, 83, 84] := rfl
@[simp] theorem hs_6_22 : hints.soft 6 22 = [] := rfl
@[simp] theorem hz_6_22 : hints.frz 6 22 = [] := rfl
@[simp] theorem hk_6_23 : hints.keep 6 23 = some [9, 11, 83, 84, 85] := rfl
@[simp] theorem hh_6_23 : hints.head 6 23 = some [9, 11, 83, 84] := rfl
@[simp] theorem hc_6_23 : hints.canon 6 23 = [] := rfl
@[simp] theorem hs_6_23 : hints.soft 6 23 = [] := rfl
@[simp] theorem hz_6_23 : hints.frz 6 23 = [] := rfl
@[simp] theorem hk_6_24 : hints.keep 6 24 = some [9, 11, 12, 83, 84] := rfl
@[simp] theorem hs_6_24 : hints.soft 6 24 = [] := rfl
@[simp] theorem hz_6_24 : hints.frz 6 24 = [] := rfl
@[simp] theorem hk_6_25 : hints.keep 6 25 = some [9, 11, 83, 84, 95] := rfl
@[simp] theorem hs_6_25 : hints.soft 6 25 = [] := rfl
@[simp] theorem hz_6_25 : hints.frz 6 25 = [] := rfl
@[simp] theorem hk_6_26 : hints.keep 6 26 = some [2] := rfl
@[simp] theorem hs_6_26 : hints.soft 6 26 = [] := rfl
@[simp] theorem hz_6_26 : hints.frz 6 26 = [] := rfl
@[simp] theorem hk_6_27 : hints.keep 6 27 = some [9, 11, 83, 84] := rfl
@[simp] theorem hs_6_27 : hints.soft 6 27 = [] := rfl
@[simp] theorem hz_6_27 : hints.frz 6 27 = [] := rfl
@[simp] theorem hk_6_28 : hints.keep 6 28 = some [2] := rfl
@[simp] theorem hs_6_28 : hints.soft 6 28 = [] := rfl
@[simp] theorem hz_6_28 : hints.frz 6 28 = [] := rfl
@[simp] theorem hk_10_0 : hints.keep 10 0 = some [1, 2] := rfl
@[simp] theorem hs_10_0 : hints.soft 10 0 = [(2, some 10, 1, some (700000, 5))] := rfl
@[simp] theorem hz_10_0 : hints.frz 10 0 = [] := rfl
@[simp] theorem hk_10_1 : hints.keep 10 1 = some [1, 2] := rfl
@[simp] theorem hs_10_1 : hints.soft 10 1 = [] := rfl
@[simp] theorem hz_10_1 : hints.frz 10 1 = [] := rfl
@[simp] theorem hk_10_2 : hints.keep 10 2 = some [2] := rfl
@[simp] theorem hs_10_2 : hints.soft 10 2 = [] := rfl
@[simp] theorem hz_10_2 : hints.frz 10 2 = [] := rfl
@[simp] theorem hk_12_0 : hints.keep 12 0 = some [1] := rfl
@[simp] theorem hs_12_0 : hints.soft 12 0 = [] := rfl
@[simp] theorem hz_12_0 : hints.frz 12 0 = [] := rfl
@[simp] theorem hk_12_1 : hints.keep 12 1 = some [1, 45] := rfl
@[simp] theorem hs_12_1 : hints.soft 12 1 = [] := rfl
@[simp] theorem hz_12_1 : hints.frz 12 1 = [] := rfl
@[simp] theorem hk_12_2 : hints.keep 12 2 = some [2] := rfl
@[simp] theorem hs_12_2 : hints.soft 12 2 = [] := rfl
@[simp] theorem hz_12_2 : hints.frz 12 2 = [] := rfl
@[simp] theorem hk_12_3 : hints.keep 12 3 = some [1, 85] := rfl
@[simp] theorem hs_12_3 : hints.soft 12 3 = [] := rfl
@[simp] theorem hz_12_3 : hints.frz 12 3 = [] := rfl
@[simp] theorem hk_12_4 : hints.keep 12 4 = some [2] := rfl
@[simp] theorem hs_12_4 : hints.soft 12 4 = [] := rfl
@[simp] theorem hz_12_4 : hints.frz 12 4 = [] := rfl
@[simp] theorem hk_12_5 : hints.keep 12 5 = some [2] := rfl
@[simp] theorem hs_12_5 : hints.soft 12 5 = [] := rfl
@[simp] theorem hz_12_5 : hints.frz 12 5 = [] := rfl
@[simp] theorem hk_13_0 : hints.keep 13 0 = some [0, 1] := rfl
@[simp] theorem hs_13_0 : hints.soft 13 0 = [] := rfl
@[simp] theorem hz_13_0 : hints.frz 13 0 = [] := rfl
@[simp] theorem hk_13_1 : hints.keep 13 1 = some [0, 1, 10] := rfl
@[simp] theorem hs_13_1 : hints.soft 13 1 = [] := rfl
@[simp] theorem hz_13_1 : hints.frz 13 1 = [] := rfl
@[simp] theorem hk_13_2 : hints.keep 13 2 = some [4] := rfl
@[simp] theorem hs_13_2 : hints.soft 13 2 = [] := rfl
@[simp] theorem hz_13_2 : hints.frz 13 2 = [] := rfl
@[simp] theorem hk_13_3 : hints.keep 13 3 = some [0, 1, 12, 13] := rfl
@[simp] theorem hs_13_3 : hints.soft 13 3 = [] := rfl
@[simp] theorem hz_13_3 : hints.frz 13 3 = [] := rfl
@[simp] theorem hk_13_4 : hints.keep 13 4 = some [0, 1, 12, 13, 14] := rfl
@[simp] theorem hh_13_4 : hints.head 13 4 = some [0, 1, 12, 13] := rfl
@[simp] theorem hc_13_4 : hints.canon 13 4 = [] := rfl
@[simp] theorem hs_13_4 : hints.soft 13 4 = [] := rfl
@[simp] theorem hz_13_4 : hints.frz 13 4 = [] := rfl
@[simp] theorem hk_13_5 : hints.keep 13 5 = some [0, 1, 5, 12, 13] := rfl
@[simp] theorem hs_13_5 : hints.soft 13 5 = [] := rfl
@[simp] theorem hz_13_5 : hints.frz 13 5 = [] := rfl
@[simp] theorem hk_13_6 : hints.keep 13 6 = some [0, 1, 12, 13, 25] := rfl
@[simp] theorem hs_13_6 : hints.soft 13 6 = [] := rfl
@[simp] theorem hz_13_6 : hints.frz 13 6 = [] := rfl
@[simp] theorem hk_13_7 : hints.keep 13 7 = some [4] := rfl
@[simp] theorem hs_13_7 : hints.soft 13 7 = [] := rfl
@[simp] theorem hz_13_7 : hints.frz 13 7 = [] := rfl
@[simp] theorem hk_13_8 : hints.keep 13 8 = some [0, 1, 12, 13] := rfl
@[simp] theorem hs_13_8 : hints.soft 13 8 = [] := rfl
@[simp] theorem hz_13_8 : hints.frz 13 8 = [] := rfl
@[simp] theorem hk_13_9 : hints.keep 13 9 = some [4] := rfl
@[simp] theorem hs_13_9 : hints.soft 13 9 = [] := rfl
@[simp] theorem hz_13_9 : hints.frz 13 9 = [] := rfl
@[simp] theorem hk_15_0 : hints.keep 15 0 = some [2, 3] := rfl
@[simp] theorem hs_15_0 : hints.soft 15 0 = [] := rfl
@[simp] theorem hz_15_0 : hints.frz 15 0 = [] := rfl
@[simp] theorem hk_15_1 : hints.keep 15 1 = some [4] := rfl
@[simp] theorem hs_15_1 : hints.soft 15 1 = [] := rfl
@[simp] theorem hz_15_1 : hints.frz 15 1 = [] := rfl
@[simp] theorem hk_16_0 : hints.keep 16 0 = some [2, 3] := rfl
@[simp] theorem hs_16_0 : hints.soft 16 0 = [] := rfl
@[simp] theorem hz_16_0 : hints.frz 16 0 = [] := rfl
@[simp] theorem hk_16_1 : hints.keep 16 1 = some [2, 3, 17] := rfl
@[simp] theorem hs_16_1 : hints.soft 16 1 = [] := rfl
@[simp] theorem hz_16_1 : hints.frz 16 1 = [] := rfl
@[simp] theorem hk_16_2 : hints.keep 16 2 = some [4] := rfl
@[simp] theorem hs_16_2 : hints.soft 16 2 = [] := rfl
@[simp] theorem hz_16_2 : hints.frz 16 2 = [] := rfl
@[simp] theorem hk_16_3 : hints.keep 16 3 = some [2, 3, 5] := rfl
@[simp] theorem hs_16_3 : hints.soft 16 3 = [] := rfl
@[simp] theorem hz_16_3 : hints.frz 16 3 = [] := rfl
@[simp] theorem hk_16_4 : hints.keep 16 4 = some [2, 3, 5, 25, 26, 27] := rfl
@[simp] theorem hs_16_4 : hints.soft 16 4 = [] := rfl
@[simp] theorem hz_16_4 : hints.frz 16 4 = [] := rfl
@[simp] theorem hk_16_5 : hints.keep 16 5 = some [2, 3, 5, 25, 26, 27, 28] := rfl
@[simp] theorem hh_16_5 : hints.head 16 5 = some [2, 3, 5, 25, 26, 27] := rfl
@[simp] theorem hc_16_5 : hints.canon 16 5 = [] := rfl
@[simp] theorem hs_16_5 : hints.soft 16 5 = [] := rfl
@[simp] theorem hz_16_5 : hints.frz 16 5 = [] := rfl
@[simp] theorem hk_16_6 : hints.keep 16 6 = some [2, 3, 5, 7, 25, 26, 27] := rfl
@[simp] theorem hs_16_6 : hints.soft 16 6 = [] := rfl
@[simp] theorem hz_16_6 : hints.frz 16 6 = [] := rfl
@[simp] theorem hk_16_7 : hints.keep 16 7 = some [2, 3, 5, 25, 26, 27] := rfl
@[simp] theorem hs_16_7 : hints.soft 16 7 = [] := rfl
@[simp] theorem hz_16_7 : hints.frz 16 7 = [] := rfl
@[simp] theorem hk_16_8 : hints.keep 16 8 = some [2, 3, 5, 25, 26, 27] := rfl
@[simp] theorem hs_16_8 : hints.soft 16 8 = [] := rfl
@[simp] theorem hz_16_8 : hints.frz 16 8 = [] := rfl
@[simp] theorem hk_16_9 : hints.keep 16 9 = some [2, 3, 5] := rfl
@[simp] theorem hs_16_9 : hints.soft 16 9 = [] := rfl
@[simp] theorem hz_16_9 : hints.frz 16 9 = [] := rfl
@[simp] theorem hk_16_10 : hints.keep 16 10 = some [2, 3, 45] := rfl
@[simp] theorem hs_16_10 : hints.soft 16 10 = [] := rfl
@[simp] theorem hz_16_10 : hints.frz 16 10 = [] := rfl
@[simp] theorem hk_16_11 : hints.keep 16 11 = some [4] := rfl
@[simp] theorem hs_16_11 : hints.soft 16 11 = [] := rfl
@[simp] theorem hz_16_11 : hints.frz 16 11 = [] := rfl
@[simp] theorem hk_16_12 : hints.keep 16 12 = some [2, 3, 8, 9] := rfl
@[simp] theorem hs_16_12 : hints.soft 16 12 = [] := rfl
@[simp] theorem hz_16_12 : hints.frz 16 12 = [] := rfl
@[simp] theorem hk_16_13 : hints.keep 16 13 = some [4] := rfl
@[simp] theorem hs_16_13 : hints.soft 16 13 = [] := rfl
@[simp] theorem hz_16_13 : hints.frz 16 13 = [] := rfl
@[simp] theorem hk_17_0 : hints.keep 17 0 = some [2, 3] := rfl
@[simp] theorem hs_17_0 : hints.soft 17 0 = [] := rfl
@[simp] theorem hz_17_0 : hints.frz 17 0 = [] := rfl
@[simp] theorem hk_17_1 : hints.keep 17 1 = some [2, 3, 16] := rfl
@[simp] theorem hs_17_1 : hints.soft 17 1 = [] := rfl
@[simp] theorem hz_17_1 : hints.frz 17 1 = [] := rfl
@[simp] theorem hk_17_2 : hints.keep 17 2 = some [4] := rfl
@[simp] theorem hs_17_2 : hints.soft 17 2 = [] := rfl
@[simp] theorem hz_17_2 : hints.frz 17 2 = [] := rfl
@[simp] theorem hk_17_3 : hints.keep 17 3 = some [2, 3, 5] := rfl
@[simp] theorem hs_17_3 : hints.soft 17 3 = [] := rfl
@[simp] theorem hz_17_3 : hints.frz 17 3 = [] := rfl
@[simp] theorem hk_17_4 : hints.keep 17 4 = some [2, 3, 5] := rfl
@[simp] theorem hs_17_4 : hints.soft 17 4 = [] := rfl
@[simp] theorem hz_17_4 : hints.frz 17 4 = [] := rfl
@[simp] theorem hk_17_5 : hints.keep 17 5 = some [2, 3, 30] := rfl
@[simp] theorem hs_17_5 : hints.soft 17 5 = [] := rfl
@[simp] theorem hz_17_5 : hints.frz 17 5 = [] := rfl
@[simp] theorem hk_17_6 : hints.keep 17 6 = some [4] := rfl
@[simp] theorem hs_17_6 : hints.soft 17 6 = [] := rfl
@[simp] theorem hz_17_6 : hints.frz 17 6 = [] := rfl
@[simp] theorem hk_17_7 : hints.keep 17 7 = some [2, 3, 32, 33, 34] := rfl
@[simp] theorem hs_17_7 : hints.soft 17 7 = [] := rfl
@[simp] theorem hz_17_7 : hints.frz 17 7 = [] := rfl
@[simp] theorem hk_17_8 : hints.keep 17 8 = some [2, 3, 32, 33, 34, 35] := rfl
@[simp] theorem hh_17_8 : hints.head 17 8 = some [2, 3, 32, 33, 34] := rfl
@[simp] theorem hc_17_8 : hints.canon 17 8 = [] := rfl
@[simp] theorem hs_17_8 : hints.soft 17 8 = [] := rfl
@[simp] theorem hz_17_8 : hints.frz 17 8 = [] := rfl
@[simp] theorem hk_17_9 : hints.keep 17 9 = some [2, 3, 6, 7, 32, 33, 34] := rfl
@[simp] theorem hs_17_9 : hints.soft 17 9 = [] := rfl
@[simp] theorem hz_17_9 : hints.frz 17 9 = [] := rfl
@[simp] theorem hk_17_10 : hints.keep 17 10 = some [2, 3, 7, 8, 32, 33, 34] := rfl
@[simp] theorem hs_17_10 : hints.soft 17 10 = [] := rfl
@[simp] theorem hz_17_10 : hints.frz 17 10 = [] := rfl
@[simp] theorem hk_17_11 : hints.keep 17 11 = some [2, 3, 32, 33, 34, 63] := rfl
@[simp] theorem hs_17_11 : hints.soft 17 11 = [] := rfl
@[simp] theorem hz_17_11 : hints.frz 17 11 = [] := rfl
@[simp] theorem hk_17_12 : hints.keep 17 12 = some [4] := rfl
@[simp] theorem hs_17_12 : hints.soft 17 12 = [] := rfl
@[simp] theorem hz_17_12 : hints.frz 17 12 = [] := rfl
@[simp] theorem hk_17_13 : hints.keep 17 13 = some [2, 3, 32, 33, 34] := rfl
@[simp] theorem hs_17_13 : hints.soft 17 13 = [] := rfl
@[simp] theorem hz_17_13 : hints.frz 17 13 = [] := rfl
@[simp] theorem hk_17_14 : hints.keep 17 14 = some [4] := rfl
@[simp] theorem hs_17_14 : hints.soft 17 14 = [] := rfl
@[simp] theorem hz_17_14 : hints.frz 17 14 = [] := rfl
@[simp] theorem hk_18_0 : hints.keep 18 0 = some [0, 2] := rfl
@[simp] theorem hs_18_0 : hints.soft 18 0 = [(2, some 10, 1, none)] := rfl
@[simp] theorem hz_18_0 : hints.frz 18 0 = [] := rfl
@[simp] theorem hk_18_1 : hints.keep 18 1 = some [0, 2, 4, 5, 6] := rfl
@[simp] theorem hs_18_1 : hints.soft 18 1 = [] := rfl
@[simp] theorem hz_18_1 : hints.frz 18 1 = [] := rfl
@[simp] theorem hk_18_2 : hints.keep 18 2 = some [0, 2, 4, 5, 6, 16] := rfl
@[simp] theorem hs_18_2 : hints.soft 18 2 = [] := rfl
@[simp] theorem hz_18_2 : hints.frz 18 2 = [] := rfl
@[simp] theorem hk_18_3 : hints.keep 18 3 = some [2, 3] := rfl
@[simp] theorem hs_18_3 : hints.soft 18 3 = [(2, some 10, 1, none)] := rfl
@[simp] theorem hz_18_3 : hints.frz 18 3 = [] := rfl
@[simp] theorem hk_18_4 : hints.keep 18 4 = some [0, 2, 5, 21] := rfl
@[simp] theorem hs_18_4 : hints.soft 18 4 = [] := rfl
@[simp] theorem hz_18_4 : hints.frz 18 4 = [] := rfl
@[simp] theorem hk_18_5 : hints.keep 18 5 = some [2, 3] := rfl
@[simp] theorem hs_18_5 : hints.soft 18 5 = [(2, some 10, 1, none)] := rfl
@[simp] theorem hz_18_5 : hints.frz 18 5 = [] := rfl
@[simp] theorem hk_18_6 : hints.keep 18 6 = some [0, 2, 5, 7] := rfl
@[simp] theorem hs_18_6 : hints.soft 18 6 = [] := rfl
@[simp] theorem hz_18_6 : hints.frz 18 6 = [] := rfl
@[simp] theorem hk_18_7 : hints.keep 18 7 = some [0, 2, 7] := rfl
@[simp] theorem hs_18_7 : hints.soft 18 7 = [] := rfl
@[simp] theorem hz_18_7 : hints.frz 18 7 = [] := rfl
@[simp] theorem hk_18_8 : hints.keep 18 8 = some [2, 7, 33, 34, 35] := rfl
@[simp] theorem hs_18_8 : hints.soft 18 8 = [] := rfl
@[simp] theorem hz_18_8 : hints.frz 18 8 = [] := rfl
@[simp] theorem hk_18_9 : hints.keep 18 9 = some [2, 7, 33, 34, 35, 36] := rfl
@[simp] theorem hh_18_9 : hints.head 18 9 = some [2, 7, 33, 34, 35] := rfl
@[simp] theorem hc_18_9 : hints.canon 18 9 = [] := rfl
@[simp] theorem hs_18_9 : hints.soft 18 9 = [] := rfl
@[simp] theorem hz_18_9 : hints.frz 18 9 = [] := rfl
@[simp] theorem hk_18_10 : hints.keep 18 10 = some [2, 7, 9, 33, 34, 35] := rfl
@[simp] theorem hs_18_10 : hints.soft 18 10 = [] := rfl
@[simp] theorem hz_18_10 : hints.frz 18 10 = [] := rfl
@[simp] theorem hk_18_11 : hints.keep 18 11 = some [2, 7, 33, 34, 35] := rfl
@[simp] theorem hs_18_11 : hints.soft 18 11 = [] := rfl
@[simp] theorem hz_18_11 : hints.frz 18 11 = [] := rfl
@[simp] theorem hk_18_12 : hints.keep 18 12 = some [2, 7, 33, 34, 35] := rfl
@[simp] theorem hs_18_12 : hints.soft 18 12 = [] := rfl
@[simp] theorem hz_18_12 : hints.frz 18 12 = [] := rfl
@[simp] theorem hk_18_13 : hints.keep 18 13 = some [2, 3] := rfl
@[simp] theorem hs_18_13 : hints.soft 18 13 = [] := rfl
@[simp] theorem hz_18_13 : hints.frz 18 13 = [] := rfl
@[simp] theorem hk_20_0 : hints.keep 20 0 = some [2, 3] := rfl
@[simp] theorem hs_20_0 : hints.soft 20 0 = [(3, some 10, 1, none)] := rfl
@[simp] theorem hz_20_0 : hints.frz 20 0 = [] := rfl
@[simp] theorem hk_20_1 : hints.keep 20 1 = some [2, 3, 5, 6] := rfl
@[simp] theorem hs_20_1 : hints.soft 20 1 = [] := rfl
@[simp] theorem hz_20_1 : hints.frz 20 1 = [] := rfl
@[simp] theorem hk_20_2 : hints.keep 20 2 = some [2, 3, 5, 6] := rfl
@[simp] theorem hs_20_2 : hints.soft 20 2 = [(5, some 10, 1, none), (6, some 10, 1, none)] := rfl
@[simp] theorem hz_20_2 : hints.frz 20 2 = [] := rfl
@[simp] theorem hk_20_3 : hints.keep 20 3 = some [4] := rfl
@[simp] theorem hs_20_3 : hints.soft 20 3 = [] := rfl
@[simp] theorem hz_20_3 : hints.frz 20 3 = [] := rfl
@[simp] theorem hk_21_0 : hints.keep 21 0 = some [0] := rfl
@[simp] theorem hs_21_0 : hints.soft 21 0 = [] := rfl
@[simp] theorem hz_21_0 : hints.frz 21 0 = [] := rfl
@[simp] theorem hk_21_1 : hints.keep 21 1 = some [0, 3] := rfl
@[simp] theorem hs_21_1 : hints.soft 21 1 = [(3, none, 11, some (700064, 25))] := rfl
@[simp] theorem hz_21_1 : hints.frz 21 1 = [] := rfl
@[simp] theorem hk_21_2 : hints.keep 21 2 = some [3, 6, 7, 8] := rfl
@[simp] theorem hs_21_2 : hints.soft 21 2 = [] := rfl
@[simp] theorem hz_21_2 : hints.frz 21 2 = [] := rfl
@[simp] theorem hk_21_3 : hints.keep 21 3 = some [3, 6, 7, 8, 9] := rfl
@[simp] theorem hh_21_3 : hints.head 21 3 = some [3, 6, 7, 8] := rfl
@[simp] theorem hc_21_3 : hints.canon 21 3 = [(3, none, 20000, 11, 25)] := rfl
@[simp] theorem hs_21_3 : hints.soft 21 3 = [] := rfl
@[simp] theorem hz_21_3 : hints.frz 21 3 = [] := rfl
@[simp] theorem hk_21_4 : hints.keep 21 4 = some [3, 4, 5, 6, 7, 8] := rfl
@[simp] theorem hs_21_4 : hints.soft 21 4 = [] := rfl
@[simp] theorem hz_21_4 : hints.frz 21 4 = [] := rfl
@[simp] theorem hk_21_5 : hints.keep 21 5 = some [3, 5, 6, 7, 8, 14] := rfl
@[simp] theorem hs_21_5 : hints.soft 21 5 = [] := rfl
@[simp] theorem hz_21_5 : hints.frz 21 5 = [] := rfl
@[simp] theorem hk_21_6 : hints.keep 21 6 = some [3, 6, 7, 8] := rfl
@[simp] theorem hs_21_6 : hints.soft 21 6 = [] := rfl
@[simp] theorem hz_21_6 : hints.frz 21 6 = [] := rfl
@[simp] theorem hk_21_7 : hints.keep 21 7 = some [3, 6, 7, 8] := rfl
@[simp] theorem hs_21_7 : hints.soft 21 7 = [] := rfl
@[simp] theorem hz_21_7 : hints.frz 21 7 = [] := rfl
@[simp] theorem hk_21_8 : hints.keep 21 8 = some [2] := rfl
@[simp] theorem hs_21_8 : hints.soft 21 8 = [] := rfl
@[simp] theorem hz_21_8 : hints.frz 21 8 = [] := rfl
@[simp] theorem hk_22_0 : hints.keep 22 0 = some [0, 2] := rfl
@[simp] theorem hs_22_0 : hints.soft 22 0 = [(2, some 10, 1, none)] := rfl
@[simp] theorem hz_22_0 : hints.frz 22 0 = [] := rfl
@[simp] theorem hk_22_1 : hints.keep 22 1 = some [0, 2, 9] := rfl
@[simp] theorem hs_22_1 : hints.soft 22 1 = [] := rfl
@[simp] theorem hz_22_1 : hints.frz 22 1 = [] := rfl
@[simp] theorem hk_22_2 : hints.keep 22 2 = some [2, 3] := rfl
@[simp] theorem hs_22_2 : hints.soft 22 2 = [(2, some 10, 1, none)] := rfl
@[simp] theorem hz_22_2 : hints.frz 22 2 = [] := rfl
@[simp] theorem hk_22_3 : hints.keep 22 3 = some [0, 2, 14] := rfl
@[simp] theorem hs_22_3 : hints.soft 22 3 = [] := rfl
@[simp] theorem hz_22_3 : hints.frz 22 3 = [] := rfl
@[simp] theorem hk_22_4 : hints.keep 22 4 = some [2, 3] := rfl
@[simp] theorem hs_22_4 : hints.soft 22 4 = [(2, some 10, 1, none)] := rfl
@[simp] theorem hz_22_4 : hints.frz 22 4 = [] := rfl
@[simp] theorem hk_22_5 : hints.keep 22 5 = some [0, 2, 4] := rfl
@[simp] theorem hs_22_5 : hints.soft 22 5 = [] := rfl
@[simp] theorem hz_22_5 : hints.frz 22 5 = [] := rfl
@[simp] theorem hk_22_6 : hints.keep 22 6 = some [0, 2, 4] := rfl
@[simp] theorem hs_22_6 : hints.soft 22 6 = [] := rfl
@[simp] theorem hz_22_6 : hints.frz 22 6 = [] := rfl
@[simp] theorem hk_22_7 : hints.keep 22 7 = some [0, 2, 4] := rfl
@[simp] theorem hs_22_7 : hints.soft 22 7 = [] := rfl
@[simp] theorem hz_22_7 : hints.frz 22 7 = [] := rfl
@[simp] theorem hk_22_8 : hints.keep 22 8 = some [2, 4, 26, 27, 28] := rfl
@[simp] theorem hs_22_8 : hints.soft 22 8 = [] := rfl
@[simp] theorem hz_22_8 : hints.frz 22 8 = [] := rfl
@[simp] theorem hk_22_9 : hints.keep 22 9 = some [2, 4, 26, 27, 28, 29] := rfl
@[simp] theorem hh_22_9 : hints.head 22 9 = some [2, 4, 26, 27, 28] := rfl
@[simp] theorem hc_22_9 : hints.canon 22 9 = [] := rfl
@[simp] theorem hs_22_9 : hints.soft 22 9 = [] := rfl
@[simp] theorem hz_22_9 : hints.frz 22 9 = [] := rfl
@[simp] theorem hk_22_10 : hints.keep 22 10 = some [2, 4, 6, 26, 27, 28] := rfl
@[simp] theorem hs_22_10 : hints.soft 22 10 = [] := rfl
@[simp] theorem hz_22_10 : hints.frz 22 10 = [] := rfl
@[simp] theorem hk_22_11 : hints.keep 22 11 = some [2, 4, 26, 27, 28] := rfl
@[simp] theorem hs_22_11 : hints.soft 22 11 = [] := rfl
@[simp] theorem hz_22_11 : hints.frz 22 11 = [] := rfl
@[simp] theorem hk_22_12 : hints.keep 22 12 = some [2, 4, 26, 27, 28] := rfl
@[simp] theorem hs_22_12 : hints.soft 22 12 = [] := rfl
@[simp] theorem hz_22_12 : hints.frz 22 12 = [] := rfl
@[simp] theorem hk_22_13 : hints.keep 22 13 = some [2, 3] := rfl
@[simp] theorem hs_22_13 : hints.soft 22 13 = [] := rfl
@[simp] theorem hz_22_13 : hints.frz 22 13 = [] := rfl
@[simp] theorem hk_23_0 : hints.keep 23 0 = some [0] := rfl
@[simp] theorem hs_23_0 : hints.soft 23 0 = [] := rfl
@[simp] theorem hz_23_0 : hints.frz 23 0 = [] := rfl
@[simp] theorem hk_23_1 : hints.keep 23 1 = some [4, 6] := rfl
@[simp] theorem hs_23_1 : hints.soft 23 1 = [] := rfl
@[simp] theorem hz_23_1 : hints.frz 23 1 = [] := rfl
@[simp] theorem hk_23_2 : hints.keep 23 2 = some [2, 3] := rfl
@[simp] theorem hs_23_2 : hints.soft 23 2 = [] := rfl
@[simp] theorem hz_23_2 : hints.frz 23 2 = [] := rfl
@[simp] theorem hk_24_0 : hints.keep 24 0 = some [0] := rfl
@[simp] theorem hs_24_0 : hints.soft 24 0 = [] := rfl
@[simp] theorem hz_24_0 : hints.frz 24 0 = [] := rfl
@[simp] theorem hk_24_1 : hints.keep 24 1 = some [0, 6, 7] := rfl
@[simp] theorem hs_24_1 : hints.soft 24 1 = [] := rfl
@[simp] theorem hz_24_1 : hints.frz 24 1 = [] := rfl
@[simp] theorem hk_24_2 : hints.keep 24 2 = some [0, 6, 7, 8] := rfl
@[simp] theorem hh_24_2 : hints.head 24 2 = some [0, 6, 7] := rfl
@[simp] theorem hc_24_2 : hints.canon 24 2 = [] := rfl
@[simp] theorem hs_24_2 : hints.soft 24 2 = [] := rfl
@[simp] theorem hz_24_2 : hints.frz 24 2 = [] := rfl
@[simp] theorem hk_24_3 : hints.keep 24 3 = some [0, 3, 6, 7] := rfl
@[simp] theorem hs_24_3 : hints.soft 24 3 = [] := rfl
@[simp] theorem hz_24_3 : hints.frz 24 3 = [] := rfl
@[simp] theorem hk_24_4 : hints.keep 24 4 = some [0, 3, 6, 7, 11, 12] := rfl
@[simp] theorem hs_24_4 : hints.soft 24 4 = [] := rfl
@[simp] theorem hz_24_4 : hints.frz 24 4 = [] := rfl
@[simp] theorem hk_24_5 : hints.keep 24 5 = some [0, 3, 6, 7, 11, 12, 13] := rfl
@[simp] theorem hh_24_5 : hints.head 24 5 = some [0, 3, 6, 7, 11, 12] := rfl
@[simp] theorem hc_24_5 : hints.canon 24 5 = [] := rfl
@[simp] theorem hs_24_5 : hints.soft 24 5 = [] := rfl
@[simp] theorem hz_24_5 : hints.frz 24 5 = [] := rfl
@[simp] theorem hk_24_6 : hints.keep 24 6 = some [0, 3, 4, 6, 7, 11, 12] := rfl
@[simp] theorem hs_24_6 : hints.soft 24 6 = [] := rfl
@[simp] theorem hz_24_6 : hints.frz 24 6 = [] := rfl
@[simp] theorem hk_24_7 : hints.keep 24 7 = some [0, 3, 6, 7, 11, 12, 24] := rfl
@[simp] theorem hs_24_7 : hints.soft 24 7 = [] := rfl
@[simp] theorem hz_24_7 : hints.frz 24 7 = [] := rfl
@[simp] theorem hk_24_8 : hints.keep 24 8 = some [2] := rfl
@[simp] theorem hs_24_8 : hints.soft 24 8 = [] := rfl
@[simp] theorem hz_24_8 : hints.frz 24 8 = [] := rfl
@[simp] theorem hk_24_9 : hints.keep 24 9 = some [0, 3, 6, 7, 11, 12] := rfl
@[simp] theorem hs_24_9 : hints.soft 24 9 = [] := rfl
@[simp] theorem hz_24_9 : hints.frz 24 9 = [] := rfl
@[simp] theorem hk_24_10 : hints.keep 24 10 = some [0, 6, 7] := rfl
@[simp] theorem hs_24_10 : hints.soft 24 10 = [] := rfl
@[simp] theorem hz_24_10 : hints.frz 24 10 = [] := rfl
@[simp] theorem hk_24_11 : hints.keep 24 11 = some [2] := rfl
@[simp] theorem hs_24_11 : hints.soft 24 11 = [] := rfl
@[simp] theorem hz_24_11 : hints.frz 24 11 = [] := rfl
@[simp] theorem hk_25_0 : hints.keep 25 0 = some [0] := rfl
@[simp] theorem hs_25_0 : hints.soft 25 0 = [] := rfl
@[simp] theorem hz_25_0 : hints.frz 25 0 = [] := rfl
@[simp] theorem hk_25_1 : hints.keep 25 1 = some [3] := rfl
@[simp] theorem hs_25_1 : hints.soft 25 1 = [] := rfl
@[simp] theorem hz_25_1 : hints.frz 25 1 = [] := rfl
@[simp] theorem hk_25_2 : hints.keep 25 2 = some [3, 5] := rfl
@[simp] theorem hs_25_2 : hints.soft 25 2 = [(5, none, 2, some (700128, 47))] := rfl
@[simp] theorem hz_25_2 : hints.frz 25 2 = [] := rfl
@[simp] theorem hk_25_3 : hints.keep 25 3 = some [5, 14, 15, 16] := rfl
@[simp] theorem hs_25_3 : hints.soft 25 3 = [] := rfl
@[simp] theorem hz_25_3 : hints.frz 25 3 = [] := rfl
@[simp] theorem hk_25_4 : hints.keep 25 4 = some [5, 14, 15, 16, 17] := rfl
@[simp] theorem hh_25_4 : hints.head 25 4 = some [5, 14, 15, 16] := rfl
@[simp] theorem hc_25_4 : hints.canon 25 4 = [(5, none, 20000, 2, 47)] := rfl
@[simp] theorem hs_25_4 : hints.soft 25 4 = [] := rfl
@[simp] theorem hz_25_4 : hints.frz 25 4 = [] := rfl
@[simp] theorem hk_25_5 : hints.keep 25 5 = some [5, 6, 7, 14, 15, 16] := rfl
@[simp] theorem hs_25_5 : hints.soft 25 5 = [] := rfl
@[simp] theorem hz_25_5 : hints.frz 25 5 = [] := rfl
@[simp] theorem hk_25_6 : hints.keep 25 6 = some [5, 6, 7, 8, 14, 15, 16] := rfl
@[simp] theorem hs_25_6 : hints.soft 25 6 = [] := rfl
@[simp] theorem hz_25_6 : hints.frz 25 6 = [] := rfl
@[simp] theorem hk_25_7 : hints.keep 25 7 = some [5, 14, 15, 16] := rfl
@[simp] theorem hs_25_7 : hints.soft 25 7 = [] := rfl
@[simp] theorem hz_25_7 : hints.frz 25 7 = [] := rfl
@[simp] theorem hk_25_8 : hints.keep 25 8 = some [5, 6, 8, 14, 15, 16, 28] := rfl
@[simp] theorem hs_25_8 : hints.soft 25 8 = [] := rfl
@[simp] theorem hz_25_8 : hints.frz 25 8 = [] := rfl
@[simp] theorem hk_25_9 : hints.keep 25 9 = some [5, 6, 8, 14, 15, 16, 30] := rfl
@[simp] theorem hs_25_9 : hints.soft 25 9 = [] := rfl
@[simp] theorem hz_25_9 : hints.frz 25 9 = [] := rfl
@[simp] theorem hk_25_10 : hints.keep 25 10 = some [5, 14, 15, 16] := rfl
@[simp] theorem hs_25_10 : hints.soft 25 10 = [] := rfl
@[simp] theorem hz_25_10 : hints.frz 25 10 = [] := rfl
@[simp] theorem hk_25_11 : hints.keep 25 11 = some [5, 14, 15, 16] := rfl
@[simp] theorem hs_25_11 : hints.soft 25 11 = [] := rfl
@[simp] theorem hz_25_11 : hints.frz 25 11 = [] := rfl
@[simp] theorem hk_25_12 : hints.keep 25 12 = some [2] := rfl
@[simp] theorem hs_25_12 : hints.soft 25 12 = [] := rfl
@[simp] theorem hz_25_12 : hints.frz 25 12 = [] := rfl
@[simp] theorem hk_26_0 : hints.keep 26 0 = some [1] := rfl
@[simp] theorem hs_26_0 : hints.soft 26 0 = [] := rfl
@[simp] theorem hz_26_0 : hints.frz 26 0 = [] := rfl
@[simp] theorem hk_26_1 : hints.keep 26 1 = some [1, 3] := rfl
@[simp] theorem hs_26_1 : hints.soft 26 1 = [] := rfl
@[simp] theorem hz_26_1 : hints.frz 26 1 = [] := rfl
@[simp] theorem hk_26_2 : hints.keep 26 2 = some [1, 3] := rfl
@[simp] theorem hs_26_2 : hints.soft 26 2 = [] := rfl
@[simp] theorem hz_26_2 : hints.frz 26 2 = [] := rfl
@[simp] theorem hk_26_3 : hints.keep 26 3 = some [1, 3] := rfl
@[simp] theorem hs_26_3 : hints.soft 26 3 = [] := rfl
@[simp] theorem hz_26_3 : hints.frz 26 3 = [] := rfl
@[simp] theorem hk_26_4 : hints.keep 26 4 = some [3] := rfl
@[simp] theorem hs_26_4 : hints.soft 26 4 = [] := rfl
@[simp] theorem hz_26_4 : hints.frz 26 4 = [] := rfl
@[simp] theorem hk_26_5 : hints.keep 26 5 = some [72] := rfl
@[simp] theorem hs_26_5 : hints.soft 26 5 = [] := rfl
@[simp] theorem hz_26_5 : hints.frz 26 5 = [] := rfl
@[simp] theorem hk_26_6 : hints.keep 26 6 = some [2] := rfl
@[simp] theorem hs_26_6 : hints.soft 26 6 = [] := rfl
@[simp] theorem hz_26_6 : hints.frz 26 6 = [] := rfl
@[simp] theorem hk_26_7 : hints.keep 26 7 = some [2] := rfl
@[simp] theorem hs_26_7 : hints.soft 26 7 = [] := rfl
@[simp] theorem hz_26_7 : hints.frz 26 7 = [] := rfl
@[simp] theorem hk_29_0 : hints.keep 29 0 = some [0, 1] := rfl
@[simp] theorem hs_29_0 : hints.soft 29 0 = [] := rfl
@[simp] theorem hz_29_0 : hints.frz 29 0 = [] := rfl
@[simp] theorem hk_29_1 : hints.keep 29 1 = some [0, 1, 10] := rfl
@[simp] theorem hs_29_1 : hints.soft 29 1 = [] := rfl
@[simp] theorem hz_29_1 : hints.frz 29 1 = [] := rfl
@[simp] theorem hk_29_2 : hints.keep 29 2 = some [4] := rfl
@[simp] theorem hs_29_2 : hints.soft 29 2 = [] := rfl
@[simp] theorem hz_29_2 : hints.frz 29 2 = [] := rfl
@[simp] theorem hk_29_3 : hints.keep 29 3 = some [0, 1, 5] := rfl
@[simp] theorem hs_29_3 : hints.soft 29 3 = [] := rfl
@[simp] theorem hz_29_3 : hints.frz 29 3 = [] := rfl
@[simp] theorem hk_29_4 : hints.keep 29 4 = some [0, 1, 5, 14] := rfl
@[simp] theorem hh_29_4 : hints.head 29 4 = some [0, 1, 5] := rfl
@[simp] theorem hc_29_4 : hints.canon 29 4 = [] := rfl
@[simp] theorem hs_29_4 : hints.soft 29 4 = [] := rfl
@[simp] theorem hz_29_4 : hints.frz 29 4 = [] := rfl
@[simp] theorem hk_29_5 : hints.keep 29 5 = some [0, 1, 5] := rfl
@[simp] theorem hs_29_5 : hints.soft 29 5 = [] := rfl
@[simp] theorem hz_29_5 : hints.frz 29 5 = [] := rfl
@[simp] theorem hk_29_6 : hints.keep 29 6 = some [0, 1, 5, 25] := rfl
@[simp] theorem hs_29_6 : hints.soft 29 6 = [] := rfl
@[simp] theorem hz_29_6 : hints.frz 29 6 = [] := rfl
@[simp] theorem hk_29_7 : hints.keep 29 7 = some [4] := rfl
@[simp] theorem hs_29_7 : hints.soft 29 7 = [] := rfl
@[simp] theorem hz_29_7 : hints.frz 29 7 = [] := rfl
@[simp] theorem hk_29_8 : hints.keep 29 8 = some [4] := rfl
@[simp] theorem hs_29_8 : hints.soft 29 8 = [] := rfl
@[simp] theorem hz_29_8 : hints.frz 29 8 = [] := rfl
@[simp] theorem hk_30_0 : hints.keep 30 0 = some [0, 1] := rfl
@[simp] theorem hs_30_0 : hints.soft 30 0 = [] := rfl
@[simp] theorem hz_30_0 : hints.frz 30 0 = [] := rfl
@[simp] theorem hk_30_1 : hints.keep 30 1 = some [4] := rfl
@[simp] theorem hs_30_1 : hints.soft 30 1 = [] := rfl
@[simp] theorem hz_30_1 : hints.frz 30 1 = [] := rfl
@[simp] theorem hk_31_0 : hints.keep 31 0 = some [0] := rfl
@[simp] theorem hs_31_0 : hints.soft 31 0 = [] := rfl
@[simp] theorem hz_31_0 : hints.frz 31 0 = [] := rfl
@[simp] theorem hk_31_1 : hints.keep 31 1 = some [0, 14, 15, 16] := rfl
@[simp] theorem hs_31_1 : hints.soft 31 1 = [] := rfl
@[simp] theorem hz_31_1 : hints.frz 31 1 = [] := rfl
@[simp] theorem hk_31_2 : hints.keep 31 2 = some [0, 14, 15, 16, 17] := rfl
@[simp] theorem hh_31_2 : hints.head 31 2 = some [0, 14, 15, 16] := rfl
@[simp] theorem hc_31_2 : hints.canon 31 2 = [] := rfl
@[simp] theorem hs_31_2 : hints.soft 31 2 = [] := rfl
@[simp] theorem hz_31_2 : hints.frz 31 2 = [] := rfl
@[simp] theorem hk_31_3 : hints.keep 31 3 = some [0, 5, 6, 14, 15, 16] := rfl
@[simp] theorem hs_31_3 : hints.soft 31 3 = [] := rfl
@[simp] theorem hz_31_3 : hints.frz 31 3 = [] := rfl
@[simp] theorem hk_31_4 : hints.keep 31 4 = some [0, 6, 14, 15, 16, 24, 25, 26] := rfl
@[simp] theorem hs_31_4 : hints.soft 31 4 = [] := rfl
@[simp] theorem hz_31_4 : hints.frz 31 4 = [] := rfl
@[simp] theorem hk_31_5 : hints.keep 31 5 = some [0, 6, 14, 15, 16, 24, 25, 26, 27] := rfl
@[simp] theorem hh_31_5 : hints.head 31 5 = some [0, 6, 14, 15, 16, 24, 25, 26] := rfl
@[simp] theorem hc_31_5 : hints.canon 31 5 = [] := rfl
@[simp] theorem hs_31_5 : hints.soft 31 5 = [] := rfl
@[simp] theorem hz_31_5 : hints.frz 31 5 = [] := rfl
@[simp] theorem hk_31_6 : hints.keep 31 6 = some [0, 6, 8, 14, 15, 16, 24, 25, 26] := rfl
@[simp] theorem hs_31_6 : hints.soft 31 6 = [] := rfl
@[simp] theorem hz_31_6 : hints.frz 31 6 = [] := rfl
@[simp] theorem hk_31_7 : hints.keep 31 7 = some [0, 6, 14, 15, 16, 24, 25, 26, 33] := rfl
@[simp] theorem hs_31_7 : hints.soft 31 7 = [] := rfl
@[simp] theorem hz_31_7 : hints.frz 31 7 = [] := rfl
@[simp] theorem hk_31_8 : hints.keep 31 8 = some [2, 3, 4] := rfl
@[simp] theorem hs_31_8 : hints.soft 31 8 = [(2, none, 1, none), (3, none, 1, none)] := rfl
@[simp] theorem hz_31_8 : hints.frz 31 8 = [] := rfl
@[simp] theorem hk_31_9 : hints.keep 31 9 = some [0, 6, 14, 15, 16, 24, 25, 26] := rfl
@[simp] theorem hs_31_9 : hints.soft 31 9 = [] := rfl
@[simp] theorem hz_31_9 : hints.frz 31 9 = [] := rfl
@[simp] theorem hk_31_10 : hints.keep 31 10 = some [0, 14, 15, 16] := rfl
@[simp] theorem hs_31_10 : hints.soft 31 10 = [] := rfl
@[simp] theorem hz_31_10 : hints.frz 31 10 = [] := rfl
@[simp] theorem hk_31_11 : hints.keep 31 11 = some [0, 38] := rfl
@[simp] theorem hs_31_11 : hints.soft 31 11 = [] := rfl
@[simp] theorem hz_31_11 : hints.frz 31 11 = [] := rfl
@[simp] theorem hk_31_12 : hints.keep 31 12 = some [2, 3, 4] := rfl
@[simp] theorem hs_31_12 : hints.soft 31 12 = [(2, none, 1, none), (3, none, 1, none)] := rfl
@[simp] theorem hz_31_12 : hints.frz 31 12 = [] := rfl
@[simp] theorem hk_31_13 : hints.keep 31 13 = some [0, 9, 10] := rfl
@[simp] theorem hs_31_13 : hints.soft 31 13 = [] := rfl
@[simp] theorem hz_31_13 : hints.frz 31 13 = [] := rfl
@[simp] theorem hk_31_14 : hints.keep 31 14 = some [9, 10, 49, 50, 51] := rfl
@[simp] theorem hs_31_14 : hints.soft 31 14 = [] := rfl
@[simp] theorem hz_31_14 : hints.frz 31 14 = [] := rfl
@[simp] theorem hk_31_15 : hints.keep 31 15 = some [9, 10, 49, 50, 51, 52] := rfl
@[simp] theorem hh_31_15 : hints.head 31 15 = some [9, 10, 49, 50, 51] := rfl
@[simp] theorem hc_31_15 : hints.canon 31 15 = [] := rfl
@[simp] theorem hs_31_15 : hints.soft 31 15 = [] := rfl
@[simp] theorem hz_31_15 : hints.frz 31 15 = [] := rfl
@[simp] theorem hk_31_16 : hints.keep 31 16 = some [9, 10, 12, 49, 50, 51] := rfl
@[simp] theorem hs_31_16 : hints.soft 31 16 = [] := rfl
@[simp] theorem hz_31_16 : hints.frz 31 16 = [] := rfl
@[simp] theorem hk_31_17 : hints.keep 31 17 = some [9, 10, 12, 49, 50, 51] := rfl
@[simp] theorem hs_31_17 : hints.soft 31 17 = [] := rfl
@[simp] theorem hz_31_17 : hints.frz 31 17 = [] := rfl
@[simp] theorem hk_31_18 : hints.keep 31 18 = some [9, 10, 12, 49, 50, 51, 64, 65] := rfl
@[simp] theorem hs_31_18 : hints.soft 31 18 = [] := rfl
@[simp] theorem hz_31_18 : hints.frz 31 18 = [] := rfl
@[simp] theorem hk_31_19 : hints.keep 31 19 = some [9, 10, 12, 49, 50, 51, 64, 65, 66] := rfl
@[simp] theorem hh_31_19 : hints.head 31 19 = some [9, 10, 12, 49, 50, 51, 64, 65] := rfl
@[simp] theorem hc_31_19 : hints.canon 31 19 = [] := rfl
@[simp] theorem hs_31_19 : hints.soft 31 19 = [] := rfl
@[simp] theorem hz_31_19 : hints.frz 31 19 = [] := rfl
@[simp] theorem hk_31_20 : hints.keep 31 20 = some [9, 10, 12, 13, 49, 50, 51, 64, 65] := rfl
@[simp] theorem hs_31_20 : hints.soft 31 20 = [] := rfl
@[simp] theorem hz_31_20 : hints.frz 31 20 = [] := rfl
@[simp] theorem hk_31_21 : hints.keep 31 21 = some [9, 10, 12, 49, 50, 51, 64, 65] := rfl
@[simp] theorem hs_31_21 : hints.soft 31 21 = [] := rfl
@[simp] theorem hz_31_21 : hints.frz 31 21 = [] := rfl
@[simp] theorem hk_31_22 : hints.keep 31 22 = some [9, 10, 12, 49, 50, 51, 64, 65] := rfl
@[simp] theorem hs_31_22 : hints.soft 31 22 = [] := rfl
@[simp] theorem hz_31_22 : hints.frz 31 22 = [] := rfl
@[simp] theorem hk_31_23 : hints.keep 31 23 = some [9, 10, 49, 50, 51] := rfl
@[simp] theorem hs_31_23 : hints.soft 31 23 = [] := rfl
@[simp] theorem hz_31_23 : hints.frz 31 23 = [] := rfl
@[simp] theorem hk_31_24 : hints.keep 31 24 = some [2, 3, 4] := rfl
@[simp] theorem hs_31_24 : hints.soft 31 24 = [] := rfl
@[simp] theorem hz_31_24 : hints.frz 31 24 = [] := rfl
@[simp] theorem hk_32_0 : hints.keep 32 0 = some [0] := rfl
@[simp] theorem hs_32_0 : hints.soft 32 0 = [] := rfl
@[simp] theorem hz_32_0 : hints.frz 32 0 = [] := rfl
@[simp] theorem hk_32_1 : hints.keep 32 1 = some [0, 3] := rfl
@[simp] theorem hs_32_1 : hints.soft 32 1 = [(3, none, 2, some (700064, 47))] := rfl
@[simp] theorem hz_32_1 : hints.frz 32 1 = [] := rfl
@[simp] theorem hk_32_2 : hints.keep 32 2 = some [0, 3, 4] := rfl
@[simp] theorem hs_32_2 : hints.soft 32 2 = [] := rfl
@[simp] theorem hz_32_2 : hints.frz 32 2 = [] := rfl
@[simp] theorem hk_32_3 : hints.keep 32 3 = some [0, 3, 4, 15] := rfl
@[simp] theorem hh_32_3 : hints.head 32 3 = some [0, 3, 4] := rfl
@[simp] theorem hc_32_3 : hints.canon 32 3 = [(3, none, 20000, 2, 47)] := rfl
@[simp] theorem hs_32_3 : hints.soft 32 3 = [] := rfl
@[simp] theorem hz_32_3 : hints.frz 32 3 = [] := rfl
@[simp] theorem hk_32_4 : hints.keep 32 4 = some [0, 3, 4] := rfl
@[simp] theorem hs_32_4 : hints.soft 32 4 = [] := rfl
@[simp] theorem hz_32_4 : hints.frz 32 4 = [] := rfl
@[simp] theorem hk_32_5 : hints.keep 32 5 = some [0, 3, 4, 21] := rfl
@[simp] theorem hs_32_5 : hints.soft 32 5 = [] := rfl
@[simp] theorem hz_32_5 : hints.frz 32 5 = [] := rfl
@[simp] theorem hk_32_6 : hints.keep 32 6 = some [0, 3, 4, 5] := rfl
@[simp] theorem hs_32_6 : hints.soft 32 6 = [] := rfl
@[simp] theorem hz_32_6 : hints.frz 32 6 = [] := rfl
@[simp] theorem hk_32_7 : hints.keep 32 7 = some [0, 3, 4, 5, 34] := rfl
@[simp] theorem hh_32_7 : hints.head 32 7 = some [0, 3, 4, 5] := rfl
@[simp] theorem hc_32_7 : hints.canon 32 7 = [] := rfl
@[simp] theorem hs_32_7 : hints.soft 32 7 = [] := rfl
@[simp] theorem hz_32_7 : hints.frz 32 7 = [] := rfl
@[simp] theorem hk_32_8 : hints.keep 32 8 = some [0, 3, 4, 5] := rfl
@[simp] theorem hs_32_8 : hints.soft 32 8 = [] := rfl
@[simp] theorem hz_32_8 : hints.frz 32 8 = [] := rfl
@[simp] theorem hk_32_9 : hints.keep 32 9 = some [0, 3, 4, 5] := rfl
@[simp] theorem hs_32_9 : hints.soft 32 9 = [] := rfl
@[simp] theorem hz_32_9 : hints.frz 32 9 = [] := rfl
@[simp] theorem hk_32_10 : hints.keep 32 10 = some [0, 3, 4] := rfl
@[simp] theorem hs_32_10 : hints.soft 32 10 = [] := rfl
@[simp] theorem hz_32_10 : hints.frz 32 10 = [] := rfl
@[simp] theorem hk_32_11 : hints.keep 32 11 = some [2] := rfl
@[simp] theorem hs_32_11 : hints.soft 32 11 = [] := rfl
@[simp] theorem hz_32_11 : hints.frz 32 11 = [] := rfl
@[simp] theorem hk_33_0 : hints.keep 33 0 = some [0, 1] := rfl
@[simp] theorem hs_33_0 : hints.soft 33 0 = [] := rfl
@[simp] theorem hz_33_0 : hints.frz 33 0 = [] := rfl
@[simp] theorem hk_33_1 : hints.keep 33 1 = some [4] := rfl
@[simp] theorem hs_33_1 : hints.soft 33 1 = [] := rfl
@[simp] theorem hz_33_1 : hints.frz 33 1 = [] := rfl
@[simp] theorem hk_34_0 : hints.keep 34 0 = some [2, 3] := rfl
@[simp] theorem hs_34_0 : hints.soft 34 0 = [] := rfl
@[simp] theorem hz_34_0 : hints.frz 34 0 = [] := rfl
@[simp] theorem hk_34_1 : hints.keep 34 1 = some [2, 3, 5] := rfl
@[simp] theorem hs_34_1 : hints.soft 34 1 = [] := rfl
@[simp] theorem hz_34_1 : hints.frz 34 1 = [] := rfl
@[simp] theorem hk_34_2 : hints.keep 34 2 = some [4] := rfl
@[simp] theorem hs_34_2 : hints.soft 34 2 = [] := rfl
@[simp] theorem hz_34_2 : hints.frz 34 2 = [] := rfl
@[simp] theorem hk_35_0 : hints.keep 35 0 = some [0] := rfl
@[simp] theorem hs_35_0 : hints.soft 35 0 = [] := rfl
@[simp] theorem hz_35_0 : hints.frz 35 0 = [] := rfl
@[simp] theorem hk_35_1 : hints.keep 35 1 = some [0, 4, 5] := rfl
@[simp] theorem hs_35_1 : hints.soft 35 1 = [] := rfl
@[simp] theorem hz_35_1 : hints.frz 35 1 = [] := rfl
@[simp] theorem hk_35_2 : hints.keep 35 2 = some [4, 5, 20, 21, 22] := rfl
@[simp] theorem hs_35_2 : hints.soft 35 2 = [] := rfl
@[simp] theorem hz_35_2 : hints.frz 35 2 = [] := rfl
@[simp] theorem hk_35_3 : hints.keep 35 3 = some [4, 5, 20, 21, 22, 23] := rfl
@[simp] theorem hh_35_3 : hints.head 35 3 = some [4, 5, 20, 21, 22] := rfl
@[simp] theorem hc_35_3 : hints.canon 35 3 = [] := rfl
@[simp] theorem hs_35_3 : hints.soft 35 3 = [] := rfl
@[simp] theorem hz_35_3 : hints.frz 35 3 = [] := rfl
@[simp] theorem hk_35_4 : hints.keep 35 4 = some [4, 5, 7, 20, 21, 22] := rfl
@[simp] theorem hs_35_4 : hints.soft 35 4 = [] := rfl
@[simp] theorem hz_35_4 : hints.frz 35 4 = [] := rfl
@[simp] theorem hk_35_5 : hints.keep 35 5 = some [4, 5, 7, 20, 21, 22, 27, 28, 29] := rfl
@[simp] theorem hs_35_5 : hints.soft 35 5 = [] := rfl
@[simp] theorem hz_35_5 : hints.frz 35 5 = [] := rfl
@[simp] theorem hk_35_6 : hints.keep 35 6 = some [4, 5, 7, 20, 21, 22, 27, 28, 29, 30] := rfl
@[simp] theorem hh_35_6 : hints.head 35 6 = some [4, 5, 7, 20, 21, 22, 27, 28, 29] := rfl
@[simp] theorem hc_35_6 : hints.canon 35 6 = [] := rfl
@[simp] theorem hs_35_6 : hints.soft 35 6 = [] := rfl
@[simp] theorem hz_35_6 : hints.frz 35 6 = [] := rfl
@[simp] theorem hk_35_7 : hints.keep 35 7 = some [4, 5, 7, 8, 9, 20, 21, 22, 27, 28, 29] := rfl
@[simp] theorem hs_35_7 : hints.soft 35 7 = [] := rfl
@[simp] theorem hz_35_7 : hints.frz 35 7 = [] := rfl
@[simp] theorem hk_35_8 : hints.keep 35 8 = some [4, 5, 7, 20, 21, 22, 27, 28, 29] := rfl
@[simp] theorem hs_35_8 : hints.soft 35 8 = [] := rfl
@[simp] theorem hz_35_8 : hints.frz 35 8 = [] := rfl
@[simp] theorem hk_35_9 : hints.keep 35 9 = some [4, 5, 7, 20, 21, 22, 27, 28, 29] := rfl
@[simp] theorem hs_35_9 : hints.soft 35 9 = [] := rfl
@[simp] theorem hz_35_9 : hints.frz 35 9 = [] := rfl
@[simp] theorem hk_35_10 : hints.keep 35 10 = some [4, 5, 20, 21, 22] := rfl
@[simp] theorem hs_35_10 : hints.soft 35 10 = [] := rfl
@[simp] theorem hz_35_10 : hints.frz 35 10 = [] := rfl
@[simp] theorem hk_35_11 : hints.keep 35 11 = some [2, 3] := rfl
@[simp] theorem hs_35_11 : hints.soft 35 11 = [] := rfl
@[simp] theorem hz_35_11 : hints.frz 35 11 = [] := rfl
@[simp] theorem hk_36_0 : hints.keep 36 0 = some [0, 1, 2] := rfl
@[simp] theorem hs_36_0 : hints.soft 36 0 = [] := rfl
@[simp] theorem hz_36_0 : hints.frz 36 0 = [] := rfl
@[simp] theorem hk_36_1 : hints.keep 36 1 = some [6] := rfl
@[simp] theorem hs_36_1 : hints.soft 36 1 = [] := rfl
@[simp] theorem hz_36_1 : hints.frz 36 1 = [] := rfl
@[simp] theorem hk_38_0 : hints.keep 38 0 = some [0, 1] := rfl
@[simp] theorem hs_38_0 : hints.soft 38 0 = [] := rfl
@[simp] theorem hz_38_0 : hints.frz 38 0 = [] := rfl
@[simp] theorem hk_38_1 : hints.keep 38 1 = some [0, 1, 10] := rfl
@[simp] theorem hs_38_1 : hints.soft 38 1 = [] := rfl
@[simp] theorem hz_38_1 : hints.frz 38 1 = [] := rfl
@[simp] theorem hk_38_2 : hints.keep 38 2 = some [4] := rfl
@[simp] theorem hs_38_2 : hints.soft 38 2 = [] := rfl
@[simp] theorem hz_38_2 : hints.frz 38 2 = [] := rfl
@[simp] theorem hk_38_3 : hints.keep 38 3 = some [0, 1, 12, 13] := rfl
@[simp] theorem hs_38_3 : hints.soft 38 3 = [] := rfl
@[simp] theorem hz_38_3 : hints.frz 38 3 = [] := rfl
@[simp] theorem hk_38_4 : hints.keep 38 4 = some [0, 1, 12, 13, 14] := rfl
@[simp] theorem hh_38_4 : hints.head 38 4 = some [0, 1, 12, 13] := rfl
@[simp] theorem hc_38_4 : hints.canon 38 4 = [] := rfl
@[simp] theorem hs_38_4 : hints.soft 38 4 = [] := rfl
@[simp] theorem hz_38_4 : hints.frz 38 4 = [] := rfl
@[simp] theorem hk_38_5 : hints.keep 38 5 = some [0, 1, 5, 12, 13] := rfl
@[simp] theorem hs_38_5 : hints.soft 38 5 = [] := rfl
@[simp] theorem hz_38_5 : hints.frz 38 5 = [] := rfl
@[simp] theorem hk_38_6 : hints.keep 38 6 = some [0, 1, 12, 13, 24] := rfl
@[simp] theorem hs_38_6 : hints.soft 38 6 = [] := rfl
@[simp] theorem hz_38_6 : hints.frz 38 6 = [] := rfl
@[simp] theorem hk_38_7 : hints.keep 38 7 = some [4] := rfl
@[simp] theorem hs_38_7 : hints.soft 38 7 = [] := rfl
@[simp] theorem hz_38_7 : hints.frz 38 7 = [] := rfl
@[simp] theorem hk_38_8 : hints.keep 38 8 = some [0, 1, 12, 13] := rfl
@[simp] theorem hs_38_8 : hints.soft 38 8 = [] := rfl
@[simp] theorem hz_38_8 : hints.frz 38 8 = [] := rfl
@[simp] theorem hk_38_9 : hints.keep 38 9 = some [4] := rfl
@[simp] theorem hs_38_9 : hints.soft 38 9 = [] := rfl
@[simp] theorem hz_38_9 : hints.frz 38 9 = [] := rfl
@[simp] theorem hk_39_0 : hints.keep 39 0 = some [1, 2] := rfl
@[simp] theorem hs_39_0 : hints.soft 39 0 = [] := rfl
@[simp] theorem hz_39_0 : hints.frz 39 0 = [] := rfl
@[simp] theorem hk_39_1 : hints.keep 39 1 = some [2] := rfl
@[simp] theorem hs_39_1 : hints.soft 39 1 = [] := rfl
@[simp] theorem hz_39_1 : hints.frz 39 1 = [] := rfl
end Go.Proofs.YteggcokgkcfliaaV
