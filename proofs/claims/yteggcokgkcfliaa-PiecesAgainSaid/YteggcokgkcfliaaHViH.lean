/- The value interpreter's hints and the types' facts for this seat, one by one. -/
import Derived.Test.YteggcokgkcfliaaHViS
import Derived.Test.YteggcokgkcfliaaHVi26
namespace Go.Proofs.YteggcokgkcfliaaV
open Go
set_option linter.unusedVariables false
noncomputable def inf (t : TypeId) : TypeInfo := (Try.prog.info? t).getD ((Try.prog.info? 3).get (by kernel_rfl))
@[simp] theorem u_3 : Try.prog.underlying 3 = Option.some (Go.TypeDesc.int Go.IntKind.i64) := by kernel_rfl
@[simp] theorem i_3 : Try.prog.info? 3 = some (inf 3) := by kernel_rfl
@[simp] theorem is_3 : (inf 3).size = 1 := by kernel_rfl
@[simp] theorem ib_3 : (inf 3).bytes = 8 := by kernel_rfl
@[simp] theorem iz_3 : zeroRow (inf 3) = Option.some [V.p (Go.Value.int Go.IntKind.i64 0)] := by kernel_rfl
@[simp] theorem u_4 : Try.prog.underlying 4 = Option.some Go.TypeDesc.bool := by kernel_rfl
@[simp] theorem i_4 : Try.prog.info? 4 = some (inf 4) := by kernel_rfl
@[simp] theorem is_4 : (inf 4).size = 1 := by kernel_rfl
@[simp] theorem ib_4 : (inf 4).bytes = 1 := by kernel_rfl
@[simp] theorem iz_4 : zeroRow (inf 4) = Option.some [V.p (Go.Value.bool false)] := by kernel_rfl
@[simp] theorem sm_4 : slotMs Try.prog 8 4 = [0] := by kernel_rfl
@[simp] theorem u_5 : Try.prog.underlying 5 = Option.some (Go.TypeDesc.int Go.IntKind.u8) := by kernel_rfl
@[simp] theorem i_5 : Try.prog.info? 5 = some (inf 5) := by kernel_rfl
@[simp] theorem is_5 : (inf 5).size = 1 := by kernel_rfl
@[simp] theorem ib_5 : (inf 5).bytes = 1 := by kernel_rfl
@[simp] theorem iz_5 : zeroRow (inf 5) = Option.some [V.p (Go.Value.int Go.IntKind.u8 0)] := by kernel_rfl
@[simp] theorem sm_5 : slotMs Try.prog 8 5 = [0] := by kernel_rfl
@[simp] theorem u_9 : Try.prog.underlying 9 = Option.some Go.TypeDesc.string := by kernel_rfl
@[simp] theorem i_9 : Try.prog.info? 9 = some (inf 9) := by kernel_rfl
@[simp] theorem is_9 : (inf 9).size = 1 := by kernel_rfl
@[simp] theorem ib_9 : (inf 9).bytes = 16 := by kernel_rfl
@[simp] theorem iz_9 : zeroRow (inf 9) = Option.some [V.p (Go.Value.string (ByteArray.mk (Array.mk [])))] := by kernel_rfl
@[simp] theorem u_22 : Try.prog.underlying 22 = Option.some (Go.TypeDesc.int Go.IntKind.u32) := by kernel_rfl
@[simp] theorem i_22 : Try.prog.info? 22 = some (inf 22) := by kernel_rfl
@[simp] theorem is_22 : (inf 22).size = 1 := by kernel_rfl
@[simp] theorem ib_22 : (inf 22).bytes = 4 := by kernel_rfl
@[simp] theorem iz_22 : zeroRow (inf 22) = Option.some [V.p (Go.Value.int Go.IntKind.u32 0)] := by kernel_rfl
@[simp] theorem u_23 : Try.prog.underlying 23 = Option.some (Go.TypeDesc.slice 5) := by kernel_rfl
@[simp] theorem i_23 : Try.prog.info? 23 = some (inf 23) := by kernel_rfl
@[simp] theorem is_23 : (inf 23).size = 1 := by kernel_rfl
@[simp] theorem ib_23 : (inf 23).bytes = 24 := by kernel_rfl
@[simp] theorem iz_23 : zeroRow (inf 23) = Option.some [V.nil] := by kernel_rfl
@[simp] theorem u_25 : Try.prog.underlying 25 = Option.some (Go.TypeDesc.struct (Array.mk [Go.Field.mk "Source" 3 0 false "" "" 0, Go.Field.mk "Dest" 3 1 false "" "" 8, Go.Field.mk "Seq" 22 2 false "" "" 16, Go.Field.mk "Created" 3 3 false "" "" 24, Go.Field.mk "Lifetime" 3 4 false "" "" 32, Go.Field.mk "HopLimit" 3 5 false "" "" 40, Go.Field.mk "Hops" 3 6 false "" "" 48, Go.Field.mk "Priority" 3 7 false "" "" 56, Go.Field.mk "Offset" 3 8 false "" "" 64, Go.Field.mk "Total" 3 9 false "" "" 72, Go.Field.mk "Payload" 23 10 false "" "" 80])) := by kernel_rfl
@[simp] theorem i_25 : Try.prog.info? 25 = some (inf 25) := by kernel_rfl
@[simp] theorem is_25 : (inf 25).size = 11 := by kernel_rfl
@[simp] theorem ib_25 : (inf 25).bytes = 104 := by kernel_rfl
@[simp] theorem iz_25 : zeroRow (inf 25) = Option.some [V.p (Go.Value.int Go.IntKind.i64 0), V.p (Go.Value.int Go.IntKind.i64 0), V.p (Go.Value.int Go.IntKind.u32 0), V.p (Go.Value.int Go.IntKind.i64 0), V.p (Go.Value.int Go.IntKind.i64 0), V.p (Go.Value.int Go.IntKind.i64 0), V.p (Go.Value.int Go.IntKind.i64 0), V.p (Go.Value.int Go.IntKind.i64 0), V.p (Go.Value.int Go.IntKind.i64 0), V.p (Go.Value.int Go.IntKind.i64 0), V.nil] := by kernel_rfl
@[simp] theorem sm_25 : slotMs Try.prog 8 25 = [0, 0, 0, 0, 0, 0, 0, 0, 0, 0, 1] := by kernel_rfl
@[simp] theorem bl_25 (σ : St) (ps : List (Nat × Operand)) : buildV Try.prog σ 25 ps = (fillL [(0, 1), (1, 1), (2, 1), (3, 1), (4, 1), (5, 1), (6, 1), (7, 1), (8, 1), (9, 1), (10, 1)] [V.p (Go.Value.int Go.IntKind.i64 0), V.p (Go.Value.int Go.IntKind.i64 0), V.p (Go.Value.int Go.IntKind.u32 0), V.p (Go.Value.int Go.IntKind.i64 0), V.p (Go.Value.int Go.IntKind.i64 0), V.p (Go.Value.int Go.IntKind.i64 0), V.p (Go.Value.int Go.IntKind.i64 0), V.p (Go.Value.int Go.IntKind.i64 0), V.p (Go.Value.int Go.IntKind.i64 0), V.p (Go.Value.int Go.IntKind.i64 0), V.nil] (evL σ ps)).map .agg := build_eval i_25 iz_25 u_25 (by kernel_rfl)
@[simp] theorem u_28 : Try.prog.underlying 28 = Option.some (Go.TypeDesc.slice 25) := by kernel_rfl
@[simp] theorem i_28 : Try.prog.info? 28 = some (inf 28) := by kernel_rfl
@[simp] theorem is_28 : (inf 28).size = 1 := by kernel_rfl
@[simp] theorem ib_28 : (inf 28).bytes = 24 := by kernel_rfl
@[simp] theorem iz_28 : zeroRow (inf 28) = Option.some [V.nil] := by kernel_rfl
@[simp] theorem u_41 : Try.prog.underlying 41 = Option.some (Go.TypeDesc.slice 47) := by kernel_rfl
@[simp] theorem i_41 : Try.prog.info? 41 = some (inf 41) := by kernel_rfl
@[simp] theorem is_41 : (inf 41).size = 1 := by kernel_rfl
@[simp] theorem ib_41 : (inf 41).bytes = 24 := by kernel_rfl
@[simp] theorem iz_41 : zeroRow (inf 41) = Option.some [V.nil] := by kernel_rfl
@[simp] theorem u_47 : Try.prog.underlying 47 = Option.some (Go.TypeDesc.struct (Array.mk [Go.Field.mk "At" 3 0 false "" "" 0, Go.Field.mk "N" 3 1 false "" "" 8])) := by kernel_rfl
@[simp] theorem i_47 : Try.prog.info? 47 = some (inf 47) := by kernel_rfl
@[simp] theorem is_47 : (inf 47).size = 2 := by kernel_rfl
@[simp] theorem ib_47 : (inf 47).bytes = 16 := by kernel_rfl
@[simp] theorem iz_47 : zeroRow (inf 47) = Option.some [V.p (Go.Value.int Go.IntKind.i64 0), V.p (Go.Value.int Go.IntKind.i64 0)] := by kernel_rfl
@[simp] theorem sm_47 : slotMs Try.prog 8 47 = [0, 0] := by kernel_rfl
@[simp] theorem bl_47 (σ : St) (ps : List (Nat × Operand)) : buildV Try.prog σ 47 ps = (fillL [(0, 1), (1, 1)] [V.p (Go.Value.int Go.IntKind.i64 0), V.p (Go.Value.int Go.IntKind.i64 0)] (evL σ ps)).map .agg := build_eval i_47 iz_47 u_47 (by kernel_rfl)
@[simp] theorem u_57 : Try.prog.underlying 57 = Option.some (Go.TypeDesc.pointer 3) := by kernel_rfl
@[simp] theorem i_57 : Try.prog.info? 57 = some (inf 57) := by kernel_rfl
@[simp] theorem is_57 : (inf 57).size = 1 := by kernel_rfl
@[simp] theorem ib_57 : (inf 57).bytes = 8 := by kernel_rfl
@[simp] theorem iz_57 : zeroRow (inf 57) = Option.some [V.p (Go.Value.pointer Option.none)] := by kernel_rfl
@[simp] theorem u_58 : Try.prog.underlying 58 = Option.some (Go.TypeDesc.array 2 57) := by kernel_rfl
@[simp] theorem i_58 : Try.prog.info? 58 = some (inf 58) := by kernel_rfl
@[simp] theorem is_58 : (inf 58).size = 2 := by kernel_rfl
@[simp] theorem ib_58 : (inf 58).bytes = 16 := by kernel_rfl
@[simp] theorem iz_58 : zeroRow (inf 58) = Option.some [V.p (Go.Value.pointer Option.none), V.p (Go.Value.pointer Option.none)] := by kernel_rfl
theorem bl_58 (σ : St) (ps : List (Nat × Operand)) : buildV Try.prog σ 58 ps = (fillA [V.p (Go.Value.pointer Option.none), V.p (Go.Value.pointer Option.none)] (evL σ ps)).map .agg := by rw [build_evalA i_58 iz_58 u_58 i_57]; simp only [is_57, Nat.mul_one]; rfl
@[simp] theorem u_59 : Try.prog.underlying 59 = Option.some (Go.TypeDesc.slice 58) := by kernel_rfl
@[simp] theorem i_59 : Try.prog.info? 59 = some (inf 59) := by kernel_rfl
@[simp] theorem is_59 : (inf 59).size = 1 := by kernel_rfl
@[simp] theorem ib_59 : (inf 59).bytes = 24 := by kernel_rfl
@[simp] theorem iz_59 : zeroRow (inf 59) = Option.some [V.nil] := by kernel_rfl
@[simp] theorem u_60 : Try.prog.underlying 60 = Option.some (Go.TypeDesc.slice 4) := by kernel_rfl
@[simp] theorem i_60 : Try.prog.info? 60 = some (inf 60) := by kernel_rfl
@[simp] theorem is_60 : (inf 60).size = 1 := by kernel_rfl
@[simp] theorem ib_60 : (inf 60).bytes = 24 := by kernel_rfl
@[simp] theorem iz_60 : zeroRow (inf 60) = Option.some [V.nil] := by kernel_rfl
@[simp] theorem u_69 : Try.prog.underlying 69 = Option.some (Go.TypeDesc.struct (Array.mk [Go.Field.mk "source" 3 0 false "" "heliograph/bundle" 0, Go.Field.mk "dest" 3 1 false "" "heliograph/bundle" 8, Go.Field.mk "created" 3 2 false "" "heliograph/bundle" 16, Go.Field.mk "life" 3 3 false "" "heliograph/bundle" 24, Go.Field.mk "limit" 3 4 false "" "heliograph/bundle" 32, Go.Field.mk "hops" 3 5 false "" "heliograph/bundle" 40, Go.Field.mk "priority" 3 6 false "" "heliograph/bundle" 48, Go.Field.mk "offset" 3 7 false "" "heliograph/bundle" 56, Go.Field.mk "total" 3 8 false "" "heliograph/bundle" 64, Go.Field.mk "seq" 22 9 false "" "heliograph/bundle" 72])) := by kernel_rfl
@[simp] theorem i_69 : Try.prog.info? 69 = some (inf 69) := by kernel_rfl
@[simp] theorem is_69 : (inf 69).size = 10 := by kernel_rfl
@[simp] theorem ib_69 : (inf 69).bytes = 80 := by kernel_rfl
@[simp] theorem iz_69 : zeroRow (inf 69) = Option.some [V.p (Go.Value.int Go.IntKind.i64 0), V.p (Go.Value.int Go.IntKind.i64 0), V.p (Go.Value.int Go.IntKind.i64 0), V.p (Go.Value.int Go.IntKind.i64 0), V.p (Go.Value.int Go.IntKind.i64 0), V.p (Go.Value.int Go.IntKind.i64 0), V.p (Go.Value.int Go.IntKind.i64 0), V.p (Go.Value.int Go.IntKind.i64 0), V.p (Go.Value.int Go.IntKind.i64 0), V.p (Go.Value.int Go.IntKind.u32 0)] := by kernel_rfl
@[simp] theorem ag_69 : (Try.prog.eqGuardType Try.prog.depth 69 || Try.prog.stoodInHeld 69) = false := by kernel_rfl
@[simp] theorem bl_69 (σ : St) (ps : List (Nat × Operand)) : buildV Try.prog σ 69 ps = (fillL [(0, 1), (1, 1), (2, 1), (3, 1), (4, 1), (5, 1), (6, 1), (7, 1), (8, 1), (9, 1)] [V.p (Go.Value.int Go.IntKind.i64 0), V.p (Go.Value.int Go.IntKind.i64 0), V.p (Go.Value.int Go.IntKind.i64 0), V.p (Go.Value.int Go.IntKind.i64 0), V.p (Go.Value.int Go.IntKind.i64 0), V.p (Go.Value.int Go.IntKind.i64 0), V.p (Go.Value.int Go.IntKind.i64 0), V.p (Go.Value.int Go.IntKind.i64 0), V.p (Go.Value.int Go.IntKind.i64 0), V.p (Go.Value.int Go.IntKind.u32 0)] (evL σ ps)).map .agg := build_eval i_69 iz_69 u_69 (by kernel_rfl)
@[simp] theorem gv (f : FuncId) : hints.gives f = [].contains f := rfl
@[simp] theorem hk_5_0 : hints.keep 5 0 = some [1, 2, 3] := rfl
@[simp] theorem hs_5_0 : hints.soft 5 0 = [] := rfl
@[simp] theorem hz_5_0 : hints.frz 5 0 = [] := rfl
@[simp] theorem hk_5_1 : hints.keep 5 1 = some [1, 2, 3, 19] := rfl
@[simp] theorem hs_5_1 : hints.soft 5 1 = [] := rfl
@[simp] theorem hz_5_1 : hints.frz 5 1 = [] := rfl
@[simp] theorem hk_5_2 : hints.keep 5 2 = some [6] := rfl
@[simp] theorem hs_5_2 : hints.soft 5 2 = [] := rfl
@[simp] theorem hz_5_2 : hints.frz 5 2 = [] := rfl
@[simp] theorem hk_5_3 : hints.keep 5 3 = some [1, 2, 3] := rfl
@[simp] theorem hs_5_3 : hints.soft 5 3 = [] := rfl
@[simp] theorem hz_5_3 : hints.frz 5 3 = [] := rfl
@[simp] theorem hk_5_4 : hints.keep 5 4 = some [1, 2, 3, 7, 8] := rfl
@[simp] theorem hs_5_4 : hints.soft 5 4 = [] := rfl
@[simp] theorem hz_5_4 : hints.frz 5 4 = [] := rfl
@[simp] theorem hk_5_5 : hints.keep 5 5 = some [1, 2, 3, 7, 33] := rfl
@[simp] theorem hs_5_5 : hints.soft 5 5 = [] := rfl
@[simp] theorem hz_5_5 : hints.frz 5 5 = [] := rfl
@[simp] theorem hk_5_6 : hints.keep 5 6 = some [6] := rfl
@[simp] theorem hs_5_6 : hints.soft 5 6 = [] := rfl
@[simp] theorem hz_5_6 : hints.frz 5 6 = [] := rfl
@[simp] theorem hk_5_7 : hints.keep 5 7 = some [1, 2, 3, 7, 9] := rfl
@[simp] theorem hs_5_7 : hints.soft 5 7 = [(9, none, 11, some (700448, 25))] := rfl
@[simp] theorem hz_5_7 : hints.frz 5 7 = [] := rfl
@[simp] theorem hk_5_8 : hints.keep 5 8 = some [1, 2, 3, 7, 9, 10] := rfl
@[simp] theorem hs_5_8 : hints.soft 5 8 = [] := rfl
@[simp] theorem hz_5_8 : hints.frz 5 8 = [] := rfl
@[simp] theorem hk_5_9 : hints.keep 5 9 = some [1, 2, 3, 9, 10, 34, 35, 36] := rfl
@[simp] theorem hs_5_9 : hints.soft 5 9 = [] := rfl
@[simp] theorem hz_5_9 : hints.frz 5 9 = [] := rfl
@[simp] theorem hk_5_10 : hints.keep 5 10 = some [1, 2, 3, 9, 10, 34, 35, 36, 37] := rfl
@[simp] theorem hh_5_10 : hints.head 5 10 = some [1, 2, 3, 9, 10, 34, 35, 36] := rfl
@[simp] theorem hc_5_10 : hints.canon 5 10 = [(9, none, 20000, 11, 25)] := rfl
@[simp] theorem hs_5_10 : hints.soft 5 10 = [] := rfl
@[simp] theorem hz_5_10 : hints.frz 5 10 = [] := rfl
@[simp] theorem hk_5_11 : hints.keep 5 11 = some [1, 2, 3, 9, 10, 12, 34, 35, 36] := rfl
@[simp] theorem hs_5_11 : hints.soft 5 11 = [] := rfl
@[simp] theorem hz_5_11 : hints.frz 5 11 = [] := rfl
@[simp] theorem hk_5_12 : hints.keep 5 12 = some [1, 2, 3, 9, 10, 13, 14, 34, 35, 36] := rfl
@[simp] theorem hs_5_12 : hints.soft 5 12 = [] := rfl
@[simp] theorem hz_5_12 : hints.frz 5 12 = [] := rfl
@[simp] theorem hk_5_13 : hints.keep 5 13 = some [1, 2, 3, 9, 10, 13, 34, 35, 36, 47] := rfl
@[simp] theorem hs_5_13 : hints.soft 5 13 = [] := rfl
@[simp] theorem hz_5_13 : hints.frz 5 13 = [] := rfl
@[simp] theorem hk_5_14 : hints.keep 5 14 = some [6] := rfl
@[simp] theorem hs_5_14 : hints.soft 5 14 = [] := rfl
@[simp] theorem hz_5_14 : hints.frz 5 14 = [] := rfl
@[simp] theorem hk_5_15 : hints.keep 5 15 = some [1, 2, 3, 9, 10, 13, 34, 35, 36, 48, 49, 50] := rfl
@[simp] theorem hs_5_15 : hints.soft 5 15 = [] := rfl
@[simp] theorem hz_5_15 : hints.frz 5 15 = [] := rfl
@[simp] theorem hk_5_16 : hints.keep 5 16 = some [1, 2, 3, 9, 10, 13, 34, 35, 36, 48, 49, 50, 51] := rfl
@[simp] theorem hh_5_16 : hints.head 5 16 = some [1, 2, 3, 9, 10, 13, 34, 35, 36, 48, 49, 50] := rfl
@[simp] theorem hc_5_16 : hints.canon 5 16 = [] := rfl
@[simp] theorem hs_5_16 : hints.soft 5 16 = [] := rfl
@[simp] theorem hz_5_16 : hints.frz 5 16 = [] := rfl
@[simp] theorem hk_5_17 : hints.keep 5 17 = some [1, 2, 3, 9, 10, 13, 16, 34, 35, 36, 48, 49, 50] := rfl
@[simp] theorem hs_5_17 : hints.soft 5 17 = [] := rfl
@[simp] theorem hz_5_17 : hints.frz 5 17 = [] := rfl
@[simp] theorem hk_5_18 : hints.keep 5 18 = some [1, 2, 3, 9, 10, 13, 16, 34, 35, 36, 48, 49, 50, 71] := rfl
@[simp] theorem hs_5_18 : hints.soft 5 18 = [] := rfl
@[simp] theorem hz_5_18 : hints.frz 5 18 = [] := rfl
@[simp] theorem hk_5_19 : hints.keep 5 19 = some [6] := rfl
@[simp] theorem hs_5_19 : hints.soft 5 19 = [] := rfl
@[simp] theorem hz_5_19 : hints.frz 5 19 = [] := rfl
@[simp] theorem hk_5_20 : hints.keep 5 20 = some [1, 2, 3, 9, 10, 13, 34, 35, 36, 48, 49, 50] := rfl
@[simp] theorem hs_5_20 : hints.soft 5 20 = [] := rfl
@[simp] theorem hz_5_20 : hints.frz 5 20 = [] := rfl
@[simp] theorem hk_5_21 : hints.keep 5 21 = some [1, 2, 3, 9, 10, 13, 34, 35, 36, 48, 49, 50] := rfl
@[simp] theorem hs_5_21 : hints.soft 5 21 = [] := rfl
@[simp] theorem hz_5_21 : hints.frz 5 21 = [] := rfl
@[simp] theorem hk_5_22 : hints.keep 5 22 = some [1, 2, 3, 9, 10, 34, 35, 36] := rfl
@[simp] theorem hs_5_22 : hints.soft 5 22 = [] := rfl
@[simp] theorem hz_5_22 : hints.frz 5 22 = [] := rfl
@[simp] theorem hk_5_23 : hints.keep 5 23 = some [1, 2, 3, 9, 10, 34, 35, 36] := rfl
@[simp] theorem hs_5_23 : hints.soft 5 23 = [] := rfl
@[simp] theorem hz_5_23 : hints.frz 5 23 = [] := rfl
@[simp] theorem hk_5_24 : hints.keep 5 24 = some [3, 9, 86] := rfl
@[simp] theorem hs_5_24 : hints.soft 5 24 = [] := rfl
@[simp] theorem hz_5_24 : hints.frz 5 24 = [] := rfl
@[simp] theorem hk_5_25 : hints.keep 5 25 = some [6] := rfl
@[simp] theorem hs_5_25 : hints.soft 5 25 = [] := rfl
@[simp] theorem hz_5_25 : hints.frz 5 25 = [] := rfl
@[simp] theorem hk_5_26 : hints.keep 5 26 = some [3, 8, 17] := rfl
@[simp] theorem hs_5_26 : hints.soft 5 26 = [] := rfl
@[simp] theorem hz_5_26 : hints.frz 5 26 = [] := rfl
@[simp] theorem hk_5_27 : hints.keep 5 27 = some [6] := rfl
@[simp] theorem hs_5_27 : hints.soft 5 27 = [] := rfl
@[simp] theorem hz_5_27 : hints.frz 5 27 = [] := rfl
@[simp] theorem hk_10_0 : hints.keep 10 0 = some [1, 2] := rfl
@[simp] theorem hs_10_0 : hints.soft 10 0 = [(2, some 10, 1, some (700000, 5))] := rfl
@[simp] theorem hz_10_0 : hints.frz 10 0 = [] := rfl
@[simp] theorem hk_10_1 : hints.keep 10 1 = some [1, 2] := rfl
@[simp] theorem hs_10_1 : hints.soft 10 1 = [] := rfl
@[simp] theorem hz_10_1 : hints.frz 10 1 = [] := rfl
@[simp] theorem hk_10_2 : hints.keep 10 2 = some [2] := rfl
@[simp] theorem hs_10_2 : hints.soft 10 2 = [] := rfl
@[simp] theorem hz_10_2 : hints.frz 10 2 = [] := rfl
@[simp] theorem hk_11_0 : hints.keep 11 0 = some [1, 2] := rfl
@[simp] theorem hs_11_0 : hints.soft 11 0 = [] := rfl
@[simp] theorem hz_11_0 : hints.frz 11 0 = [] := rfl
@[simp] theorem hk_11_1 : hints.keep 11 1 = some [1, 2, 10] := rfl
@[simp] theorem hs_11_1 : hints.soft 11 1 = [] := rfl
@[simp] theorem hz_11_1 : hints.frz 11 1 = [] := rfl
@[simp] theorem hk_11_2 : hints.keep 11 2 = some [4, 5] := rfl
@[simp] theorem hs_11_2 : hints.soft 11 2 = [(4, none, 11, some (700128, 25))] := rfl
@[simp] theorem hz_11_2 : hints.frz 11 2 = [] := rfl
@[simp] theorem hk_11_3 : hints.keep 11 3 = some [1, 2, 14] := rfl
@[simp] theorem hs_11_3 : hints.soft 11 3 = [] := rfl
@[simp] theorem hz_11_3 : hints.frz 11 3 = [] := rfl
@[simp] theorem hk_11_4 : hints.keep 11 4 = some [4, 5] := rfl
@[simp] theorem hs_11_4 : hints.soft 11 4 = [(4, none, 11, some (700256, 25))] := rfl
@[simp] theorem hz_11_4 : hints.frz 11 4 = [] := rfl
@[simp] theorem hk_11_5 : hints.keep 11 5 = some [1, 2, 6] := rfl
@[simp] theorem hs_11_5 : hints.soft 11 5 = [(6, some 0, 11, some (700320, 25))] := rfl
@[simp] theorem hz_11_5 : hints.frz 11 5 = [] := rfl
@[simp] theorem hk_11_6 : hints.keep 11 6 = some [2, 6, 20] := rfl
@[simp] theorem hs_11_6 : hints.soft 11 6 = [] := rfl
@[simp] theorem hz_11_6 : hints.frz 11 6 = [] := rfl
@[simp] theorem hk_11_7 : hints.keep 11 7 = some [2, 6, 7, 22] := rfl
@[simp] theorem hs_11_7 : hints.soft 11 7 = [] := rfl
@[simp] theorem hz_11_7 : hints.frz 11 7 = [] := rfl
@[simp] theorem hk_11_8 : hints.keep 11 8 = some [2, 6, 7, 8] := rfl
@[simp] theorem hs_11_8 : hints.soft 11 8 = [] := rfl
@[simp] theorem hz_11_8 : hints.frz 11 8 = [] := rfl
@[simp] theorem hk_11_9 : hints.keep 11 9 = some [6, 7, 8, 9] := rfl
@[simp] theorem hs_11_9 : hints.soft 11 9 = [] := rfl
@[simp] theorem hz_11_9 : hints.frz 11 9 = [] := rfl
@[simp] theorem hk_11_10 : hints.keep 11 10 = some [6, 8, 9] := rfl
@[simp] theorem hs_11_10 : hints.soft 11 10 = [] := rfl
@[simp] theorem hz_11_10 : hints.frz 11 10 = [] := rfl
@[simp] theorem hk_11_11 : hints.keep 11 11 = some [6, 9] := rfl
@[simp] theorem hs_11_11 : hints.soft 11 11 = [] := rfl
@[simp] theorem hz_11_11 : hints.frz 11 11 = [] := rfl
@[simp] theorem hk_11_12 : hints.keep 11 12 = some [] := rfl
@[simp] theorem hs_11_12 : hints.soft 11 12 = [] := rfl
@[simp] theorem hz_11_12 : hints.frz 11 12 = [] := rfl
@[simp] theorem hk_11_13 : hints.keep 11 13 = some [4, 5] := rfl
@[simp] theorem hs_11_13 : hints.soft 11 13 = [] := rfl
@[simp] theorem hz_11_13 : hints.frz 11 13 = [] := rfl
@[simp] theorem hk_16_0 : hints.keep 16 0 = some [2, 3] := rfl
@[simp] theorem hs_16_0 : hints.soft 16 0 = [] := rfl
@[simp] theorem hz_16_0 : hints.frz 16 0 = [] := rfl
@[simp] theorem hk_16_1 : hints.keep 16 1 = some [2, 3, 17] := rfl
@[simp] theorem hs_16_1 : hints.soft 16 1 = [] := rfl
@[simp] theorem hz_16_1 : hints.frz 16 1 = [] := rfl
@[simp] theorem hk_16_2 : hints.keep 16 2 = some [4] := rfl
@[simp] theorem hs_16_2 : hints.soft 16 2 = [] := rfl
@[simp] theorem hz_16_2 : hints.frz 16 2 = [] := rfl
@[simp] theorem hk_16_3 : hints.keep 16 3 = some [2, 3, 5] := rfl
@[simp] theorem hs_16_3 : hints.soft 16 3 = [] := rfl
@[simp] theorem hz_16_3 : hints.frz 16 3 = [] := rfl
@[simp] theorem hk_16_4 : hints.keep 16 4 = some [2, 3, 5, 25, 26, 27] := rfl
@[simp] theorem hs_16_4 : hints.soft 16 4 = [] := rfl
@[simp] theorem hz_16_4 : hints.frz 16 4 = [] := rfl
@[simp] theorem hk_16_5 : hints.keep 16 5 = some [2, 3, 5, 25, 26, 27, 28] := rfl
@[simp] theorem hh_16_5 : hints.head 16 5 = some [2, 3, 5, 25, 26, 27] := rfl
@[simp] theorem hc_16_5 : hints.canon 16 5 = [] := rfl
@[simp] theorem hs_16_5 : hints.soft 16 5 = [] := rfl
@[simp] theorem hz_16_5 : hints.frz 16 5 = [] := rfl
@[simp] theorem hk_16_6 : hints.keep 16 6 = some [2, 3, 5, 7, 25, 26, 27] := rfl
@[simp] theorem hs_16_6 : hints.soft 16 6 = [] := rfl
@[simp] theorem hz_16_6 : hints.frz 16 6 = [] := rfl
@[simp] theorem hk_16_7 : hints.keep 16 7 = some [2, 3, 5, 25, 26, 27] := rfl
@[simp] theorem hs_16_7 : hints.soft 16 7 = [] := rfl
@[simp] theorem hz_16_7 : hints.frz 16 7 = [] := rfl
@[simp] theorem hk_16_8 : hints.keep 16 8 = some [2, 3, 5, 25, 26, 27] := rfl
@[simp] theorem hs_16_8 : hints.soft 16 8 = [] := rfl
@[simp] theorem hz_16_8 : hints.frz 16 8 = [] := rfl
@[simp] theorem hk_16_9 : hints.keep 16 9 = some [2, 3, 5] := rfl
@[simp] theorem hs_16_9 : hints.soft 16 9 = [] := rfl
@[simp] theorem hz_16_9 : hints.frz 16 9 = [] := rfl
@[simp] theorem hk_16_10 : hints.keep 16 10 = some [2, 3, 45] := rfl
@[simp] theorem hs_16_10 : hints.soft 16 10 = [] := rfl
@[simp] theorem hz_16_10 : hints.frz 16 10 = [] := rfl
@[simp] theorem hk_16_11 : hints.keep 16 11 = some [4] := rfl
@[simp] theorem hs_16_11 : hints.soft 16 11 = [] := rfl
@[simp] theorem hz_16_11 : hints.frz 16 11 = [] := rfl
@[simp] theorem hk_16_12 : hints.keep 16 12 = some [2, 3, 8, 9] := rfl
@[simp] theorem hs_16_12 : hints.soft 16 12 = [] := rfl
@[simp] theorem hz_16_12 : hints.frz 16 12 = [] := rfl
@[simp] theorem hk_16_13 : hints.keep 16 13 = some [4] := rfl
@[simp] theorem hs_16_13 : hints.soft 16 13 = [] := rfl
@[simp] theorem hz_16_13 : hints.frz 16 13 = [] := rfl
@[simp] theorem hk_18_0 : hints.keep 18 0 = some [0, 2] := rfl
@[simp] theorem hs_18_0 : hints.soft 18 0 = [(2, some 10, 1, none)] := rfl
@[simp] theorem hz_18_0 : hints.frz 18 0 = [] := rfl
@[simp] theorem hk_18_1 : hints.keep 18 1 = some [0, 2, 4, 5, 6] := rfl
@[simp] theorem hs_18_1 : hints.soft 18 1 = [] := rfl
@[simp] theorem hz_18_1 : hints.frz 18 1 = [] := rfl
@[simp] theorem hk_18_2 : hints.keep 18 2 = some [0, 2, 4, 5, 6, 16] := rfl
@[simp] theorem hs_18_2 : hints.soft 18 2 = [] := rfl
@[simp] theorem hz_18_2 : hints.frz 18 2 = [] := rfl
@[simp] theorem hk_18_3 : hints.keep 18 3 = some [2, 3] := rfl
@[simp] theorem hs_18_3 : hints.soft 18 3 = [(2, some 10, 1, none)] := rfl
@[simp] theorem hz_18_3 : hints.frz 18 3 = [] := rfl
@[simp] theorem hk_18_4 : hints.keep 18 4 = some [0, 2, 5, 21] := rfl
@[simp] theorem hs_18_4 : hints.soft 18 4 = [] := rfl
@[simp] theorem hz_18_4 : hints.frz 18 4 = [] := rfl
@[simp] theorem hk_18_5 : hints.keep 18 5 = some [2, 3] := rfl
@[simp] theorem hs_18_5 : hints.soft 18 5 = [(2, some 10, 1, none)] := rfl
@[simp] theorem hz_18_5 : hints.frz 18 5 = [] := rfl
@[simp] theorem hk_18_6 : hints.keep 18 6 = some [0, 2, 5, 7] := rfl
@[simp] theorem hs_18_6 : hints.soft 18 6 = [] := rfl
@[simp] theorem hz_18_6 : hints.frz 18 6 = [] := rfl
@[simp] theorem hk_18_7 : hints.keep 18 7 = some [0, 2, 7] := rfl
@[simp] theorem hs_18_7 : hints.soft 18 7 = [] := rfl
@[simp] theorem hz_18_7 : hints.frz 18 7 = [] := rfl
@[simp] theorem hk_18_8 : hints.keep 18 8 = some [2, 7, 33, 34, 35] := rfl
@[simp] theorem hs_18_8 : hints.soft 18 8 = [] := rfl
@[simp] theorem hz_18_8 : hints.frz 18 8 = [] := rfl
@[simp] theorem hk_18_9 : hints.keep 18 9 = some [2, 7, 33, 34, 35, 36] := rfl
@[simp] theorem hh_18_9 : hints.head 18 9 = some [2, 7, 33, 34, 35] := rfl
@[simp] theorem hc_18_9 : hints.canon 18 9 = [] := rfl
@[simp] theorem hs_18_9 : hints.soft 18 9 = [] := rfl
@[simp] theorem hz_18_9 : hints.frz 18 9 = [] := rfl
@[simp] theorem hk_18_10 : hints.keep 18 10 = some [2, 7, 9, 33, 34, 35] := rfl
@[simp] theorem hs_18_10 : hints.soft 18 10 = [] := rfl
@[simp] theorem hz_18_10 : hints.frz 18 10 = [] := rfl
@[simp] theorem hk_18_11 : hints.keep 18 11 = some [2, 7, 33, 34, 35] := rfl
@[simp] theorem hs_18_11 : hints.soft 18 11 = [] := rfl
@[simp] theorem hz_18_11 : hints.frz 18 11 = [] := rfl
@[simp] theorem hk_18_12 : hints.keep 18 12 = some [2, 7, 33, 34, 35] := rfl
@[simp] theorem hs_18_12 : hints.soft 18 12 = [] := rfl
@[simp] theorem hz_18_12 : hints.frz 18 12 = [] := rfl
@[simp] theorem hk_18_13 : hints.keep 18 13 = some [2, 3] := rfl
@[simp] theorem hs_18_13 : hints.soft 18 13 = [] := rfl
@[simp] theorem hz_18_13 : hints.frz 18 13 = [] := rfl
@[simp] theorem hk_19_0 : hints.keep 19 0 = some [1] := rfl
@[simp] theorem hs_19_0 : hints.soft 19 0 = [] := rfl
@[simp] theorem hz_19_0 : hints.frz 19 0 = [] := rfl
@[simp] theorem hk_19_1 : hints.keep 19 1 = some [2] := rfl
@[simp] theorem hs_19_1 : hints.soft 19 1 = [] := rfl
@[simp] theorem hz_19_1 : hints.frz 19 1 = [] := rfl
@[simp] theorem hk_20_0 : hints.keep 20 0 = some [2, 3] := rfl
@[simp] theorem hs_20_0 : hints.soft 20 0 = [(3, some 10, 1, none)] := rfl
@[simp] theorem hz_20_0 : hints.frz 20 0 = [] := rfl
@[simp] theorem hk_20_1 : hints.keep 20 1 = some [2, 3, 5, 6] := rfl
@[simp] theorem hs_20_1 : hints.soft 20 1 = [] := rfl
@[simp] theorem hz_20_1 : hints.frz 20 1 = [] := rfl
@[simp] theorem hk_20_2 : hints.keep 20 2 = some [2, 3, 5, 6] := rfl
@[simp] theorem hs_20_2 : hints.soft 20 2 = [(5, some 10, 1, none), (6, some 10, 1, none)] := rfl
@[simp] theorem hz_20_2 : hints.frz 20 2 = [] := rfl
@[simp] theorem hk_20_3 : hints.keep 20 3 = some [4] := rfl
@[simp] theorem hs_20_3 : hints.soft 20 3 = [] := rfl
@[simp] theorem hz_20_3 : hints.frz 20 3 = [] := rfl
@[simp] theorem hk_26_0 : hints.keep 26 0 = some [1] := rfl
@[simp] theorem hs_26_0 : hints.soft 26 0 = [] := rfl
@[simp] theorem hz_26_0 : hints.frz 26 0 = [] := rfl
@[simp] theorem hk_26_1 : hints.keep 26 1 = some [1, 3] := rfl
@[simp] theorem hs_26_1 : hints.soft 26 1 = [] := rfl
@[simp] theorem hz_26_1 : hints.frz 26 1 = [] := rfl
@[simp] theorem hk_26_2 : hints.keep 26 2 = some [1, 3] := rfl
@[simp] theorem hs_26_2 : hints.soft 26 2 = [] := rfl
@[simp] theorem hz_26_2 : hints.frz 26 2 = [] := rfl
@[simp] theorem hk_26_3 : hints.keep 26 3 = some [1, 3] := rfl
@[simp] theorem hs_26_3 : hints.soft 26 3 = [] := rfl
@[simp] theorem hz_26_3 : hints.frz 26 3 = [] := rfl
@[simp] theorem hk_26_4 : hints.keep 26 4 = some [3] := rfl
@[simp] theorem hs_26_4 : hints.soft 26 4 = [] := rfl
@[simp] theorem hz_26_4 : hints.frz 26 4 = [] := rfl
@[simp] theorem hk_26_5 : hints.keep 26 5 = some [72] := rfl
@[simp] theorem hs_26_5 : hints.soft 26 5 = [] := rfl
@[simp] theorem hz_26_5 : hints.frz 26 5 = [] := rfl
@[simp] theorem hk_26_6 : hints.keep 26 6 = some [2] := rfl
@[simp] theorem hs_26_6 : hints.soft 26 6 = [] := rfl
@[simp] theorem hz_26_6 : hints.frz 26 6 = [] := rfl
@[simp] theorem hk_26_7 : hints.keep 26 7 = some [2] := rfl
@[simp] theorem hs_26_7 : hints.soft 26 7 = [] := rfl
@[simp] theorem hz_26_7 : hints.frz 26 7 = [] := rfl
@[simp] theorem hk_27_0 : hints.keep 27 0 = some [2, 3] := rfl
@[simp] theorem hs_27_0 : hints.soft 27 0 = [] := rfl
@[simp] theorem hz_27_0 : hints.frz 27 0 = [] := rfl
@[simp] theorem hk_27_1 : hints.keep 27 1 = some [4] := rfl
@[simp] theorem hs_27_1 : hints.soft 27 1 = [] := rfl
@[simp] theorem hz_27_1 : hints.frz 27 1 = [] := rfl
@[simp] theorem hk_30_0 : hints.keep 30 0 = some [0, 1] := rfl
@[simp] theorem hs_30_0 : hints.soft 30 0 = [] := rfl
@[simp] theorem hz_30_0 : hints.frz 30 0 = [] := rfl
@[simp] theorem hk_30_1 : hints.keep 30 1 = some [4] := rfl
@[simp] theorem hs_30_1 : hints.soft 30 1 = [] := rfl
@[simp] theorem hz_30_1 : hints.frz 30 1 = [] := rfl
@[simp] theorem hk_31_0 : hints.keep 31 0 = some [0] := rfl
@[simp] theorem hs_31_0 : hints.soft 31 0 = [] := rfl
@[simp] theorem hz_31_0 : hints.frz 31 0 = [] := rfl
@[simp] theorem hk_31_1 : hints.keep 31 1 = some [0, 14, 15, 16] := rfl
@[simp] theorem hs_31_1 : hints.soft 31 1 = [] := rfl
@[simp] theorem hz_31_1 : hints.frz 31 1 = [] := rfl
@[simp] theorem hk_31_2 : hints.keep 31 2 = some [0, 14, 15, 16, 17] := rfl
@[simp] theorem hh_31_2 : hints.head 31 2 = some [0, 14, 15, 16] := rfl
@[simp] theorem hc_31_2 : hints.canon 31 2 = [] := rfl
@[simp] theorem hs_31_2 : hints.soft 31 2 = [] := rfl
@[simp] theorem hz_31_2 : hints.frz 31 2 = [] := rfl
@[simp] theorem hk_31_3 : hints.keep 31 3 = some [0, 5, 6, 14, 15, 16] := rfl
@[simp] theorem hs_31_3 : hints.soft 31 3 = [] := rfl
@[simp] theorem hz_31_3 : hints.frz 31 3 = [] := rfl
@[simp] theorem hk_31_4 : hints.keep 31 4 = some [0, 6, 14, 15, 16, 24, 25, 26] := rfl
@[simp] theorem hs_31_4 : hints.soft 31 4 = [] := rfl
@[simp] theorem hz_31_4 : hints.frz 31 4 = [] := rfl
@[simp] theorem hk_31_5 : hints.keep 31 5 = some [0, 6, 14, 15, 16, 24, 25, 26, 27] := rfl
@[simp] theorem hh_31_5 : hints.head 31 5 = some [0, 6, 14, 15, 16, 24, 25, 26] := rfl
@[simp] theorem hc_31_5 : hints.canon 31 5 = [] := rfl
@[simp] theorem hs_31_5 : hints.soft 31 5 = [] := rfl
@[simp] theorem hz_31_5 : hints.frz 31 5 = [] := rfl
@[simp] theorem hk_31_6 : hints.keep 31 6 = some [0, 6, 8, 14, 15, 16, 24, 25, 26] := rfl
@[simp] theorem hs_31_6 : hints.soft 31 6 = [] := rfl
@[simp] theorem hz_31_6 : hints.frz 31 6 = [] := rfl
@[simp] theorem hk_31_7 : hints.keep 31 7 = some [0, 6, 14, 15, 16, 24, 25, 26, 33] := rfl
@[simp] theorem hs_31_7 : hints.soft 31 7 = [] := rfl
@[simp] theorem hz_31_7 : hints.frz 31 7 = [] := rfl
@[simp] theorem hk_31_8 : hints.keep 31 8 = some [2, 3, 4] := rfl
@[simp] theorem hs_31_8 : hints.soft 31 8 = [(2, none, 1, none), (3, none, 1, none)] := rfl
@[simp] theorem hz_31_8 : hints.frz 31 8 = [] := rfl
@[simp] theorem hk_31_9 : hints.keep 31 9 = some [0, 6, 14, 15, 16, 24, 25, 26] := rfl
@[simp] theorem hs_31_9 : hints.soft 31 9 = [] := rfl
@[simp] theorem hz_31_9 : hints.frz 31 9 = [] := rfl
@[simp] theorem hk_31_10 : hints.keep 31 10 = some [0, 14, 15, 16] := rfl
@[simp] theorem hs_31_10 : hints.soft 31 10 = [] := rfl
@[simp] theorem hz_31_10 : hints.frz 31 10 = [] := rfl
@[simp] theorem hk_31_11 : hints.keep 31 11 = some [0, 38] := rfl
@[simp] theorem hs_31_11 : hints.soft 31 11 = [] := rfl
@[simp] theorem hz_31_11 : hints.frz 31 11 = [] := rfl
@[simp] theorem hk_31_12 : hints.keep 31 12 = some [2, 3, 4] := rfl
@[simp] theorem hs_31_12 : hints.soft 31 12 = [(2, none, 1, none), (3, none, 1, none)] := rfl
@[simp] theorem hz_31_12 : hints.frz 31 12 = [] := rfl
@[simp] theorem hk_31_13 : hints.keep 31 13 = some [0, 9, 10] := rfl
@[simp] theorem hs_31_13 : hints.soft 31 13 = [] := rfl
@[simp] theorem hz_31_13 : hints.frz 31 13 = [] := rfl
@[simp] theorem hk_31_14 : hints.keep 31 14 = some [9, 10, 49, 50, 51] := rfl
@[simp] theorem hs_31_14 : hints.soft 31 14 = [] := rfl
@[simp] theorem hz_31_14 : hints.frz 31 14 = [] := rfl
@[simp] theorem hk_31_15 : hints.keep 31 15 = some [9, 10, 49, 50, 51, 52] := rfl
@[simp] theorem hh_31_15 : hints.head 31 15 = some [9, 10, 49, 50, 51] := rfl
@[simp] theorem hc_31_15 : hints.canon 31 15 = [] := rfl
@[simp] theorem hs_31_15 : hints.soft 31 15 = [] := rfl
@[simp] theorem hz_31_15 : hints.frz 31 15 = [] := rfl
@[simp] theorem hk_31_16 : hints.keep 31 16 = some [9, 10, 12, 49, 50, 51] := rfl
@[simp] theorem hs_31_16 : hints.soft 31 16 = [] := rfl
@[simp] theorem hz_31_16 : hints.frz 31 16 = [] := rfl
@[simp] theorem hk_31_17 : hints.keep 31 17 = some [9, 10, 12, 49, 50, 51] := rfl
@[simp] theorem hs_31_17 : hints.soft 31 17 = [] := rfl
@[simp] theorem hz_31_17 : hints.frz 31 17 = [] := rfl
@[simp] theorem hk_31_18 : hints.keep 31 18 = some [9, 10, 12, 49, 50, 51, 64, 65] := rfl
@[simp] theorem hs_31_18 : hints.soft 31 18 = [] := rfl
@[simp] theorem hz_31_18 : hints.frz 31 18 = [] := rfl
@[simp] theorem hk_31_19 : hints.keep 31 19 = some [9, 10, 12, 49, 50, 51, 64, 65, 66] := rfl
@[simp] theorem hh_31_19 : hints.head 31 19 = some [9, 10, 12, 49, 50, 51, 64, 65] := rfl
@[simp] theorem hc_31_19 : hints.canon 31 19 = [] := rfl
@[simp] theorem hs_31_19 : hints.soft 31 19 = [] := rfl
@[simp] theorem hz_31_19 : hints.frz 31 19 = [] := rfl
@[simp] theorem hk_31_20 : hints.keep 31 20 = some [9, 10, 12, 13, 49, 50, 51, 64, 65] := rfl
@[simp] theorem hs_31_20 : hints.soft 31 20 = [] := rfl
@[simp] theorem hz_31_20 : hints.frz 31 20 = [] := rfl
@[simp] theorem hk_31_21 : hints.keep 31 21 = some [9, 10, 12, 49, 50, 51, 64, 65] := rfl
@[simp] theorem hs_31_21 : hints.soft 31 21 = [] := rfl
@[simp] theorem hz_31_21 : hints.frz 31 21 = [] := rfl
@[simp] theorem hk_31_22 : hints.keep 31 22 = some [9, 10, 12, 49, 50, 51, 64, 65] := rfl
@[simp] theorem hs_31_22 : hints.soft 31 22 = [] := rfl
@[simp] theorem hz_31_22 : hints.frz 31 22 = [] := rfl
@[simp] theorem hk_31_23 : hints.keep 31 23 = some [9, 10, 49, 50, 51] := rfl
@[simp] theorem hs_31_23 : hints.soft 31 23 = [] := rfl
@[simp] theorem hz_31_23 : hints.frz 31 23 = [] := rfl
@[simp] theorem hk_31_24 : hints.keep 31 24 = some [2, 3, 4] := rfl
@[simp] theorem hs_31_24 : hints.soft 31 24 = [] := rfl
@[simp] theorem hz_31_24 : hints.frz 31 24 = [] := rfl
@[simp] theorem hk_32_0 : hints.keep 32 0 = some [0] := rfl
@[simp] theorem hs_32_0 : hints.soft 32 0 = [] := rfl
@[simp] theorem hz_32_0 : hints.frz 32 0 = [] := rfl
@[simp] theorem hk_32_1 : hints.keep 32 1 = some [0, 3] := rfl
@[simp] theorem hs_32_1 : hints.soft 32 1 = [(3, none, 2, some (700064, 47))] := rfl
@[simp] theorem hz_32_1 : hints.frz 32 1 = [] := rfl
@[simp] theorem hk_32_2 : hints.keep 32 2 = some [0, 3, 4] := rfl
@[simp] theorem hs_32_2 : hints.soft 32 2 = [] := rfl
@[simp] theorem hz_32_2 : hints.frz 32 2 = [] := rfl
@[simp] theorem hk_32_3 : hints.keep 32 3 = some [0, 3, 4, 15] := rfl
@[simp] theorem hh_32_3 : hints.head 32 3 = some [0, 3, 4] := rfl
@[simp] theorem hc_32_3 : hints.canon 32 3 = [(3, none, 20000, 2, 47)] := rfl
@[simp] theorem hs_32_3 : hints.soft 32 3 = [] := rfl
@[simp] theorem hz_32_3 : hints.frz 32 3 = [] := rfl
@[simp] theorem hk_32_4 : hints.keep 32 4 = some [0, 3, 4] := rfl
@[simp] theorem hs_32_4 : hints.soft 32 4 = [] := rfl
@[simp] theorem hz_32_4 : hints.frz 32 4 = [] := rfl
@[simp] theorem hk_32_5 : hints.keep 32 5 = some [0, 3, 4, 21] := rfl
@[simp] theorem hs_32_5 : hints.soft 32 5 = [] := rfl
@[simp] theorem hz_32_5 : hints.frz 32 5 = [] := rfl
@[simp] theorem hk_32_6 : hints.keep 32 6 = some [0, 3, 4, 5] := rfl
@[simp] theorem hs_32_6 : hints.soft 32 6 = [] := rfl
@[simp] theorem hz_32_6 : hints.frz 32 6 = [] := rfl
@[simp] theorem hk_32_7 : hints.keep 32 7 = some [0, 3, 4, 5, 34] := rfl
@[simp] theorem hh_32_7 : hints.head 32 7 = some [0, 3, 4, 5] := rfl
@[simp] theorem hc_32_7 : hints.canon 32 7 = [] := rfl
@[simp] theorem hs_32_7 : hints.soft 32 7 = [] := rfl
@[simp] theorem hz_32_7 : hints.frz 32 7 = [] := rfl
@[simp] theorem hk_32_8 : hints.keep 32 8 = some [0, 3, 4, 5] := rfl
@[simp] theorem hs_32_8 : hints.soft 32 8 = [] := rfl
@[simp] theorem hz_32_8 : hints.frz 32 8 = [] := rfl
@[simp] theorem hk_32_9 : hints.keep 32 9 = some [0, 3, 4, 5] := rfl
@[simp] theorem hs_32_9 : hints.soft 32 9 = [] := rfl
@[simp] theorem hz_32_9 : hints.frz 32 9 = [] := rfl
@[simp] theorem hk_32_10 : hints.keep 32 10 = some [0, 3, 4] := rfl
@[simp] theorem hs_32_10 : hints.soft 32 10 = [] := rfl
@[simp] theorem hz_32_10 : hints.frz 32 10 = [] := rfl
@[simp] theorem hk_32_11 : hints.keep 32 11 = some [2] := rfl
@[simp] theorem hs_32_11 : hints.soft 32 11 = [] := rfl
@[simp] theorem hz_32_11 : hints.frz 32 11 = [] := rfl
@[simp] theorem hk_33_0 : hints.keep 33 0 = some [0, 1] := rfl
@[simp] theorem hs_33_0 : hints.soft 33 0 = [] := rfl
@[simp] theorem hz_33_0 : hints.frz 33 0 = [] := rfl
@[simp] theorem hk_33_1 : hints.keep 33 1 = some [4] := rfl
@[simp] theorem hs_33_1 : hints.soft 33 1 = [] := rfl
@[simp] theorem hz_33_1 : hints.frz 33 1 = [] := rfl
@[simp] theorem hk_34_0 : hints.keep 34 0 = some [2, 3] := rfl
@[simp] theorem hs_34_0 : hints.soft 34 0 = [] := rfl
@[simp] theorem hz_34_0 : hints.frz 34 0 = [] := rfl
@[simp] theorem hk_34_1 : hints.keep 34 1 = some [2, 3, 5] := rfl
@[simp] theorem hs_34_1 : hints.soft 34 1 = [] := rfl
@[simp] theorem hz_34_1 : hints.frz 34 1 = [] := rfl
@[simp] theorem hk_34_2 : hints.keep 34 2 = some [4] := rfl
@[simp] theorem hs_34_2 : hints.soft 34 2 = [] := rfl
@[simp] theorem hz_34_2 : hints.frz 34 2 = [] := rfl
@[simp] theorem hk_36_0 : hints.keep 36 0 = some [0, 1, 2] := rfl
@[simp] theorem hs_36_0 : hints.soft 36 0 = [] := rfl
@[simp] theorem hz_36_0 : hints.frz 36 0 = [] := rfl
@[simp] theorem hk_36_1 : hints.keep 36 1 = some [6] := rfl
@[simp] theorem hs_36_1 : hints.soft 36 1 = [] := rfl
@[simp] theorem hz_36_1 : hints.frz 36 1 = [] := rfl
@[simp] theorem hk_37_0 : hints.keep 37 0 = some [0, 1, 2, 4] := rfl
@[simp] theorem hs_37_0 : hints.soft 37 0 = [] := rfl
@[simp] theorem hz_37_0 : hints.frz 37 0 = [] := rfl
@[simp] theorem hk_37_1 : hints.keep 37 1 = some [0, 1, 2, 4, 9] := rfl
@[simp] theorem hh_37_1 : hints.head 37 1 = some [0, 1, 2, 4] := rfl
@[simp] theorem hc_37_1 : hints.canon 37 1 = [] := rfl
@[simp] theorem hs_37_1 : hints.soft 37 1 = [] := rfl
@[simp] theorem hz_37_1 : hints.frz 37 1 = [] := rfl
@[simp] theorem hk_37_2 : hints.keep 37 2 = some [0, 1, 2, 4, 5] := rfl
@[simp] theorem hs_37_2 : hints.soft 37 2 = [] := rfl
@[simp] theorem hz_37_2 : hints.frz 37 2 = [] := rfl
@[simp] theorem hk_37_3 : hints.keep 37 3 = some [0, 1, 2, 5, 26] := rfl
@[simp] theorem hs_37_3 : hints.soft 37 3 = [] := rfl
@[simp] theorem hz_37_3 : hints.frz 37 3 = [] := rfl
@[simp] theorem hk_37_4 : hints.keep 37 4 = some [0, 1, 2, 4] := rfl
@[simp] theorem hs_37_4 : hints.soft 37 4 = [] := rfl
@[simp] theorem hz_37_4 : hints.frz 37 4 = [] := rfl
@[simp] theorem hk_38_0 : hints.keep 38 0 = some [0, 1] := rfl
@[simp] theorem hs_38_0 : hints.soft 38 0 = [] := rfl
@[simp] theorem hz_38_0 : hints.frz 38 0 = [] := rfl
@[simp] theorem hk_38_1 : hints.keep 38 1 = some [0, 1, 10] := rfl
@[simp] theorem hs_38_1 : hints.soft 38 1 = [] := rfl
@[simp] theorem hz_38_1 : hints.frz 38 1 = [] := rfl
@[simp] theorem hk_38_2 : hints.keep 38 2 = some [4] := rfl
@[simp] theorem hs_38_2 : hints.soft 38 2 = [] := rfl
@[simp] theorem hz_38_2 : hints.frz 38 2 = [] := rfl
@[simp] theorem hk_38_3 : hints.keep 38 3 = some [0, 1, 12, 13] := rfl
@[simp] theorem hs_38_3 : hints.soft 38 3 = [] := rfl
@[simp] theorem hz_38_3 : hints.frz 38 3 = [] := rfl
@[simp] theorem hk_38_4 : hints.keep 38 4 = some [0, 1, 12, 13, 14] := rfl
@[simp] theorem hh_38_4 : hints.head 38 4 = some [0, 1, 12, 13] := rfl
@[simp] theorem hc_38_4 : hints.canon 38 4 = [] := rfl
@[simp] theorem hs_38_4 : hints.soft 38 4 = [] := rfl
@[simp] theorem hz_38_4 : hints.frz 38 4 = [] := rfl
@[simp] theorem hk_38_5 : hints.keep 38 5 = some [0, 1, 5, 12, 13] := rfl
@[simp] theorem hs_38_5 : hints.soft 38 5 = [] := rfl
@[simp] theorem hz_38_5 : hints.frz 38 5 = [] := rfl
@[simp] theorem hk_38_6 : hints.keep 38 6 = some [0, 1, 12, 13, 24] := rfl
@[simp] theorem hs_38_6 : hints.soft 38 6 = [] := rfl
@[simp] theorem hz_38_6 : hints.frz 38 6 = [] := rfl
@[simp] theorem hk_38_7 : hints.keep 38 7 = some [4] := rfl
@[simp] theorem hs_38_7 : hints.soft 38 7 = [] := rfl
@[simp] theorem hz_38_7 : hints.frz 38 7 = [] := rfl
@[simp] theorem hk_38_8 : hints.keep 38 8 = some [0, 1, 12, 13] := rfl
@[simp] theorem hs_38_8 : hints.soft 38 8 = [] := rfl
@[simp] theorem hz_38_8 : hints.frz 38 8 = [] := rfl
@[simp] theorem hk_38_9 : hints.keep 38 9 = some [4] := rfl
@[simp] theorem hs_38_9 : hints.soft 38 9 = [] := rfl
@[simp] theorem hz_38_9 : hints.frz 38 9 = [] := rfl
@[simp] theorem hk_39_0 : hints.keep 39 0 = some [1, 2] := rfl
@[simp] theorem hs_39_0 : hints.soft 39 0 = [] := rfl
@[simp] theorem hz_39_0 : hints.frz 39 0 = [] := rfl
@[simp] theorem hk_39_1 : hints.keep 39 1 = some [2] := rfl
@[simp] theorem hs_39_1 : hints.soft 39 1 = [] := rfl
@[simp] theorem hz_39_1 : hints.frz 39 1 = [] := rfl
@[simp] theorem hk_11_1000009 : hints.keep 11 1000009 = some [6] := rfl
@[simp] theorem hh_11_1000009 : hints.head 11 1000009 = some [2, 6] := rfl
end Go.Proofs.YteggcokgkcfliaaV
