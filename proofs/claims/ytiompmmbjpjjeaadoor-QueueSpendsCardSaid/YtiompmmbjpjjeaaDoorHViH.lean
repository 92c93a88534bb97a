/- The value interpreter's hints and the types' facts for this seat, one by one. -/
import Derived.Test.YtiompmmbjpjjeaaDoorHViS
import Derived.Test.YtiompmmbjpjjeaaDoorHVi26
namespace Go.Proofs.YtiompmmbjpjjeaaDoorV
open Go
set_option linter.unusedVariables false
noncomputable def inf (t : TypeId) : TypeInfo := (Tryd.prog.info? t).getD ((Tryd.prog.info? 3).get (by kernel_rfl))
@[simp] theorem u_3 : Tryd.prog.underlying 3 = Option.some (Go.TypeDesc.int Go.IntKind.i64) := by kernel_rfl
@[simp] theorem i_3 : Tryd.prog.info? 3 = some (inf 3) := by kernel_rfl
@[simp] theorem is_3 : (inf 3).size = 1 := by kernel_rfl
@[simp] theorem ib_3 : (inf 3).bytes = 8 := by kernel_rfl
@[simp] theorem iz_3 : zeroRow (inf 3) = Option.some [V.p (Go.Value.int Go.IntKind.i64 0)] := by kernel_rfl
@[simp] theorem sm_3 : slotMs Tryd.prog 8 3 = [0] := by kernel_rfl
@[simp] theorem u_22 : Tryd.prog.underlying 22 = Option.some (Go.TypeDesc.slice 54) := by kernel_rfl
@[simp] theorem i_22 : Tryd.prog.info? 22 = some (inf 22) := by kernel_rfl
@[simp] theorem is_22 : (inf 22).size = 1 := by kernel_rfl
@[simp] theorem ib_22 : (inf 22).bytes = 24 := by kernel_rfl
@[simp] theorem iz_22 : zeroRow (inf 22) = Option.some [V.nil] := by kernel_rfl
@[simp] theorem u_24 : Tryd.prog.underlying 24 = Option.some (Go.TypeDesc.struct (Array.mk [Go.Field.mk "Nodes" 3 0 false "" "" 0, Go.Field.mk "Contacts" 22 1 false "" "" 8])) := by kernel_rfl
@[simp] theorem i_24 : Tryd.prog.info? 24 = some (inf 24) := by kernel_rfl
@[simp] theorem is_24 : (inf 24).size = 2 := by kernel_rfl
@[simp] theorem ib_24 : (inf 24).bytes = 32 := by kernel_rfl
@[simp] theorem iz_24 : zeroRow (inf 24) = Option.some [V.p (Go.Value.int Go.IntKind.i64 0), V.nil] := by kernel_rfl
@[simp] theorem u_25 : Tryd.prog.underlying 25 = Option.some (Go.TypeDesc.slice 3) := by kernel_rfl
@[simp] theorem i_25 : Tryd.prog.info? 25 = some (inf 25) := by kernel_rfl
@[simp] theorem is_25 : (inf 25).size = 1 := by kernel_rfl
@[simp] theorem ib_25 : (inf 25).bytes = 24 := by kernel_rfl
@[simp] theorem iz_25 : zeroRow (inf 25) = Option.some [V.nil] := by kernel_rfl
@[simp] theorem u_26 : Tryd.prog.underlying 26 = Option.some (Go.TypeDesc.slice 44) := by kernel_rfl
@[simp] theorem i_26 : Tryd.prog.info? 26 = some (inf 26) := by kernel_rfl
@[simp] theorem is_26 : (inf 26).size = 1 := by kernel_rfl
@[simp] theorem ib_26 : (inf 26).bytes = 24 := by kernel_rfl
@[simp] theorem iz_26 : zeroRow (inf 26) = Option.some [V.nil] := by kernel_rfl
@[simp] theorem u_28 : Tryd.prog.underlying 28 = Option.some (Go.TypeDesc.struct (Array.mk [Go.Field.mk "Node" 3 0 false "" "" 0, Go.Field.mk "Plan" 24 1 false "" "" 8, Go.Field.mk "Left" 25 3 false "" "" 40, Go.Field.mk "Now" 3 4 false "" "" 64, Go.Field.mk "Busy" 26 5 false "" "" 72, Go.Field.mk "Room" 3 6 false "" "" 96])) := by kernel_rfl
@[simp] theorem i_28 : Tryd.prog.info? 28 = some (inf 28) := by kernel_rfl
@[simp] theorem is_28 : (inf 28).size = 7 := by kernel_rfl
@[simp] theorem ib_28 : (inf 28).bytes = 104 := by kernel_rfl
@[simp] theorem iz_28 : zeroRow (inf 28) = Option.some [V.p (Go.Value.int Go.IntKind.i64 0), V.p (Go.Value.int Go.IntKind.i64 0), V.nil, V.nil, V.p (Go.Value.int Go.IntKind.i64 0), V.nil, V.p (Go.Value.int Go.IntKind.i64 0)] := by kernel_rfl
@[simp] theorem bl_28 (σ : St) (ps : List (Nat × Operand)) : buildV Tryd.prog σ 28 ps = (fillL [(0, 1), (1, 2), (3, 1), (4, 1), (5, 1), (6, 1)] [V.p (Go.Value.int Go.IntKind.i64 0), V.p (Go.Value.int Go.IntKind.i64 0), V.nil, V.nil, V.p (Go.Value.int Go.IntKind.i64 0), V.nil, V.p (Go.Value.int Go.IntKind.i64 0)] (evL σ ps)).map .agg := build_eval i_28 iz_28 u_28 (by kernel_rfl)
@[simp] theorem u_42 : Tryd.prog.underlying 42 = Option.some (Go.TypeDesc.int Go.IntKind.u32) := by kernel_rfl
@[simp] theorem i_42 : Tryd.prog.info? 42 = some (inf 42) := by kernel_rfl
@[simp] theorem is_42 : (inf 42).size = 1 := by kernel_rfl
@[simp] theorem ib_42 : (inf 42).bytes = 4 := by kernel_rfl
@[simp] theorem iz_42 : zeroRow (inf 42) = Option.some [V.p (Go.Value.int Go.IntKind.u32 0)] := by kernel_rfl
@[simp] theorem u_44 : Tryd.prog.underlying 44 = Option.some (Go.TypeDesc.struct (Array.mk [Go.Field.mk "Source" 3 0 false "" "" 0, Go.Field.mk "Seq" 42 1 false "" "" 8, Go.Field.mk "Offset" 3 2 false "" "" 16])) := by kernel_rfl
@[simp] theorem i_44 : Tryd.prog.info? 44 = some (inf 44) := by kernel_rfl
@[simp] theorem is_44 : (inf 44).size = 3 := by kernel_rfl
@[simp] theorem ib_44 : (inf 44).bytes = 24 := by kernel_rfl
@[simp] theorem iz_44 : zeroRow (inf 44) = Option.some [V.p (Go.Value.int Go.IntKind.i64 0), V.p (Go.Value.int Go.IntKind.u32 0), V.p (Go.Value.int Go.IntKind.i64 0)] := by kernel_rfl
@[simp] theorem sm_44 : slotMs Tryd.prog 8 44 = [0, 0, 0] := by kernel_rfl
@[simp] theorem ag_44 : (Tryd.prog.eqGuardType Tryd.prog.depth 44 || Tryd.prog.stoodInHeld 44) = false := by kernel_rfl
@[simp] theorem u_54 : Tryd.prog.underlying 54 = Option.some (Go.TypeDesc.struct (Array.mk [Go.Field.mk "From" 3 0 false "" "" 0, Go.Field.mk "To" 3 1 false "" "" 8, Go.Field.mk "Start" 3 2 false "" "" 16, Go.Field.mk "End" 3 3 false "" "" 24, Go.Field.mk "Rate" 3 4 false "" "" 32, Go.Field.mk "Delay" 3 5 false "" "" 40])) := by kernel_rfl
@[simp] theorem i_54 : Tryd.prog.info? 54 = some (inf 54) := by kernel_rfl
@[simp] theorem is_54 : (inf 54).size = 6 := by kernel_rfl
@[simp] theorem ib_54 : (inf 54).bytes = 48 := by kernel_rfl
@[simp] theorem iz_54 : zeroRow (inf 54) = Option.some [V.p (Go.Value.int Go.IntKind.i64 0), V.p (Go.Value.int Go.IntKind.i64 0), V.p (Go.Value.int Go.IntKind.i64 0), V.p (Go.Value.int Go.IntKind.i64 0), V.p (Go.Value.int Go.IntKind.i64 0), V.p (Go.Value.int Go.IntKind.i64 0)] := by kernel_rfl
@[simp] theorem sm_54 : slotMs Tryd.prog 8 54 = [0, 0, 0, 0, 0, 0] := by kernel_rfl
@[simp] theorem ag_54 : (Tryd.prog.eqGuardType Tryd.prog.depth 54 || Tryd.prog.stoodInHeld 54) = false := by kernel_rfl
@[simp] theorem u_58 : Tryd.prog.underlying 58 = Option.some (Go.TypeDesc.array 2 3) := by kernel_rfl
@[simp] theorem i_58 : Tryd.prog.info? 58 = some (inf 58) := by kernel_rfl
@[simp] theorem is_58 : (inf 58).size = 2 := by kernel_rfl
@[simp] theorem ib_58 : (inf 58).bytes = 16 := by kernel_rfl
@[simp] theorem iz_58 : zeroRow (inf 58) = Option.some [V.p (Go.Value.int Go.IntKind.i64 0), V.p (Go.Value.int Go.IntKind.i64 0)] := by kernel_rfl
@[simp] theorem gv (f : FuncId) : hints.gives f = [69, 77, 83, 84, 85, 87].contains f := rfl
@[simp] theorem hk_5_0 : hints.keep 5 0 = some [1, 3, 5] := rfl
@[simp] theorem hs_5_0 : hints.soft 5 0 = [] := rfl
@[simp] theorem hz_5_0 : hints.frz 5 0 = [] := rfl
@[simp] theorem hk_5_1 : hints.keep 5 1 = some [1, 3, 5, 15] := rfl
@[simp] theorem hs_5_1 : hints.soft 5 1 = [] := rfl
@[simp] theorem hz_5_1 : hints.frz 5 1 = [] := rfl
@[simp] theorem hk_5_2 : hints.keep 5 2 = some [6] := rfl
@[simp] theorem hs_5_2 : hints.soft 5 2 = [] := rfl
@[simp] theorem hz_5_2 : hints.frz 5 2 = [] := rfl
@[simp] theorem hk_5_3 : hints.keep 5 3 = some [5, 7] := rfl
@[simp] theorem hs_5_3 : hints.soft 5 3 = [] := rfl
@[simp] theorem hz_5_3 : hints.frz 5 3 = [] := rfl
@[simp] theorem hk_5_4 : hints.keep 5 4 = some [5, 7, 8] := rfl
@[simp] theorem hs_5_4 : hints.soft 5 4 = [] := rfl
@[simp] theorem hz_5_4 : hints.frz 5 4 = [] := rfl
@[simp] theorem hk_5_5 : hints.keep 5 5 = some [5, 7, 8, 9, 10] := rfl
@[simp] theorem hs_5_5 : hints.soft 5 5 = [] := rfl
@[simp] theorem hz_5_5 : hints.frz 5 5 = [] := rfl
@[simp] theorem hk_5_6 : hints.keep 5 6 = some [5, 7, 8, 9, 10, 37] := rfl
@[simp] theorem hs_5_6 : hints.soft 5 6 = [] := rfl
@[simp] theorem hz_5_6 : hints.frz 5 6 = [] := rfl
@[simp] theorem hk_5_7 : hints.keep 5 7 = some [6] := rfl
@[simp] theorem hs_5_7 : hints.soft 5 7 = [] := rfl
@[simp] theorem hz_5_7 : hints.frz 5 7 = [] := rfl
@[simp] theorem hk_5_8 : hints.keep 5 8 = some [5, 7, 8, 9, 10, 11] := rfl
@[simp] theorem hs_5_8 : hints.soft 5 8 = [] := rfl
@[simp] theorem hz_5_8 : hints.frz 5 8 = [] := rfl
@[simp] theorem hk_5_9 : hints.keep 5 9 = some [5, 7, 8, 9, 10, 11, 38] := rfl
@[simp] theorem hs_5_9 : hints.soft 5 9 = [] := rfl
@[simp] theorem hz_5_9 : hints.frz 5 9 = [] := rfl
@[simp] theorem hk_5_10 : hints.keep 5 10 = some [5, 7, 8, 9, 10, 11] := rfl
@[simp] theorem hs_5_10 : hints.soft 5 10 = [] := rfl
@[simp] theorem hz_5_10 : hints.frz 5 10 = [] := rfl
@[simp] theorem hk_5_11 : hints.keep 5 11 = some [5, 7, 8, 9, 10, 11, 43] := rfl
@[simp] theorem hs_5_11 : hints.soft 5 11 = [] := rfl
@[simp] theorem hz_5_11 : hints.frz 5 11 = [] := rfl
@[simp] theorem hk_5_12 : hints.keep 5 12 = some [5, 7, 8, 9, 10, 11] := rfl
@[simp] theorem hs_5_12 : hints.soft 5 12 = [] := rfl
@[simp] theorem hz_5_12 : hints.frz 5 12 = [] := rfl
@[simp] theorem hk_5_13 : hints.keep 5 13 = some [5, 7, 8, 9, 10, 11, 68] := rfl
@[simp] theorem hs_5_13 : hints.soft 5 13 = [] := rfl
@[simp] theorem hz_5_13 : hints.frz 5 13 = [] := rfl
@[simp] theorem hk_5_14 : hints.keep 5 14 = some [5, 7, 8, 9, 10, 11] := rfl
@[simp] theorem hs_5_14 : hints.soft 5 14 = [] := rfl
@[simp] theorem hz_5_14 : hints.frz 5 14 = [] := rfl
@[simp] theorem hk_5_15 : hints.keep 5 15 = some [5, 7, 8, 9, 10, 11, 79] := rfl
@[simp] theorem hs_5_15 : hints.soft 5 15 = [] := rfl
@[simp] theorem hz_5_15 : hints.frz 5 15 = [] := rfl
@[simp] theorem hk_5_16 : hints.keep 5 16 = some [6] := rfl
@[simp] theorem hs_5_16 : hints.soft 5 16 = [] := rfl
@[simp] theorem hz_5_16 : hints.frz 5 16 = [] := rfl
@[simp] theorem hk_5_17 : hints.keep 5 17 = some [5, 7, 8, 9, 97] := rfl
@[simp] theorem hs_5_17 : hints.soft 5 17 = [] := rfl
@[simp] theorem hz_5_17 : hints.frz 5 17 = [] := rfl
@[simp] theorem hk_5_18 : hints.keep 5 18 = some [6] := rfl
@[simp] theorem hs_5_18 : hints.soft 5 18 = [] := rfl
@[simp] theorem hz_5_18 : hints.frz 5 18 = [] := rfl
@[simp] theorem hk_5_19 : hints.keep 5 19 = some [5, 7, 8, 9, 99, 100, 101] := rfl
@[simp] theorem hs_5_19 : hints.soft 5 19 = [] := rfl
@[simp] theorem hz_5_19 : hints.frz 5 19 = [] := rfl
@[simp] theorem hk_5_20 : hints.keep 5 20 = some [5, 7, 8, 9, 99, 100, 101, 102] := rfl
@[simp] theorem hh_5_20 : hints.head 5 20 = some [5, 7, 8, 9, 99, 100, 101] := rfl
@[simp] theorem hc_5_20 : hints.canon 5 20 = [] := rfl
@[simp] theorem hs_5_20 : hints.soft 5 20 = [] := rfl
@[simp] theorem hz_5_20 : hints.frz 5 20 = [] := rfl
@[simp] theorem hk_5_21 : hints.keep 5 21 = some [5, 7, 8, 9, 12, 13, 99, 100, 101] := rfl
@[simp] theorem hs_5_21 : hints.soft 5 21 = [] := rfl
@[simp] theorem hz_5_21 : hints.frz 5 21 = [] := rfl
@[simp] theorem hk_5_22 : hints.keep 5 22 = some [5, 7, 8, 9, 12, 13, 99, 100, 101, 109] := rfl
@[simp] theorem hs_5_22 : hints.soft 5 22 = [] := rfl
@[simp] theorem hz_5_22 : hints.frz 5 22 = [] := rfl
@[simp] theorem hk_5_23 : hints.keep 5 23 = some [5, 7, 8, 9, 12, 13, 99, 100, 101] := rfl
@[simp] theorem hs_5_23 : hints.soft 5 23 = [] := rfl
@[simp] theorem hz_5_23 : hints.frz 5 23 = [] := rfl
@[simp] theorem hk_5_24 : hints.keep 5 24 = some [5, 7, 8, 9, 12, 99, 100, 101, 119] := rfl
@[simp] theorem hs_5_24 : hints.soft 5 24 = [] := rfl
@[simp] theorem hz_5_24 : hints.frz 5 24 = [] := rfl
@[simp] theorem hk_5_25 : hints.keep 5 25 = some [6] := rfl
@[simp] theorem hs_5_25 : hints.soft 5 25 = [] := rfl
@[simp] theorem hz_5_25 : hints.frz 5 25 = [] := rfl
@[simp] theorem hk_5_26 : hints.keep 5 26 = some [5, 7, 8, 9, 99, 100, 101] := rfl
@[simp] theorem hs_5_26 : hints.soft 5 26 = [] := rfl
@[simp] theorem hz_5_26 : hints.frz 5 26 = [] := rfl
@[simp] theorem hk_5_27 : hints.keep 5 27 = some [5, 7, 8, 9, 99, 100, 101] := rfl
@[simp] theorem hs_5_27 : hints.soft 5 27 = [] := rfl
@[simp] theorem hz_5_27 : hints.frz 5 27 = [] := rfl
@[simp] theorem hk_5_28 : hints.keep 5 28 = some [6] := rfl
@[simp] theorem hs_5_28 : hints.soft 5 28 = [] := rfl
@[simp] theorem hz_5_28 : hints.frz 5 28 = [] := rfl
@[simp] theorem hk_9_0 : hints.keep 9 0 = some [1, 2] := rfl
@[simp] theorem hs_9_0 : hints.soft 9 0 = [(1, some 5, 3, some (700000, 44)), (2, some 2, 6, some (700001, 54)), (2, some 3, 1, some (700002, 3)), (2, some 5, 3, some (700003, 44))] := rfl
@[simp] theorem hz_9_0 : hints.frz 9 0 = [] := rfl
@[simp] theorem hk_9_1 : hints.keep 9 1 = some [1, 2] := rfl
@[simp] theorem hs_9_1 : hints.soft 9 1 = [] := rfl
@[simp] theorem hz_9_1 : hints.frz 9 1 = [] := rfl
@[simp] theorem hk_9_2 : hints.keep 9 2 = some [1, 2] := rfl
@[simp] theorem hs_9_2 : hints.soft 9 2 = [] := rfl
@[simp] theorem hz_9_2 : hints.frz 9 2 = [] := rfl
@[simp] theorem hk_9_3 : hints.keep 9 3 = some [1, 2] := rfl
@[simp] theorem hs_9_3 : hints.soft 9 3 = [] := rfl
@[simp] theorem hz_9_3 : hints.frz 9 3 = [] := rfl
@[simp] theorem hk_9_4 : hints.keep 9 4 = some [2] := rfl
@[simp] theorem hs_9_4 : hints.soft 9 4 = [] := rfl
@[simp] theorem hz_9_4 : hints.frz 9 4 = [] := rfl
@[simp] theorem hk_16_0 : hints.keep 16 0 = some [1, 2, 3, 4] := rfl
@[simp] theorem hs_16_0 : hints.soft 16 0 = [] := rfl
@[simp] theorem hz_16_0 : hints.frz 16 0 = [] := rfl
@[simp] theorem hk_16_1 : hints.keep 16 1 = some [1, 2, 3, 4, 10] := rfl
@[simp] theorem hs_16_1 : hints.soft 16 1 = [] := rfl
@[simp] theorem hz_16_1 : hints.frz 16 1 = [] := rfl
@[simp] theorem hk_16_2 : hints.keep 16 2 = some [8, 9] := rfl
@[simp] theorem hs_16_2 : hints.soft 16 2 = [(8, none, 1, none)] := rfl
@[simp] theorem hz_16_2 : hints.frz 16 2 = [] := rfl
@[simp] theorem hk_16_3 : hints.keep 16 3 = some [1, 2, 3, 14] := rfl
@[simp] theorem hs_16_3 : hints.soft 16 3 = [] := rfl
@[simp] theorem hz_16_3 : hints.frz 16 3 = [] := rfl
@[simp] theorem hk_16_4 : hints.keep 16 4 = some [8, 9] := rfl
@[simp] theorem hs_16_4 : hints.soft 16 4 = [(8, none, 1, none)] := rfl
@[simp] theorem hz_16_4 : hints.frz 16 4 = [] := rfl
@[simp] theorem hk_16_5 : hints.keep 16 5 = some [1, 2, 3, 31] := rfl
@[simp] theorem hs_16_5 : hints.soft 16 5 = [] := rfl
@[simp] theorem hz_16_5 : hints.frz 16 5 = [] := rfl
@[simp] theorem hk_16_6 : hints.keep 16 6 = some [8, 9] := rfl
@[simp] theorem hs_16_6 : hints.soft 16 6 = [(8, none, 1, none)] := rfl
@[simp] theorem hz_16_6 : hints.frz 16 6 = [] := rfl
@[simp] theorem hk_16_7 : hints.keep 16 7 = some [1, 2, 3] := rfl
@[simp] theorem hs_16_7 : hints.soft 16 7 = [] := rfl
@[simp] theorem hz_16_7 : hints.frz 16 7 = [] := rfl
@[simp] theorem hk_16_8 : hints.keep 16 8 = some [1] := rfl
@[simp] theorem hs_16_8 : hints.soft 16 8 = [] := rfl
@[simp] theorem hz_16_8 : hints.frz 16 8 = [] := rfl
@[simp] theorem hk_16_9 : hints.keep 16 9 = some [8, 9] := rfl
@[simp] theorem hs_16_9 : hints.soft 16 9 = [] := rfl
@[simp] theorem hz_16_9 : hints.frz 16 9 = [] := rfl
@[simp] theorem hk_17_0 : hints.keep 17 0 = some [2, 3] := rfl
@[simp] theorem hs_17_0 : hints.soft 17 0 = [] := rfl
@[simp] theorem hz_17_0 : hints.frz 17 0 = [] := rfl
@[simp] theorem hk_17_1 : hints.keep 17 1 = some [2, 3, 10, 11] := rfl
@[simp] theorem hs_17_1 : hints.soft 17 1 = [] := rfl
@[simp] theorem hz_17_1 : hints.frz 17 1 = [] := rfl
@[simp] theorem hk_17_2 : hints.keep 17 2 = some [2, 3, 10, 11, 12] := rfl
@[simp] theorem hh_17_2 : hints.head 17 2 = some [2, 3, 10, 11] := rfl
@[simp] theorem hc_17_2 : hints.canon 17 2 = [] := rfl
@[simp] theorem hs_17_2 : hints.soft 17 2 = [] := rfl
@[simp] theorem hz_17_2 : hints.frz 17 2 = [] := rfl
@[simp] theorem hk_17_3 : hints.keep 17 3 = some [2, 3, 5, 10, 11] := rfl
@[simp] theorem hs_17_3 : hints.soft 17 3 = [] := rfl
@[simp] theorem hz_17_3 : hints.frz 17 3 = [] := rfl
@[simp] theorem hk_17_4 : hints.keep 17 4 = some [2, 3, 10, 11, 24] := rfl
@[simp] theorem hs_17_4 : hints.soft 17 4 = [] := rfl
@[simp] theorem hz_17_4 : hints.frz 17 4 = [] := rfl
@[simp] theorem hk_17_5 : hints.keep 17 5 = some [4] := rfl
@[simp] theorem hs_17_5 : hints.soft 17 5 = [] := rfl
@[simp] theorem hz_17_5 : hints.frz 17 5 = [] := rfl
@[simp] theorem hk_17_6 : hints.keep 17 6 = some [2, 3, 10, 11] := rfl
@[simp] theorem hs_17_6 : hints.soft 17 6 = [] := rfl
@[simp] theorem hz_17_6 : hints.frz 17 6 = [] := rfl
@[simp] theorem hk_17_7 : hints.keep 17 7 = some [2, 3, 28, 29] := rfl
@[simp] theorem hs_17_7 : hints.soft 17 7 = [] := rfl
@[simp] theorem hz_17_7 : hints.frz 17 7 = [] := rfl
@[simp] theorem hk_17_8 : hints.keep 17 8 = some [2, 3, 28, 29, 30] := rfl
@[simp] theorem hh_17_8 : hints.head 17 8 = some [2, 3, 28, 29] := rfl
@[simp] theorem hc_17_8 : hints.canon 17 8 = [] := rfl
@[simp] theorem hs_17_8 : hints.soft 17 8 = [] := rfl
@[simp] theorem hz_17_8 : hints.frz 17 8 = [] := rfl
@[simp] theorem hk_17_9 : hints.keep 17 9 = some [2, 3, 6, 28, 29] := rfl
@[simp] theorem hs_17_9 : hints.soft 17 9 = [] := rfl
@[simp] theorem hz_17_9 : hints.frz 17 9 = [] := rfl
@[simp] theorem hk_17_10 : hints.keep 17 10 = some [2, 3, 28, 29, 42] := rfl
@[simp] theorem hs_17_10 : hints.soft 17 10 = [] := rfl
@[simp] theorem hz_17_10 : hints.frz 17 10 = [] := rfl
@[simp] theorem hk_17_11 : hints.keep 17 11 = some [4] := rfl
@[simp] theorem hs_17_11 : hints.soft 17 11 = [] := rfl
@[simp] theorem hz_17_11 : hints.frz 17 11 = [] := rfl
@[simp] theorem hk_17_12 : hints.keep 17 12 = some [2, 3, 28, 29] := rfl
@[simp] theorem hs_17_12 : hints.soft 17 12 = [] := rfl
@[simp] theorem hz_17_12 : hints.frz 17 12 = [] := rfl
@[simp] theorem hk_17_13 : hints.keep 17 13 = some [2, 3, 47, 48] := rfl
@[simp] theorem hs_17_13 : hints.soft 17 13 = [] := rfl
@[simp] theorem hz_17_13 : hints.frz 17 13 = [] := rfl
@[simp] theorem hk_17_14 : hints.keep 17 14 = some [2, 3, 47, 48, 49] := rfl
@[simp] theorem hh_17_14 : hints.head 17 14 = some [2, 3, 47, 48] := rfl
@[simp] theorem hc_17_14 : hints.canon 17 14 = [] := rfl
@[simp] theorem hs_17_14 : hints.soft 17 14 = [] := rfl
@[simp] theorem hz_17_14 : hints.frz 17 14 = [] := rfl
@[simp] theorem hk_17_15 : hints.keep 17 15 = some [2, 3, 7, 47, 48] := rfl
@[simp] theorem hs_17_15 : hints.soft 17 15 = [] := rfl
@[simp] theorem hz_17_15 : hints.frz 17 15 = [] := rfl
@[simp] theorem hk_17_16 : hints.keep 17 16 = some [2, 3, 47, 48, 63] := rfl
@[simp] theorem hs_17_16 : hints.soft 17 16 = [] := rfl
@[simp] theorem hz_17_16 : hints.frz 17 16 = [] := rfl
@[simp] theorem hk_17_17 : hints.keep 17 17 = some [4] := rfl
@[simp] theorem hs_17_17 : hints.soft 17 17 = [] := rfl
@[simp] theorem hz_17_17 : hints.frz 17 17 = [] := rfl
@[simp] theorem hk_17_18 : hints.keep 17 18 = some [2, 3, 47, 48] := rfl
@[simp] theorem hs_17_18 : hints.soft 17 18 = [] := rfl
@[simp] theorem hz_17_18 : hints.frz 17 18 = [] := rfl
@[simp] theorem hk_17_19 : hints.keep 17 19 = some [4] := rfl
@[simp] theorem hs_17_19 : hints.soft 17 19 = [] := rfl
@[simp] theorem hz_17_19 : hints.frz 17 19 = [] := rfl
@[simp] theorem hk_18_0 : hints.keep 18 0 = some [1] := rfl
@[simp] theorem hs_18_0 : hints.soft 18 0 = [] := rfl
@[simp] theorem hz_18_0 : hints.frz 18 0 = [] := rfl
@[simp] theorem hk_18_1 : hints.keep 18 1 = some [1, 20] := rfl
@[simp] theorem hs_18_1 : hints.soft 18 1 = [] := rfl
@[simp] theorem hz_18_1 : hints.frz 18 1 = [] := rfl
@[simp] theorem hk_18_2 : hints.keep 18 2 = some [2] := rfl
@[simp] theorem hs_18_2 : hints.soft 18 2 = [] := rfl
@[simp] theorem hz_18_2 : hints.frz 18 2 = [] := rfl
@[simp] theorem hk_18_3 : hints.keep 18 3 = some [1, 3] := rfl
@[simp] theorem hs_18_3 : hints.soft 18 3 = [] := rfl
@[simp] theorem hz_18_3 : hints.frz 18 3 = [] := rfl
@[simp] theorem hk_18_4 : hints.keep 18 4 = some [1, 3, 25] := rfl
@[simp] theorem hh_18_4 : hints.head 18 4 = some [1, 3] := rfl
@[simp] theorem hc_18_4 : hints.canon 18 4 = [] := rfl
@[simp] theorem hs_18_4 : hints.soft 18 4 = [] := rfl
@[simp] theorem hz_18_4 : hints.frz 18 4 = [] := rfl
@[simp] theorem hk_18_5 : hints.keep 18 5 = some [1, 3] := rfl
@[simp] theorem hs_18_5 : hints.soft 18 5 = [] := rfl
@[simp] theorem hz_18_5 : hints.frz 18 5 = [] := rfl
@[simp] theorem hk_18_6 : hints.keep 18 6 = some [1, 3, 4] := rfl
@[simp] theorem hs_18_6 : hints.soft 18 6 = [] := rfl
@[simp] theorem hz_18_6 : hints.frz 18 6 = [] := rfl
@[simp] theorem hk_18_7 : hints.keep 18 7 = some [1, 3, 4, 98] := rfl
@[simp] theorem hs_18_7 : hints.soft 18 7 = [] := rfl
@[simp] theorem hz_18_7 : hints.frz 18 7 = [] := rfl
@[simp] theorem hk_18_8 : hints.keep 18 8 = some [2] := rfl
@[simp] theorem hs_18_8 : hints.soft 18 8 = [] := rfl
@[simp] theorem hz_18_8 : hints.frz 18 8 = [] := rfl
@[simp] theorem hk_18_9 : hints.keep 18 9 = some [1, 3, 4, 5] := rfl
@[simp] theorem hs_18_9 : hints.soft 18 9 = [] := rfl
@[simp] theorem hz_18_9 : hints.frz 18 9 = [] := rfl
@[simp] theorem hk_18_10 : hints.keep 18 10 = some [1, 3, 4, 5, 101] := rfl
@[simp] theorem hh_18_10 : hints.head 18 10 = some [1, 3, 4, 5] := rfl
@[simp] theorem hc_18_10 : hints.canon 18 10 = [] := rfl
@[simp] theorem hs_18_10 : hints.soft 18 10 = [] := rfl
@[simp] theorem hz_18_10 : hints.frz 18 10 = [] := rfl
@[simp] theorem hk_18_11 : hints.keep 18 11 = some [1, 3, 4, 5] := rfl
@[simp] theorem hs_18_11 : hints.soft 18 11 = [] := rfl
@[simp] theorem hz_18_11 : hints.frz 18 11 = [] := rfl
@[simp] theorem hk_18_12 : hints.keep 18 12 = some [1, 3, 4, 5, 6] := rfl
@[simp] theorem hs_18_12 : hints.soft 18 12 = [] := rfl
@[simp] theorem hz_18_12 : hints.frz 18 12 = [] := rfl
@[simp] theorem hk_18_13 : hints.keep 18 13 = some [1, 3, 4, 5, 135] := rfl
@[simp] theorem hs_18_13 : hints.soft 18 13 = [] := rfl
@[simp] theorem hz_18_13 : hints.frz 18 13 = [] := rfl
@[simp] theorem hk_18_14 : hints.keep 18 14 = some [2] := rfl
@[simp] theorem hs_18_14 : hints.soft 18 14 = [] := rfl
@[simp] theorem hz_18_14 : hints.frz 18 14 = [] := rfl
@[simp] theorem hk_18_15 : hints.keep 18 15 = some [2] := rfl
@[simp] theorem hs_18_15 : hints.soft 18 15 = [] := rfl
@[simp] theorem hz_18_15 : hints.frz 18 15 = [] := rfl
@[simp] theorem hk_19_0 : hints.keep 19 0 = some [1, 2] := rfl
@[simp] theorem hs_19_0 : hints.soft 19 0 = [] := rfl
@[simp] theorem hz_19_0 : hints.frz 19 0 = [] := rfl
@[simp] theorem hk_19_1 : hints.keep 19 1 = some [1, 2, 7, 8, 9] := rfl
@[simp] theorem hs_19_1 : hints.soft 19 1 = [] := rfl
@[simp] theorem hz_19_1 : hints.frz 19 1 = [] := rfl
@[simp] theorem hk_19_2 : hints.keep 19 2 = some [1, 2, 7, 8, 9, 10] := rfl
@[simp] theorem hh_19_2 : hints.head 19 2 = some [1, 2, 7, 8, 9] := rfl
@[simp] theorem hc_19_2 : hints.canon 19 2 = [] := rfl
@[simp] theorem hs_19_2 : hints.soft 19 2 = [] := rfl
@[simp] theorem hz_19_2 : hints.frz 19 2 = [] := rfl
@[simp] theorem hk_19_3 : hints.keep 19 3 = some [1, 2, 6, 7, 8, 9] := rfl
@[simp] theorem hs_19_3 : hints.soft 19 3 = [] := rfl
@[simp] theorem hz_19_3 : hints.frz 19 3 = [] := rfl
@[simp] theorem hk_19_4 : hints.keep 19 4 = some [1, 2, 7, 8, 9, 14] := rfl
@[simp] theorem hs_19_4 : hints.soft 19 4 = [] := rfl
@[simp] theorem hz_19_4 : hints.frz 19 4 = [] := rfl
@[simp] theorem hk_19_5 : hints.keep 19 5 = some [4] := rfl
@[simp] theorem hs_19_5 : hints.soft 19 5 = [] := rfl
@[simp] theorem hz_19_5 : hints.frz 19 5 = [] := rfl
@[simp] theorem hk_19_6 : hints.keep 19 6 = some [1, 2, 7, 8, 9] := rfl
@[simp] theorem hs_19_6 : hints.soft 19 6 = [] := rfl
@[simp] theorem hz_19_6 : hints.frz 19 6 = [] := rfl
@[simp] theorem hk_19_7 : hints.keep 19 7 = some [4] := rfl
@[simp] theorem hs_19_7 : hints.soft 19 7 = [] := rfl
@[simp] theorem hz_19_7 : hints.frz 19 7 = [] := rfl
@[simp] theorem hk_33_0 : hints.keep 33 0 = some [1] := rfl
@[simp] theorem hs_33_0 : hints.soft 33 0 = [] := rfl
@[simp] theorem hz_33_0 : hints.frz 33 0 = [] := rfl
@[simp] theorem hk_33_1 : hints.keep 33 1 = some [1, 16] := rfl
@[simp] theorem hs_33_1 : hints.soft 33 1 = [] := rfl
@[simp] theorem hz_33_1 : hints.frz 33 1 = [] := rfl
@[simp] theorem hk_33_2 : hints.keep 33 2 = some [2] := rfl
@[simp] theorem hs_33_2 : hints.soft 33 2 = [] := rfl
@[simp] theorem hz_33_2 : hints.frz 33 2 = [] := rfl
@[simp] theorem hk_33_3 : hints.keep 33 3 = some [1, 18, 19, 20] := rfl
@[simp] theorem hs_33_3 : hints.soft 33 3 = [] := rfl
@[simp] theorem hz_33_3 : hints.frz 33 3 = [] := rfl
@[simp] theorem hk_33_4 : hints.keep 33 4 = some [1, 18, 19, 20, 21] := rfl
@[simp] theorem hh_33_4 : hints.head 33 4 = some [1, 18, 19, 20] := rfl
@[simp] theorem hc_33_4 : hints.canon 33 4 = [] := rfl
@[simp] theorem hs_33_4 : hints.soft 33 4 = [] := rfl
@[simp] theorem hz_33_4 : hints.frz 33 4 = [] := rfl
@[simp] theorem hk_33_5 : hints.keep 33 5 = some [1, 3, 4, 18, 19, 20] := rfl
@[simp] theorem hs_33_5 : hints.soft 33 5 = [] := rfl
@[simp] theorem hz_33_5 : hints.frz 33 5 = [] := rfl
@[simp] theorem hk_33_6 : hints.keep 33 6 = some [1, 3, 4, 18, 19, 20, 74] := rfl
@[simp] theorem hs_33_6 : hints.soft 33 6 = [] := rfl
@[simp] theorem hz_33_6 : hints.frz 33 6 = [] := rfl
@[simp] theorem hk_33_7 : hints.keep 33 7 = some [2] := rfl
@[simp] theorem hs_33_7 : hints.soft 33 7 = [] := rfl
@[simp] theorem hz_33_7 : hints.frz 33 7 = [] := rfl
@[simp] theorem hk_33_8 : hints.keep 33 8 = some [1, 4, 18, 19, 20, 78, 79, 80] := rfl
@[simp] theorem hs_33_8 : hints.soft 33 8 = [] := rfl
@[simp] theorem hz_33_8 : hints.frz 33 8 = [] := rfl
@[simp] theorem hk_33_9 : hints.keep 33 9 = some [1, 4, 18, 19, 20, 78, 79, 80, 81] := rfl
@[simp] theorem hh_33_9 : hints.head 33 9 = some [1, 4, 18, 19, 20, 78, 79, 80] := rfl
@[simp] theorem hc_33_9 : hints.canon 33 9 = [] := rfl
@[simp] theorem hs_33_9 : hints.soft 33 9 = [] := rfl
@[simp] theorem hz_33_9 : hints.frz 33 9 = [] := rfl
@[simp] theorem hk_33_10 : hints.keep 33 10 = some [1, 4, 6, 18, 19, 20, 78, 79, 80] := rfl
@[simp] theorem hs_33_10 : hints.soft 33 10 = [] := rfl
@[simp] theorem hz_33_10 : hints.frz 33 10 = [] := rfl
@[simp] theorem hk_33_11 : hints.keep 33 11 = some [1, 4, 18, 19, 20, 78, 79, 80, 109] := rfl
@[simp] theorem hs_33_11 : hints.soft 33 11 = [] := rfl
@[simp] theorem hz_33_11 : hints.frz 33 11 = [] := rfl
@[simp] theorem hk_33_12 : hints.keep 33 12 = some [2] := rfl
@[simp] theorem hs_33_12 : hints.soft 33 12 = [] := rfl
@[simp] theorem hz_33_12 : hints.frz 33 12 = [] := rfl
@[simp] theorem hk_33_13 : hints.keep 33 13 = some [1, 4, 18, 19, 20, 78, 79, 80] := rfl
@[simp] theorem hs_33_13 : hints.soft 33 13 = [] := rfl
@[simp] theorem hz_33_13 : hints.frz 33 13 = [] := rfl
@[simp] theorem hk_33_14 : hints.keep 33 14 = some [1, 18, 19, 20] := rfl
@[simp] theorem hs_33_14 : hints.soft 33 14 = [] := rfl
@[simp] theorem hz_33_14 : hints.frz 33 14 = [] := rfl
@[simp] theorem hk_33_15 : hints.keep 33 15 = some [2] := rfl
@[simp] theorem hs_33_15 : hints.soft 33 15 = [] := rfl
@[simp] theorem hz_33_15 : hints.frz 33 15 = [] := rfl
@[simp] theorem hk_34_0 : hints.keep 34 0 = some [0, 1] := rfl
@[simp] theorem hs_34_0 : hints.soft 34 0 = [] := rfl
@[simp] theorem hz_34_0 : hints.frz 34 0 = [] := rfl
@[simp] theorem hk_34_1 : hints.keep 34 1 = some [4] := rfl
@[simp] theorem hs_34_1 : hints.soft 34 1 = [] := rfl
@[simp] theorem hz_34_1 : hints.frz 34 1 = [] := rfl
@[simp] theorem hk_36_0 : hints.keep 36 0 = some [0, 1, 2] := rfl
@[simp] theorem hs_36_0 : hints.soft 36 0 = [] := rfl
@[simp] theorem hz_36_0 : hints.frz 36 0 = [] := rfl
@[simp] theorem hk_36_1 : hints.keep 36 1 = some [6] := rfl
@[simp] theorem hs_36_1 : hints.soft 36 1 = [] := rfl
@[simp] theorem hz_36_1 : hints.frz 36 1 = [] := rfl
@[simp] theorem hk_40_0 : hints.keep 40 0 = some [1, 2] := rfl
@[simp] theorem hs_40_0 : hints.soft 40 0 = [] := rfl
@[simp] theorem hz_40_0 : hints.frz 40 0 = [] := rfl
@[simp] theorem hk_40_1 : hints.keep 40 1 = some [4] := rfl
@[simp] theorem hs_40_1 : hints.soft 40 1 = [] := rfl
@[simp] theorem hz_40_1 : hints.frz 40 1 = [] := rfl
@[simp] theorem hk_41_0 : hints.keep 41 0 = some [0, 1, 2] := rfl
@[simp] theorem hs_41_0 : hints.soft 41 0 = [] := rfl
@[simp] theorem hz_41_0 : hints.frz 41 0 = [] := rfl
@[simp] theorem hk_41_1 : hints.keep 41 1 = some [6] := rfl
@[simp] theorem hs_41_1 : hints.soft 41 1 = [] := rfl
@[simp] theorem hz_41_1 : hints.frz 41 1 = [] := rfl
@[simp] theorem hk_54_0 : hints.keep 54 0 = some [0, 1] := rfl
@[simp] theorem hs_54_0 : hints.soft 54 0 = [] := rfl
@[simp] theorem hz_54_0 : hints.frz 54 0 = [] := rfl
@[simp] theorem hk_54_1 : hints.keep 54 1 = some [0, 1, 7, 8] := rfl
@[simp] theorem hs_54_1 : hints.soft 54 1 = [] := rfl
@[simp] theorem hz_54_1 : hints.frz 54 1 = [] := rfl
@[simp] theorem hk_54_2 : hints.keep 54 2 = some [0, 1, 7, 8, 9] := rfl
@[simp] theorem hh_54_2 : hints.head 54 2 = some [0, 1, 7, 8] := rfl
@[simp] theorem hc_54_2 : hints.canon 54 2 = [] := rfl
@[simp] theorem hs_54_2 : hints.soft 54 2 = [] := rfl
@[simp] theorem hz_54_2 : hints.frz 54 2 = [] := rfl
@[simp] theorem hk_54_3 : hints.keep 54 3 = some [0, 1, 5, 7, 8] := rfl
@[simp] theorem hs_54_3 : hints.soft 54 3 = [] := rfl
@[simp] theorem hz_54_3 : hints.frz 54 3 = [] := rfl
@[simp] theorem hk_54_4 : hints.keep 54 4 = some [0, 1, 5, 7, 8, 16] := rfl
@[simp] theorem hs_54_4 : hints.soft 54 4 = [] := rfl
@[simp] theorem hz_54_4 : hints.frz 54 4 = [] := rfl
@[simp] theorem hk_54_5 : hints.keep 54 5 = some [4] := rfl
@[simp] theorem hs_54_5 : hints.soft 54 5 = [] := rfl
@[simp] theorem hz_54_5 : hints.frz 54 5 = [] := rfl
@[simp] theorem hk_54_6 : hints.keep 54 6 = some [0, 1, 7, 8] := rfl
@[simp] theorem hs_54_6 : hints.soft 54 6 = [] := rfl
@[simp] theorem hz_54_6 : hints.frz 54 6 = [] := rfl
@[simp] theorem hk_54_7 : hints.keep 54 7 = some [4] := rfl
@[simp] theorem hs_54_7 : hints.soft 54 7 = [] := rfl
@[simp] theorem hz_54_7 : hints.frz 54 7 = [] := rfl
@[simp] theorem hk_63_0 : hints.keep 63 0 = some [0] := rfl
@[simp] theorem hs_63_0 : hints.soft 63 0 = [] := rfl
@[simp] theorem hz_63_0 : hints.frz 63 0 = [] := rfl
@[simp] theorem hk_63_1 : hints.keep 63 1 = some [2] := rfl
@[simp] theorem hs_63_1 : hints.soft 63 1 = [] := rfl
@[simp] theorem hz_63_1 : hints.frz 63 1 = [] := rfl
end Go.Proofs.YtiompmmbjpjjeaaDoorV
