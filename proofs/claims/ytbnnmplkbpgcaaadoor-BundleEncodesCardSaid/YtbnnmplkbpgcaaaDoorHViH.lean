/- The value interpreter's hints and the types' facts for this seat, one by one. -/
import Derived.Test.YtbnnmplkbpgcaaaDoorHViS
import Derived.Test.YtbnnmplkbpgcaaaDoorHVi26
namespace Go.Proofs.YtbnnmplkbpgcaaaDoorV
open Go
set_option linter.unusedVariables false
noncomputable def inf (t : TypeId) : TypeInfo := (Tryd.prog.info? t).getD ((Tryd.prog.info? 3).get (by kernel_rfl))
@[simp] theorem u_3 : Tryd.prog.underlying 3 = Option.some (Go.TypeDesc.int Go.IntKind.i64) := by kernel_rfl
@[simp] theorem i_3 : Tryd.prog.info? 3 = some (inf 3) := by kernel_rfl
@[simp] theorem is_3 : (inf 3).size = 1 := by kernel_rfl
@[simp] theorem ib_3 : (inf 3).bytes = 8 := by kernel_rfl
@[simp] theorem iz_3 : zeroRow (inf 3) = Option.some [V.p (Go.Value.int Go.IntKind.i64 0)] := by kernel_rfl
@[simp] theorem sm_3 : slotMs Tryd.prog 8 3 = [0] := by kernel_rfl
@[simp] theorem u_5 : Tryd.prog.underlying 5 = Option.some (Go.TypeDesc.int Go.IntKind.u8) := by kernel_rfl
@[simp] theorem i_5 : Tryd.prog.info? 5 = some (inf 5) := by kernel_rfl
@[simp] theorem is_5 : (inf 5).size = 1 := by kernel_rfl
@[simp] theorem ib_5 : (inf 5).bytes = 1 := by kernel_rfl
@[simp] theorem iz_5 : zeroRow (inf 5) = Option.some [V.p (Go.Value.int Go.IntKind.u8 0)] := by kernel_rfl
@[simp] theorem sm_5 : slotMs Tryd.prog 8 5 = [0] := by kernel_rfl
@[simp] theorem u_22 : Tryd.prog.underlying 22 = Option.some (Go.TypeDesc.slice 5) := by kernel_rfl
@[simp] theorem i_22 : Tryd.prog.info? 22 = some (inf 22) := by kernel_rfl
@[simp] theorem is_22 : (inf 22).size = 1 := by kernel_rfl
@[simp] theorem ib_22 : (inf 22).bytes = 24 := by kernel_rfl
@[simp] theorem iz_22 : zeroRow (inf 22) = Option.some [V.nil] := by kernel_rfl
@[simp] theorem u_24 : Tryd.prog.underlying 24 = Option.some (Go.TypeDesc.int Go.IntKind.u32) := by kernel_rfl
@[simp] theorem i_24 : Tryd.prog.info? 24 = some (inf 24) := by kernel_rfl
@[simp] theorem is_24 : (inf 24).size = 1 := by kernel_rfl
@[simp] theorem ib_24 : (inf 24).bytes = 4 := by kernel_rfl
@[simp] theorem iz_24 : zeroRow (inf 24) = Option.some [V.p (Go.Value.int Go.IntKind.u32 0)] := by kernel_rfl
@[simp] theorem u_26 : Tryd.prog.underlying 26 = Option.some (Go.TypeDesc.struct (Array.mk [Go.Field.mk "Source" 3 0 false "" "" 0, Go.Field.mk "Dest" 3 1 false "" "" 8, Go.Field.mk "Seq" 24 2 false "" "" 16, Go.Field.mk "Created" 3 3 false "" "" 24, Go.Field.mk "Lifetime" 3 4 false "" "" 32, Go.Field.mk "HopLimit" 3 5 false "" "" 40, Go.Field.mk "Hops" 3 6 false "" "" 48, Go.Field.mk "Priority" 3 7 false "" "" 56, Go.Field.mk "Offset" 3 8 false "" "" 64, Go.Field.mk "Total" 3 9 false "" "" 72, Go.Field.mk "Payload" 22 10 false "" "" 80])) := by kernel_rfl
@[simp] theorem i_26 : Tryd.prog.info? 26 = some (inf 26) := by kernel_rfl
@[simp] theorem is_26 : (inf 26).size = 11 := by kernel_rfl
@[simp] theorem ib_26 : (inf 26).bytes = 104 := by kernel_rfl
@[simp] theorem iz_26 : zeroRow (inf 26) = Option.some [V.p (Go.Value.int Go.IntKind.i64 0), V.p (Go.Value.int Go.IntKind.i64 0), V.p (Go.Value.int Go.IntKind.u32 0), V.p (Go.Value.int Go.IntKind.i64 0), V.p (Go.Value.int Go.IntKind.i64 0), V.p (Go.Value.int Go.IntKind.i64 0), V.p (Go.Value.int Go.IntKind.i64 0), V.p (Go.Value.int Go.IntKind.i64 0), V.p (Go.Value.int Go.IntKind.i64 0), V.p (Go.Value.int Go.IntKind.i64 0), V.nil] := by kernel_rfl
@[simp] theorem u_47 : Tryd.prog.underlying 47 = Option.some (Go.TypeDesc.int Go.IntKind.u64) := by kernel_rfl
@[simp] theorem i_47 : Tryd.prog.info? 47 = some (inf 47) := by kernel_rfl
@[simp] theorem is_47 : (inf 47).size = 1 := by kernel_rfl
@[simp] theorem ib_47 : (inf 47).bytes = 8 := by kernel_rfl
@[simp] theorem iz_47 : zeroRow (inf 47) = Option.some [V.p (Go.Value.int Go.IntKind.u64 0)] := by kernel_rfl
@[simp] theorem u_48 : Tryd.prog.underlying 48 = Option.some (Go.TypeDesc.slice 50) := by kernel_rfl
@[simp] theorem i_48 : Tryd.prog.info? 48 = some (inf 48) := by kernel_rfl
@[simp] theorem is_48 : (inf 48).size = 1 := by kernel_rfl
@[simp] theorem ib_48 : (inf 48).bytes = 24 := by kernel_rfl
@[simp] theorem iz_48 : zeroRow (inf 48) = Option.some [V.nil] := by kernel_rfl
@[simp] theorem u_50 : Tryd.prog.underlying 50 = Option.some (Go.TypeDesc.struct (Array.mk [Go.Field.mk "Kind" 3 0 false "" "" 0, Go.Field.mk "Num" 47 1 false "" "" 8, Go.Field.mk "Bytes" 22 2 false "" "" 16, Go.Field.mk "Items" 48 3 false "" "" 40])) := by kernel_rfl
@[simp] theorem i_50 : Tryd.prog.info? 50 = some (inf 50) := by kernel_rfl
@[simp] theorem is_50 : (inf 50).size = 4 := by kernel_rfl
@[simp] theorem ib_50 : (inf 50).bytes = 64 := by kernel_rfl
@[simp] theorem iz_50 : zeroRow (inf 50) = Option.some [V.p (Go.Value.int Go.IntKind.i64 0), V.p (Go.Value.int Go.IntKind.u64 0), V.nil, V.nil] := by kernel_rfl
@[simp] theorem sm_50 : slotMs Tryd.prog 8 50 = [0, 0, 1, 4] := by kernel_rfl
@[simp] theorem bl_50 (σ : St) (ps : List (Nat × Operand)) : buildV Tryd.prog σ 50 ps = (fillL [(0, 1), (1, 1), (2, 1), (3, 1)] [V.p (Go.Value.int Go.IntKind.i64 0), V.p (Go.Value.int Go.IntKind.u64 0), V.nil, V.nil] (evL σ ps)).map .agg := build_eval i_50 iz_50 u_50 (by kernel_rfl)
@[simp] theorem u_66 : Tryd.prog.underlying 66 = Option.some (Go.TypeDesc.slice 3) := by kernel_rfl
@[simp] theorem i_66 : Tryd.prog.info? 66 = some (inf 66) := by kernel_rfl
@[simp] theorem is_66 : (inf 66).size = 1 := by kernel_rfl
@[simp] theorem ib_66 : (inf 66).bytes = 24 := by kernel_rfl
@[simp] theorem iz_66 : zeroRow (inf 66) = Option.some [V.nil] := by kernel_rfl
@[simp] theorem u_80 : Tryd.prog.underlying 80 = Option.some (Go.TypeDesc.int Go.IntKind.u16) := by kernel_rfl
@[simp] theorem i_80 : Tryd.prog.info? 80 = some (inf 80) := by kernel_rfl
@[simp] theorem is_80 : (inf 80).size = 1 := by kernel_rfl
@[simp] theorem ib_80 : (inf 80).bytes = 2 := by kernel_rfl
@[simp] theorem iz_80 : zeroRow (inf 80) = Option.some [V.p (Go.Value.int Go.IntKind.u16 0)] := by kernel_rfl
@[simp] theorem u_109 : Tryd.prog.underlying 109 = Option.some (Go.TypeDesc.array 5 5) := by kernel_rfl
@[simp] theorem i_109 : Tryd.prog.info? 109 = some (inf 109) := by kernel_rfl
@[simp] theorem is_109 : (inf 109).size = 5 := by kernel_rfl
@[simp] theorem ib_109 : (inf 109).bytes = 5 := by kernel_rfl
@[simp] theorem iz_109 : zeroRow (inf 109) = Option.some [V.p (Go.Value.int Go.IntKind.u8 0), V.p (Go.Value.int Go.IntKind.u8 0), V.p (Go.Value.int Go.IntKind.u8 0), V.p (Go.Value.int Go.IntKind.u8 0), V.p (Go.Value.int Go.IntKind.u8 0)] := by kernel_rfl
theorem bl_109 (σ : St) (ps : List (Nat × Operand)) : buildV Tryd.prog σ 109 ps = (fillA [V.p (Go.Value.int Go.IntKind.u8 0), V.p (Go.Value.int Go.IntKind.u8 0), V.p (Go.Value.int Go.IntKind.u8 0), V.p (Go.Value.int Go.IntKind.u8 0), V.p (Go.Value.int Go.IntKind.u8 0)] (evL σ ps)).map .agg := by rw [build_evalA i_109 iz_109 u_109 i_5]; simp only [is_5, Nat.mul_one]; rfl
@[simp] theorem gv (f : FuncId) : hints.gives f = [51, 67, 73, 74, 75, 76].contains f := rfl
@[simp] theorem hk_6_0 : hints.keep 6 0 = some [1] := rfl
@[simp] theorem hs_6_0 : hints.soft 6 0 = [] := rfl
@[simp] theorem hz_6_0 : hints.frz 6 0 = [] := rfl
@[simp] theorem hk_6_1 : hints.keep 6 1 = some [1, 7] := rfl
@[simp] theorem hs_6_1 : hints.soft 6 1 = [] := rfl
@[simp] theorem hz_6_1 : hints.frz 6 1 = [] := rfl
@[simp] theorem hk_6_2 : hints.keep 6 2 = some [2] := rfl
@[simp] theorem hs_6_2 : hints.soft 6 2 = [] := rfl
@[simp] theorem hz_6_2 : hints.frz 6 2 = [] := rfl
@[simp] theorem hk_6_3 : hints.keep 6 3 = some [1, 11] := rfl
@[simp] theorem hs_6_3 : hints.soft 6 3 = [] := rfl
@[simp] theorem hz_6_3 : hints.frz 6 3 = [] := rfl
@[simp] theorem hk_6_4 : hints.keep 6 4 = some [2] := rfl
@[simp] theorem hs_6_4 : hints.soft 6 4 = [] := rfl
@[simp] theorem hz_6_4 : hints.frz 6 4 = [] := rfl
@[simp] theorem hk_6_5 : hints.keep 6 5 = some [1, 3, 4] := rfl
@[simp] theorem hs_6_5 : hints.soft 6 5 = [] := rfl
@[simp] theorem hz_6_5 : hints.frz 6 5 = [] := rfl
@[simp] theorem hk_6_6 : hints.keep 6 6 = some [1, 3, 4, 20] := rfl
@[simp] theorem hs_6_6 : hints.soft 6 6 = [] := rfl
@[simp] theorem hz_6_6 : hints.frz 6 6 = [] := rfl
@[simp] theorem hk_6_7 : hints.keep 6 7 = some [2] := rfl
@[simp] theorem hs_6_7 : hints.soft 6 7 = [] := rfl
@[simp] theorem hz_6_7 : hints.frz 6 7 = [] := rfl
@[simp] theorem hk_6_8 : hints.keep 6 8 = some [1, 3, 4, 5] := rfl
@[simp] theorem hs_6_8 : hints.soft 6 8 = [] := rfl
@[simp] theorem hz_6_8 : hints.frz 6 8 = [] := rfl
@[simp] theorem hk_6_9 : hints.keep 6 9 = some [2] := rfl
@[simp] theorem hs_6_9 : hints.soft 6 9 = [] := rfl
@[simp] theorem hz_6_9 : hints.frz 6 9 = [] := rfl
@[simp] theorem hk_13_0 : hints.keep 13 0 = some [1, 2] := rfl
@[simp] theorem hs_13_0 : hints.soft 13 0 = [(2, some 10, 1, some (700000, 5))] := rfl
@[simp] theorem hz_13_0 : hints.frz 13 0 = [] := rfl
@[simp] theorem hk_13_1 : hints.keep 13 1 = some [1, 2] := rfl
@[simp] theorem hs_13_1 : hints.soft 13 1 = [] := rfl
@[simp] theorem hz_13_1 : hints.frz 13 1 = [] := rfl
@[simp] theorem hk_13_2 : hints.keep 13 2 = some [2] := rfl
@[simp] theorem hs_13_2 : hints.soft 13 2 = [] := rfl
@[simp] theorem hz_13_2 : hints.frz 13 2 = [] := rfl
@[simp] theorem hk_14_0 : hints.keep 14 0 = some [1] := rfl
@[simp] theorem hs_14_0 : hints.soft 14 0 = [] := rfl
@[simp] theorem hz_14_0 : hints.frz 14 0 = [] := rfl
@[simp] theorem hk_14_1 : hints.keep 14 1 = some [1, 4] := rfl
@[simp] theorem hs_14_1 : hints.soft 14 1 = [] := rfl
@[simp] theorem hz_14_1 : hints.frz 14 1 = [] := rfl
@[simp] theorem hk_14_2 : hints.keep 14 2 = some [1, 4, 11] := rfl
@[simp] theorem hs_14_2 : hints.soft 14 2 = [] := rfl
@[simp] theorem hz_14_2 : hints.frz 14 2 = [] := rfl
@[simp] theorem hk_14_3 : hints.keep 14 3 = some [2, 3] := rfl
@[simp] theorem hs_14_3 : hints.soft 14 3 = [(2, none, 1, none)] := rfl
@[simp] theorem hz_14_3 : hints.frz 14 3 = [] := rfl
@[simp] theorem hk_14_4 : hints.keep 14 4 = some [1, 5, 6] := rfl
@[simp] theorem hs_14_4 : hints.soft 14 4 = [] := rfl
@[simp] theorem hz_14_4 : hints.frz 14 4 = [] := rfl
@[simp] theorem hk_14_5 : hints.keep 14 5 = some [1, 5, 39] := rfl
@[simp] theorem hs_14_5 : hints.soft 14 5 = [] := rfl
@[simp] theorem hz_14_5 : hints.frz 14 5 = [] := rfl
@[simp] theorem hk_14_6 : hints.keep 14 6 = some [2, 3] := rfl
@[simp] theorem hs_14_6 : hints.soft 14 6 = [(2, none, 1, none)] := rfl
@[simp] theorem hz_14_6 : hints.frz 14 6 = [] := rfl
@[simp] theorem hk_14_7 : hints.keep 14 7 = some [6, 7] := rfl
@[simp] theorem hs_14_7 : hints.soft 14 7 = [] := rfl
@[simp] theorem hz_14_7 : hints.frz 14 7 = [] := rfl
@[simp] theorem hk_14_8 : hints.keep 14 8 = some [7, 58] := rfl
@[simp] theorem hs_14_8 : hints.soft 14 8 = [] := rfl
@[simp] theorem hz_14_8 : hints.frz 14 8 = [] := rfl
@[simp] theorem hk_14_9 : hints.keep 14 9 = some [2, 3] := rfl
@[simp] theorem hs_14_9 : hints.soft 14 9 = [(2, none, 1, none)] := rfl
@[simp] theorem hz_14_9 : hints.frz 14 9 = [] := rfl
@[simp] theorem hk_14_10 : hints.keep 14 10 = some [2, 3] := rfl
@[simp] theorem hs_14_10 : hints.soft 14 10 = [] := rfl
@[simp] theorem hz_14_10 : hints.frz 14 10 = [] := rfl
@[simp] theorem hk_15_0 : hints.keep 15 0 = some [1] := rfl
@[simp] theorem hs_15_0 : hints.soft 15 0 = [] := rfl
@[simp] theorem hz_15_0 : hints.frz 15 0 = [] := rfl
@[simp] theorem hk_15_1 : hints.keep 15 1 = some [1, 45] := rfl
@[simp] theorem hs_15_1 : hints.soft 15 1 = [] := rfl
@[simp] theorem hz_15_1 : hints.frz 15 1 = [] := rfl
@[simp] theorem hk_15_2 : hints.keep 15 2 = some [2] := rfl
@[simp] theorem hs_15_2 : hints.soft 15 2 = [] := rfl
@[simp] theorem hz_15_2 : hints.frz 15 2 = [] := rfl
@[simp] theorem hk_15_3 : hints.keep 15 3 = some [1, 85] := rfl
@[simp] theorem hs_15_3 : hints.soft 15 3 = [] := rfl
@[simp] theorem hz_15_3 : hints.frz 15 3 = [] := rfl
@[simp] theorem hk_15_4 : hints.keep 15 4 = some [2] := rfl
@[simp] theorem hs_15_4 : hints.soft 15 4 = [] := rfl
@[simp] theorem hz_15_4 : hints.frz 15 4 = [] := rfl
@[simp] theorem hk_15_5 : hints.keep 15 5 = some [2] := rfl
@[simp] theorem hs_15_5 : hints.soft 15 5 = [] := rfl
@[simp] theorem hz_15_5 : hints.frz 15 5 = [] := rfl
@[simp] theorem hk_16_0 : hints.keep 16 0 = some [1] := rfl
@[simp] theorem hs_16_0 : hints.soft 16 0 = [] := rfl
@[simp] theorem hz_16_0 : hints.frz 16 0 = [] := rfl
@[simp] theorem hk_16_1 : hints.keep 16 1 = some [1, 3] := rfl
@[simp] theorem hs_16_1 : hints.soft 16 1 = [] := rfl
@[simp] theorem hz_16_1 : hints.frz 16 1 = [] := rfl
@[simp] theorem hk_16_2 : hints.keep 16 2 = some [1, 3] := rfl
@[simp] theorem hs_16_2 : hints.soft 16 2 = [] := rfl
@[simp] theorem hz_16_2 : hints.frz 16 2 = [] := rfl
@[simp] theorem hk_16_3 : hints.keep 16 3 = some [1, 3] := rfl
@[simp] theorem hs_16_3 : hints.soft 16 3 = [] := rfl
@[simp] theorem hz_16_3 : hints.frz 16 3 = [] := rfl
@[simp] theorem hk_16_4 : hints.keep 16 4 = some [3] := rfl
@[simp] theorem hs_16_4 : hints.soft 16 4 = [] := rfl
@[simp] theorem hz_16_4 : hints.frz 16 4 = [] := rfl
@[simp] theorem hk_16_5 : hints.keep 16 5 = some [72] := rfl
@[simp] theorem hs_16_5 : hints.soft 16 5 = [] := rfl
@[simp] theorem hz_16_5 : hints.frz 16 5 = [] := rfl
@[simp] theorem hk_16_6 : hints.keep 16 6 = some [2] := rfl
@[simp] theorem hs_16_6 : hints.soft 16 6 = [] := rfl
@[simp] theorem hz_16_6 : hints.frz 16 6 = [] := rfl
@[simp] theorem hk_16_7 : hints.keep 16 7 = some [2] := rfl
@[simp] theorem hs_16_7 : hints.soft 16 7 = [] := rfl
@[simp] theorem hz_16_7 : hints.frz 16 7 = [] := rfl
@[simp] theorem hk_17_0 : hints.keep 17 0 = some [1] := rfl
@[simp] theorem hs_17_0 : hints.soft 17 0 = [] := rfl
@[simp] theorem hz_17_0 : hints.frz 17 0 = [] := rfl
@[simp] theorem hk_17_1 : hints.keep 17 1 = some [3] := rfl
@[simp] theorem hs_17_1 : hints.soft 17 1 = [] := rfl
@[simp] theorem hz_17_1 : hints.frz 17 1 = [] := rfl
@[simp] theorem hk_17_2 : hints.keep 17 2 = some [2] := rfl
@[simp] theorem hs_17_2 : hints.soft 17 2 = [] := rfl
@[simp] theorem hz_17_2 : hints.frz 17 2 = [] := rfl
@[simp] theorem hk_18_0 : hints.keep 18 0 = some [1] := rfl
@[simp] theorem hs_18_0 : hints.soft 18 0 = [] := rfl
@[simp] theorem hz_18_0 : hints.frz 18 0 = [] := rfl
@[simp] theorem hk_18_1 : hints.keep 18 1 = some [1, 3] := rfl
@[simp] theorem hs_18_1 : hints.soft 18 1 = [] := rfl
@[simp] theorem hz_18_1 : hints.frz 18 1 = [] := rfl
@[simp] theorem hk_18_2 : hints.keep 18 2 = some [1, 3, 4] := rfl
@[simp] theorem hs_18_2 : hints.soft 18 2 = [] := rfl
@[simp] theorem hz_18_2 : hints.frz 18 2 = [] := rfl
@[simp] theorem hk_18_3 : hints.keep 18 3 = some [1, 3, 4, 5] := rfl
@[simp] theorem hs_18_3 : hints.soft 18 3 = [] := rfl
@[simp] theorem hz_18_3 : hints.frz 18 3 = [] := rfl
@[simp] theorem hk_18_4 : hints.keep 18 4 = some [1, 3, 4, 5, 32] := rfl
@[simp] theorem hh_18_4 : hints.head 18 4 = some [1, 3, 4, 5] := rfl
@[simp] theorem hc_18_4 : hints.canon 18 4 = [] := rfl
@[simp] theorem hs_18_4 : hints.soft 18 4 = [] := rfl
@[simp] theorem hz_18_4 : hints.frz 18 4 = [] := rfl
@[simp] theorem hk_18_5 : hints.keep 18 5 = some [1, 3, 4, 5] := rfl
@[simp] theorem hs_18_5 : hints.soft 18 5 = [] := rfl
@[simp] theorem hz_18_5 : hints.frz 18 5 = [] := rfl
@[simp] theorem hk_18_6 : hints.keep 18 6 = some [1, 3, 4, 5] := rfl
@[simp] theorem hs_18_6 : hints.soft 18 6 = [] := rfl
@[simp] theorem hz_18_6 : hints.frz 18 6 = [] := rfl
@[simp] theorem hk_18_7 : hints.keep 18 7 = some [1, 3] := rfl
@[simp] theorem hs_18_7 : hints.soft 18 7 = [] := rfl
@[simp] theorem hz_18_7 : hints.frz 18 7 = [] := rfl
@[simp] theorem hk_18_8 : hints.keep 18 8 = some [1, 3, 6] := rfl
@[simp] theorem hs_18_8 : hints.soft 18 8 = [] := rfl
@[simp] theorem hz_18_8 : hints.frz 18 8 = [] := rfl
@[simp] theorem hk_18_9 : hints.keep 18 9 = some [1, 6, 7] := rfl
@[simp] theorem hs_18_9 : hints.soft 18 9 = [] := rfl
@[simp] theorem hz_18_9 : hints.frz 18 9 = [] := rfl
@[simp] theorem hk_18_10 : hints.keep 18 10 = some [6, 7] := rfl
@[simp] theorem hs_18_10 : hints.soft 18 10 = [] := rfl
@[simp] theorem hz_18_10 : hints.frz 18 10 = [] := rfl
@[simp] theorem hk_18_11 : hints.keep 18 11 = some [2] := rfl
@[simp] theorem hs_18_11 : hints.soft 18 11 = [] := rfl
@[simp] theorem hz_18_11 : hints.frz 18 11 = [] := rfl
@[simp] theorem hk_19_0 : hints.keep 19 0 = some [0, 1] := rfl
@[simp] theorem hs_19_0 : hints.soft 19 0 = [] := rfl
@[simp] theorem hz_19_0 : hints.frz 19 0 = [] := rfl
@[simp] theorem hk_19_1 : hints.keep 19 1 = some [0, 1, 10] := rfl
@[simp] theorem hs_19_1 : hints.soft 19 1 = [] := rfl
@[simp] theorem hz_19_1 : hints.frz 19 1 = [] := rfl
@[simp] theorem hk_19_2 : hints.keep 19 2 = some [4] := rfl
@[simp] theorem hs_19_2 : hints.soft 19 2 = [] := rfl
@[simp] theorem hz_19_2 : hints.frz 19 2 = [] := rfl
@[simp] theorem hk_19_3 : hints.keep 19 3 = some [0, 1, 5] := rfl
@[simp] theorem hs_19_3 : hints.soft 19 3 = [] := rfl
@[simp] theorem hz_19_3 : hints.frz 19 3 = [] := rfl
@[simp] theorem hk_19_4 : hints.keep 19 4 = some [0, 1, 5, 14] := rfl
@[simp] theorem hh_19_4 : hints.head 19 4 = some [0, 1, 5] := rfl
@[simp] theorem hc_19_4 : hints.canon 19 4 = [] := rfl
@[simp] theorem hs_19_4 : hints.soft 19 4 = [] := rfl
@[simp] theorem hz_19_4 : hints.frz 19 4 = [] := rfl
@[simp] theorem hk_19_5 : hints.keep 19 5 = some [0, 1, 5] := rfl
@[simp] theorem hs_19_5 : hints.soft 19 5 = [] := rfl
@[simp] theorem hz_19_5 : hints.frz 19 5 = [] := rfl
@[simp] theorem hk_19_6 : hints.keep 19 6 = some [0, 1, 5, 25] := rfl
@[simp] theorem hs_19_6 : hints.soft 19 6 = [] := rfl
@[simp] theorem hz_19_6 : hints.frz 19 6 = [] := rfl
@[simp] theorem hk_19_7 : hints.keep 19 7 = some [4] := rfl
@[simp] theorem hs_19_7 : hints.soft 19 7 = [] := rfl
@[simp] theorem hz_19_7 : hints.frz 19 7 = [] := rfl
@[simp] theorem hk_19_8 : hints.keep 19 8 = some [4] := rfl
@[simp] theorem hs_19_8 : hints.soft 19 8 = [] := rfl
@[simp] theorem hz_19_8 : hints.frz 19 8 = [] := rfl
@[simp] theorem hk_31_0 : hints.keep 31 0 = some [1] := rfl
@[simp] theorem hs_31_0 : hints.soft 31 0 = [] := rfl
@[simp] theorem hz_31_0 : hints.frz 31 0 = [] := rfl
@[simp] theorem hk_31_1 : hints.keep 31 1 = some [1, 4] := rfl
@[simp] theorem hs_31_1 : hints.soft 31 1 = [] := rfl
@[simp] theorem hz_31_1 : hints.frz 31 1 = [] := rfl
@[simp] theorem hk_31_2 : hints.keep 31 2 = some [1, 4, 8] := rfl
@[simp] theorem hs_31_2 : hints.soft 31 2 = [] := rfl
@[simp] theorem hz_31_2 : hints.frz 31 2 = [] := rfl
@[simp] theorem hk_31_3 : hints.keep 31 3 = some [2, 3] := rfl
@[simp] theorem hs_31_3 : hints.soft 31 3 = [(2, none, 1, none)] := rfl
@[simp] theorem hz_31_3 : hints.frz 31 3 = [] := rfl
@[simp] theorem hk_31_4 : hints.keep 31 4 = some [2, 3] := rfl
@[simp] theorem hs_31_4 : hints.soft 31 4 = [] := rfl
@[simp] theorem hz_31_4 : hints.frz 31 4 = [] := rfl
@[simp] theorem hk_32_0 : hints.keep 32 0 = some [0, 2] := rfl
@[simp] theorem hs_32_0 : hints.soft 32 0 = [(2, some 2, 1, none), (2, some 3, 4, some (700001, 50))] := rfl
@[simp] theorem hz_32_0 : hints.frz 32 0 = [] := rfl
@[simp] theorem hk_32_1 : hints.keep 32 1 = some [0, 2, 3] := rfl
@[simp] theorem hs_32_1 : hints.soft 32 1 = [(3, none, 4, some (700064, 50))] := rfl
@[simp] theorem hz_32_1 : hints.frz 32 1 = [] := rfl
@[simp] theorem hk_32_2 : hints.keep 32 2 = some [2, 3, 6, 7, 8] := rfl
@[simp] theorem hs_32_2 : hints.soft 32 2 = [] := rfl
@[simp] theorem hz_32_2 : hints.frz 32 2 = [] := rfl
@[simp] theorem hk_32_3 : hints.keep 32 3 = some [2, 3, 6, 7, 8, 9] := rfl
@[simp] theorem hh_32_3 : hints.head 32 3 = some [2, 3, 6, 7, 8] := rfl
@[simp] theorem hc_32_3 : hints.canon 32 3 = [(3, none, 20000, 4, 50)] := rfl
@[simp] theorem hs_32_3 : hints.soft 32 3 = [] := rfl
@[simp] theorem hz_32_3 : hints.frz 32 3 = [] := rfl
@[simp] theorem hk_32_4 : hints.keep 32 4 = some [2, 3, 5, 6, 7, 8] := rfl
@[simp] theorem hs_32_4 : hints.soft 32 4 = [] := rfl
@[simp] theorem hz_32_4 : hints.frz 32 4 = [] := rfl
@[simp] theorem hk_32_5 : hints.keep 32 5 = some [2, 3, 6, 7, 8] := rfl
@[simp] theorem hs_32_5 : hints.soft 32 5 = [] := rfl
@[simp] theorem hz_32_5 : hints.frz 32 5 = [] := rfl
@[simp] theorem hk_32_6 : hints.keep 32 6 = some [2, 3, 6, 7, 8] := rfl
@[simp] theorem hs_32_6 : hints.soft 32 6 = [] := rfl
@[simp] theorem hz_32_6 : hints.frz 32 6 = [] := rfl
@[simp] theorem hk_32_7 : hints.keep 32 7 = some [2] := rfl
@[simp] theorem hs_32_7 : hints.soft 32 7 = [] := rfl
@[simp] theorem hz_32_7 : hints.frz 32 7 = [] := rfl
@[simp] theorem hk_33_0 : hints.keep 33 0 = some [0, 2] := rfl
@[simp] theorem hs_33_0 : hints.soft 33 0 = [(2, some 2, 1, none), (2, some 3, 4, some (700001, 50))] := rfl
@[simp] theorem hz_33_0 : hints.frz 33 0 = [] := rfl
@[simp] theorem hk_33_1 : hints.keep 33 1 = some [0, 2, 3] := rfl
@[simp] theorem hs_33_1 : hints.soft 33 1 = [(3, some 2, 1, none), (3, some 3, 4, some (700065, 50))] := rfl
@[simp] theorem hz_33_1 : hints.frz 33 1 = [] := rfl
@[simp] theorem hk_33_2 : hints.keep 33 2 = some [2, 3, 7, 8, 9] := rfl
@[simp] theorem hs_33_2 : hints.soft 33 2 = [] := rfl
@[simp] theorem hz_33_2 : hints.frz 33 2 = [] := rfl
@[simp] theorem hk_33_3 : hints.keep 33 3 = some [2, 3, 7, 8, 9, 10] := rfl
@[simp] theorem hh_33_3 : hints.head 33 3 = some [2, 3, 7, 8, 9] := rfl
@[simp] theorem hc_33_3 : hints.canon 33 3 = [(3, some 3, 20000, 4, 50)] := rfl
@[simp] theorem hs_33_3 : hints.soft 33 3 = [] := rfl
@[simp] theorem hz_33_3 : hints.frz 33 3 = [] := rfl
@[simp] theorem hk_33_4 : hints.keep 33 4 = some [2, 3, 5, 7, 8, 9] := rfl
@[simp] theorem hs_33_4 : hints.soft 33 4 = [] := rfl
@[simp] theorem hz_33_4 : hints.frz 33 4 = [] := rfl
@[simp] theorem hk_33_5 : hints.keep 33 5 = some [2, 3, 7, 8, 9] := rfl
@[simp] theorem hs_33_5 : hints.soft 33 5 = [] := rfl
@[simp] theorem hz_33_5 : hints.frz 33 5 = [] := rfl
@[simp] theorem hk_33_6 : hints.keep 33 6 = some [2, 3, 7, 8, 9] := rfl
@[simp] theorem hs_33_6 : hints.soft 33 6 = [] := rfl
@[simp] theorem hz_33_6 : hints.frz 33 6 = [] := rfl
@[simp] theorem hk_33_7 : hints.keep 33 7 = some [2] := rfl
@[simp] theorem hs_33_7 : hints.soft 33 7 = [] := rfl
@[simp] theorem hz_33_7 : hints.frz 33 7 = [] := rfl
@[simp] theorem hk_34_0 : hints.keep 34 0 = some [0, 2] := rfl
@[simp] theorem hs_34_0 : hints.soft 34 0 = [(2, some 2, 1, some (700000, 5)), (2, some 3, 4, none)] := rfl
@[simp] theorem hz_34_0 : hints.frz 34 0 = [] := rfl
@[simp] theorem hk_34_1 : hints.keep 34 1 = some [2] := rfl
@[simp] theorem hs_34_1 : hints.soft 34 1 = [(2, some 3, 4, none)] := rfl
@[simp] theorem hz_34_1 : hints.frz 34 1 = [] := rfl
@[simp] theorem hk_35_0 : hints.keep 35 0 = some [0] := rfl
@[simp] theorem hs_35_0 : hints.soft 35 0 = [] := rfl
@[simp] theorem hz_35_0 : hints.frz 35 0 = [] := rfl
@[simp] theorem hk_35_1 : hints.keep 35 1 = some [2] := rfl
@[simp] theorem hs_35_1 : hints.soft 35 1 = [] := rfl
@[simp] theorem hz_35_1 : hints.frz 35 1 = [] := rfl
@[simp] theorem hk_36_0 : hints.keep 36 0 = some [0, 2] := rfl
@[simp] theorem hs_36_0 : hints.soft 36 0 = [(2, some 2, 1, none), (2, some 3, 4, none)] := rfl
@[simp] theorem hz_36_0 : hints.frz 36 0 = [] := rfl
@[simp] theorem hk_36_1 : hints.keep 36 1 = some [2] := rfl
@[simp] theorem hs_36_1 : hints.soft 36 1 = [(2, some 2, 1, none), (2, some 3, 4, none)] := rfl
@[simp] theorem hz_36_1 : hints.frz 36 1 = [] := rfl
@[simp] theorem hk_37_0 : hints.keep 37 0 = some [0] := rfl
@[simp] theorem hs_37_0 : hints.soft 37 0 = [] := rfl
@[simp] theorem hz_37_0 : hints.frz 37 0 = [] := rfl
@[simp] theorem hk_37_1 : hints.keep 37 1 = some [2] := rfl
@[simp] theorem hs_37_1 : hints.soft 37 1 = [] := rfl
@[simp] theorem hz_37_1 : hints.frz 37 1 = [] := rfl
@[simp] theorem hk_38_0 : hints.keep 38 0 = some [0, 1, 2] := rfl
@[simp] theorem hs_38_0 : hints.soft 38 0 = [] := rfl
@[simp] theorem hz_38_0 : hints.frz 38 0 = [] := rfl
@[simp] theorem hk_38_1 : hints.keep 38 1 = some [6] := rfl
@[simp] theorem hs_38_1 : hints.soft 38 1 = [] := rfl
@[simp] theorem hz_38_1 : hints.frz 38 1 = [] := rfl
@[simp] theorem hk_39_0 : hints.keep 39 0 = some [0, 1] := rfl
@[simp] theorem hs_39_0 : hints.soft 39 0 = [] := rfl
@[simp] theorem hz_39_0 : hints.frz 39 0 = [] := rfl
@[simp] theorem hk_39_1 : hints.keep 39 1 = some [0, 1, 6] := rfl
@[simp] theorem hs_39_1 : hints.soft 39 1 = [] := rfl
@[simp] theorem hz_39_1 : hints.frz 39 1 = [] := rfl
@[simp] theorem hk_39_2 : hints.keep 39 2 = some [4] := rfl
@[simp] theorem hs_39_2 : hints.soft 39 2 = [] := rfl
@[simp] theorem hz_39_2 : hints.frz 39 2 = [] := rfl
@[simp] theorem hk_39_3 : hints.keep 39 3 = some [0, 1, 15] := rfl
@[simp] theorem hs_39_3 : hints.soft 39 3 = [] := rfl
@[simp] theorem hz_39_3 : hints.frz 39 3 = [] := rfl
@[simp] theorem hk_39_4 : hints.keep 39 4 = some [4] := rfl
@[simp] theorem hs_39_4 : hints.soft 39 4 = [] := rfl
@[simp] theorem hz_39_4 : hints.frz 39 4 = [] := rfl
@[simp] theorem hk_39_5 : hints.keep 39 5 = some [0, 1, 24] := rfl
@[simp] theorem hs_39_5 : hints.soft 39 5 = [] := rfl
@[simp] theorem hz_39_5 : hints.frz 39 5 = [] := rfl
@[simp] theorem hk_39_6 : hints.keep 39 6 = some [4] := rfl
@[simp] theorem hs_39_6 : hints.soft 39 6 = [] := rfl
@[simp] theorem hz_39_6 : hints.frz 39 6 = [] := rfl
@[simp] theorem hk_39_7 : hints.keep 39 7 = some [0, 1, 34] := rfl
@[simp] theorem hs_39_7 : hints.soft 39 7 = [] := rfl
@[simp] theorem hz_39_7 : hints.frz 39 7 = [] := rfl
@[simp] theorem hk_39_8 : hints.keep 39 8 = some [4] := rfl
@[simp] theorem hs_39_8 : hints.soft 39 8 = [] := rfl
@[simp] theorem hz_39_8 : hints.frz 39 8 = [] := rfl
@[simp] theorem hk_39_9 : hints.keep 39 9 = some [4] := rfl
@[simp] theorem hs_39_9 : hints.soft 39 9 = [] := rfl
@[simp] theorem hz_39_9 : hints.frz 39 9 = [] := rfl
@[simp] theorem hk_40_0 : hints.keep 40 0 = some [0, 1] := rfl
@[simp] theorem hs_40_0 : hints.soft 40 0 = [(1, none, 1, some (700000, 5))] := rfl
@[simp] theorem hz_40_0 : hints.frz 40 0 = [] := rfl
@[simp] theorem hk_40_1 : hints.keep 40 1 = some [0, 1, 5] := rfl
@[simp] theorem hs_40_1 : hints.soft 40 1 = [] := rfl
@[simp] theorem hz_40_1 : hints.frz 40 1 = [] := rfl
@[simp] theorem hk_40_2 : hints.keep 40 2 = some [0, 1, 5, 6] := rfl
@[simp] theorem hs_40_2 : hints.soft 40 2 = [] := rfl
@[simp] theorem hz_40_2 : hints.frz 40 2 = [] := rfl
@[simp] theorem hk_40_3 : hints.keep 40 3 = some [0, 1, 5, 6, 17] := rfl
@[simp] theorem hh_40_3 : hints.head 40 3 = some [0, 1, 5, 6] := rfl
@[simp] theorem hc_40_3 : hints.canon 40 3 = [(5, none, 20000, 1, 5)] := rfl
@[simp] theorem hs_40_3 : hints.soft 40 3 = [] := rfl
@[simp] theorem hz_40_3 : hints.frz 40 3 = [] := rfl
@[simp] theorem hk_40_4 : hints.keep 40 4 = some [0, 1, 5, 6] := rfl
@[simp] theorem hs_40_4 : hints.soft 40 4 = [] := rfl
@[simp] theorem hz_40_4 : hints.frz 40 4 = [] := rfl
@[simp] theorem hk_40_5 : hints.keep 40 5 = some [0, 1, 5, 6] := rfl
@[simp] theorem hs_40_5 : hints.soft 40 5 = [] := rfl
@[simp] theorem hz_40_5 : hints.frz 40 5 = [] := rfl
@[simp] theorem hk_40_6 : hints.keep 40 6 = some [1, 5, 7] := rfl
@[simp] theorem hs_40_6 : hints.soft 40 6 = [] := rfl
@[simp] theorem hz_40_6 : hints.frz 40 6 = [] := rfl
@[simp] theorem hk_40_7 : hints.keep 40 7 = some [1, 5, 7, 30] := rfl
@[simp] theorem hh_40_7 : hints.head 40 7 = some [1, 5, 7] := rfl
@[simp] theorem hc_40_7 : hints.canon 40 7 = [(5, none, 20000, 1, 5)] := rfl
@[simp] theorem hs_40_7 : hints.soft 40 7 = [] := rfl
@[simp] theorem hz_40_7 : hints.frz 40 7 = [] := rfl
@[simp] theorem hk_40_8 : hints.keep 40 8 = some [1, 5, 7] := rfl
@[simp] theorem hs_40_8 : hints.soft 40 8 = [] := rfl
@[simp] theorem hz_40_8 : hints.frz 40 8 = [] := rfl
@[simp] theorem hk_40_9 : hints.keep 40 9 = some [1, 5, 7] := rfl
@[simp] theorem hs_40_9 : hints.soft 40 9 = [] := rfl
@[simp] theorem hz_40_9 : hints.frz 40 9 = [] := rfl
@[simp] theorem hk_40_10 : hints.keep 40 10 = some [4] := rfl
@[simp] theorem hs_40_10 : hints.soft 40 10 = [] := rfl
@[simp] theorem hz_40_10 : hints.frz 40 10 = [] := rfl
@[simp] theorem hk_41_0 : hints.keep 41 0 = some [0, 1] := rfl
@[simp] theorem hs_41_0 : hints.soft 41 0 = [] := rfl
@[simp] theorem hz_41_0 : hints.frz 41 0 = [] := rfl
@[simp] theorem hk_41_1 : hints.keep 41 1 = some [0, 1, 5] := rfl
@[simp] theorem hs_41_1 : hints.soft 41 1 = [] := rfl
@[simp] theorem hz_41_1 : hints.frz 41 1 = [] := rfl
@[simp] theorem hk_41_2 : hints.keep 41 2 = some [1, 5, 6] := rfl
@[simp] theorem hs_41_2 : hints.soft 41 2 = [] := rfl
@[simp] theorem hz_41_2 : hints.frz 41 2 = [] := rfl
@[simp] theorem hk_41_3 : hints.keep 41 3 = some [1, 5, 6, 7] := rfl
@[simp] theorem hs_41_3 : hints.soft 41 3 = [] := rfl
@[simp] theorem hz_41_3 : hints.frz 41 3 = [] := rfl
@[simp] theorem hk_41_4 : hints.keep 41 4 = some [1, 5, 6, 7, 15] := rfl
@[simp] theorem hh_41_4 : hints.head 41 4 = some [1, 5, 6, 7] := rfl
@[simp] theorem hc_41_4 : hints.canon 41 4 = [(6, none, 20000, 1, 5)] := rfl
@[simp] theorem hs_41_4 : hints.soft 41 4 = [] := rfl
@[simp] theorem hz_41_4 : hints.frz 41 4 = [] := rfl
@[simp] theorem hk_41_5 : hints.keep 41 5 = some [1, 5, 6, 7] := rfl
@[simp] theorem hs_41_5 : hints.soft 41 5 = [] := rfl
@[simp] theorem hz_41_5 : hints.frz 41 5 = [] := rfl
@[simp] theorem hk_41_6 : hints.keep 41 6 = some [1, 5, 6, 7] := rfl
@[simp] theorem hs_41_6 : hints.soft 41 6 = [] := rfl
@[simp] theorem hz_41_6 : hints.frz 41 6 = [] := rfl
@[simp] theorem hk_41_7 : hints.keep 41 7 = some [1, 5, 6, 7] := rfl
@[simp] theorem hs_41_7 : hints.soft 41 7 = [] := rfl
@[simp] theorem hz_41_7 : hints.frz 41 7 = [] := rfl
@[simp] theorem hk_41_8 : hints.keep 41 8 = some [4] := rfl
@[simp] theorem hs_41_8 : hints.soft 41 8 = [] := rfl
@[simp] theorem hz_41_8 : hints.frz 41 8 = [] := rfl
@[simp] theorem hk_49_0 : hints.keep 49 0 = some [0] := rfl
@[simp] theorem hs_49_0 : hints.soft 49 0 = [] := rfl
@[simp] theorem hz_49_0 : hints.frz 49 0 = [] := rfl
@[simp] theorem hk_49_1 : hints.keep 49 1 = some [0] := rfl
@[simp] theorem hs_49_1 : hints.soft 49 1 = [] := rfl
@[simp] theorem hz_49_1 : hints.frz 49 1 = [] := rfl
@[simp] theorem hk_49_2 : hints.keep 49 2 = some [0, 15] := rfl
@[simp] theorem hh_49_2 : hints.head 49 2 = some [0] := rfl
@[simp] theorem hc_49_2 : hints.canon 49 2 = [] := rfl
@[simp] theorem hs_49_2 : hints.soft 49 2 = [] := rfl
@[simp] theorem hz_49_2 : hints.frz 49 2 = [] := rfl
@[simp] theorem hk_49_3 : hints.keep 49 3 = some [0, 3] := rfl
@[simp] theorem hs_49_3 : hints.soft 49 3 = [] := rfl
@[simp] theorem hz_49_3 : hints.frz 49 3 = [] := rfl
@[simp] theorem hk_49_4 : hints.keep 49 4 = some [0, 3, 20] := rfl
@[simp] theorem hs_49_4 : hints.soft 49 4 = [] := rfl
@[simp] theorem hz_49_4 : hints.frz 49 4 = [] := rfl
@[simp] theorem hk_49_5 : hints.keep 49 5 = some [0] := rfl
@[simp] theorem hs_49_5 : hints.soft 49 5 = [] := rfl
@[simp] theorem hz_49_5 : hints.frz 49 5 = [] := rfl
@[simp] theorem hk_49_6 : hints.keep 49 6 = some [0, 31] := rfl
@[simp] theorem hs_49_6 : hints.soft 49 6 = [] := rfl
@[simp] theorem hz_49_6 : hints.frz 49 6 = [] := rfl
@[simp] theorem hk_49_7 : hints.keep 49 7 = some [0] := rfl
@[simp] theorem hs_49_7 : hints.soft 49 7 = [] := rfl
@[simp] theorem hz_49_7 : hints.frz 49 7 = [] := rfl
@[simp] theorem hk_49_8 : hints.keep 49 8 = some [0, 46] := rfl
@[simp] theorem hs_49_8 : hints.soft 49 8 = [] := rfl
@[simp] theorem hz_49_8 : hints.frz 49 8 = [] := rfl
@[simp] theorem hk_49_9 : hints.keep 49 9 = some [0] := rfl
@[simp] theorem hs_49_9 : hints.soft 49 9 = [] := rfl
@[simp] theorem hz_49_9 : hints.frz 49 9 = [] := rfl
@[simp] theorem hk_49_10 : hints.keep 49 10 = some [0, 69] := rfl
@[simp] theorem hh_49_10 : hints.head 49 10 = some [0] := rfl
@[simp] theorem hc_49_10 : hints.canon 49 10 = [] := rfl
@[simp] theorem hs_49_10 : hints.soft 49 10 = [] := rfl
@[simp] theorem hz_49_10 : hints.frz 49 10 = [] := rfl
@[simp] theorem hk_49_11 : hints.keep 49 11 = some [0] := rfl
@[simp] theorem hs_49_11 : hints.soft 49 11 = [] := rfl
@[simp] theorem hz_49_11 : hints.frz 49 11 = [] := rfl
@[simp] theorem hk_49_29 : hints.keep 49 29 = some [2] := rfl
@[simp] theorem hs_49_29 : hints.soft 49 29 = [] := rfl
@[simp] theorem hz_49_29 : hints.frz 49 29 = [] := rfl
@[simp] theorem hk_50_0 : hints.keep 50 0 = some [1] := rfl
@[simp] theorem hs_50_0 : hints.soft 50 0 = [] := rfl
@[simp] theorem hz_50_0 : hints.frz 50 0 = [] := rfl
@[simp] theorem hk_50_1 : hints.keep 50 1 = some [5] := rfl
@[simp] theorem hs_50_1 : hints.soft 50 1 = [] := rfl
@[simp] theorem hz_50_1 : hints.frz 50 1 = [] := rfl
@[simp] theorem hk_50_2 : hints.keep 50 2 = some [2] := rfl
@[simp] theorem hs_50_2 : hints.soft 50 2 = [] := rfl
@[simp] theorem hz_50_2 : hints.frz 50 2 = [] := rfl
@[simp] theorem hk_50_3 : hints.keep 50 3 = some [2] := rfl
@[simp] theorem hs_50_3 : hints.soft 50 3 = [] := rfl
@[simp] theorem hz_50_3 : hints.frz 50 3 = [] := rfl
@[simp] theorem hk_51_0 : hints.keep 51 0 = some [0, 3] := rfl
@[simp] theorem hs_51_0 : hints.soft 51 0 = [(0, none, 1, some (700000, 5))] := rfl
@[simp] theorem hz_51_0 : hints.frz 51 0 = [] := rfl
@[simp] theorem hk_51_1 : hints.keep 51 1 = some [0, 3, 5] := rfl
@[simp] theorem hs_51_1 : hints.soft 51 1 = [] := rfl
@[simp] theorem hz_51_1 : hints.frz 51 1 = [] := rfl
@[simp] theorem hk_51_2 : hints.keep 51 2 = some [0, 3, 5, 12] := rfl
@[simp] theorem hs_51_2 : hints.soft 51 2 = [] := rfl
@[simp] theorem hz_51_2 : hints.frz 51 2 = [] := rfl
@[simp] theorem hk_51_3 : hints.keep 51 3 = some [0, 3, 5, 12, 13] := rfl
@[simp] theorem hs_51_3 : hints.soft 51 3 = [] := rfl
@[simp] theorem hz_51_3 : hints.frz 51 3 = [] := rfl
@[simp] theorem hk_51_4 : hints.keep 51 4 = some [4] := rfl
@[simp] theorem hs_51_4 : hints.soft 51 4 = [] := rfl
@[simp] theorem hz_51_4 : hints.frz 51 4 = [] := rfl
@[simp] theorem hk_51_5 : hints.keep 51 5 = some [0, 3, 5, 20] := rfl
@[simp] theorem hs_51_5 : hints.soft 51 5 = [] := rfl
@[simp] theorem hz_51_5 : hints.frz 51 5 = [] := rfl
@[simp] theorem hk_51_6 : hints.keep 51 6 = some [0, 3] := rfl
@[simp] theorem hs_51_6 : hints.soft 51 6 = [] := rfl
@[simp] theorem hz_51_6 : hints.frz 51 6 = [] := rfl
@[simp] theorem hk_51_7 : hints.keep 51 7 = some [0, 30, 31, 32] := rfl
@[simp] theorem hs_51_7 : hints.soft 51 7 = [] := rfl
@[simp] theorem hz_51_7 : hints.frz 51 7 = [] := rfl
@[simp] theorem hk_51_8 : hints.keep 51 8 = some [0, 30, 31, 32, 33] := rfl
@[simp] theorem hh_51_8 : hints.head 51 8 = some [0, 30, 31, 32] := rfl
@[simp] theorem hc_51_8 : hints.canon 51 8 = [] := rfl
@[simp] theorem hs_51_8 : hints.soft 51 8 = [] := rfl
@[simp] theorem hz_51_8 : hints.frz 51 8 = [] := rfl
@[simp] theorem hk_51_9 : hints.keep 51 9 = some [0, 7, 30, 31, 32] := rfl
@[simp] theorem hs_51_9 : hints.soft 51 9 = [] := rfl
@[simp] theorem hz_51_9 : hints.frz 51 9 = [] := rfl
@[simp] theorem hk_51_10 : hints.keep 51 10 = some [0, 30, 31, 32] := rfl
@[simp] theorem hs_51_10 : hints.soft 51 10 = [] := rfl
@[simp] theorem hz_51_10 : hints.frz 51 10 = [] := rfl
@[simp] theorem hk_51_11 : hints.keep 51 11 = some [0, 30, 31, 32] := rfl
@[simp] theorem hs_51_11 : hints.soft 51 11 = [] := rfl
@[simp] theorem hz_51_11 : hints.frz 51 11 = [] := rfl
@[simp] theorem hk_51_12 : hints.keep 51 12 = some [4] := rfl
@[simp] theorem hs_51_12 : hints.soft 51 12 = [] := rfl
@[simp] theorem hz_51_12 : hints.frz 51 12 = [] := rfl
@[simp] theorem hk_51_13 : hints.keep 51 13 = some [4] := rfl
@[simp] theorem hs_51_13 : hints.soft 51 13 = [] := rfl
@[simp] theorem hz_51_13 : hints.frz 51 13 = [] := rfl
@[simp] theorem hk_52_0 : hints.keep 52 0 = some [1, 2] := rfl
@[simp] theorem hs_52_0 : hints.soft 52 0 = [(2, some 2, 1, some (700000, 5)), (2, some 3, 4, some (700001, 50))] := rfl
@[simp] theorem hz_52_0 : hints.frz 52 0 = [] := rfl
@[simp] theorem hk_52_1 : hints.keep 52 1 = some [1, 2] := rfl
@[simp] theorem hs_52_1 : hints.soft 52 1 = [] := rfl
@[simp] theorem hz_52_1 : hints.frz 52 1 = [] := rfl
@[simp] theorem hk_52_2 : hints.keep 52 2 = some [1, 2, 3] := rfl
@[simp] theorem hs_52_2 : hints.soft 52 2 = [] := rfl
@[simp] theorem hz_52_2 : hints.frz 52 2 = [] := rfl
@[simp] theorem hk_52_3 : hints.keep 52 3 = some [1, 2, 3] := rfl
@[simp] theorem hs_52_3 : hints.soft 52 3 = [(1, some 3, 4, some (700192, 50))] := rfl
@[simp] theorem hz_52_3 : hints.frz 52 3 = [] := rfl
@[simp] theorem hk_52_4 : hints.keep 52 4 = some [1, 2, 13, 14, 15] := rfl
@[simp] theorem hs_52_4 : hints.soft 52 4 = [] := rfl
@[simp] theorem hz_52_4 : hints.frz 52 4 = [] := rfl
@[simp] theorem hk_52_5 : hints.keep 52 5 = some [1, 2, 13, 14, 15, 16] := rfl
@[simp] theorem hh_52_5 : hints.head 52 5 = some [1, 2, 13, 14, 15] := rfl
@[simp] theorem hc_52_5 : hints.canon 52 5 = [(1, some 3, 20000, 4, 50)] := rfl
@[simp] theorem hs_52_5 : hints.soft 52 5 = [] := rfl
@[simp] theorem hz_52_5 : hints.frz 52 5 = [] := rfl
@[simp] theorem hk_52_6 : hints.keep 52 6 = some [1, 2, 5, 13, 14, 15] := rfl
@[simp] theorem hs_52_6 : hints.soft 52 6 = [] := rfl
@[simp] theorem hz_52_6 : hints.frz 52 6 = [] := rfl
@[simp] theorem hk_52_7 : hints.keep 52 7 = some [1, 2, 13, 14, 15] := rfl
@[simp] theorem hs_52_7 : hints.soft 52 7 = [] := rfl
@[simp] theorem hz_52_7 : hints.frz 52 7 = [] := rfl
@[simp] theorem hk_52_8 : hints.keep 52 8 = some [1, 2, 13, 14, 15] := rfl
@[simp] theorem hs_52_8 : hints.soft 52 8 = [] := rfl
@[simp] theorem hz_52_8 : hints.frz 52 8 = [] := rfl
@[simp] theorem hk_52_9 : hints.keep 52 9 = some [2] := rfl
@[simp] theorem hs_52_9 : hints.soft 52 9 = [] := rfl
@[simp] theorem hz_52_9 : hints.frz 52 9 = [] := rfl
@[simp] theorem hk_54_0 : hints.keep 54 0 = some [0, 1, 2] := rfl
@[simp] theorem hs_54_0 : hints.soft 54 0 = [] := rfl
@[simp] theorem hz_54_0 : hints.frz 54 0 = [] := rfl
@[simp] theorem hk_54_1 : hints.keep 54 1 = some [1, 2, 7] := rfl
@[simp] theorem hs_54_1 : hints.soft 54 1 = [] := rfl
@[simp] theorem hz_54_1 : hints.frz 54 1 = [] := rfl
@[simp] theorem hk_54_2 : hints.keep 54 2 = some [1, 7, 11, 12] := rfl
@[simp] theorem hs_54_2 : hints.soft 54 2 = [] := rfl
@[simp] theorem hz_54_2 : hints.frz 54 2 = [] := rfl
@[simp] theorem hk_54_3 : hints.keep 54 3 = some [1, 7, 11, 12, 13] := rfl
@[simp] theorem hh_54_3 : hints.head 54 3 = some [1, 7, 11, 12] := rfl
@[simp] theorem hc_54_3 : hints.canon 54 3 = [(7, none, 20000, 1, 5)] := rfl
@[simp] theorem hs_54_3 : hints.soft 54 3 = [] := rfl
@[simp] theorem hz_54_3 : hints.frz 54 3 = [] := rfl
@[simp] theorem hk_54_4 : hints.keep 54 4 = some [1, 7, 8, 11, 12] := rfl
@[simp] theorem hs_54_4 : hints.soft 54 4 = [] := rfl
@[simp] theorem hz_54_4 : hints.frz 54 4 = [] := rfl
@[simp] theorem hk_54_5 : hints.keep 54 5 = some [1, 7, 11, 12] := rfl
@[simp] theorem hs_54_5 : hints.soft 54 5 = [] := rfl
@[simp] theorem hz_54_5 : hints.frz 54 5 = [] := rfl
@[simp] theorem hk_54_6 : hints.keep 54 6 = some [1, 7, 11, 12] := rfl
@[simp] theorem hs_54_6 : hints.soft 54 6 = [] := rfl
@[simp] theorem hz_54_6 : hints.frz 54 6 = [] := rfl
@[simp] theorem hk_54_7 : hints.keep 54 7 = some [6] := rfl
@[simp] theorem hs_54_7 : hints.soft 54 7 = [] := rfl
@[simp] theorem hz_54_7 : hints.frz 54 7 = [] := rfl
@[simp] theorem hk_55_0 : hints.keep 55 0 = some [0] := rfl
@[simp] theorem hs_55_0 : hints.soft 55 0 = [] := rfl
@[simp] theorem hz_55_0 : hints.frz 55 0 = [] := rfl
@[simp] theorem hk_55_1 : hints.keep 55 1 = some [2] := rfl
@[simp] theorem hs_55_1 : hints.soft 55 1 = [] := rfl
@[simp] theorem hz_55_1 : hints.frz 55 1 = [] := rfl
@[simp] theorem hk_56_0 : hints.keep 56 0 = some [0] := rfl
@[simp] theorem hs_56_0 : hints.soft 56 0 = [] := rfl
@[simp] theorem hz_56_0 : hints.frz 56 0 = [] := rfl
@[simp] theorem hk_56_1 : hints.keep 56 1 = some [2] := rfl
@[simp] theorem hs_56_1 : hints.soft 56 1 = [] := rfl
@[simp] theorem hz_56_1 : hints.frz 56 1 = [] := rfl
@[simp] theorem hk_57_0 : hints.keep 57 0 = some [0, 1] := rfl
@[simp] theorem hs_57_0 : hints.soft 57 0 = [] := rfl
@[simp] theorem hz_57_0 : hints.frz 57 0 = [] := rfl
@[simp] theorem hk_57_1 : hints.keep 57 1 = some [0, 1, 5] := rfl
@[simp] theorem hs_57_1 : hints.soft 57 1 = [] := rfl
@[simp] theorem hz_57_1 : hints.frz 57 1 = [] := rfl
@[simp] theorem hk_57_2 : hints.keep 57 2 = some [0, 5, 6] := rfl
@[simp] theorem hs_57_2 : hints.soft 57 2 = [] := rfl
@[simp] theorem hz_57_2 : hints.frz 57 2 = [] := rfl
@[simp] theorem hk_57_3 : hints.keep 57 3 = some [0, 5, 6, 12] := rfl
@[simp] theorem hh_57_3 : hints.head 57 3 = some [0, 5, 6] := rfl
@[simp] theorem hc_57_3 : hints.canon 57 3 = [] := rfl
@[simp] theorem hs_57_3 : hints.soft 57 3 = [] := rfl
@[simp] theorem hz_57_3 : hints.frz 57 3 = [] := rfl
@[simp] theorem hk_57_4 : hints.keep 57 4 = some [0, 5, 6] := rfl
@[simp] theorem hs_57_4 : hints.soft 57 4 = [] := rfl
@[simp] theorem hz_57_4 : hints.frz 57 4 = [] := rfl
@[simp] theorem hk_57_5 : hints.keep 57 5 = some [0, 5, 6] := rfl
@[simp] theorem hs_57_5 : hints.soft 57 5 = [] := rfl
@[simp] theorem hz_57_5 : hints.frz 57 5 = [] := rfl
@[simp] theorem hk_57_6 : hints.keep 57 6 = some [0, 5, 6] := rfl
@[simp] theorem hs_57_6 : hints.soft 57 6 = [] := rfl
@[simp] theorem hz_57_6 : hints.frz 57 6 = [] := rfl
@[simp] theorem hk_57_7 : hints.keep 57 7 = some [4] := rfl
@[simp] theorem hs_57_7 : hints.soft 57 7 = [] := rfl
@[simp] theorem hz_57_7 : hints.frz 57 7 = [] := rfl
@[simp] theorem hk_58_0 : hints.keep 58 0 = some [0, 1] := rfl
@[simp] theorem hs_58_0 : hints.soft 58 0 = [] := rfl
@[simp] theorem hz_58_0 : hints.frz 58 0 = [] := rfl
@[simp] theorem hk_58_1 : hints.keep 58 1 = some [0, 1, 5, 6] := rfl
@[simp] theorem hs_58_1 : hints.soft 58 1 = [] := rfl
@[simp] theorem hz_58_1 : hints.frz 58 1 = [] := rfl
@[simp] theorem hk_58_2 : hints.keep 58 2 = some [0, 5, 6, 11] := rfl
@[simp] theorem hs_58_2 : hints.soft 58 2 = [] := rfl
@[simp] theorem hz_58_2 : hints.frz 58 2 = [] := rfl
@[simp] theorem hk_58_3 : hints.keep 58 3 = some [0, 5, 6] := rfl
@[simp] theorem hs_58_3 : hints.soft 58 3 = [] := rfl
@[simp] theorem hz_58_3 : hints.frz 58 3 = [] := rfl
@[simp] theorem hk_58_4 : hints.keep 58 4 = some [0, 5, 6, 7] := rfl
@[simp] theorem hs_58_4 : hints.soft 58 4 = [] := rfl
@[simp] theorem hz_58_4 : hints.frz 58 4 = [] := rfl
@[simp] theorem hk_58_5 : hints.keep 58 5 = some [0, 5, 6, 7, 8] := rfl
@[simp] theorem hs_58_5 : hints.soft 58 5 = [] := rfl
@[simp] theorem hz_58_5 : hints.frz 58 5 = [] := rfl
@[simp] theorem hk_58_6 : hints.keep 58 6 = some [0, 5, 6, 7, 8, 16] := rfl
@[simp] theorem hh_58_6 : hints.head 58 6 = some [0, 5, 6, 7, 8] := rfl
@[simp] theorem hc_58_6 : hints.canon 58 6 = [] := rfl
@[simp] theorem hs_58_6 : hints.soft 58 6 = [] := rfl
@[simp] theorem hz_58_6 : hints.frz 58 6 = [] := rfl
@[simp] theorem hk_58_7 : hints.keep 58 7 = some [0, 5, 6, 7, 8] := rfl
@[simp] theorem hs_58_7 : hints.soft 58 7 = [] := rfl
@[simp] theorem hz_58_7 : hints.frz 58 7 = [] := rfl
@[simp] theorem hk_58_8 : hints.keep 58 8 = some [0, 5, 6, 7, 8] := rfl
@[simp] theorem hs_58_8 : hints.soft 58 8 = [] := rfl
@[simp] theorem hz_58_8 : hints.frz 58 8 = [] := rfl
@[simp] theorem hk_58_9 : hints.keep 58 9 = some [0, 5, 6, 7, 8, 9] := rfl
@[simp] theorem hs_58_9 : hints.soft 58 9 = [] := rfl
@[simp] theorem hz_58_9 : hints.frz 58 9 = [] := rfl
@[simp] theorem hk_58_10 : hints.keep 58 10 = some [0, 5, 6, 7, 8, 9, 27] := rfl
@[simp] theorem hh_58_10 : hints.head 58 10 = some [0, 5, 6, 7, 8, 9] := rfl
@[simp] theorem hc_58_10 : hints.canon 58 10 = [] := rfl
@[simp] theorem hs_58_10 : hints.soft 58 10 = [] := rfl
@[simp] theorem hz_58_10 : hints.frz 58 10 = [] := rfl
@[simp] theorem hk_58_11 : hints.keep 58 11 = some [0, 5, 6, 7, 8, 9] := rfl
@[simp] theorem hs_58_11 : hints.soft 58 11 = [] := rfl
@[simp] theorem hz_58_11 : hints.frz 58 11 = [] := rfl
@[simp] theorem hk_58_12 : hints.keep 58 12 = some [0, 5, 6, 7, 8, 9, 32] := rfl
@[simp] theorem hs_58_12 : hints.soft 58 12 = [] := rfl
@[simp] theorem hz_58_12 : hints.frz 58 12 = [] := rfl
@[simp] theorem hk_58_13 : hints.keep 58 13 = some [0, 5, 6, 7, 8, 9] := rfl
@[simp] theorem hs_58_13 : hints.soft 58 13 = [] := rfl
@[simp] theorem hz_58_13 : hints.frz 58 13 = [] := rfl
@[simp] theorem hk_58_14 : hints.keep 58 14 = some [0, 5, 6, 7, 8, 9] := rfl
@[simp] theorem hs_58_14 : hints.soft 58 14 = [] := rfl
@[simp] theorem hz_58_14 : hints.frz 58 14 = [] := rfl
@[simp] theorem hk_58_15 : hints.keep 58 15 = some [4] := rfl
@[simp] theorem hs_58_15 : hints.soft 58 15 = [] := rfl
@[simp] theorem hz_58_15 : hints.frz 58 15 = [] := rfl
@[simp] theorem hk_64_0 : hints.keep 64 0 = some [0] := rfl
@[simp] theorem hs_64_0 : hints.soft 64 0 = [] := rfl
@[simp] theorem hz_64_0 : hints.frz 64 0 = [] := rfl
@[simp] theorem hk_64_2 : hints.keep 64 2 = some [2] := rfl
@[simp] theorem hs_64_2 : hints.soft 64 2 = [] := rfl
@[simp] theorem hz_64_2 : hints.frz 64 2 = [] := rfl
@[simp] theorem hk_65_0 : hints.keep 65 0 = some [1, 2] := rfl
@[simp] theorem hs_65_0 : hints.soft 65 0 = [] := rfl
@[simp] theorem hz_65_0 : hints.frz 65 0 = [] := rfl
@[simp] theorem hk_65_1 : hints.keep 65 1 = some [1, 2, 36] := rfl
@[simp] theorem hs_65_1 : hints.soft 65 1 = [] := rfl
@[simp] theorem hz_65_1 : hints.frz 65 1 = [] := rfl
@[simp] theorem hk_65_2 : hints.keep 65 2 = some [4] := rfl
@[simp] theorem hs_65_2 : hints.soft 65 2 = [] := rfl
@[simp] theorem hz_65_2 : hints.frz 65 2 = [] := rfl
@[simp] theorem hk_65_3 : hints.keep 65 3 = some [1, 38, 39, 40] := rfl
@[simp] theorem hs_65_3 : hints.soft 65 3 = [] := rfl
@[simp] theorem hz_65_3 : hints.frz 65 3 = [] := rfl
@[simp] theorem hk_65_4 : hints.keep 65 4 = some [1, 38, 39, 40, 41] := rfl
@[simp] theorem hh_65_4 : hints.head 65 4 = some [1, 38, 39, 40] := rfl
@[simp] theorem hc_65_4 : hints.canon 65 4 = [] := rfl
@[simp] theorem hs_65_4 : hints.soft 65 4 = [] := rfl
@[simp] theorem hz_65_4 : hints.frz 65 4 = [] := rfl
@[simp] theorem hk_65_5 : hints.keep 65 5 = some [1, 6, 38, 39, 40] := rfl
@[simp] theorem hs_65_5 : hints.soft 65 5 = [] := rfl
@[simp] theorem hz_65_5 : hints.frz 65 5 = [] := rfl
@[simp] theorem hk_65_6 : hints.keep 65 6 = some [1, 38, 39, 40, 48] := rfl
@[simp] theorem hs_65_6 : hints.soft 65 6 = [] := rfl
@[simp] theorem hz_65_6 : hints.frz 65 6 = [] := rfl
@[simp] theorem hk_65_7 : hints.keep 65 7 = some [4] := rfl
@[simp] theorem hs_65_7 : hints.soft 65 7 = [] := rfl
@[simp] theorem hz_65_7 : hints.frz 65 7 = [] := rfl
@[simp] theorem hk_65_8 : hints.keep 65 8 = some [1, 38, 39, 40] := rfl
@[simp] theorem hs_65_8 : hints.soft 65 8 = [] := rfl
@[simp] theorem hz_65_8 : hints.frz 65 8 = [] := rfl
@[simp] theorem hk_65_9 : hints.keep 65 9 = some [4] := rfl
@[simp] theorem hs_65_9 : hints.soft 65 9 = [] := rfl
@[simp] theorem hz_65_9 : hints.frz 65 9 = [] := rfl
@[simp] theorem hk_66_0 : hints.keep 66 0 = some [0] := rfl
@[simp] theorem hs_66_0 : hints.soft 66 0 = [] := rfl
@[simp] theorem hz_66_0 : hints.frz 66 0 = [] := rfl
@[simp] theorem hk_66_1 : hints.keep 66 1 = some [2] := rfl
@[simp] theorem hs_66_1 : hints.soft 66 1 = [] := rfl
@[simp] theorem hz_66_1 : hints.frz 66 1 = [] := rfl
@[simp] theorem hk_67_0 : hints.keep 67 0 = some [0, 1, 2] := rfl
@[simp] theorem hs_67_0 : hints.soft 67 0 = [] := rfl
@[simp] theorem hz_67_0 : hints.frz 67 0 = [] := rfl
@[simp] theorem hk_67_1 : hints.keep 67 1 = some [0, 1, 2] := rfl
@[simp] theorem hs_67_1 : hints.soft 67 1 = [] := rfl
@[simp] theorem hz_67_1 : hints.frz 67 1 = [] := rfl
@[simp] theorem hk_67_2 : hints.keep 67 2 = some [0, 1, 2, 9] := rfl
@[simp] theorem hs_67_2 : hints.soft 67 2 = [] := rfl
@[simp] theorem hz_67_2 : hints.frz 67 2 = [] := rfl
@[simp] theorem hk_67_3 : hints.keep 67 3 = some [6] := rfl
@[simp] theorem hs_67_3 : hints.soft 67 3 = [] := rfl
@[simp] theorem hz_67_3 : hints.frz 67 3 = [] := rfl
@[simp] theorem hk_67_4 : hints.keep 67 4 = some [0, 1, 2, 19] := rfl
@[simp] theorem hs_67_4 : hints.soft 67 4 = [] := rfl
@[simp] theorem hz_67_4 : hints.frz 67 4 = [] := rfl
@[simp] theorem hk_67_5 : hints.keep 67 5 = some [6] := rfl
@[simp] theorem hs_67_5 : hints.soft 67 5 = [] := rfl
@[simp] theorem hz_67_5 : hints.frz 67 5 = [] := rfl
@[simp] theorem hk_67_6 : hints.keep 67 6 = some [0, 1, 2, 29] := rfl
@[simp] theorem hs_67_6 : hints.soft 67 6 = [] := rfl
@[simp] theorem hz_67_6 : hints.frz 67 6 = [] := rfl
@[simp] theorem hk_67_7 : hints.keep 67 7 = some [6] := rfl
@[simp] theorem hs_67_7 : hints.soft 67 7 = [] := rfl
@[simp] theorem hz_67_7 : hints.frz 67 7 = [] := rfl
@[simp] theorem hk_67_8 : hints.keep 67 8 = some [0, 1, 2, 40] := rfl
@[simp] theorem hs_67_8 : hints.soft 67 8 = [] := rfl
@[simp] theorem hz_67_8 : hints.frz 67 8 = [] := rfl
@[simp] theorem hk_67_9 : hints.keep 67 9 = some [6] := rfl
@[simp] theorem hs_67_9 : hints.soft 67 9 = [] := rfl
@[simp] theorem hz_67_9 : hints.frz 67 9 = [] := rfl
@[simp] theorem hk_67_10 : hints.keep 67 10 = some [6] := rfl
@[simp] theorem hs_67_10 : hints.soft 67 10 = [] := rfl
@[simp] theorem hz_67_10 : hints.frz 67 10 = [] := rfl
@[simp] theorem hk_68_0 : hints.keep 68 0 = some [0, 1] := rfl
@[simp] theorem hs_68_0 : hints.soft 68 0 = [] := rfl
@[simp] theorem hz_68_0 : hints.frz 68 0 = [] := rfl
@[simp] theorem hk_68_1 : hints.keep 68 1 = some [0, 1, 5] := rfl
@[simp] theorem hs_68_1 : hints.soft 68 1 = [] := rfl
@[simp] theorem hz_68_1 : hints.frz 68 1 = [] := rfl
@[simp] theorem hk_68_2 : hints.keep 68 2 = some [1, 5, 11, 12, 13] := rfl
@[simp] theorem hs_68_2 : hints.soft 68 2 = [] := rfl
@[simp] theorem hz_68_2 : hints.frz 68 2 = [] := rfl
@[simp] theorem hk_68_3 : hints.keep 68 3 = some [1, 5, 11, 12, 13, 14] := rfl
@[simp] theorem hh_68_3 : hints.head 68 3 = some [1, 5, 11, 12, 13] := rfl
@[simp] theorem hc_68_3 : hints.canon 68 3 = [] := rfl
@[simp] theorem hs_68_3 : hints.soft 68 3 = [] := rfl
@[simp] theorem hz_68_3 : hints.frz 68 3 = [] := rfl
@[simp] theorem hk_68_4 : hints.keep 68 4 = some [1, 5, 7, 11, 12, 13] := rfl
@[simp] theorem hs_68_4 : hints.soft 68 4 = [] := rfl
@[simp] theorem hz_68_4 : hints.frz 68 4 = [] := rfl
@[simp] theorem hk_68_5 : hints.keep 68 5 = some [1, 5, 11, 12, 13] := rfl
@[simp] theorem hs_68_5 : hints.soft 68 5 = [] := rfl
@[simp] theorem hz_68_5 : hints.frz 68 5 = [] := rfl
@[simp] theorem hk_68_6 : hints.keep 68 6 = some [1, 5, 11, 12, 13, 21] := rfl
@[simp] theorem hs_68_6 : hints.soft 68 6 = [] := rfl
@[simp] theorem hz_68_6 : hints.frz 68 6 = [] := rfl
@[simp] theorem hk_68_7 : hints.keep 68 7 = some [1, 5, 11, 12, 13, 21, 22] := rfl
@[simp] theorem hh_68_7 : hints.head 68 7 = some [1, 5, 11, 12, 13, 21] := rfl
@[simp] theorem hc_68_7 : hints.canon 68 7 = [] := rfl
@[simp] theorem hs_68_7 : hints.soft 68 7 = [] := rfl
@[simp] theorem hz_68_7 : hints.frz 68 7 = [] := rfl
@[simp] theorem hk_68_8 : hints.keep 68 8 = some [1, 5, 8, 11, 12, 13, 21] := rfl
@[simp] theorem hs_68_8 : hints.soft 68 8 = [] := rfl
@[simp] theorem hz_68_8 : hints.frz 68 8 = [] := rfl
@[simp] theorem hk_68_9 : hints.keep 68 9 = some [1, 5, 8, 11, 12, 13, 21] := rfl
@[simp] theorem hs_68_9 : hints.soft 68 9 = [] := rfl
@[simp] theorem hz_68_9 : hints.frz 68 9 = [] := rfl
@[simp] theorem hk_68_10 : hints.keep 68 10 = some [1, 5, 11, 12, 13, 21, 28] := rfl
@[simp] theorem hs_68_10 : hints.soft 68 10 = [] := rfl
@[simp] theorem hz_68_10 : hints.frz 68 10 = [] := rfl
@[simp] theorem hk_68_11 : hints.keep 68 11 = some [1, 5, 11, 12, 13, 21] := rfl
@[simp] theorem hs_68_11 : hints.soft 68 11 = [] := rfl
@[simp] theorem hz_68_11 : hints.frz 68 11 = [] := rfl
@[simp] theorem hk_68_12 : hints.keep 68 12 = some [1, 5, 11, 12, 13, 21] := rfl
@[simp] theorem hs_68_12 : hints.soft 68 12 = [] := rfl
@[simp] theorem hz_68_12 : hints.frz 68 12 = [] := rfl
@[simp] theorem hk_68_13 : hints.keep 68 13 = some [1, 5, 11, 12, 13] := rfl
@[simp] theorem hs_68_13 : hints.soft 68 13 = [] := rfl
@[simp] theorem hz_68_13 : hints.frz 68 13 = [] := rfl
@[simp] theorem hk_68_14 : hints.keep 68 14 = some [4] := rfl
@[simp] theorem hs_68_14 : hints.soft 68 14 = [] := rfl
@[simp] theorem hz_68_14 : hints.frz 68 14 = [] := rfl
@[simp] theorem hk_69_0 : hints.keep 69 0 = some [0, 1] := rfl
@[simp] theorem hs_69_0 : hints.soft 69 0 = [] := rfl
@[simp] theorem hz_69_0 : hints.frz 69 0 = [] := rfl
@[simp] theorem hk_69_1 : hints.keep 69 1 = some [0, 1, 5] := rfl
@[simp] theorem hs_69_1 : hints.soft 69 1 = [] := rfl
@[simp] theorem hz_69_1 : hints.frz 69 1 = [] := rfl
@[simp] theorem hk_69_2 : hints.keep 69 2 = some [1, 5, 11, 12, 13] := rfl
@[simp] theorem hs_69_2 : hints.soft 69 2 = [] := rfl
@[simp] theorem hz_69_2 : hints.frz 69 2 = [] := rfl
@[simp] theorem hk_69_3 : hints.keep 69 3 = some [1, 5, 11, 12, 13, 14] := rfl
@[simp] theorem hh_69_3 : hints.head 69 3 = some [1, 5, 11, 12, 13] := rfl
@[simp] theorem hc_69_3 : hints.canon 69 3 = [] := rfl
@[simp] theorem hs_69_3 : hints.soft 69 3 = [] := rfl
@[simp] theorem hz_69_3 : hints.frz 69 3 = [] := rfl
@[simp] theorem hk_69_4 : hints.keep 69 4 = some [1, 5, 7, 11, 12, 13] := rfl
@[simp] theorem hs_69_4 : hints.soft 69 4 = [] := rfl
@[simp] theorem hz_69_4 : hints.frz 69 4 = [] := rfl
@[simp] theorem hk_69_5 : hints.keep 69 5 = some [1, 5, 11, 12, 13] := rfl
@[simp] theorem hs_69_5 : hints.soft 69 5 = [] := rfl
@[simp] theorem hz_69_5 : hints.frz 69 5 = [] := rfl
@[simp] theorem hk_69_6 : hints.keep 69 6 = some [1, 5, 11, 12, 13, 21] := rfl
@[simp] theorem hs_69_6 : hints.soft 69 6 = [] := rfl
@[simp] theorem hz_69_6 : hints.frz 69 6 = [] := rfl
@[simp] theorem hk_69_7 : hints.keep 69 7 = some [1, 5, 11, 12, 13, 21, 22] := rfl
@[simp] theorem hh_69_7 : hints.head 69 7 = some [1, 5, 11, 12, 13, 21] := rfl
@[simp] theorem hc_69_7 : hints.canon 69 7 = [] := rfl
@[simp] theorem hs_69_7 : hints.soft 69 7 = [] := rfl
@[simp] theorem hz_69_7 : hints.frz 69 7 = [] := rfl
@[simp] theorem hk_69_8 : hints.keep 69 8 = some [1, 5, 8, 11, 12, 13, 21] := rfl
@[simp] theorem hs_69_8 : hints.soft 69 8 = [] := rfl
@[simp] theorem hz_69_8 : hints.frz 69 8 = [] := rfl
@[simp] theorem hk_69_9 : hints.keep 69 9 = some [1, 5, 8, 11, 12, 13, 21] := rfl
@[simp] theorem hs_69_9 : hints.soft 69 9 = [] := rfl
@[simp] theorem hz_69_9 : hints.frz 69 9 = [] := rfl
@[simp] theorem hk_69_10 : hints.keep 69 10 = some [1, 5, 11, 12, 13, 21, 28] := rfl
@[simp] theorem hs_69_10 : hints.soft 69 10 = [] := rfl
@[simp] theorem hz_69_10 : hints.frz 69 10 = [] := rfl
@[simp] theorem hk_69_11 : hints.keep 69 11 = some [1, 5, 11, 12, 13, 21] := rfl
@[simp] theorem hs_69_11 : hints.soft 69 11 = [] := rfl
@[simp] theorem hz_69_11 : hints.frz 69 11 = [] := rfl
@[simp] theorem hk_69_12 : hints.keep 69 12 = some [1, 5, 11, 12, 13, 21] := rfl
@[simp] theorem hs_69_12 : hints.soft 69 12 = [] := rfl
@[simp] theorem hz_69_12 : hints.frz 69 12 = [] := rfl
@[simp] theorem hk_69_13 : hints.keep 69 13 = some [1, 5, 11, 12, 13] := rfl
@[simp] theorem hs_69_13 : hints.soft 69 13 = [] := rfl
@[simp] theorem hz_69_13 : hints.frz 69 13 = [] := rfl
@[simp] theorem hk_69_14 : hints.keep 69 14 = some [4] := rfl
@[simp] theorem hs_69_14 : hints.soft 69 14 = [] := rfl
@[simp] theorem hz_69_14 : hints.frz 69 14 = [] := rfl
@[simp] theorem hk_72_0 : hints.keep 72 0 = some [1] := rfl
@[simp] theorem hs_72_0 : hints.soft 72 0 = [] := rfl
@[simp] theorem hz_72_0 : hints.frz 72 0 = [] := rfl
@[simp] theorem hk_72_1 : hints.keep 72 1 = some [1, 3] := rfl
@[simp] theorem hs_72_1 : hints.soft 72 1 = [(3, some 2, 1, none), (3, some 3, 4, none)] := rfl
@[simp] theorem hz_72_1 : hints.frz 72 1 = [] := rfl
@[simp] theorem hk_72_2 : hints.keep 72 2 = some [1, 3, 8] := rfl
@[simp] theorem hs_72_2 : hints.soft 72 2 = [] := rfl
@[simp] theorem hz_72_2 : hints.frz 72 2 = [] := rfl
@[simp] theorem hk_72_3 : hints.keep 72 3 = some [2] := rfl
@[simp] theorem hs_72_3 : hints.soft 72 3 = [] := rfl
@[simp] theorem hz_72_3 : hints.frz 72 3 = [] := rfl
@[simp] theorem hk_72_4 : hints.keep 72 4 = some [1, 3, 8, 9] := rfl
@[simp] theorem hs_72_4 : hints.soft 72 4 = [] := rfl
@[simp] theorem hz_72_4 : hints.frz 72 4 = [] := rfl
@[simp] theorem hk_72_5 : hints.keep 72 5 = some [1, 3] := rfl
@[simp] theorem hs_72_5 : hints.soft 72 5 = [] := rfl
@[simp] theorem hz_72_5 : hints.frz 72 5 = [] := rfl
@[simp] theorem hk_72_6 : hints.keep 72 6 = some [1, 3, 8, 14] := rfl
@[simp] theorem hs_72_6 : hints.soft 72 6 = [] := rfl
@[simp] theorem hz_72_6 : hints.frz 72 6 = [] := rfl
@[simp] theorem hk_72_7 : hints.keep 72 7 = some [1, 3, 8, 14] := rfl
@[simp] theorem hs_72_7 : hints.soft 72 7 = [] := rfl
@[simp] theorem hz_72_7 : hints.frz 72 7 = [] := rfl
@[simp] theorem hk_72_8 : hints.keep 72 8 = some [1, 3] := rfl
@[simp] theorem hs_72_8 : hints.soft 72 8 = [] := rfl
@[simp] theorem hz_72_8 : hints.frz 72 8 = [] := rfl
@[simp] theorem hk_72_9 : hints.keep 72 9 = some [1, 3, 20] := rfl
@[simp] theorem hs_72_9 : hints.soft 72 9 = [] := rfl
@[simp] theorem hz_72_9 : hints.frz 72 9 = [] := rfl
@[simp] theorem hk_72_10 : hints.keep 72 10 = some [1, 3] := rfl
@[simp] theorem hs_72_10 : hints.soft 72 10 = [] := rfl
@[simp] theorem hz_72_10 : hints.frz 72 10 = [] := rfl
@[simp] theorem hk_72_11 : hints.keep 72 11 = some [2] := rfl
@[simp] theorem hs_72_11 : hints.soft 72 11 = [] := rfl
@[simp] theorem hz_72_11 : hints.frz 72 11 = [] := rfl
@[simp] theorem hk_73_0 : hints.keep 73 0 = some [0, 1] := rfl
@[simp] theorem hs_73_0 : hints.soft 73 0 = [] := rfl
@[simp] theorem hz_73_0 : hints.frz 73 0 = [] := rfl
@[simp] theorem hk_73_1 : hints.keep 73 1 = some [4] := rfl
@[simp] theorem hs_73_1 : hints.soft 73 1 = [] := rfl
@[simp] theorem hz_73_1 : hints.frz 73 1 = [] := rfl
@[simp] theorem hk_74_0 : hints.keep 74 0 = some [0, 1] := rfl
@[simp] theorem hs_74_0 : hints.soft 74 0 = [] := rfl
@[simp] theorem hz_74_0 : hints.frz 74 0 = [] := rfl
@[simp] theorem hk_74_1 : hints.keep 74 1 = some [4] := rfl
@[simp] theorem hs_74_1 : hints.soft 74 1 = [] := rfl
@[simp] theorem hz_74_1 : hints.frz 74 1 = [] := rfl
@[simp] theorem hk_75_0 : hints.keep 75 0 = some [0, 1] := rfl
@[simp] theorem hs_75_0 : hints.soft 75 0 = [] := rfl
@[simp] theorem hz_75_0 : hints.frz 75 0 = [] := rfl
@[simp] theorem hk_75_1 : hints.keep 75 1 = some [4] := rfl
@[simp] theorem hs_75_1 : hints.soft 75 1 = [] := rfl
@[simp] theorem hz_75_1 : hints.frz 75 1 = [] := rfl
@[simp] theorem hk_76_0 : hints.keep 76 0 = some [0, 1, 2] := rfl
@[simp] theorem hs_76_0 : hints.soft 76 0 = [] := rfl
@[simp] theorem hz_76_0 : hints.frz 76 0 = [] := rfl
@[simp] theorem hk_76_1 : hints.keep 76 1 = some [0, 1, 2] := rfl
@[simp] theorem hs_76_1 : hints.soft 76 1 = [] := rfl
@[simp] theorem hz_76_1 : hints.frz 76 1 = [] := rfl
@[simp] theorem hk_76_2 : hints.keep 76 2 = some [0, 1, 7] := rfl
@[simp] theorem hs_76_2 : hints.soft 76 2 = [] := rfl
@[simp] theorem hz_76_2 : hints.frz 76 2 = [] := rfl
@[simp] theorem hk_76_3 : hints.keep 76 3 = some [0, 1, 7, 13] := rfl
@[simp] theorem hh_76_3 : hints.head 76 3 = some [0, 1, 7] := rfl
@[simp] theorem hc_76_3 : hints.canon 76 3 = [(0, none, 20000, 1, 5)] := rfl
@[simp] theorem hs_76_3 : hints.soft 76 3 = [] := rfl
@[simp] theorem hz_76_3 : hints.frz 76 3 = [] := rfl
@[simp] theorem hk_76_4 : hints.keep 76 4 = some [0, 1, 7] := rfl
@[simp] theorem hs_76_4 : hints.soft 76 4 = [] := rfl
@[simp] theorem hz_76_4 : hints.frz 76 4 = [] := rfl
@[simp] theorem hk_76_5 : hints.keep 76 5 = some [0, 1, 7] := rfl
@[simp] theorem hs_76_5 : hints.soft 76 5 = [] := rfl
@[simp] theorem hz_76_5 : hints.frz 76 5 = [] := rfl
@[simp] theorem hk_76_6 : hints.keep 76 6 = some [6] := rfl
@[simp] theorem hs_76_6 : hints.soft 76 6 = [] := rfl
@[simp] theorem hz_76_6 : hints.frz 76 6 = [] := rfl
end Go.Proofs.YtbnnmplkbpgcaaaDoorV
