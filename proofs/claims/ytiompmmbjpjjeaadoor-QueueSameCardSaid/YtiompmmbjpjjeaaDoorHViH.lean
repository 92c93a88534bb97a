/- The value interpreter's hints and the types' facts for this seat, one by one. -/
import Derived.Test.YtiompmmbjpjjeaaDoorHViS
import Derived.Test.YtiompmmbjpjjeaaDoorHVi26
namespace Go.Proofs.YtiompmmbjpjjeaaDoorV
open Go
set_option linter.unusedVariables false
noncomputable def inf (t : TypeId) : TypeInfo := (Tryd.prog.info? t).getD ((Tryd.prog.info? 3).get (by kernel_rfl))
@[simp] theorem u_3 : Tryd.prog.underlying 3 = Option.some (Go.TypeDesc.int Go.IntKind.i64) := by kernel_rfl
@[simp] theorem i_3 : Tryd.prog.info? 3 = some (inf 3) := by kernel_rfl
@[simp] theorem is_3 : (inf 3).size = 1 := by kernel_rfl
@[simp] theorem ib_3 : (inf 3).bytes = 8 := by kernel_rfl
@[simp] theorem iz_3 : zeroRow (inf 3) = Option.some [V.p (Go.Value.int Go.IntKind.i64 0)] := by kernel_rfl
@[simp] theorem u_4 : Tryd.prog.underlying 4 = Option.some Go.TypeDesc.bool := by kernel_rfl
@[simp] theorem i_4 : Tryd.prog.info? 4 = some (inf 4) := by kernel_rfl
@[simp] theorem is_4 : (inf 4).size = 1 := by kernel_rfl
@[simp] theorem ib_4 : (inf 4).bytes = 1 := by kernel_rfl
@[simp] theorem iz_4 : zeroRow (inf 4) = Option.some [V.p (Go.Value.bool false)] := by kernel_rfl
@[simp] theorem u_25 : Tryd.prog.underlying 25 = Option.some (Go.TypeDesc.slice 3) := by kernel_rfl
@[simp] theorem i_25 : Tryd.prog.info? 25 = some (inf 25) := by kernel_rfl
@[simp] theorem is_25 : (inf 25).size = 1 := by kernel_rfl
@[simp] theorem ib_25 : (inf 25).bytes = 24 := by kernel_rfl
@[simp] theorem iz_25 : zeroRow (inf 25) = Option.some [V.nil] := by kernel_rfl
@[simp] theorem u_26 : Tryd.prog.underlying 26 = Option.some (Go.TypeDesc.slice 44) := by kernel_rfl
@[simp] theorem i_26 : Tryd.prog.info? 26 = some (inf 26) := by kernel_rfl
@[simp] theorem is_26 : (inf 26).size = 1 := by kernel_rfl
@[simp] theorem ib_26 : (inf 26).bytes = 24 := by kernel_rfl
@[simp] theorem iz_26 : zeroRow (inf 26) = Option.some [V.nil] := by kernel_rfl
@[simp] theorem u_35 : Tryd.prog.underlying 35 = Option.some (Go.TypeDesc.slice 56) := by kernel_rfl
@[simp] theorem i_35 : Tryd.prog.info? 35 = some (inf 35) := by kernel_rfl
@[simp] theorem is_35 : (inf 35).size = 1 := by kernel_rfl
@[simp] theorem ib_35 : (inf 35).bytes = 24 := by kernel_rfl
@[simp] theorem iz_35 : zeroRow (inf 35) = Option.some [V.nil] := by kernel_rfl
@[simp] theorem u_37 : Tryd.prog.underlying 37 = Option.some (Go.TypeDesc.struct (Array.mk [Go.Field.mk "Go" 35 0 false "" "" 0, Go.Field.mk "Waits" 26 1 false "" "" 24, Go.Field.mk "Stuck" 26 2 false "" "" 48, Go.Field.mk "Left" 25 3 false "" "" 72])) := by kernel_rfl
@[simp] theorem i_37 : Tryd.prog.info? 37 = some (inf 37) := by kernel_rfl
@[simp] theorem is_37 : (inf 37).size = 4 := by kernel_rfl
@[simp] theorem ib_37 : (inf 37).bytes = 96 := by kernel_rfl
@[simp] theorem iz_37 : zeroRow (inf 37) = Option.some [V.nil, V.nil, V.nil, V.nil] := by kernel_rfl
@[simp] theorem u_42 : Tryd.prog.underlying 42 = Option.some (Go.TypeDesc.int Go.IntKind.u32) := by kernel_rfl
@[simp] theorem i_42 : Tryd.prog.info? 42 = some (inf 42) := by kernel_rfl
@[simp] theorem is_42 : (inf 42).size = 1 := by kernel_rfl
@[simp] theorem ib_42 : (inf 42).bytes = 4 := by kernel_rfl
@[simp] theorem iz_42 : zeroRow (inf 42) = Option.some [V.p (Go.Value.int Go.IntKind.u32 0)] := by kernel_rfl
@[simp] theorem u_44 : Tryd.prog.underlying 44 = Option.some (Go.TypeDesc.struct (Array.mk [Go.Field.mk "Source" 3 0 false "" "" 0, Go.Field.mk "Seq" 42 1 false "" "" 8, Go.Field.mk "Offset" 3 2 false "" "" 16])) := by kernel_rfl
@[simp] theorem i_44 : Tryd.prog.info? 44 = some (inf 44) := by kernel_rfl
@[simp] theorem is_44 : (inf 44).size = 3 := by kernel_rfl
@[simp] theorem ib_44 : (inf 44).bytes = 24 := by kernel_rfl
@[simp] theorem iz_44 : zeroRow (inf 44) = Option.some [V.p (Go.Value.int Go.IntKind.i64 0), V.p (Go.Value.int Go.IntKind.u32 0), V.p (Go.Value.int Go.IntKind.i64 0)] := by kernel_rfl
@[simp] theorem ag_44 : (Tryd.prog.eqGuardType Tryd.prog.depth 44 || Tryd.prog.stoodInHeld 44) = false := by kernel_rfl
@[simp] theorem u_56 : Tryd.prog.underlying 56 = Option.some (Go.TypeDesc.struct (Array.mk [Go.Field.mk "Key" 44 0 false "" "" 0, Go.Field.mk "To" 3 3 false "" "" 24, Go.Field.mk "Contact" 3 4 false "" "" 32])) := by kernel_rfl
@[simp] theorem i_56 : Tryd.prog.info? 56 = some (inf 56) := by kernel_rfl
@[simp] theorem is_56 : (inf 56).size = 5 := by kernel_rfl
@[simp] theorem ib_56 : (inf 56).bytes = 40 := by kernel_rfl
@[simp] theorem iz_56 : zeroRow (inf 56) = Option.some [V.p (Go.Value.int Go.IntKind.i64 0), V.p (Go.Value.int Go.IntKind.u32 0), V.p (Go.Value.int Go.IntKind.i64 0), V.p (Go.Value.int Go.IntKind.i64 0), V.p (Go.Value.int Go.IntKind.i64 0)] := by kernel_rfl
@[simp] theorem ag_56 : (Tryd.prog.eqGuardType Tryd.prog.depth 56 || Tryd.prog.stoodInHeld 56) = false := by kernel_rfl
@[simp] theorem gv (f : FuncId) : hints.gives f = [69, 77, 83, 84, 85, 87].contains f := rfl
@[simp] theorem hk_7_0 : hints.keep 7 0 = some [2, 3] := rfl
@[simp] theorem hs_7_0 : hints.soft 7 0 = [] := rfl
@[simp] theorem hz_7_0 : hints.frz 7 0 = [] := rfl
@[simp] theorem hk_7_1 : hints.keep 7 1 = some [2, 3, 7] := rfl
@[simp] theorem hs_7_1 : hints.soft 7 1 = [] := rfl
@[simp] theorem hz_7_1 : hints.frz 7 1 = [] := rfl
@[simp] theorem hk_7_2 : hints.keep 7 2 = some [4] := rfl
@[simp] theorem hs_7_2 : hints.soft 7 2 = [] := rfl
@[simp] theorem hz_7_2 : hints.frz 7 2 = [] := rfl
@[simp] theorem hk_7_3 : hints.keep 7 3 = some [2, 3, 5] := rfl
@[simp] theorem hs_7_3 : hints.soft 7 3 = [] := rfl
@[simp] theorem hz_7_3 : hints.frz 7 3 = [] := rfl
@[simp] theorem hk_7_4 : hints.keep 7 4 = some [2, 3] := rfl
@[simp] theorem hs_7_4 : hints.soft 7 4 = [] := rfl
@[simp] theorem hz_7_4 : hints.frz 7 4 = [] := rfl
@[simp] theorem hk_7_5 : hints.keep 7 5 = some [4] := rfl
@[simp] theorem hs_7_5 : hints.soft 7 5 = [] := rfl
@[simp] theorem hz_7_5 : hints.frz 7 5 = [] := rfl
@[simp] theorem hk_21_0 : hints.keep 21 0 = some [1, 2] := rfl
@[simp] theorem hs_21_0 : hints.soft 21 0 = [(2, some 0, 5, none), (2, some 1, 3, none), (2, some 2, 3, none), (2, some 3, 1, none)] := rfl
@[simp] theorem hz_21_0 : hints.frz 21 0 = [] := rfl
@[simp] theorem hk_21_1 : hints.keep 21 1 = some [1, 2] := rfl
@[simp] theorem hs_21_1 : hints.soft 21 1 = [] := rfl
@[simp] theorem hz_21_1 : hints.frz 21 1 = [] := rfl
@[simp] theorem hk_21_2 : hints.keep 21 2 = some [2] := rfl
@[simp] theorem hs_21_2 : hints.soft 21 2 = [] := rfl
@[simp] theorem hz_21_2 : hints.frz 21 2 = [] := rfl
@[simp] theorem hk_22_0 : hints.keep 22 0 = some [2, 3] := rfl
@[simp] theorem hs_22_0 : hints.soft 22 0 = [] := rfl
@[simp] theorem hz_22_0 : hints.frz 22 0 = [] := rfl
@[simp] theorem hk_22_1 : hints.keep 22 1 = some [4] := rfl
@[simp] theorem hs_22_1 : hints.soft 22 1 = [] := rfl
@[simp] theorem hz_22_1 : hints.frz 22 1 = [] := rfl
@[simp] theorem hk_23_0 : hints.keep 23 0 = some [2, 3] := rfl
@[simp] theorem hs_23_0 : hints.soft 23 0 = [] := rfl
@[simp] theorem hz_23_0 : hints.frz 23 0 = [] := rfl
@[simp] theorem hk_23_1 : hints.keep 23 1 = some [2, 3, 42] := rfl
@[simp] theorem hs_23_1 : hints.soft 23 1 = [] := rfl
@[simp] theorem hz_23_1 : hints.frz 23 1 = [] := rfl
@[simp] theorem hk_23_2 : hints.keep 23 2 = some [4] := rfl
@[simp] theorem hs_23_2 : hints.soft 23 2 = [] := rfl
@[simp] theorem hz_23_2 : hints.frz 23 2 = [] := rfl
@[simp] theorem hk_23_3 : hints.keep 23 3 = some [2, 3, 45, 46] := rfl
@[simp] theorem hs_23_3 : hints.soft 23 3 = [] := rfl
@[simp] theorem hz_23_3 : hints.frz 23 3 = [] := rfl
@[simp] theorem hk_23_4 : hints.keep 23 4 = some [2, 3, 45, 46, 47] := rfl
@[simp] theorem hh_23_4 : hints.head 23 4 = some [2, 3, 45, 46] := rfl
@[simp] theorem hc_23_4 : hints.canon 23 4 = [] := rfl
@[simp] theorem hs_23_4 : hints.soft 23 4 = [] := rfl
@[simp] theorem hz_23_4 : hints.frz 23 4 = [] := rfl
@[simp] theorem hk_23_5 : hints.keep 23 5 = some [2, 3, 5, 45, 46] := rfl
@[simp] theorem hs_23_5 : hints.soft 23 5 = [] := rfl
@[simp] theorem hz_23_5 : hints.frz 23 5 = [] := rfl
@[simp] theorem hk_23_6 : hints.keep 23 6 = some [2, 3, 45, 46, 59] := rfl
@[simp] theorem hs_23_6 : hints.soft 23 6 = [] := rfl
@[simp] theorem hz_23_6 : hints.frz 23 6 = [] := rfl
@[simp] theorem hk_23_7 : hints.keep 23 7 = some [4] := rfl
@[simp] theorem hs_23_7 : hints.soft 23 7 = [] := rfl
@[simp] theorem hz_23_7 : hints.frz 23 7 = [] := rfl
@[simp] theorem hk_23_8 : hints.keep 23 8 = some [2, 3, 45, 46] := rfl
@[simp] theorem hs_23_8 : hints.soft 23 8 = [] := rfl
@[simp] theorem hz_23_8 : hints.frz 23 8 = [] := rfl
@[simp] theorem hk_23_9 : hints.keep 23 9 = some [2, 3, 63, 64] := rfl
@[simp] theorem hs_23_9 : hints.soft 23 9 = [] := rfl
@[simp] theorem hz_23_9 : hints.frz 23 9 = [] := rfl
@[simp] theorem hk_23_10 : hints.keep 23 10 = some [2, 3, 63, 64, 65] := rfl
@[simp] theorem hh_23_10 : hints.head 23 10 = some [2, 3, 63, 64] := rfl
@[simp] theorem hc_23_10 : hints.canon 23 10 = [] := rfl
@[simp] theorem hs_23_10 : hints.soft 23 10 = [] := rfl
@[simp] theorem hz_23_10 : hints.frz 23 10 = [] := rfl
@[simp] theorem hk_23_11 : hints.keep 23 11 = some [2, 3, 6, 63, 64] := rfl
@[simp] theorem hs_23_11 : hints.soft 23 11 = [] := rfl
@[simp] theorem hz_23_11 : hints.frz 23 11 = [] := rfl
@[simp] theorem hk_23_12 : hints.keep 23 12 = some [2, 3, 63, 64, 77] := rfl
@[simp] theorem hs_23_12 : hints.soft 23 12 = [] := rfl
@[simp] theorem hz_23_12 : hints.frz 23 12 = [] := rfl
@[simp] theorem hk_23_13 : hints.keep 23 13 = some [4] := rfl
@[simp] theorem hs_23_13 : hints.soft 23 13 = [] := rfl
@[simp] theorem hz_23_13 : hints.frz 23 13 = [] := rfl
@[simp] theorem hk_23_14 : hints.keep 23 14 = some [2, 3, 63, 64] := rfl
@[simp] theorem hs_23_14 : hints.soft 23 14 = [] := rfl
@[simp] theorem hz_23_14 : hints.frz 23 14 = [] := rfl
@[simp] theorem hk_23_15 : hints.keep 23 15 = some [2, 3, 81, 82] := rfl
@[simp] theorem hs_23_15 : hints.soft 23 15 = [] := rfl
@[simp] theorem hz_23_15 : hints.frz 23 15 = [] := rfl
@[simp] theorem hk_23_16 : hints.keep 23 16 = some [2, 3, 81, 82, 83] := rfl
@[simp] theorem hh_23_16 : hints.head 23 16 = some [2, 3, 81, 82] := rfl
@[simp] theorem hc_23_16 : hints.canon 23 16 = [] := rfl
@[simp] theorem hs_23_16 : hints.soft 23 16 = [] := rfl
@[simp] theorem hz_23_16 : hints.frz 23 16 = [] := rfl
@[simp] theorem hk_23_17 : hints.keep 23 17 = some [2, 3, 7, 81, 82] := rfl
@[simp] theorem hs_23_17 : hints.soft 23 17 = [] := rfl
@[simp] theorem hz_23_17 : hints.frz 23 17 = [] := rfl
@[simp] theorem hk_23_18 : hints.keep 23 18 = some [2, 3, 81, 82, 95] := rfl
@[simp] theorem hs_23_18 : hints.soft 23 18 = [] := rfl
@[simp] theorem hz_23_18 : hints.frz 23 18 = [] := rfl
@[simp] theorem hk_23_19 : hints.keep 23 19 = some [4] := rfl
@[simp] theorem hs_23_19 : hints.soft 23 19 = [] := rfl
@[simp] theorem hz_23_19 : hints.frz 23 19 = [] := rfl
@[simp] theorem hk_23_20 : hints.keep 23 20 = some [2, 3, 81, 82] := rfl
@[simp] theorem hs_23_20 : hints.soft 23 20 = [] := rfl
@[simp] theorem hz_23_20 : hints.frz 23 20 = [] := rfl
@[simp] theorem hk_23_21 : hints.keep 23 21 = some [2, 3, 99, 100] := rfl
@[simp] theorem hs_23_21 : hints.soft 23 21 = [] := rfl
@[simp] theorem hz_23_21 : hints.frz 23 21 = [] := rfl
@[simp] theorem hk_23_22 : hints.keep 23 22 = some [2, 3, 99, 100, 101] := rfl
@[simp] theorem hh_23_22 : hints.head 23 22 = some [2, 3, 99, 100] := rfl
@[simp] theorem hc_23_22 : hints.canon 23 22 = [] := rfl
@[simp] theorem hs_23_22 : hints.soft 23 22 = [] := rfl
@[simp] theorem hz_23_22 : hints.frz 23 22 = [] := rfl
@[simp] theorem hk_23_23 : hints.keep 23 23 = some [2, 3, 8, 99, 100] := rfl
@[simp] theorem hs_23_23 : hints.soft 23 23 = [] := rfl
@[simp] theorem hz_23_23 : hints.frz 23 23 = [] := rfl
@[simp] theorem hk_23_24 : hints.keep 23 24 = some [2, 3, 99, 100, 113] := rfl
@[simp] theorem hs_23_24 : hints.soft 23 24 = [] := rfl
@[simp] theorem hz_23_24 : hints.frz 23 24 = [] := rfl
@[simp] theorem hk_23_25 : hints.keep 23 25 = some [4] := rfl
@[simp] theorem hs_23_25 : hints.soft 23 25 = [] := rfl
@[simp] theorem hz_23_25 : hints.frz 23 25 = [] := rfl
@[simp] theorem hk_23_26 : hints.keep 23 26 = some [2, 3, 99, 100] := rfl
@[simp] theorem hs_23_26 : hints.soft 23 26 = [] := rfl
@[simp] theorem hz_23_26 : hints.frz 23 26 = [] := rfl
@[simp] theorem hk_23_27 : hints.keep 23 27 = some [4] := rfl
@[simp] theorem hs_23_27 : hints.soft 23 27 = [] := rfl
@[simp] theorem hz_23_27 : hints.frz 23 27 = [] := rfl
@[simp] theorem hk_43_0 : hints.keep 43 0 = some [0, 1] := rfl
@[simp] theorem hs_43_0 : hints.soft 43 0 = [] := rfl
@[simp] theorem hz_43_0 : hints.frz 43 0 = [] := rfl
@[simp] theorem hk_43_1 : hints.keep 43 1 = some [0, 1, 10] := rfl
@[simp] theorem hs_43_1 : hints.soft 43 1 = [] := rfl
@[simp] theorem hz_43_1 : hints.frz 43 1 = [] := rfl
@[simp] theorem hk_43_2 : hints.keep 43 2 = some [4] := rfl
@[simp] theorem hs_43_2 : hints.soft 43 2 = [] := rfl
@[simp] theorem hz_43_2 : hints.frz 43 2 = [] := rfl
@[simp] theorem hk_43_3 : hints.keep 43 3 = some [0, 1, 12, 13] := rfl
@[simp] theorem hs_43_3 : hints.soft 43 3 = [] := rfl
@[simp] theorem hz_43_3 : hints.frz 43 3 = [] := rfl
@[simp] theorem hk_43_4 : hints.keep 43 4 = some [0, 1, 12, 13, 14] := rfl
@[simp] theorem hh_43_4 : hints.head 43 4 = some [0, 1, 12, 13] := rfl
@[simp] theorem hc_43_4 : hints.canon 43 4 = [] := rfl
@[simp] theorem hs_43_4 : hints.soft 43 4 = [] := rfl
@[simp] theorem hz_43_4 : hints.frz 43 4 = [] := rfl
@[simp] theorem hk_43_5 : hints.keep 43 5 = some [0, 1, 5, 12, 13] := rfl
@[simp] theorem hs_43_5 : hints.soft 43 5 = [] := rfl
@[simp] theorem hz_43_5 : hints.frz 43 5 = [] := rfl
@[simp] theorem hk_43_6 : hints.keep 43 6 = some [0, 1, 12, 13, 24] := rfl
@[simp] theorem hs_43_6 : hints.soft 43 6 = [] := rfl
@[simp] theorem hz_43_6 : hints.frz 43 6 = [] := rfl
@[simp] theorem hk_43_7 : hints.keep 43 7 = some [4] := rfl
@[simp] theorem hs_43_7 : hints.soft 43 7 = [] := rfl
@[simp] theorem hz_43_7 : hints.frz 43 7 = [] := rfl
@[simp] theorem hk_43_8 : hints.keep 43 8 = some [0, 1, 12, 13] := rfl
@[simp] theorem hs_43_8 : hints.soft 43 8 = [] := rfl
@[simp] theorem hz_43_8 : hints.frz 43 8 = [] := rfl
@[simp] theorem hk_43_9 : hints.keep 43 9 = some [4] := rfl
@[simp] theorem hs_43_9 : hints.soft 43 9 = [] := rfl
@[simp] theorem hz_43_9 : hints.frz 43 9 = [] := rfl
@[simp] theorem hk_44_0 : hints.keep 44 0 = some [0, 1] := rfl
@[simp] theorem hs_44_0 : hints.soft 44 0 = [] := rfl
@[simp] theorem hz_44_0 : hints.frz 44 0 = [] := rfl
@[simp] theorem hk_44_1 : hints.keep 44 1 = some [0, 1, 10] := rfl
@[simp] theorem hs_44_1 : hints.soft 44 1 = [] := rfl
@[simp] theorem hz_44_1 : hints.frz 44 1 = [] := rfl
@[simp] theorem hk_44_2 : hints.keep 44 2 = some [4] := rfl
@[simp] theorem hs_44_2 : hints.soft 44 2 = [] := rfl
@[simp] theorem hz_44_2 : hints.frz 44 2 = [] := rfl
@[simp] theorem hk_44_3 : hints.keep 44 3 = some [0, 1, 12, 13] := rfl
@[simp] theorem hs_44_3 : hints.soft 44 3 = [] := rfl
@[simp] theorem hz_44_3 : hints.frz 44 3 = [] := rfl
@[simp] theorem hk_44_4 : hints.keep 44 4 = some [0, 1, 12, 13, 14] := rfl
@[simp] theorem hh_44_4 : hints.head 44 4 = some [0, 1, 12, 13] := rfl
@[simp] theorem hc_44_4 : hints.canon 44 4 = [] := rfl
@[simp] theorem hs_44_4 : hints.soft 44 4 = [] := rfl
@[simp] theorem hz_44_4 : hints.frz 44 4 = [] := rfl
@[simp] theorem hk_44_5 : hints.keep 44 5 = some [0, 1, 5, 12, 13] := rfl
@[simp] theorem hs_44_5 : hints.soft 44 5 = [] := rfl
@[simp] theorem hz_44_5 : hints.frz 44 5 = [] := rfl
@[simp] theorem hk_44_6 : hints.keep 44 6 = some [0, 1, 12, 13, 24] := rfl
@[simp] theorem hs_44_6 : hints.soft 44 6 = [] := rfl
@[simp] theorem hz_44_6 : hints.frz 44 6 = [] := rfl
@[simp] theorem hk_44_7 : hints.keep 44 7 = some [4] := rfl
@[simp] theorem hs_44_7 : hints.soft 44 7 = [] := rfl
@[simp] theorem hz_44_7 : hints.frz 44 7 = [] := rfl
@[simp] theorem hk_44_8 : hints.keep 44 8 = some [0, 1, 12, 13] := rfl
@[simp] theorem hs_44_8 : hints.soft 44 8 = [] := rfl
@[simp] theorem hz_44_8 : hints.frz 44 8 = [] := rfl
@[simp] theorem hk_44_9 : hints.keep 44 9 = some [4] := rfl
@[simp] theorem hs_44_9 : hints.soft 44 9 = [] := rfl
@[simp] theorem hz_44_9 : hints.frz 44 9 = [] := rfl
@[simp] theorem hk_45_0 : hints.keep 45 0 = some [0, 1] := rfl
@[simp] theorem hs_45_0 : hints.soft 45 0 = [] := rfl
@[simp] theorem hz_45_0 : hints.frz 45 0 = [] := rfl
@[simp] theorem hk_45_1 : hints.keep 45 1 = some [0, 1, 10] := rfl
@[simp] theorem hs_45_1 : hints.soft 45 1 = [] := rfl
@[simp] theorem hz_45_1 : hints.frz 45 1 = [] := rfl
@[simp] theorem hk_45_2 : hints.keep 45 2 = some [4] := rfl
@[simp] theorem hs_45_2 : hints.soft 45 2 = [] := rfl
@[simp] theorem hz_45_2 : hints.frz 45 2 = [] := rfl
@[simp] theorem hk_45_3 : hints.keep 45 3 = some [0, 1, 12, 13] := rfl
@[simp] theorem hs_45_3 : hints.soft 45 3 = [] := rfl
@[simp] theorem hz_45_3 : hints.frz 45 3 = [] := rfl
@[simp] theorem hk_45_4 : hints.keep 45 4 = some [0, 1, 12, 13, 14] := rfl
@[simp] theorem hh_45_4 : hints.head 45 4 = some [0, 1, 12, 13] := rfl
@[simp] theorem hc_45_4 : hints.canon 45 4 = [] := rfl
@[simp] theorem hs_45_4 : hints.soft 45 4 = [] := rfl
@[simp] theorem hz_45_4 : hints.frz 45 4 = [] := rfl
@[simp] theorem hk_45_5 : hints.keep 45 5 = some [0, 1, 5, 12, 13] := rfl
@[simp] theorem hs_45_5 : hints.soft 45 5 = [] := rfl
@[simp] theorem hz_45_5 : hints.frz 45 5 = [] := rfl
@[simp] theorem hk_45_6 : hints.keep 45 6 = some [0, 1, 12, 13, 24] := rfl
@[simp] theorem hs_45_6 : hints.soft 45 6 = [] := rfl
@[simp] theorem hz_45_6 : hints.frz 45 6 = [] := rfl
@[simp] theorem hk_45_7 : hints.keep 45 7 = some [4] := rfl
@[simp] theorem hs_45_7 : hints.soft 45 7 = [] := rfl
@[simp] theorem hz_45_7 : hints.frz 45 7 = [] := rfl
@[simp] theorem hk_45_8 : hints.keep 45 8 = some [0, 1, 12, 13] := rfl
@[simp] theorem hs_45_8 : hints.soft 45 8 = [] := rfl
@[simp] theorem hz_45_8 : hints.frz 45 8 = [] := rfl
@[simp] theorem hk_45_9 : hints.keep 45 9 = some [4] := rfl
@[simp] theorem hs_45_9 : hints.soft 45 9 = [] := rfl
@[simp] theorem hz_45_9 : hints.frz 45 9 = [] := rfl
end Go.Proofs.YtiompmmbjpjjeaaDoorV
