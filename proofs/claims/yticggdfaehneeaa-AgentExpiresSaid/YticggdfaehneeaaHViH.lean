/- The value interpreter's hints and the types' facts for this seat,one by one. -/
import Derived.Test.YticggdfaehneeaaHViS
import Derived.Test.YticggdfaehneeaaHVi26
namespace Go.Proofs.YticggdfaehneeaaV
open Go
set_option linter.unusedVariables false
noncomputable def inf (t : TypeId) : TypeInfo := (Try.prog.info? t).getD ((Try.prog.info? 3).get (by kernel_rfl))
theorem sm_4 : slotMs Try.prog 8 4 = [0] := by kernel_rfl
theorem sm_5 : slotMs Try.prog 8 5 = [0] := by kernel_rfl
theorem u_26 : Try.prog.underlying 26 = Option.some (Go.TypeDesc.struct (Array.mk [Go.Field.mk "Node" 3 0 false "" "" 0, Go.Field.mk "Next" 22 1 false "" "" 8, Go.Field.mk "Seen" 23 2 false "" "" 16, Go.Field.mk "Parts" 24 3 false "" "" 40])) := by kernel_rfl
theorem i_26 : Try.prog.info? 26 = some (inf 26) := by kernel_rfl
theorem iz_26 : zeroRow (inf 26) = Option.some [V.p (Go.Value.int Go.IntKind.i64 0),V.p (Go.Value.int Go.IntKind.u32 0),V.nil,V.nil] := by kernel_rfl
theorem bl_26 (σ : St) (ps : List (Nat × Operand)) : buildV Try.prog σ 26 ps = (fillL [(0,1),(1,1),(2,1),(3,1)] [V.p (Go.Value.int Go.IntKind.i64 0),V.p (Go.Value.int Go.IntKind.u32 0),V.nil,V.nil] (evL σ ps)).map .agg := build_eval i_26 iz_26 u_26 (by kernel_rfl)
theorem sm_39 : slotMs Try.prog 8 39 = [0,0,0,0,0,0,0,0,0,0,1] := by kernel_rfl
theorem ag_63 : (Try.prog.eqGuardType Try.prog.depth 63 || Try.prog.stoodInHeld 63) = false := by kernel_rfl
theorem sm_65 : slotMs Try.prog 8 65 = [0,0,0,0] := by kernel_rfl
theorem ag_65 : (Try.prog.eqGuardType Try.prog.depth 65 || Try.prog.stoodInHeld 65) = false := by kernel_rfl
theorem u_79 : Try.prog.underlying 79 = Option.some (Go.TypeDesc.struct (Array.mk [Go.Field.mk "Source" 3 0 false "" "" 0, Go.Field.mk "Seq" 22 1 false "" "" 8])) := by kernel_rfl
theorem i_79 : Try.prog.info? 79 = some (inf 79) := by kernel_rfl
theorem iz_79 : zeroRow (inf 79) = Option.some [V.p (Go.Value.int Go.IntKind.i64 0),V.p (Go.Value.int Go.IntKind.u32 0)] := by kernel_rfl
theorem ag_79 : (Try.prog.eqGuardType Try.prog.depth 79 || Try.prog.stoodInHeld 79) = false := by kernel_rfl
theorem bl_79 (σ : St) (ps : List (Nat × Operand)) : buildV Try.prog σ 79 ps = (fillL [(0,1),(1,1)] [V.p (Go.Value.int Go.IntKind.i64 0),V.p (Go.Value.int Go.IntKind.u32 0)] (evL σ ps)).map .agg := build_eval i_79 iz_79 u_79 (by kernel_rfl)
theorem u_104 : Try.prog.underlying 104 = Option.some (Go.TypeDesc.struct (Array.mk [Go.Field.mk "At" 3 0 false "" "" 0, Go.Field.mk "N" 3 1 false "" "" 8])) := by kernel_rfl
theorem i_104 : Try.prog.info? 104 = some (inf 104) := by kernel_rfl
theorem iz_104 : zeroRow (inf 104) = Option.some [V.p (Go.Value.int Go.IntKind.i64 0),V.p (Go.Value.int Go.IntKind.i64 0)] := by kernel_rfl
theorem sm_104 : slotMs Try.prog 8 104 = [0,0] := by kernel_rfl
theorem bl_104 (σ : St) (ps : List (Nat × Operand)) : buildV Try.prog σ 104 ps = (fillL [(0,1),(1,1)] [V.p (Go.Value.int Go.IntKind.i64 0),V.p (Go.Value.int Go.IntKind.i64 0)] (evL σ ps)).map .agg := build_eval i_104 iz_104 u_104 (by kernel_rfl)
theorem u_106 : Try.prog.underlying 106 = Option.some (Go.TypeDesc.struct (Array.mk [Go.Field.mk "source" 3 0 false "" "heliograph/bundle" 0, Go.Field.mk "dest" 3 1 false "" "heliograph/bundle" 8, Go.Field.mk "created" 3 2 false "" "heliograph/bundle" 16, Go.Field.mk "life" 3 3 false "" "heliograph/bundle" 24, Go.Field.mk "limit" 3 4 false "" "heliograph/bundle" 32, Go.Field.mk "hops" 3 5 false "" "heliograph/bundle" 40, Go.Field.mk "priority" 3 6 false "" "heliograph/bundle" 48, Go.Field.mk "offset" 3 7 false "" "heliograph/bundle" 56, Go.Field.mk "total" 3 8 false "" "heliograph/bundle" 64, Go.Field.mk "seq" 22 9 false "" "heliograph/bundle" 72])) := by kernel_rfl
theorem i_106 : Try.prog.info? 106 = some (inf 106) := by kernel_rfl
theorem iz_106 : zeroRow (inf 106) = Option.some [V.p (Go.Value.int Go.IntKind.i64 0),V.p (Go.Value.int Go.IntKind.i64 0),V.p (Go.Value.int Go.IntKind.i64 0),V.p (Go.Value.int Go.IntKind.i64 0),V.p (Go.Value.int Go.IntKind.i64 0),V.p (Go.Value.int Go.IntKind.i64 0),V.p (Go.Value.int Go.IntKind.i64 0),V.p (Go.Value.int Go.IntKind.i64 0),V.p (Go.Value.int Go.IntKind.i64 0),V.p (Go.Value.int Go.IntKind.u32 0)] := by kernel_rfl
theorem ag_106 : (Try.prog.eqGuardType Try.prog.depth 106 || Try.prog.stoodInHeld 106) = false := by kernel_rfl
theorem bl_106 (σ : St) (ps : List (Nat × Operand)) : buildV Try.prog σ 106 ps = (fillL [(0,1),(1,1),(2,1),(3,1),(4,1),(5,1),(6,1),(7,1),(8,1),(9,1)] [V.p (Go.Value.int Go.IntKind.i64 0),V.p (Go.Value.int Go.IntKind.i64 0),V.p (Go.Value.int Go.IntKind.i64 0),V.p (Go.Value.int Go.IntKind.i64 0),V.p (Go.Value.int Go.IntKind.i64 0),V.p (Go.Value.int Go.IntKind.i64 0),V.p (Go.Value.int Go.IntKind.i64 0),V.p (Go.Value.int Go.IntKind.i64 0),V.p (Go.Value.int Go.IntKind.i64 0),V.p (Go.Value.int Go.IntKind.u32 0)] (evL σ ps)).map .agg := build_eval i_106 iz_106 u_106 (by kernel_rfl)
theorem i_108 : Try.prog.info? 108 = some (inf 108) := by kernel_rfl
theorem is_108 : (inf 108).size = 1 := by kernel_rfl
theorem u_109 : Try.prog.underlying 109 = Option.some (Go.TypeDesc.array 2 108) := by kernel_rfl
theorem i_109 : Try.prog.info? 109 = some (inf 109) := by kernel_rfl
theorem iz_109 : zeroRow (inf 109) = Option.some [V.p (Go.Value.pointer Option.none),V.p (Go.Value.pointer Option.none)] := by kernel_rfl
theorem bl_109 (σ : St) (ps : List (Nat × Operand)) : buildV Try.prog σ 109 ps = (fillA [V.p (Go.Value.pointer Option.none),V.p (Go.Value.pointer Option.none)] (evL σ ps)).map .agg := by rw [build_evalA i_109 iz_109 u_109 i_108]; simp only [is_108,Nat.mul_one]; rfl
theorem gv (f : FuncId) : hints.gives f = [42,64].contains f := rfl
theorem hh_6_21 : hints.head 6 21 = some [2,9,10,11,87,88,89] := rfl
theorem hc_6_21 : hints.canon 6 21 = [(11,some 3,20000,11,39)] := rfl
theorem hh_8_4 : hints.head 8 4 = some [22,23,24] := rfl
theorem hc_8_4 : hints.canon 8 4 = [] := rfl
theorem hh_10_4 : hints.head 10 4 = some [1,2,3,12,13,14] := rfl
theorem hc_10_4 : hints.canon 10 4 = [(3,none,20000,11,39)] := rfl
theorem hh_11_4 : hints.head 11 4 = some [1,3] := rfl
theorem hc_11_4 : hints.canon 11 4 = [] := rfl
theorem hh_11_10 : hints.head 11 10 = some [1,5] := rfl
theorem hc_11_10 : hints.canon 11 10 = [] := rfl
theorem hh_11_16 : hints.head 11 16 = some [1,7] := rfl
theorem hc_11_16 : hints.canon 11 16 = [] := rfl
theorem hh_15_4 : hints.head 15 4 = some [2,3,5] := rfl
theorem hc_15_4 : hints.canon 15 4 = [] := rfl
theorem hh_19_4 : hints.head 19 4 = some [1,31,32,33] := rfl
theorem hc_19_4 : hints.canon 19 4 = [] := rfl
theorem hh_19_10 : hints.head 19 10 = some [1,76,77,78] := rfl
theorem hc_19_10 : hints.canon 19 10 = [] := rfl
theorem hh_26_5 : hints.head 26 5 = some [1,2,13,14,15] := rfl
theorem hc_26_5 : hints.canon 26 5 = [(1,some 3,20000,11,39)] := rfl
theorem hh_27_2 : hints.head 27 2 = some [0,3,5] := rfl
theorem hc_27_2 : hints.canon 27 2 = [] := rfl
theorem hh_28_5 : hints.head 28 5 = some [0,5,6,7,8] := rfl
theorem hc_28_5 : hints.canon 28 5 = [] := rfl
theorem hh_28_10 : hints.head 28 10 = some [0,5,6,7,8,9] := rfl
theorem hc_28_10 : hints.canon 28 10 = [] := rfl
theorem hh_29_3 : hints.head 29 3 = some [0,3,5,6] := rfl
theorem hc_29_3 : hints.canon 29 3 = [(5,none,20000,11,39)] := rfl
theorem hh_30_4 : hints.head 30 4 = some [0,1,5] := rfl
theorem hc_30_4 : hints.canon 30 4 = [] := rfl
theorem hh_31_4 : hints.head 31 4 = some [0,1,5] := rfl
theorem hc_31_4 : hints.canon 31 4 = [] := rfl
theorem hh_33_2 : hints.head 33 2 = some [0,3,7,8] := rfl
theorem hc_33_2 : hints.canon 33 2 = [] := rfl
theorem hh_36_3 : hints.head 36 3 = some [3,5,9,10,11] := rfl
theorem hc_36_3 : hints.canon 36 3 = [(5,none,20000,11,39)] := rfl
theorem hh_38_4 : hints.head 38 4 = some [0,1,12,13] := rfl
theorem hc_38_4 : hints.canon 38 4 = [] := rfl
theorem hh_39_4 : hints.head 39 4 = some [0,1,12,13] := rfl
theorem hc_39_4 : hints.canon 39 4 = [] := rfl
theorem hh_40_4 : hints.head 40 4 = some [1,2,15,16,17] := rfl
theorem hc_40_4 : hints.canon 40 4 = [] := rfl
theorem hh_42_5 : hints.head 42 5 = some [0,1,5,6] := rfl
theorem hc_42_5 : hints.canon 42 5 = [] := rfl
theorem hh_58_2 : hints.head 58 2 = some [0,14,15,16] := rfl
theorem hc_58_2 : hints.canon 58 2 = [] := rfl
theorem hh_58_5 : hints.head 58 5 = some [0,6,14,15,16,24,25,26] := rfl
theorem hc_58_5 : hints.canon 58 5 = [] := rfl
theorem hh_58_15 : hints.head 58 15 = some [9,10,49,50,51] := rfl
theorem hc_58_15 : hints.canon 58 15 = [] := rfl
theorem hh_58_19 : hints.head 58 19 = some [9,10,12,49,50,51,64,65] := rfl
theorem hc_58_19 : hints.canon 58 19 = [] := rfl
theorem hh_59_3 : hints.head 59 3 = some [0,3,4] := rfl
theorem hc_59_3 : hints.canon 59 3 = [(3,none,20000,2,104)] := rfl
theorem hh_59_7 : hints.head 59 7 = some [0,3,4,5] := rfl
theorem hc_59_7 : hints.canon 59 7 = [] := rfl
theorem hh_61_2 : hints.head 61 2 = some [0,1,7,8] := rfl
theorem hc_61_2 : hints.canon 61 2 = [] := rfl
theorem hh_65_5 : hints.head 65 5 = some [2,3,5,25,26,27] := rfl
theorem hc_65_5 : hints.canon 65 5 = [] := rfl
theorem t_3 : Try.prog.underlying 3 = Option.some (Go.TypeDesc.int Go.IntKind.i64) ∧ Try.prog.info? 3 = some (inf 3) ∧ (inf 3).size = 1 ∧ (inf 3).bytes = 8 ∧ zeroRow (inf 3) = Option.some [V.p (Go.Value.int Go.IntKind.i64 0)] := ⟨by kernel_rfl,by kernel_rfl,by kernel_rfl,by kernel_rfl,by kernel_rfl⟩
theorem t_4 : Try.prog.underlying 4 = Option.some Go.TypeDesc.bool ∧ Try.prog.info? 4 = some (inf 4) ∧ (inf 4).size = 1 ∧ (inf 4).bytes = 1 ∧ zeroRow (inf 4) = Option.some [V.p (Go.Value.bool false)] := ⟨by kernel_rfl,by kernel_rfl,by kernel_rfl,by kernel_rfl,by kernel_rfl⟩
theorem t_5 : Try.prog.underlying 5 = Option.some (Go.TypeDesc.int Go.IntKind.u8) ∧ Try.prog.info? 5 = some (inf 5) ∧ (inf 5).size = 1 ∧ (inf 5).bytes = 1 ∧ zeroRow (inf 5) = Option.some [V.p (Go.Value.int Go.IntKind.u8 0)] := ⟨by kernel_rfl,by kernel_rfl,by kernel_rfl,by kernel_rfl,by kernel_rfl⟩
theorem t_9 : Try.prog.underlying 9 = Option.some Go.TypeDesc.string ∧ Try.prog.info? 9 = some (inf 9) ∧ (inf 9).size = 1 ∧ (inf 9).bytes = 16 ∧ zeroRow (inf 9) = Option.some [V.p (Go.Value.string (ByteArray.mk (Array.mk [])))] := ⟨by kernel_rfl,by kernel_rfl,by kernel_rfl,by kernel_rfl,by kernel_rfl⟩
theorem t_22 : Try.prog.underlying 22 = Option.some (Go.TypeDesc.int Go.IntKind.u32) ∧ Try.prog.info? 22 = some (inf 22) ∧ (inf 22).size = 1 ∧ (inf 22).bytes = 4 ∧ zeroRow (inf 22) = Option.some [V.p (Go.Value.int Go.IntKind.u32 0)] := ⟨by kernel_rfl,by kernel_rfl,by kernel_rfl,by kernel_rfl,by kernel_rfl⟩
theorem t_23 : Try.prog.underlying 23 = Option.some (Go.TypeDesc.slice 65) ∧ Try.prog.info? 23 = some (inf 23) ∧ (inf 23).size = 1 ∧ (inf 23).bytes = 24 ∧ zeroRow (inf 23) = Option.some [V.nil] := ⟨by kernel_rfl,by kernel_rfl,by kernel_rfl,by kernel_rfl,by kernel_rfl⟩
theorem t_24 : Try.prog.underlying 24 = Option.some (Go.TypeDesc.slice 39) ∧ Try.prog.info? 24 = some (inf 24) ∧ (inf 24).size = 1 ∧ (inf 24).bytes = 24 ∧ zeroRow (inf 24) = Option.some [V.nil] := ⟨by kernel_rfl,by kernel_rfl,by kernel_rfl,by kernel_rfl,by kernel_rfl⟩
theorem t_26 : Try.prog.underlying 26 = Option.some (Go.TypeDesc.struct (Array.mk [Go.Field.mk "Node" 3 0 false "" "" 0, Go.Field.mk "Next" 22 1 false "" "" 8, Go.Field.mk "Seen" 23 2 false "" "" 16, Go.Field.mk "Parts" 24 3 false "" "" 40])) ∧ Try.prog.info? 26 = some (inf 26) ∧ (inf 26).size = 4 ∧ (inf 26).bytes = 64 ∧ zeroRow (inf 26) = Option.some [V.p (Go.Value.int Go.IntKind.i64 0), V.p (Go.Value.int Go.IntKind.u32 0), V.nil, V.nil] := ⟨by kernel_rfl, by kernel_rfl, by kernel_rfl, by kernel_rfl, by kernel_rfl⟩
theorem t_29 : Try.prog.underlying 29 = Option.some (Go.TypeDesc.slice 5) ∧ Try.prog.info? 29 = some (inf 29) ∧ (inf 29).size = 1 ∧ (inf 29).bytes = 24 ∧ zeroRow (inf 29) = Option.some [V.nil] := ⟨by kernel_rfl,by kernel_rfl,by kernel_rfl,by kernel_rfl,by kernel_rfl⟩
theorem t_39 : Try.prog.underlying 39 = Option.some (Go.TypeDesc.struct (Array.mk [Go.Field.mk "Source" 3 0 false "" "" 0, Go.Field.mk "Dest" 3 1 false "" "" 8, Go.Field.mk "Seq" 22 2 false "" "" 16, Go.Field.mk "Created" 3 3 false "" "" 24, Go.Field.mk "Lifetime" 3 4 false "" "" 32, Go.Field.mk "HopLimit" 3 5 false "" "" 40, Go.Field.mk "Hops" 3 6 false "" "" 48, Go.Field.mk "Priority" 3 7 false "" "" 56, Go.Field.mk "Offset" 3 8 false "" "" 64, Go.Field.mk "Total" 3 9 false "" "" 72, Go.Field.mk "Payload" 29 10 false "" "" 80])) ∧ Try.prog.info? 39 = some (inf 39) ∧ (inf 39).size = 11 ∧ (inf 39).bytes = 104 ∧ zeroRow (inf 39) = Option.some [V.p (Go.Value.int Go.IntKind.i64 0), V.p (Go.Value.int Go.IntKind.i64 0), V.p (Go.Value.int Go.IntKind.u32 0), V.p (Go.Value.int Go.IntKind.i64 0), V.p (Go.Value.int Go.IntKind.i64 0), V.p (Go.Value.int Go.IntKind.i64 0), V.p (Go.Value.int Go.IntKind.i64 0), V.p (Go.Value.int Go.IntKind.i64 0), V.p (Go.Value.int Go.IntKind.i64 0), V.p (Go.Value.int Go.IntKind.i64 0), V.nil] := ⟨by kernel_rfl, by kernel_rfl, by kernel_rfl, by kernel_rfl, by kernel_rfl⟩
theorem t_63 : Try.prog.underlying 63 = Option.some (Go.TypeDesc.struct (Array.mk [Go.Field.mk "Source" 3 0 false "" "" 0, Go.Field.mk "Seq" 22 1 false "" "" 8, Go.Field.mk "Offset" 3 2 false "" "" 16])) ∧ Try.prog.info? 63 = some (inf 63) ∧ (inf 63).size = 3 ∧ (inf 63).bytes = 24 ∧ zeroRow (inf 63) = Option.some [V.p (Go.Value.int Go.IntKind.i64 0), V.p (Go.Value.int Go.IntKind.u32 0), V.p (Go.Value.int Go.IntKind.i64 0)] := ⟨by kernel_rfl, by kernel_rfl, by kernel_rfl, by kernel_rfl, by kernel_rfl⟩
theorem t_65 : Try.prog.underlying 65 = Option.some (Go.TypeDesc.struct (Array.mk [Go.Field.mk "Key" 63 0 false "" "" 0, Go.Field.mk "N" 3 3 false "" "" 24])) ∧ Try.prog.info? 65 = some (inf 65) ∧ (inf 65).size = 4 ∧ (inf 65).bytes = 32 ∧ zeroRow (inf 65) = Option.some [V.p (Go.Value.int Go.IntKind.i64 0), V.p (Go.Value.int Go.IntKind.u32 0), V.p (Go.Value.int Go.IntKind.i64 0), V.p (Go.Value.int Go.IntKind.i64 0)] := ⟨by kernel_rfl, by kernel_rfl, by kernel_rfl, by kernel_rfl, by kernel_rfl⟩
theorem t_74 : Try.prog.underlying 74 = Option.some (Go.TypeDesc.slice 104) ∧ Try.prog.info? 74 = some (inf 74) ∧ (inf 74).size = 1 ∧ (inf 74).bytes = 24 ∧ zeroRow (inf 74) = Option.some [V.nil] := ⟨by kernel_rfl,by kernel_rfl,by kernel_rfl,by kernel_rfl,by kernel_rfl⟩
theorem t_79 : Try.prog.underlying 79 = Option.some (Go.TypeDesc.struct (Array.mk [Go.Field.mk "Source" 3 0 false "" "" 0, Go.Field.mk "Seq" 22 1 false "" "" 8])) ∧ Try.prog.info? 79 = some (inf 79) ∧ (inf 79).size = 2 ∧ (inf 79).bytes = 16 ∧ zeroRow (inf 79) = Option.some [V.p (Go.Value.int Go.IntKind.i64 0), V.p (Go.Value.int Go.IntKind.u32 0)] := ⟨by kernel_rfl, by kernel_rfl, by kernel_rfl, by kernel_rfl, by kernel_rfl⟩
theorem t_90 : Try.prog.underlying 90 = Option.some (Go.TypeDesc.slice 4) ∧ Try.prog.info? 90 = some (inf 90) ∧ (inf 90).size = 1 ∧ (inf 90).bytes = 24 ∧ zeroRow (inf 90) = Option.some [V.nil] := ⟨by kernel_rfl,by kernel_rfl,by kernel_rfl,by kernel_rfl,by kernel_rfl⟩
theorem t_104 : Try.prog.underlying 104 = Option.some (Go.TypeDesc.struct (Array.mk [Go.Field.mk "At" 3 0 false "" "" 0, Go.Field.mk "N" 3 1 false "" "" 8])) ∧ Try.prog.info? 104 = some (inf 104) ∧ (inf 104).size = 2 ∧ (inf 104).bytes = 16 ∧ zeroRow (inf 104) = Option.some [V.p (Go.Value.int Go.IntKind.i64 0), V.p (Go.Value.int Go.IntKind.i64 0)] := ⟨by kernel_rfl, by kernel_rfl, by kernel_rfl, by kernel_rfl, by kernel_rfl⟩
theorem t_106 : Try.prog.underlying 106 = Option.some (Go.TypeDesc.struct (Array.mk [Go.Field.mk "source" 3 0 false "" "heliograph/bundle" 0, Go.Field.mk "dest" 3 1 false "" "heliograph/bundle" 8, Go.Field.mk "created" 3 2 false "" "heliograph/bundle" 16, Go.Field.mk "life" 3 3 false "" "heliograph/bundle" 24, Go.Field.mk "limit" 3 4 false "" "heliograph/bundle" 32, Go.Field.mk "hops" 3 5 false "" "heliograph/bundle" 40, Go.Field.mk "priority" 3 6 false "" "heliograph/bundle" 48, Go.Field.mk "offset" 3 7 false "" "heliograph/bundle" 56, Go.Field.mk "total" 3 8 false "" "heliograph/bundle" 64, Go.Field.mk "seq" 22 9 false "" "heliograph/bundle" 72])) ∧ Try.prog.info? 106 = some (inf 106) ∧ (inf 106).size = 10 ∧ (inf 106).bytes = 80 ∧ zeroRow (inf 106) = Option.some [V.p (Go.Value.int Go.IntKind.i64 0), V.p (Go.Value.int Go.IntKind.i64 0), V.p (Go.Value.int Go.IntKind.i64 0), V.p (Go.Value.int Go.IntKind.i64 0), V.p (Go.Value.int Go.IntKind.i64 0), V.p (Go.Value.int Go.IntKind.i64 0), V.p (Go.Value.int Go.IntKind.i64 0), V.p (Go.Value.int Go.IntKind.i64 0), V.p (Go.Value.int Go.IntKind.i64 0), V.p (Go.Value.int Go.IntKind.u32 0)] := ⟨by kernel_rfl, by kernel_rfl, by kernel_rfl, by kernel_rfl, by kernel_rfl⟩
theorem t_108 : Try.prog.underlying 108 = Option.some (Go.TypeDesc.pointer 3) ∧ Try.prog.info? 108 = some (inf 108) ∧ (inf 108).size = 1 ∧ (inf 108).bytes = 8 ∧ zeroRow (inf 108) = Option.some [V.p (Go.Value.pointer Option.none)] := ⟨by kernel_rfl,by kernel_rfl,by kernel_rfl,by kernel_rfl,by kernel_rfl⟩
theorem t_109 : Try.prog.underlying 109 = Option.some (Go.TypeDesc.array 2 108) ∧ Try.prog.info? 109 = some (inf 109) ∧ (inf 109).size = 2 ∧ (inf 109).bytes = 16 ∧ zeroRow (inf 109) = Option.some [V.p (Go.Value.pointer Option.none),V.p (Go.Value.pointer Option.none)] := ⟨by kernel_rfl,by kernel_rfl,by kernel_rfl,by kernel_rfl,by kernel_rfl⟩
theorem t_110 : Try.prog.underlying 110 = Option.some (Go.TypeDesc.slice 109) ∧ Try.prog.info? 110 = some (inf 110) ∧ (inf 110).size = 1 ∧ (inf 110).bytes = 24 ∧ zeroRow (inf 110) = Option.some [V.nil] := ⟨by kernel_rfl,by kernel_rfl,by kernel_rfl,by kernel_rfl,by kernel_rfl⟩
theorem hr_10_0 : hints.keep 10 0 = some [1,2] ∧ hints.frz 10 0 = [] ∧ hints.soft 10 0 = [(2,some 2,4,some (700000,65)),(2,some 3,11,some (700001,39))] := ⟨rfl,rfl,rfl⟩
theorem hr_10_1 : hints.keep 10 1 = some [1,2] ∧ hints.frz 10 1 = [] ∧ hints.soft 10 1 = [] := ⟨rfl,rfl,rfl⟩
theorem hr_10_10 : hints.keep 10 10 = some [2] ∧ hints.frz 10 10 = [] ∧ hints.soft 10 10 = [] := ⟨rfl,rfl,rfl⟩
theorem hr_10_2 : hints.keep 10 2 = some [1,2,3] ∧ hints.frz 10 2 = [] ∧ hints.soft 10 2 = [(3,none,11,some (700128,39))] := ⟨rfl,rfl,rfl⟩
theorem hr_10_3 : hints.keep 10 3 = some [1,2,3,12,13,14] ∧ hints.frz 10 3 = [] ∧ hints.soft 10 3 = [] := ⟨rfl,rfl,rfl⟩
theorem hr_10_4 : hints.keep 10 4 = some [1,2,3,12,13,14,15] ∧ hints.frz 10 4 = [] ∧ hints.soft 10 4 = [] := ⟨rfl,rfl,rfl⟩
theorem hr_10_5 : hints.keep 10 5 = some [1,2,3,5,12,13,14] ∧ hints.frz 10 5 = [] ∧ hints.soft 10 5 = [] := ⟨rfl,rfl,rfl⟩
theorem hr_10_6 : hints.keep 10 6 = some [1,2,3,5,12,13,14] ∧ hints.frz 10 6 = [] ∧ hints.soft 10 6 = [] := ⟨rfl,rfl,rfl⟩
theorem hr_10_7 : hints.keep 10 7 = some [1,2,3,12,13,14] ∧ hints.frz 10 7 = [] ∧ hints.soft 10 7 = [] := ⟨rfl,rfl,rfl⟩
theorem hr_10_8 : hints.keep 10 8 = some [1,2,3,12,13,14] ∧ hints.frz 10 8 = [] ∧ hints.soft 10 8 = [] := ⟨rfl,rfl,rfl⟩
theorem hr_10_9 : hints.keep 10 9 = some [1,2] ∧ hints.frz 10 9 = [] ∧ hints.soft 10 9 = [] := ⟨rfl,rfl,rfl⟩
theorem hr_11_0 : hints.keep 11 0 = some [1] ∧ hints.frz 11 0 = [] ∧ hints.soft 11 0 = [] := ⟨rfl,rfl,rfl⟩
theorem hr_11_1 : hints.keep 11 1 = some [1,35] ∧ hints.frz 11 1 = [] ∧ hints.soft 11 1 = [] := ⟨rfl,rfl,rfl⟩
theorem hr_11_10 : hints.keep 11 10 = some [1,5,102] ∧ hints.frz 11 10 = [] ∧ hints.soft 11 10 = [] := ⟨rfl,rfl,rfl⟩
theorem hr_11_11 : hints.keep 11 11 = some [1,5] ∧ hints.frz 11 11 = [] ∧ hints.soft 11 11 = [] := ⟨rfl,rfl,rfl⟩
theorem hr_11_12 : hints.keep 11 12 = some [1,5,6] ∧ hints.frz 11 12 = [] ∧ hints.soft 11 12 = [] := ⟨rfl,rfl,rfl⟩
theorem hr_11_13 : hints.keep 11 13 = some [1,5,127] ∧ hints.frz 11 13 = [] ∧ hints.soft 11 13 = [] := ⟨rfl,rfl,rfl⟩
theorem hr_11_14 : hints.keep 11 14 = some [2] ∧ hints.frz 11 14 = [] ∧ hints.soft 11 14 = [] := ⟨rfl,rfl,rfl⟩
theorem hr_11_15 : hints.keep 11 15 = some [1,7] ∧ hints.frz 11 15 = [] ∧ hints.soft 11 15 = [] := ⟨rfl,rfl,rfl⟩
theorem hr_11_16 : hints.keep 11 16 = some [1,7,132] ∧ hints.frz 11 16 = [] ∧ hints.soft 11 16 = [] := ⟨rfl,rfl,rfl⟩
theorem hr_11_17 : hints.keep 11 17 = some [1,7] ∧ hints.frz 11 17 = [] ∧ hints.soft 11 17 = [] := ⟨rfl,rfl,rfl⟩
theorem hr_11_18 : hints.keep 11 18 = some [1,7,9,10] ∧ hints.frz 11 18 = [] ∧ hints.soft 11 18 = [] := ⟨rfl,rfl,rfl⟩
theorem hr_11_19 : hints.keep 11 19 = some [1,7,159] ∧ hints.frz 11 19 = [] ∧ hints.soft 11 19 = [] := ⟨rfl,rfl,rfl⟩
theorem hr_11_2 : hints.keep 11 2 = some [2] ∧ hints.frz 11 2 = [] ∧ hints.soft 11 2 = [] := ⟨rfl,rfl,rfl⟩
theorem hr_11_20 : hints.keep 11 20 = some [2] ∧ hints.frz 11 20 = [] ∧ hints.soft 11 20 = [] := ⟨rfl,rfl,rfl⟩
theorem hr_11_21 : hints.keep 11 21 = some [2] ∧ hints.frz 11 21 = [] ∧ hints.soft 11 21 = [] := ⟨rfl,rfl,rfl⟩
theorem hr_11_3 : hints.keep 11 3 = some [1,3] ∧ hints.frz 11 3 = [] ∧ hints.soft 11 3 = [] := ⟨rfl,rfl,rfl⟩
theorem hr_11_4 : hints.keep 11 4 = some [1,3,40] ∧ hints.frz 11 4 = [] ∧ hints.soft 11 4 = [] := ⟨rfl,rfl,rfl⟩
theorem hr_11_5 : hints.keep 11 5 = some [1,3] ∧ hints.frz 11 5 = [] ∧ hints.soft 11 5 = [] := ⟨rfl,rfl,rfl⟩
theorem hr_11_6 : hints.keep 11 6 = some [1,3,4] ∧ hints.frz 11 6 = [] ∧ hints.soft 11 6 = [] := ⟨rfl,rfl,rfl⟩
theorem hr_11_7 : hints.keep 11 7 = some [1,3,97] ∧ hints.frz 11 7 = [] ∧ hints.soft 11 7 = [] := ⟨rfl,rfl,rfl⟩
theorem hr_11_8 : hints.keep 11 8 = some [2] ∧ hints.frz 11 8 = [] ∧ hints.soft 11 8 = [] := ⟨rfl,rfl,rfl⟩
theorem hr_11_9 : hints.keep 11 9 = some [1,5] ∧ hints.frz 11 9 = [] ∧ hints.soft 11 9 = [] := ⟨rfl,rfl,rfl⟩
theorem hr_12_0 : hints.keep 12 0 = some [1,2,3] ∧ hints.frz 12 0 = [] ∧ hints.soft 12 0 = [] := ⟨rfl,rfl,rfl⟩
theorem hr_12_1 : hints.keep 12 1 = some [6] ∧ hints.frz 12 1 = [] ∧ hints.soft 12 1 = [] := ⟨rfl,rfl,rfl⟩
theorem hr_13_0 : hints.keep 13 0 = some [1] ∧ hints.frz 13 0 = [] ∧ hints.soft 13 0 = [] := ⟨rfl,rfl,rfl⟩
theorem hr_13_1 : hints.keep 13 1 = some [1,45] ∧ hints.frz 13 1 = [] ∧ hints.soft 13 1 = [] := ⟨rfl,rfl,rfl⟩
theorem hr_13_2 : hints.keep 13 2 = some [2] ∧ hints.frz 13 2 = [] ∧ hints.soft 13 2 = [] := ⟨rfl,rfl,rfl⟩
theorem hr_13_3 : hints.keep 13 3 = some [1,85] ∧ hints.frz 13 3 = [] ∧ hints.soft 13 3 = [] := ⟨rfl,rfl,rfl⟩
theorem hr_13_4 : hints.keep 13 4 = some [2] ∧ hints.frz 13 4 = [] ∧ hints.soft 13 4 = [] := ⟨rfl,rfl,rfl⟩
theorem hr_13_5 : hints.keep 13 5 = some [2] ∧ hints.frz 13 5 = [] ∧ hints.soft 13 5 = [] := ⟨rfl,rfl,rfl⟩
theorem hr_14_0 : hints.keep 14 0 = some [2,3] ∧ hints.frz 14 0 = [] ∧ hints.soft 14 0 = [] := ⟨rfl,rfl,rfl⟩
theorem hr_14_1 : hints.keep 14 1 = some [4] ∧ hints.frz 14 1 = [] ∧ hints.soft 14 1 = [] := ⟨rfl,rfl,rfl⟩
theorem hr_15_0 : hints.keep 15 0 = some [2,3] ∧ hints.frz 15 0 = [] ∧ hints.soft 15 0 = [(3,some 2,4,none),(3,some 3,11,none)] := ⟨rfl,rfl,rfl⟩
theorem hr_15_1 : hints.keep 15 1 = some [2,3,34] ∧ hints.frz 15 1 = [] ∧ hints.soft 15 1 = [] := ⟨rfl,rfl,rfl⟩
theorem hr_15_2 : hints.keep 15 2 = some [4] ∧ hints.frz 15 2 = [] ∧ hints.soft 15 2 = [] := ⟨rfl,rfl,rfl⟩
theorem hr_15_3 : hints.keep 15 3 = some [2,3,5] ∧ hints.frz 15 3 = [] ∧ hints.soft 15 3 = [] := ⟨rfl,rfl,rfl⟩
theorem hr_15_4 : hints.keep 15 4 = some [2,3,5,39] ∧ hints.frz 15 4 = [] ∧ hints.soft 15 4 = [] := ⟨rfl,rfl,rfl⟩
theorem hr_15_5 : hints.keep 15 5 = some [2,3,5] ∧ hints.frz 15 5 = [] ∧ hints.soft 15 5 = [] := ⟨rfl,rfl,rfl⟩
theorem hr_15_6 : hints.keep 15 6 = some [2,3,5,52] ∧ hints.frz 15 6 = [] ∧ hints.soft 15 6 = [] := ⟨rfl,rfl,rfl⟩
theorem hr_15_7 : hints.keep 15 7 = some [4] ∧ hints.frz 15 7 = [] ∧ hints.soft 15 7 = [] := ⟨rfl,rfl,rfl⟩
theorem hr_15_8 : hints.keep 15 8 = some [4] ∧ hints.frz 15 8 = [] ∧ hints.soft 15 8 = [] := ⟨rfl,rfl,rfl⟩
theorem hr_16_0 : hints.keep 16 0 = some [0,2] ∧ hints.frz 16 0 = [] ∧ hints.soft 16 0 = [(2,some 2,4,none),(2,some 3,11,none)] := ⟨rfl,rfl,rfl⟩
theorem hr_16_1 : hints.keep 16 1 = some [0,2,6] ∧ hints.frz 16 1 = [] ∧ hints.soft 16 1 = [] := ⟨rfl,rfl,rfl⟩
theorem hr_16_2 : hints.keep 16 2 = some [2,3] ∧ hints.frz 16 2 = [] ∧ hints.soft 16 2 = [(2,some 2,4,none),(2,some 3,11,none)] := ⟨rfl,rfl,rfl⟩
theorem hr_16_3 : hints.keep 16 3 = some [2,3] ∧ hints.frz 16 3 = [] ∧ hints.soft 16 3 = [(2,some 2,4,none),(2,some 3,11,none)] := ⟨rfl,rfl,rfl⟩
theorem hr_19_0 : hints.keep 19 0 = some [1] ∧ hints.frz 19 0 = [] ∧ hints.soft 19 0 = [] := ⟨rfl,rfl,rfl⟩
theorem hr_19_1 : hints.keep 19 1 = some [1,29] ∧ hints.frz 19 1 = [] ∧ hints.soft 19 1 = [] := ⟨rfl,rfl,rfl⟩
theorem hr_19_10 : hints.keep 19 10 = some [1,76,77,78,79] ∧ hints.frz 19 10 = [] ∧ hints.soft 19 10 = [] := ⟨rfl,rfl,rfl⟩
theorem hr_19_11 : hints.keep 19 11 = some [1,6,76,77,78] ∧ hints.frz 19 11 = [] ∧ hints.soft 19 11 = [] := ⟨rfl,rfl,rfl⟩
theorem hr_19_12 : hints.keep 19 12 = some [1,6,76,77,78,95] ∧ hints.frz 19 12 = [] ∧ hints.soft 19 12 = [] := ⟨rfl,rfl,rfl⟩
theorem hr_19_13 : hints.keep 19 13 = some [2] ∧ hints.frz 19 13 = [] ∧ hints.soft 19 13 = [] := ⟨rfl,rfl,rfl⟩
theorem hr_19_14 : hints.keep 19 14 = some [1,7,8,76,77,78] ∧ hints.frz 19 14 = [] ∧ hints.soft 19 14 = [] := ⟨rfl,rfl,rfl⟩
theorem hr_19_15 : hints.keep 19 15 = some [1,76,77,78,110] ∧ hints.frz 19 15 = [] ∧ hints.soft 19 15 = [] := ⟨rfl,rfl,rfl⟩
theorem hr_19_16 : hints.keep 19 16 = some [2] ∧ hints.frz 19 16 = [] ∧ hints.soft 19 16 = [] := ⟨rfl,rfl,rfl⟩
theorem hr_19_17 : hints.keep 19 17 = some [1,76,77,78] ∧ hints.frz 19 17 = [] ∧ hints.soft 19 17 = [] := ⟨rfl,rfl,rfl⟩
theorem hr_19_18 : hints.keep 19 18 = some [2] ∧ hints.frz 19 18 = [] ∧ hints.soft 19 18 = [] := ⟨rfl,rfl,rfl⟩
theorem hr_19_2 : hints.keep 19 2 = some [2] ∧ hints.frz 19 2 = [] ∧ hints.soft 19 2 = [] := ⟨rfl,rfl,rfl⟩
theorem hr_19_3 : hints.keep 19 3 = some [1,31,32,33] ∧ hints.frz 19 3 = [] ∧ hints.soft 19 3 = [] := ⟨rfl,rfl,rfl⟩
theorem hr_19_4 : hints.keep 19 4 = some [1,31,32,33,34] ∧ hints.frz 19 4 = [] ∧ hints.soft 19 4 = [] := ⟨rfl,rfl,rfl⟩
theorem hr_19_5 : hints.keep 19 5 = some [1,3,4,31,32,33] ∧ hints.frz 19 5 = [] ∧ hints.soft 19 5 = [] := ⟨rfl,rfl,rfl⟩
theorem hr_19_6 : hints.keep 19 6 = some [1,31,32,33,73] ∧ hints.frz 19 6 = [] ∧ hints.soft 19 6 = [] := ⟨rfl,rfl,rfl⟩
theorem hr_19_7 : hints.keep 19 7 = some [2] ∧ hints.frz 19 7 = [] ∧ hints.soft 19 7 = [] := ⟨rfl,rfl,rfl⟩
theorem hr_19_8 : hints.keep 19 8 = some [1,31,32,33] ∧ hints.frz 19 8 = [] ∧ hints.soft 19 8 = [] := ⟨rfl,rfl,rfl⟩
theorem hr_19_9 : hints.keep 19 9 = some [1,76,77,78] ∧ hints.frz 19 9 = [] ∧ hints.soft 19 9 = [] := ⟨rfl,rfl,rfl⟩
theorem hr_20_0 : hints.keep 20 0 = some [0,1] ∧ hints.frz 20 0 = [] ∧ hints.soft 20 0 = [] := ⟨rfl,rfl,rfl⟩
theorem hr_20_1 : hints.keep 20 1 = some [4] ∧ hints.frz 20 1 = [] ∧ hints.soft 20 1 = [] := ⟨rfl,rfl,rfl⟩
theorem hr_21_0 : hints.keep 21 0 = some [2,3] ∧ hints.frz 21 0 = [] ∧ hints.soft 21 0 = [] := ⟨rfl,rfl,rfl⟩
theorem hr_21_1 : hints.keep 21 1 = some [4] ∧ hints.frz 21 1 = [] ∧ hints.soft 21 1 = [] := ⟨rfl,rfl,rfl⟩
theorem hr_22_0 : hints.keep 22 0 = some [2,3,4] ∧ hints.frz 22 0 = [] ∧ hints.soft 22 0 = [(4,some 2,4,none),(4,some 3,11,some (700001,39))] := ⟨rfl,rfl,rfl⟩
theorem hr_22_1 : hints.keep 22 1 = some [2,3,4,6] ∧ hints.frz 22 1 = [] ∧ hints.soft 22 1 = [] := ⟨rfl,rfl,rfl⟩
theorem hr_22_2 : hints.keep 22 2 = some [2,3,4,6,10] ∧ hints.frz 22 2 = [] ∧ hints.soft 22 2 = [] := ⟨rfl,rfl,rfl⟩
theorem hr_22_3 : hints.keep 22 3 = some [4,5] ∧ hints.frz 22 3 = [] ∧ hints.soft 22 3 = [(4,some 2,4,none),(4,some 3,11,some (700193,39))] := ⟨rfl,rfl,rfl⟩
theorem hr_22_4 : hints.keep 22 4 = some [2,3,4,15] ∧ hints.frz 22 4 = [] ∧ hints.soft 22 4 = [] := ⟨rfl,rfl,rfl⟩
theorem hr_22_5 : hints.keep 22 5 = some [4,5] ∧ hints.frz 22 5 = [] ∧ hints.soft 22 5 = [(4,some 2,4,none),(4,some 3,11,some (700321,39))] := ⟨rfl,rfl,rfl⟩
theorem hr_22_6 : hints.keep 22 6 = some [2,3,4] ∧ hints.frz 22 6 = [] ∧ hints.soft 22 6 = [] := ⟨rfl,rfl,rfl⟩
theorem hr_22_7 : hints.keep 22 7 = some [2,4] ∧ hints.frz 22 7 = [] ∧ hints.soft 22 7 = [] := ⟨rfl,rfl,rfl⟩
theorem hr_22_8 : hints.keep 22 8 = some [4,5] ∧ hints.frz 22 8 = [] ∧ hints.soft 22 8 = [] := ⟨rfl,rfl,rfl⟩
theorem hr_23_0 : hints.keep 23 0 = some [0,1,2] ∧ hints.frz 23 0 = [] ∧ hints.soft 23 0 = [] := ⟨rfl,rfl,rfl⟩
theorem hr_23_1 : hints.keep 23 1 = some [6] ∧ hints.frz 23 1 = [] ∧ hints.soft 23 1 = [] := ⟨rfl,rfl,rfl⟩
theorem hr_24_0 : hints.keep 24 0 = some [1] ∧ hints.frz 24 0 = [] ∧ hints.soft 24 0 = [] := ⟨rfl,rfl,rfl⟩
theorem hr_24_1 : hints.keep 24 1 = some [1,3] ∧ hints.frz 24 1 = [] ∧ hints.soft 24 1 = [] := ⟨rfl,rfl,rfl⟩
theorem hr_24_2 : hints.keep 24 2 = some [1,3] ∧ hints.frz 24 2 = [] ∧ hints.soft 24 2 = [] := ⟨rfl,rfl,rfl⟩
theorem hr_24_3 : hints.keep 24 3 = some [1,3] ∧ hints.frz 24 3 = [] ∧ hints.soft 24 3 = [] := ⟨rfl,rfl,rfl⟩
theorem hr_24_4 : hints.keep 24 4 = some [3] ∧ hints.frz 24 4 = [] ∧ hints.soft 24 4 = [] := ⟨rfl,rfl,rfl⟩
theorem hr_24_5 : hints.keep 24 5 = some [72] ∧ hints.frz 24 5 = [] ∧ hints.soft 24 5 = [] := ⟨rfl,rfl,rfl⟩
theorem hr_24_6 : hints.keep 24 6 = some [2] ∧ hints.frz 24 6 = [] ∧ hints.soft 24 6 = [] := ⟨rfl,rfl,rfl⟩
theorem hr_24_7 : hints.keep 24 7 = some [2] ∧ hints.frz 24 7 = [] ∧ hints.soft 24 7 = [] := ⟨rfl,rfl,rfl⟩
theorem hr_26_0 : hints.keep 26 0 = some [1,2] ∧ hints.frz 26 0 = [] ∧ hints.soft 26 0 = [(2,some 2,4,some (700000,65)),(2,some 3,11,some (700001,39))] := ⟨rfl,rfl,rfl⟩
theorem hr_26_1 : hints.keep 26 1 = some [1,2] ∧ hints.frz 26 1 = [] ∧ hints.soft 26 1 = [] := ⟨rfl,rfl,rfl⟩
theorem hr_26_10 : hints.keep 26 10 = some [2] ∧ hints.frz 26 10 = [] ∧ hints.soft 26 10 = [] := ⟨rfl,rfl,rfl⟩
theorem hr_26_2 : hints.keep 26 2 = some [1,2,3] ∧ hints.frz 26 2 = [] ∧ hints.soft 26 2 = [] := ⟨rfl,rfl,rfl⟩
theorem hr_26_3 : hints.keep 26 3 = some [1,2,3] ∧ hints.frz 26 3 = [] ∧ hints.soft 26 3 = [(1,some 3,11,some (700192,39))] := ⟨rfl,rfl,rfl⟩
theorem hr_26_4 : hints.keep 26 4 = some [1,2,13,14,15] ∧ hints.frz 26 4 = [] ∧ hints.soft 26 4 = [] := ⟨rfl,rfl,rfl⟩
theorem hr_26_5 : hints.keep 26 5 = some [1,2,13,14,15,16] ∧ hints.frz 26 5 = [] ∧ hints.soft 26 5 = [] := ⟨rfl,rfl,rfl⟩
theorem hr_26_6 : hints.keep 26 6 = some [1,2,5,13,14,15] ∧ hints.frz 26 6 = [] ∧ hints.soft 26 6 = [] := ⟨rfl,rfl,rfl⟩
theorem hr_26_7 : hints.keep 26 7 = some [1,2,5,13,14,15] ∧ hints.frz 26 7 = [] ∧ hints.soft 26 7 = [] := ⟨rfl,rfl,rfl⟩
theorem hr_26_8 : hints.keep 26 8 = some [1,2,13,14,15] ∧ hints.frz 26 8 = [] ∧ hints.soft 26 8 = [] := ⟨rfl,rfl,rfl⟩
theorem hr_26_9 : hints.keep 26 9 = some [1,2,13,14,15] ∧ hints.frz 26 9 = [] ∧ hints.soft 26 9 = [] := ⟨rfl,rfl,rfl⟩
theorem hr_27_0 : hints.keep 27 0 = some [0,3] ∧ hints.frz 27 0 = [] ∧ hints.soft 27 0 = [] := ⟨rfl,rfl,rfl⟩
theorem hr_27_1 : hints.keep 27 1 = some [0,3,5] ∧ hints.frz 27 1 = [] ∧ hints.soft 27 1 = [] := ⟨rfl,rfl,rfl⟩
theorem hr_27_2 : hints.keep 27 2 = some [0,3,5,9] ∧ hints.frz 27 2 = [] ∧ hints.soft 27 2 = [] := ⟨rfl,rfl,rfl⟩
theorem hr_27_3 : hints.keep 27 3 = some [0,3,5] ∧ hints.frz 27 3 = [] ∧ hints.soft 27 3 = [] := ⟨rfl,rfl,rfl⟩
theorem hr_27_4 : hints.keep 27 4 = some [0,3,5,17] ∧ hints.frz 27 4 = [] ∧ hints.soft 27 4 = [] := ⟨rfl,rfl,rfl⟩
theorem hr_27_5 : hints.keep 27 5 = some [4] ∧ hints.frz 27 5 = [] ∧ hints.soft 27 5 = [] := ⟨rfl,rfl,rfl⟩
theorem hr_27_6 : hints.keep 27 6 = some [4] ∧ hints.frz 27 6 = [] ∧ hints.soft 27 6 = [] := ⟨rfl,rfl,rfl⟩
theorem hr_28_0 : hints.keep 28 0 = some [0] ∧ hints.frz 28 0 = [] ∧ hints.soft 28 0 = [] := ⟨rfl,rfl,rfl⟩
theorem hr_28_1 : hints.keep 28 1 = some [0,5] ∧ hints.frz 28 1 = [] ∧ hints.soft 28 1 = [] := ⟨rfl,rfl,rfl⟩
theorem hr_28_10 : hints.keep 28 10 = some [0,5,6,7,8,9,51] ∧ hints.frz 28 10 = [] ∧ hints.soft 28 10 = [] := ⟨rfl,rfl,rfl⟩
theorem hr_28_11 : hints.keep 28 11 = some [0,5,6,7,8,9] ∧ hints.frz 28 11 = [] ∧ hints.soft 28 11 = [] := ⟨rfl,rfl,rfl⟩
theorem hr_28_12 : hints.keep 28 12 = some [0,5,6,7,8,9,10] ∧ hints.frz 28 12 = [] ∧ hints.soft 28 12 = [] := ⟨rfl,rfl,rfl⟩
theorem hr_28_13 : hints.keep 28 13 = some [0,5,6,7,8,9,10,79] ∧ hints.frz 28 13 = [] ∧ hints.soft 28 13 = [] := ⟨rfl,rfl,rfl⟩
theorem hr_28_14 : hints.keep 28 14 = some [2,3,4] ∧ hints.frz 28 14 = [] ∧ hints.soft 28 14 = [(2,none,1,none)] := ⟨rfl,rfl,rfl⟩
theorem hr_28_15 : hints.keep 28 15 = some [0,5,6,7,8,9,10,84] ∧ hints.frz 28 15 = [] ∧ hints.soft 28 15 = [] := ⟨rfl,rfl,rfl⟩
theorem hr_28_16 : hints.keep 28 16 = some [0,5,6,7,8,9,10] ∧ hints.frz 28 16 = [] ∧ hints.soft 28 16 = [] := ⟨rfl,rfl,rfl⟩
theorem hr_28_17 : hints.keep 28 17 = some [0,5,6,7,8,9,10] ∧ hints.frz 28 17 = [] ∧ hints.soft 28 17 = [] := ⟨rfl,rfl,rfl⟩
theorem hr_28_18 : hints.keep 28 18 = some [0,5,6,7,8,9] ∧ hints.frz 28 18 = [] ∧ hints.soft 28 18 = [] := ⟨rfl,rfl,rfl⟩
theorem hr_28_19 : hints.keep 28 19 = some [2,3,4] ∧ hints.frz 28 19 = [] ∧ hints.soft 28 19 = [] := ⟨rfl,rfl,rfl⟩
theorem hr_28_2 : hints.keep 28 2 = some [0,5,6] ∧ hints.frz 28 2 = [] ∧ hints.soft 28 2 = [] := ⟨rfl,rfl,rfl⟩
theorem hr_28_3 : hints.keep 28 3 = some [0,5,6,7] ∧ hints.frz 28 3 = [] ∧ hints.soft 28 3 = [] := ⟨rfl,rfl,rfl⟩
theorem hr_28_4 : hints.keep 28 4 = some [0,5,6,7,8] ∧ hints.frz 28 4 = [] ∧ hints.soft 28 4 = [] := ⟨rfl,rfl,rfl⟩
theorem hr_28_5 : hints.keep 28 5 = some [0,5,6,7,8,24] ∧ hints.frz 28 5 = [] ∧ hints.soft 28 5 = [] := ⟨rfl,rfl,rfl⟩
theorem hr_28_6 : hints.keep 28 6 = some [0,5,6,7,8] ∧ hints.frz 28 6 = [] ∧ hints.soft 28 6 = [] := ⟨rfl,rfl,rfl⟩
theorem hr_28_7 : hints.keep 28 7 = some [0,5,6,7,8,43] ∧ hints.frz 28 7 = [] ∧ hints.soft 28 7 = [] := ⟨rfl,rfl,rfl⟩
theorem hr_28_8 : hints.keep 28 8 = some [2,3,4] ∧ hints.frz 28 8 = [] ∧ hints.soft 28 8 = [(2,none,1,none)] := ⟨rfl,rfl,rfl⟩
theorem hr_28_9 : hints.keep 28 9 = some [0,5,6,7,8,9] ∧ hints.frz 28 9 = [] ∧ hints.soft 28 9 = [] := ⟨rfl,rfl,rfl⟩
theorem hr_29_0 : hints.keep 29 0 = some [0,3] ∧ hints.frz 29 0 = [] ∧ hints.soft 29 0 = [] := ⟨rfl,rfl,rfl⟩
theorem hr_29_1 : hints.keep 29 1 = some [0,3,5] ∧ hints.frz 29 1 = [] ∧ hints.soft 29 1 = [(5,none,11,some (700064,39))] := ⟨rfl,rfl,rfl⟩
theorem hr_29_2 : hints.keep 29 2 = some [0,3,5,6] ∧ hints.frz 29 2 = [] ∧ hints.soft 29 2 = [] := ⟨rfl,rfl,rfl⟩
theorem hr_29_3 : hints.keep 29 3 = some [0,3,5,6,10] ∧ hints.frz 29 3 = [] ∧ hints.soft 29 3 = [] := ⟨rfl,rfl,rfl⟩
theorem hr_29_4 : hints.keep 29 4 = some [0,3,5,6] ∧ hints.frz 29 4 = [] ∧ hints.soft 29 4 = [] := ⟨rfl,rfl,rfl⟩
theorem hr_29_5 : hints.keep 29 5 = some [0,3,5,6,30] ∧ hints.frz 29 5 = [] ∧ hints.soft 29 5 = [] := ⟨rfl,rfl,rfl⟩
theorem hr_29_6 : hints.keep 29 6 = some [0,3,5,6] ∧ hints.frz 29 6 = [] ∧ hints.soft 29 6 = [] := ⟨rfl,rfl,rfl⟩
theorem hr_29_7 : hints.keep 29 7 = some [4] ∧ hints.frz 29 7 = [] ∧ hints.soft 29 7 = [] := ⟨rfl,rfl,rfl⟩
theorem hr_30_0 : hints.keep 30 0 = some [0,1] ∧ hints.frz 30 0 = [] ∧ hints.soft 30 0 = [] := ⟨rfl,rfl,rfl⟩
theorem hr_30_1 : hints.keep 30 1 = some [0,1,10] ∧ hints.frz 30 1 = [] ∧ hints.soft 30 1 = [] := ⟨rfl,rfl,rfl⟩
theorem hr_30_2 : hints.keep 30 2 = some [4] ∧ hints.frz 30 2 = [] ∧ hints.soft 30 2 = [] := ⟨rfl,rfl,rfl⟩
theorem hr_30_3 : hints.keep 30 3 = some [0,1,5] ∧ hints.frz 30 3 = [] ∧ hints.soft 30 3 = [] := ⟨rfl,rfl,rfl⟩
theorem hr_30_4 : hints.keep 30 4 = some [0,1,5,14] ∧ hints.frz 30 4 = [] ∧ hints.soft 30 4 = [] := ⟨rfl,rfl,rfl⟩
theorem hr_30_5 : hints.keep 30 5 = some [0,1,5] ∧ hints.frz 30 5 = [] ∧ hints.soft 30 5 = [] := ⟨rfl,rfl,rfl⟩
theorem hr_30_6 : hints.keep 30 6 = some [0,1,5,25] ∧ hints.frz 30 6 = [] ∧ hints.soft 30 6 = [] := ⟨rfl,rfl,rfl⟩
theorem hr_30_7 : hints.keep 30 7 = some [4] ∧ hints.frz 30 7 = [] ∧ hints.soft 30 7 = [] := ⟨rfl,rfl,rfl⟩
theorem hr_30_8 : hints.keep 30 8 = some [4] ∧ hints.frz 30 8 = [] ∧ hints.soft 30 8 = [] := ⟨rfl,rfl,rfl⟩
theorem hr_31_0 : hints.keep 31 0 = some [0,1] ∧ hints.frz 31 0 = [] ∧ hints.soft 31 0 = [] := ⟨rfl,rfl,rfl⟩
theorem hr_31_1 : hints.keep 31 1 = some [0,1,10] ∧ hints.frz 31 1 = [] ∧ hints.soft 31 1 = [] := ⟨rfl,rfl,rfl⟩
theorem hr_31_2 : hints.keep 31 2 = some [4] ∧ hints.frz 31 2 = [] ∧ hints.soft 31 2 = [] := ⟨rfl,rfl,rfl⟩
theorem hr_31_3 : hints.keep 31 3 = some [0,1,5] ∧ hints.frz 31 3 = [] ∧ hints.soft 31 3 = [] := ⟨rfl,rfl,rfl⟩
theorem hr_31_4 : hints.keep 31 4 = some [0,1,5,14] ∧ hints.frz 31 4 = [] ∧ hints.soft 31 4 = [] := ⟨rfl,rfl,rfl⟩
theorem hr_31_5 : hints.keep 31 5 = some [0,1,5] ∧ hints.frz 31 5 = [] ∧ hints.soft 31 5 = [] := ⟨rfl,rfl,rfl⟩
theorem hr_31_6 : hints.keep 31 6 = some [0,1,5,26] ∧ hints.frz 31 6 = [] ∧ hints.soft 31 6 = [] := ⟨rfl,rfl,rfl⟩
theorem hr_31_7 : hints.keep 31 7 = some [4] ∧ hints.frz 31 7 = [] ∧ hints.soft 31 7 = [] := ⟨rfl,rfl,rfl⟩
theorem hr_31_8 : hints.keep 31 8 = some [4] ∧ hints.frz 31 8 = [] ∧ hints.soft 31 8 = [] := ⟨rfl,rfl,rfl⟩
theorem hr_33_0 : hints.keep 33 0 = some [0,3] ∧ hints.frz 33 0 = [] ∧ hints.soft 33 0 = [] := ⟨rfl,rfl,rfl⟩
theorem hr_33_1 : hints.keep 33 1 = some [0,3,7,8] ∧ hints.frz 33 1 = [] ∧ hints.soft 33 1 = [] := ⟨rfl,rfl,rfl⟩
theorem hr_33_2 : hints.keep 33 2 = some [0,3,7,8,9] ∧ hints.frz 33 2 = [] ∧ hints.soft 33 2 = [] := ⟨rfl,rfl,rfl⟩
theorem hr_33_3 : hints.keep 33 3 = some [0,3,5,7,8] ∧ hints.frz 33 3 = [] ∧ hints.soft 33 3 = [] := ⟨rfl,rfl,rfl⟩
theorem hr_33_4 : hints.keep 33 4 = some [0,3,5,7,8,16] ∧ hints.frz 33 4 = [] ∧ hints.soft 33 4 = [] := ⟨rfl,rfl,rfl⟩
theorem hr_33_5 : hints.keep 33 5 = some [4] ∧ hints.frz 33 5 = [] ∧ hints.soft 33 5 = [] := ⟨rfl,rfl,rfl⟩
theorem hr_33_6 : hints.keep 33 6 = some [0,3,7,8] ∧ hints.frz 33 6 = [] ∧ hints.soft 33 6 = [] := ⟨rfl,rfl,rfl⟩
theorem hr_33_7 : hints.keep 33 7 = some [4] ∧ hints.frz 33 7 = [] ∧ hints.soft 33 7 = [] := ⟨rfl,rfl,rfl⟩
theorem hr_34_0 : hints.keep 34 0 = some [1] ∧ hints.frz 34 0 = [] ∧ hints.soft 34 0 = [] := ⟨rfl,rfl,rfl⟩
theorem hr_34_1 : hints.keep 34 1 = some [2] ∧ hints.frz 34 1 = [] ∧ hints.soft 34 1 = [] := ⟨rfl,rfl,rfl⟩
theorem hr_35_0 : hints.keep 35 0 = some [0] ∧ hints.frz 35 0 = [] ∧ hints.soft 35 0 = [] := ⟨rfl,rfl,rfl⟩
theorem hr_35_1 : hints.keep 35 1 = some [4,6] ∧ hints.frz 35 1 = [] ∧ hints.soft 35 1 = [] := ⟨rfl,rfl,rfl⟩
theorem hr_35_2 : hints.keep 35 2 = some [2,3] ∧ hints.frz 35 2 = [] ∧ hints.soft 35 2 = [] := ⟨rfl,rfl,rfl⟩
theorem hr_36_0 : hints.keep 36 0 = some [2,3] ∧ hints.frz 36 0 = [] ∧ hints.soft 36 0 = [] := ⟨rfl,rfl,rfl⟩
theorem hr_36_1 : hints.keep 36 1 = some [2,3,5] ∧ hints.frz 36 1 = [] ∧ hints.soft 36 1 = [(5,none,11,some (700064,39))] := ⟨rfl,rfl,rfl⟩
theorem hr_36_2 : hints.keep 36 2 = some [3,5,9,10,11] ∧ hints.frz 36 2 = [] ∧ hints.soft 36 2 = [] := ⟨rfl,rfl,rfl⟩
theorem hr_36_3 : hints.keep 36 3 = some [3,5,9,10,11,12] ∧ hints.frz 36 3 = [] ∧ hints.soft 36 3 = [] := ⟨rfl,rfl,rfl⟩
theorem hr_36_4 : hints.keep 36 4 = some [3,5,7,9,10,11] ∧ hints.frz 36 4 = [] ∧ hints.soft 36 4 = [] := ⟨rfl,rfl,rfl⟩
theorem hr_36_5 : hints.keep 36 5 = some [3,5,7,9,10,11,18] ∧ hints.frz 36 5 = [] ∧ hints.soft 36 5 = [] := ⟨rfl,rfl,rfl⟩
theorem hr_36_6 : hints.keep 36 6 = some [3,5,9,10,11] ∧ hints.frz 36 6 = [] ∧ hints.soft 36 6 = [] := ⟨rfl,rfl,rfl⟩
theorem hr_36_7 : hints.keep 36 7 = some [3,5,9,10,11] ∧ hints.frz 36 7 = [] ∧ hints.soft 36 7 = [] := ⟨rfl,rfl,rfl⟩
theorem hr_36_8 : hints.keep 36 8 = some [4] ∧ hints.frz 36 8 = [] ∧ hints.soft 36 8 = [] := ⟨rfl,rfl,rfl⟩
theorem hr_37_0 : hints.keep 37 0 = some [1,2] ∧ hints.frz 37 0 = [] ∧ hints.soft 37 0 = [] := ⟨rfl,rfl,rfl⟩
theorem hr_37_1 : hints.keep 37 1 = some [2] ∧ hints.frz 37 1 = [] ∧ hints.soft 37 1 = [] := ⟨rfl,rfl,rfl⟩
theorem hr_38_0 : hints.keep 38 0 = some [0,1] ∧ hints.frz 38 0 = [] ∧ hints.soft 38 0 = [] := ⟨rfl,rfl,rfl⟩
theorem hr_38_1 : hints.keep 38 1 = some [0,1,10] ∧ hints.frz 38 1 = [] ∧ hints.soft 38 1 = [] := ⟨rfl,rfl,rfl⟩
theorem hr_38_2 : hints.keep 38 2 = some [4] ∧ hints.frz 38 2 = [] ∧ hints.soft 38 2 = [] := ⟨rfl,rfl,rfl⟩
theorem hr_38_3 : hints.keep 38 3 = some [0,1,12,13] ∧ hints.frz 38 3 = [] ∧ hints.soft 38 3 = [] := ⟨rfl,rfl,rfl⟩
theorem hr_38_4 : hints.keep 38 4 = some [0,1,12,13,14] ∧ hints.frz 38 4 = [] ∧ hints.soft 38 4 = [] := ⟨rfl,rfl,rfl⟩
theorem hr_38_5 : hints.keep 38 5 = some [0,1,5,12,13] ∧ hints.frz 38 5 = [] ∧ hints.soft 38 5 = [] := ⟨rfl,rfl,rfl⟩
theorem hr_38_6 : hints.keep 38 6 = some [0,1,12,13,24] ∧ hints.frz 38 6 = [] ∧ hints.soft 38 6 = [] := ⟨rfl,rfl,rfl⟩
theorem hr_38_7 : hints.keep 38 7 = some [4] ∧ hints.frz 38 7 = [] ∧ hints.soft 38 7 = [] := ⟨rfl,rfl,rfl⟩
theorem hr_38_8 : hints.keep 38 8 = some [0,1,12,13] ∧ hints.frz 38 8 = [] ∧ hints.soft 38 8 = [] := ⟨rfl,rfl,rfl⟩
theorem hr_38_9 : hints.keep 38 9 = some [4] ∧ hints.frz 38 9 = [] ∧ hints.soft 38 9 = [] := ⟨rfl,rfl,rfl⟩
theorem hr_39_0 : hints.keep 39 0 = some [0,1] ∧ hints.frz 39 0 = [] ∧ hints.soft 39 0 = [] := ⟨rfl,rfl,rfl⟩
theorem hr_39_1 : hints.keep 39 1 = some [0,1,10] ∧ hints.frz 39 1 = [] ∧ hints.soft 39 1 = [] := ⟨rfl,rfl,rfl⟩
theorem hr_39_2 : hints.keep 39 2 = some [4] ∧ hints.frz 39 2 = [] ∧ hints.soft 39 2 = [] := ⟨rfl,rfl,rfl⟩
theorem hr_39_3 : hints.keep 39 3 = some [0,1,12,13] ∧ hints.frz 39 3 = [] ∧ hints.soft 39 3 = [] := ⟨rfl,rfl,rfl⟩
theorem hr_39_4 : hints.keep 39 4 = some [0,1,12,13,14] ∧ hints.frz 39 4 = [] ∧ hints.soft 39 4 = [] := ⟨rfl,rfl,rfl⟩
theorem hr_39_5 : hints.keep 39 5 = some [0,1,5,12,13] ∧ hints.frz 39 5 = [] ∧ hints.soft 39 5 = [] := ⟨rfl,rfl,rfl⟩
theorem hr_39_6 : hints.keep 39 6 = some [0,1,12,13,24] ∧ hints.frz 39 6 = [] ∧ hints.soft 39 6 = [] := ⟨rfl,rfl,rfl⟩
theorem hr_39_7 : hints.keep 39 7 = some [4] ∧ hints.frz 39 7 = [] ∧ hints.soft 39 7 = [] := ⟨rfl,rfl,rfl⟩
theorem hr_39_8 : hints.keep 39 8 = some [0,1,12,13] ∧ hints.frz 39 8 = [] ∧ hints.soft 39 8 = [] := ⟨rfl,rfl,rfl⟩
theorem hr_39_9 : hints.keep 39 9 = some [4] ∧ hints.frz 39 9 = [] ∧ hints.soft 39 9 = [] := ⟨rfl,rfl,rfl⟩
theorem hr_40_0 : hints.keep 40 0 = some [0,1,2] ∧ hints.frz 40 0 = [] ∧ hints.soft 40 0 = [] := ⟨rfl,rfl,rfl⟩
theorem hr_40_1 : hints.keep 40 1 = some [0,1,2,14] ∧ hints.frz 40 1 = [] ∧ hints.soft 40 1 = [] := ⟨rfl,rfl,rfl⟩
theorem hr_40_10 : hints.keep 40 10 = some [6] ∧ hints.frz 40 10 = [] ∧ hints.soft 40 10 = [] := ⟨rfl,rfl,rfl⟩
theorem hr_40_2 : hints.keep 40 2 = some [6] ∧ hints.frz 40 2 = [] ∧ hints.soft 40 2 = [] := ⟨rfl,rfl,rfl⟩
theorem hr_40_3 : hints.keep 40 3 = some [1,2,15,16,17] ∧ hints.frz 40 3 = [] ∧ hints.soft 40 3 = [] := ⟨rfl,rfl,rfl⟩
theorem hr_40_4 : hints.keep 40 4 = some [1,2,15,16,17,18] ∧ hints.frz 40 4 = [] ∧ hints.soft 40 4 = [] := ⟨rfl,rfl,rfl⟩
theorem hr_40_5 : hints.keep 40 5 = some [1,2,7,8,15,16,17] ∧ hints.frz 40 5 = [] ∧ hints.soft 40 5 = [] := ⟨rfl,rfl,rfl⟩
theorem hr_40_6 : hints.keep 40 6 = some [1,2,8,9,15,16,17] ∧ hints.frz 40 6 = [] ∧ hints.soft 40 6 = [] := ⟨rfl,rfl,rfl⟩
theorem hr_40_7 : hints.keep 40 7 = some [1,2,15,16,17,30] ∧ hints.frz 40 7 = [] ∧ hints.soft 40 7 = [] := ⟨rfl,rfl,rfl⟩
theorem hr_40_8 : hints.keep 40 8 = some [6] ∧ hints.frz 40 8 = [] ∧ hints.soft 40 8 = [] := ⟨rfl,rfl,rfl⟩
theorem hr_40_9 : hints.keep 40 9 = some [1,2,15,16,17] ∧ hints.frz 40 9 = [] ∧ hints.soft 40 9 = [] := ⟨rfl,rfl,rfl⟩
theorem hr_41_0 : hints.keep 41 0 = some [2,3] ∧ hints.frz 41 0 = [] ∧ hints.soft 41 0 = [] := ⟨rfl,rfl,rfl⟩
theorem hr_41_1 : hints.keep 41 1 = some [2,3,5,6] ∧ hints.frz 41 1 = [] ∧ hints.soft 41 1 = [] := ⟨rfl,rfl,rfl⟩
theorem hr_41_2 : hints.keep 41 2 = some [2,3,5,6] ∧ hints.frz 41 2 = [] ∧ hints.soft 41 2 = [(5,some 10,1,none),(6,some 10,1,none)] := ⟨rfl,rfl,rfl⟩
theorem hr_41_3 : hints.keep 41 3 = some [4] ∧ hints.frz 41 3 = [] ∧ hints.soft 41 3 = [] := ⟨rfl,rfl,rfl⟩
theorem hr_42_0 : hints.keep 42 0 = some [0,1] ∧ hints.frz 42 0 = [] ∧ hints.soft 42 0 = [] := ⟨rfl,rfl,rfl⟩
theorem hr_42_1 : hints.keep 42 1 = some [0,1,5] ∧ hints.frz 42 1 = [] ∧ hints.soft 42 1 = [] := ⟨rfl,rfl,rfl⟩
theorem hr_42_10 : hints.keep 42 10 = some [0,1,5,6] ∧ hints.frz 42 10 = [] ∧ hints.soft 42 10 = [] := ⟨rfl,rfl,rfl⟩
theorem hr_42_11 : hints.keep 42 11 = some [0,5] ∧ hints.frz 42 11 = [] ∧ hints.soft 42 11 = [] := ⟨rfl,rfl,rfl⟩
theorem hr_42_12 : hints.keep 42 12 = some [4] ∧ hints.frz 42 12 = [] ∧ hints.soft 42 12 = [] := ⟨rfl,rfl,rfl⟩
theorem hr_42_2 : hints.keep 42 2 = some [0,1,5,12] ∧ hints.frz 42 2 = [] ∧ hints.soft 42 2 = [] := ⟨rfl,rfl,rfl⟩
theorem hr_42_3 : hints.keep 42 3 = some [4] ∧ hints.frz 42 3 = [] ∧ hints.soft 42 3 = [] := ⟨rfl,rfl,rfl⟩
theorem hr_42_4 : hints.keep 42 4 = some [0,1,5,6] ∧ hints.frz 42 4 = [] ∧ hints.soft 42 4 = [] := ⟨rfl,rfl,rfl⟩
theorem hr_42_5 : hints.keep 42 5 = some [0,1,5,6,19] ∧ hints.frz 42 5 = [] ∧ hints.soft 42 5 = [] := ⟨rfl,rfl,rfl⟩
theorem hr_42_6 : hints.keep 42 6 = some [0,1,5,6] ∧ hints.frz 42 6 = [] ∧ hints.soft 42 6 = [] := ⟨rfl,rfl,rfl⟩
theorem hr_42_7 : hints.keep 42 7 = some [0,1,5,6,7] ∧ hints.frz 42 7 = [] ∧ hints.soft 42 7 = [] := ⟨rfl,rfl,rfl⟩
theorem hr_42_8 : hints.keep 42 8 = some [0,1,5,6,7,29] ∧ hints.frz 42 8 = [] ∧ hints.soft 42 8 = [] := ⟨rfl,rfl,rfl⟩
theorem hr_42_9 : hints.keep 42 9 = some [0,1,5,6] ∧ hints.frz 42 9 = [] ∧ hints.soft 42 9 = [] := ⟨rfl,rfl,rfl⟩
theorem hr_43_0 : hints.keep 43 0 = some [1,2] ∧ hints.frz 43 0 = [] ∧ hints.soft 43 0 = [] := ⟨rfl,rfl,rfl⟩
theorem hr_43_1 : hints.keep 43 1 = some [3] ∧ hints.frz 43 1 = [] ∧ hints.soft 43 1 = [] := ⟨rfl,rfl,rfl⟩
theorem hr_44_0 : hints.keep 44 0 = some [1,2] ∧ hints.frz 44 0 = [] ∧ hints.soft 44 0 = [] := ⟨rfl,rfl,rfl⟩
theorem hr_44_1 : hints.keep 44 1 = some [4] ∧ hints.frz 44 1 = [] ∧ hints.soft 44 1 = [] := ⟨rfl,rfl,rfl⟩
theorem hr_45_0 : hints.keep 45 0 = some [0,1,2] ∧ hints.frz 45 0 = [] ∧ hints.soft 45 0 = [] := ⟨rfl,rfl,rfl⟩
theorem hr_45_1 : hints.keep 45 1 = some [6] ∧ hints.frz 45 1 = [] ∧ hints.soft 45 1 = [] := ⟨rfl,rfl,rfl⟩
theorem hr_50_0 : hints.keep 50 0 = some [2,3] ∧ hints.frz 50 0 = [] ∧ hints.soft 50 0 = [] := ⟨rfl,rfl,rfl⟩
theorem hr_50_1 : hints.keep 50 1 = some [4] ∧ hints.frz 50 1 = [] ∧ hints.soft 50 1 = [] := ⟨rfl,rfl,rfl⟩
theorem hr_58_0 : hints.keep 58 0 = some [0] ∧ hints.frz 58 0 = [] ∧ hints.soft 58 0 = [] := ⟨rfl,rfl,rfl⟩
theorem hr_58_1 : hints.keep 58 1 = some [0,14,15,16] ∧ hints.frz 58 1 = [] ∧ hints.soft 58 1 = [] := ⟨rfl,rfl,rfl⟩
theorem hr_58_10 : hints.keep 58 10 = some [0,14,15,16] ∧ hints.frz 58 10 = [] ∧ hints.soft 58 10 = [] := ⟨rfl,rfl,rfl⟩
theorem hr_58_11 : hints.keep 58 11 = some [0,38] ∧ hints.frz 58 11 = [] ∧ hints.soft 58 11 = [] := ⟨rfl,rfl,rfl⟩
theorem hr_58_12 : hints.keep 58 12 = some [2,3,4] ∧ hints.frz 58 12 = [] ∧ hints.soft 58 12 = [(2,none,1,none),(3,none,1,none)] := ⟨rfl,rfl,rfl⟩
theorem hr_58_13 : hints.keep 58 13 = some [0,9,10] ∧ hints.frz 58 13 = [] ∧ hints.soft 58 13 = [] := ⟨rfl,rfl,rfl⟩
theorem hr_58_14 : hints.keep 58 14 = some [9,10,49,50,51] ∧ hints.frz 58 14 = [] ∧ hints.soft 58 14 = [] := ⟨rfl,rfl,rfl⟩
theorem hr_58_15 : hints.keep 58 15 = some [9,10,49,50,51,52] ∧ hints.frz 58 15 = [] ∧ hints.soft 58 15 = [] := ⟨rfl,rfl,rfl⟩
theorem hr_58_16 : hints.keep 58 16 = some [9,10,12,49,50,51] ∧ hints.frz 58 16 = [] ∧ hints.soft 58 16 = [] := ⟨rfl,rfl,rfl⟩
theorem hr_58_17 : hints.keep 58 17 = some [9,10,12,49,50,51] ∧ hints.frz 58 17 = [] ∧ hints.soft 58 17 = [] := ⟨rfl,rfl,rfl⟩
theorem hr_58_18 : hints.keep 58 18 = some [9,10,12,49,50,51,64,65] ∧ hints.frz 58 18 = [] ∧ hints.soft 58 18 = [] := ⟨rfl,rfl,rfl⟩
theorem hr_58_19 : hints.keep 58 19 = some [9,10,12,49,50,51,64,65,66] ∧ hints.frz 58 19 = [] ∧ hints.soft 58 19 = [] := ⟨rfl,rfl,rfl⟩
theorem hr_58_2 : hints.keep 58 2 = some [0,14,15,16,17] ∧ hints.frz 58 2 = [] ∧ hints.soft 58 2 = [] := ⟨rfl,rfl,rfl⟩
theorem hr_58_20 : hints.keep 58 20 = some [9,10,12,13,49,50,51,64,65] ∧ hints.frz 58 20 = [] ∧ hints.soft 58 20 = [] := ⟨rfl,rfl,rfl⟩
theorem hr_58_21 : hints.keep 58 21 = some [9,10,12,49,50,51,64,65] ∧ hints.frz 58 21 = [] ∧ hints.soft 58 21 = [] := ⟨rfl,rfl,rfl⟩
theorem hr_58_22 : hints.keep 58 22 = some [9,10,12,49,50,51,64,65] ∧ hints.frz 58 22 = [] ∧ hints.soft 58 22 = [] := ⟨rfl,rfl,rfl⟩
theorem hr_58_23 : hints.keep 58 23 = some [9,10,49,50,51] ∧ hints.frz 58 23 = [] ∧ hints.soft 58 23 = [] := ⟨rfl,rfl,rfl⟩
theorem hr_58_24 : hints.keep 58 24 = some [2,3,4] ∧ hints.frz 58 24 = [] ∧ hints.soft 58 24 = [] := ⟨rfl,rfl,rfl⟩
theorem hr_58_3 : hints.keep 58 3 = some [0,5,6,14,15,16] ∧ hints.frz 58 3 = [] ∧ hints.soft 58 3 = [] := ⟨rfl,rfl,rfl⟩
theorem hr_58_4 : hints.keep 58 4 = some [0,6,14,15,16,24,25,26] ∧ hints.frz 58 4 = [] ∧ hints.soft 58 4 = [] := ⟨rfl,rfl,rfl⟩
theorem hr_58_5 : hints.keep 58 5 = some [0,6,14,15,16,24,25,26,27] ∧ hints.frz 58 5 = [] ∧ hints.soft 58 5 = [] := ⟨rfl,rfl,rfl⟩
theorem hr_58_6 : hints.keep 58 6 = some [0,6,8,14,15,16,24,25,26] ∧ hints.frz 58 6 = [] ∧ hints.soft 58 6 = [] := ⟨rfl,rfl,rfl⟩
theorem hr_58_7 : hints.keep 58 7 = some [0,6,14,15,16,24,25,26,33] ∧ hints.frz 58 7 = [] ∧ hints.soft 58 7 = [] := ⟨rfl,rfl,rfl⟩
theorem hr_58_8 : hints.keep 58 8 = some [2,3,4] ∧ hints.frz 58 8 = [] ∧ hints.soft 58 8 = [(2,none,1,none),(3,none,1,none)] := ⟨rfl,rfl,rfl⟩
theorem hr_58_9 : hints.keep 58 9 = some [0,6,14,15,16,24,25,26] ∧ hints.frz 58 9 = [] ∧ hints.soft 58 9 = [] := ⟨rfl,rfl,rfl⟩
theorem hr_59_0 : hints.keep 59 0 = some [0] ∧ hints.frz 59 0 = [] ∧ hints.soft 59 0 = [] := ⟨rfl,rfl,rfl⟩
theorem hr_59_1 : hints.keep 59 1 = some [0,3] ∧ hints.frz 59 1 = [] ∧ hints.soft 59 1 = [(3,none,2,some (700064,104))] := ⟨rfl,rfl,rfl⟩
theorem hr_59_10 : hints.keep 59 10 = some [0,3,4] ∧ hints.frz 59 10 = [] ∧ hints.soft 59 10 = [] := ⟨rfl,rfl,rfl⟩
theorem hr_59_11 : hints.keep 59 11 = some [2] ∧ hints.frz 59 11 = [] ∧ hints.soft 59 11 = [] := ⟨rfl,rfl,rfl⟩
theorem hr_59_2 : hints.keep 59 2 = some [0,3,4] ∧ hints.frz 59 2 = [] ∧ hints.soft 59 2 = [] := ⟨rfl,rfl,rfl⟩
theorem hr_59_3 : hints.keep 59 3 = some [0,3,4,15] ∧ hints.frz 59 3 = [] ∧ hints.soft 59 3 = [] := ⟨rfl,rfl,rfl⟩
theorem hr_59_4 : hints.keep 59 4 = some [0,3,4] ∧ hints.frz 59 4 = [] ∧ hints.soft 59 4 = [] := ⟨rfl,rfl,rfl⟩
theorem hr_59_5 : hints.keep 59 5 = some [0,3,4,21] ∧ hints.frz 59 5 = [] ∧ hints.soft 59 5 = [] := ⟨rfl,rfl,rfl⟩
theorem hr_59_6 : hints.keep 59 6 = some [0,3,4,5] ∧ hints.frz 59 6 = [] ∧ hints.soft 59 6 = [] := ⟨rfl,rfl,rfl⟩
theorem hr_59_7 : hints.keep 59 7 = some [0,3,4,5,34] ∧ hints.frz 59 7 = [] ∧ hints.soft 59 7 = [] := ⟨rfl,rfl,rfl⟩
theorem hr_59_8 : hints.keep 59 8 = some [0,3,4,5] ∧ hints.frz 59 8 = [] ∧ hints.soft 59 8 = [] := ⟨rfl,rfl,rfl⟩
theorem hr_59_9 : hints.keep 59 9 = some [0,3,4,5] ∧ hints.frz 59 9 = [] ∧ hints.soft 59 9 = [] := ⟨rfl,rfl,rfl⟩
theorem hr_6_0 : hints.keep 6 0 = some [2,3,4] ∧ hints.frz 6 0 = [] ∧ hints.soft 6 0 = [] := ⟨rfl,rfl,rfl⟩
theorem hr_6_1 : hints.keep 6 1 = some [2,3,4,15] ∧ hints.frz 6 1 = [] ∧ hints.soft 6 1 = [] := ⟨rfl,rfl,rfl⟩
theorem hr_6_10 : hints.keep 6 10 = some [6] ∧ hints.frz 6 10 = [] ∧ hints.soft 6 10 = [] := ⟨rfl,rfl,rfl⟩
theorem hr_6_11 : hints.keep 6 11 = some [2,3,59] ∧ hints.frz 6 11 = [] ∧ hints.soft 6 11 = [] := ⟨rfl,rfl,rfl⟩
theorem hr_6_12 : hints.keep 6 12 = some [6] ∧ hints.frz 6 12 = [] ∧ hints.soft 6 12 = [] := ⟨rfl,rfl,rfl⟩
theorem hr_6_13 : hints.keep 6 13 = some [2,3,9,10] ∧ hints.frz 6 13 = [] ∧ hints.soft 6 13 = [] := ⟨rfl,rfl,rfl⟩
theorem hr_6_14 : hints.keep 6 14 = some [2,3,9,10,67] ∧ hints.frz 6 14 = [] ∧ hints.soft 6 14 = [] := ⟨rfl,rfl,rfl⟩
theorem hr_6_15 : hints.keep 6 15 = some [6] ∧ hints.frz 6 15 = [] ∧ hints.soft 6 15 = [] := ⟨rfl,rfl,rfl⟩
theorem hr_6_16 : hints.keep 6 16 = some [2,3,9,10,74] ∧ hints.frz 6 16 = [] ∧ hints.soft 6 16 = [] := ⟨rfl,rfl,rfl⟩
theorem hr_6_17 : hints.keep 6 17 = some [6] ∧ hints.frz 6 17 = [] ∧ hints.soft 6 17 = [] := ⟨rfl,rfl,rfl⟩
theorem hr_6_18 : hints.keep 6 18 = some [2,3,9,10,11] ∧ hints.frz 6 18 = [] ∧ hints.soft 6 18 = [] := ⟨rfl,rfl,rfl⟩
theorem hr_6_19 : hints.keep 6 19 = some [2,3,9,10,11] ∧ hints.frz 6 19 = [] ∧ hints.soft 6 19 = [(11,some 3,11,some (701216,39))] := ⟨rfl,rfl,rfl⟩
theorem hr_6_2 : hints.keep 6 2 = some [6] ∧ hints.frz 6 2 = [] ∧ hints.soft 6 2 = [] := ⟨rfl,rfl,rfl⟩
theorem hr_6_20 : hints.keep 6 20 = some [2,9,10,11,87,88,89] ∧ hints.frz 6 20 = [] ∧ hints.soft 6 20 = [] := ⟨rfl,rfl,rfl⟩
theorem hr_6_21 : hints.keep 6 21 = some [2,9,10,11,87,88,89,90] ∧ hints.frz 6 21 = [] ∧ hints.soft 6 21 = [] := ⟨rfl,rfl,rfl⟩
theorem hr_6_22 : hints.keep 6 22 = some [2,9,10,11,13,87,88,89] ∧ hints.frz 6 22 = [] ∧ hints.soft 6 22 = [] := ⟨rfl,rfl,rfl⟩
theorem hr_6_23 : hints.keep 6 23 = some [2,9,10,11,13,87,88,89,99] ∧ hints.frz 6 23 = [] ∧ hints.soft 6 23 = [] := ⟨rfl,rfl,rfl⟩
theorem hr_6_24 : hints.keep 6 24 = some [2,9,10,11,87,88,89] ∧ hints.frz 6 24 = [] ∧ hints.soft 6 24 = [] := ⟨rfl,rfl,rfl⟩
theorem hr_6_25 : hints.keep 6 25 = some [2,9,10,11,87,88,89] ∧ hints.frz 6 25 = [] ∧ hints.soft 6 25 = [] := ⟨rfl,rfl,rfl⟩
theorem hr_6_26 : hints.keep 6 26 = some [6] ∧ hints.frz 6 26 = [] ∧ hints.soft 6 26 = [] := ⟨rfl,rfl,rfl⟩
theorem hr_6_3 : hints.keep 6 3 = some [2,3,4,21] ∧ hints.frz 6 3 = [] ∧ hints.soft 6 3 = [] := ⟨rfl,rfl,rfl⟩
theorem hr_6_4 : hints.keep 6 4 = some [6] ∧ hints.frz 6 4 = [] ∧ hints.soft 6 4 = [] := ⟨rfl,rfl,rfl⟩
theorem hr_6_5 : hints.keep 6 5 = some [2,3,35] ∧ hints.frz 6 5 = [] ∧ hints.soft 6 5 = [] := ⟨rfl,rfl,rfl⟩
theorem hr_6_6 : hints.keep 6 6 = some [6] ∧ hints.frz 6 6 = [] ∧ hints.soft 6 6 = [] := ⟨rfl,rfl,rfl⟩
theorem hr_6_7 : hints.keep 6 7 = some [2,3,7,8] ∧ hints.frz 6 7 = [] ∧ hints.soft 6 7 = [] := ⟨rfl,rfl,rfl⟩
theorem hr_6_8 : hints.keep 6 8 = some [2,3,7,8,46] ∧ hints.frz 6 8 = [] ∧ hints.soft 6 8 = [] := ⟨rfl,rfl,rfl⟩
theorem hr_6_9 : hints.keep 6 9 = some [2,3,50] ∧ hints.frz 6 9 = [] ∧ hints.soft 6 9 = [] := ⟨rfl,rfl,rfl⟩
theorem hr_60_0 : hints.keep 60 0 = some [2,3] ∧ hints.frz 60 0 = [] ∧ hints.soft 60 0 = [] := ⟨rfl,rfl,rfl⟩
theorem hr_60_1 : hints.keep 60 1 = some [2,3,5] ∧ hints.frz 60 1 = [] ∧ hints.soft 60 1 = [] := ⟨rfl,rfl,rfl⟩
theorem hr_60_2 : hints.keep 60 2 = some [4] ∧ hints.frz 60 2 = [] ∧ hints.soft 60 2 = [] := ⟨rfl,rfl,rfl⟩
theorem hr_61_0 : hints.keep 61 0 = some [0,1] ∧ hints.frz 61 0 = [] ∧ hints.soft 61 0 = [] := ⟨rfl,rfl,rfl⟩
theorem hr_61_1 : hints.keep 61 1 = some [0,1,7,8] ∧ hints.frz 61 1 = [] ∧ hints.soft 61 1 = [] := ⟨rfl,rfl,rfl⟩
theorem hr_61_2 : hints.keep 61 2 = some [0,1,7,8,9] ∧ hints.frz 61 2 = [] ∧ hints.soft 61 2 = [] := ⟨rfl,rfl,rfl⟩
theorem hr_61_3 : hints.keep 61 3 = some [0,1,5,7,8] ∧ hints.frz 61 3 = [] ∧ hints.soft 61 3 = [] := ⟨rfl,rfl,rfl⟩
theorem hr_61_4 : hints.keep 61 4 = some [0,1,5,7,8,16] ∧ hints.frz 61 4 = [] ∧ hints.soft 61 4 = [] := ⟨rfl,rfl,rfl⟩
theorem hr_61_5 : hints.keep 61 5 = some [4] ∧ hints.frz 61 5 = [] ∧ hints.soft 61 5 = [] := ⟨rfl,rfl,rfl⟩
theorem hr_61_6 : hints.keep 61 6 = some [0,1,7,8] ∧ hints.frz 61 6 = [] ∧ hints.soft 61 6 = [] := ⟨rfl,rfl,rfl⟩
theorem hr_61_7 : hints.keep 61 7 = some [4] ∧ hints.frz 61 7 = [] ∧ hints.soft 61 7 = [] := ⟨rfl,rfl,rfl⟩
theorem hr_65_0 : hints.keep 65 0 = some [2,3] ∧ hints.frz 65 0 = [] ∧ hints.soft 65 0 = [] := ⟨rfl,rfl,rfl⟩
theorem hr_65_1 : hints.keep 65 1 = some [2,3,17] ∧ hints.frz 65 1 = [] ∧ hints.soft 65 1 = [] := ⟨rfl,rfl,rfl⟩
theorem hr_65_10 : hints.keep 65 10 = some [2,3,45] ∧ hints.frz 65 10 = [] ∧ hints.soft 65 10 = [] := ⟨rfl,rfl,rfl⟩
theorem hr_65_11 : hints.keep 65 11 = some [4] ∧ hints.frz 65 11 = [] ∧ hints.soft 65 11 = [] := ⟨rfl,rfl,rfl⟩
theorem hr_65_12 : hints.keep 65 12 = some [2,3,8,9] ∧ hints.frz 65 12 = [] ∧ hints.soft 65 12 = [] := ⟨rfl,rfl,rfl⟩
theorem hr_65_13 : hints.keep 65 13 = some [4] ∧ hints.frz 65 13 = [] ∧ hints.soft 65 13 = [] := ⟨rfl,rfl,rfl⟩
theorem hr_65_2 : hints.keep 65 2 = some [4] ∧ hints.frz 65 2 = [] ∧ hints.soft 65 2 = [] := ⟨rfl,rfl,rfl⟩
theorem hr_65_3 : hints.keep 65 3 = some [2,3,5] ∧ hints.frz 65 3 = [] ∧ hints.soft 65 3 = [] := ⟨rfl,rfl,rfl⟩
theorem hr_65_4 : hints.keep 65 4 = some [2,3,5,25,26,27] ∧ hints.frz 65 4 = [] ∧ hints.soft 65 4 = [] := ⟨rfl,rfl,rfl⟩
theorem hr_65_5 : hints.keep 65 5 = some [2,3,5,25,26,27,28] ∧ hints.frz 65 5 = [] ∧ hints.soft 65 5 = [] := ⟨rfl,rfl,rfl⟩
theorem hr_65_6 : hints.keep 65 6 = some [2,3,5,7,25,26,27] ∧ hints.frz 65 6 = [] ∧ hints.soft 65 6 = [] := ⟨rfl,rfl,rfl⟩
theorem hr_65_7 : hints.keep 65 7 = some [2,3,5,25,26,27] ∧ hints.frz 65 7 = [] ∧ hints.soft 65 7 = [] := ⟨rfl,rfl,rfl⟩
theorem hr_65_8 : hints.keep 65 8 = some [2,3,5,25,26,27] ∧ hints.frz 65 8 = [] ∧ hints.soft 65 8 = [] := ⟨rfl,rfl,rfl⟩
theorem hr_65_9 : hints.keep 65 9 = some [2,3,5] ∧ hints.frz 65 9 = [] ∧ hints.soft 65 9 = [] := ⟨rfl,rfl,rfl⟩
theorem hr_66_0 : hints.keep 66 0 = some [1,2] ∧ hints.frz 66 0 = [] ∧ hints.soft 66 0 = [] := ⟨rfl,rfl,rfl⟩
theorem hr_66_1 : hints.keep 66 1 = some [2] ∧ hints.frz 66 1 = [] ∧ hints.soft 66 1 = [] := ⟨rfl,rfl,rfl⟩
theorem hr_67_0 : hints.keep 67 0 = some [0,1] ∧ hints.frz 67 0 = [] ∧ hints.soft 67 0 = [] := ⟨rfl,rfl,rfl⟩
theorem hr_67_1 : hints.keep 67 1 = some [4] ∧ hints.frz 67 1 = [] ∧ hints.soft 67 1 = [] := ⟨rfl,rfl,rfl⟩
theorem hr_8_0 : hints.keep 8 0 = some [1,2] ∧ hints.frz 8 0 = [] ∧ hints.soft 8 0 = [(1,none,11,some (700000,39))] := ⟨rfl,rfl,rfl⟩
theorem hr_8_1 : hints.keep 8 1 = some [1,2,16] ∧ hints.frz 8 1 = [] ∧ hints.soft 8 1 = [] := ⟨rfl,rfl,rfl⟩
theorem hr_8_2 : hints.keep 8 2 = some [4] ∧ hints.frz 8 2 = [] ∧ hints.soft 8 2 = [] := ⟨rfl,rfl,rfl⟩
theorem hr_8_3 : hints.keep 8 3 = some [22,23,24] ∧ hints.frz 8 3 = [] ∧ hints.soft 8 3 = [] := ⟨rfl,rfl,rfl⟩
theorem hr_8_4 : hints.keep 8 4 = some [22,23,24,25] ∧ hints.frz 8 4 = [] ∧ hints.soft 8 4 = [] := ⟨rfl,rfl,rfl⟩
theorem hr_8_5 : hints.keep 8 5 = some [6,22,23,24] ∧ hints.frz 8 5 = [] ∧ hints.soft 8 5 = [] := ⟨rfl,rfl,rfl⟩
theorem hr_8_6 : hints.keep 8 6 = some [22,23,24,31] ∧ hints.frz 8 6 = [] ∧ hints.soft 8 6 = [] := ⟨rfl,rfl,rfl⟩
theorem hr_8_7 : hints.keep 8 7 = some [4] ∧ hints.frz 8 7 = [] ∧ hints.soft 8 7 = [] := ⟨rfl,rfl,rfl⟩
theorem hr_8_8 : hints.keep 8 8 = some [22,23,24] ∧ hints.frz 8 8 = [] ∧ hints.soft 8 8 = [] := ⟨rfl,rfl,rfl⟩
theorem hr_8_9 : hints.keep 8 9 = some [4] ∧ hints.frz 8 9 = [] ∧ hints.soft 8 9 = [] := ⟨rfl,rfl,rfl⟩
end Go.Proofs.YticggdfaehneeaaV