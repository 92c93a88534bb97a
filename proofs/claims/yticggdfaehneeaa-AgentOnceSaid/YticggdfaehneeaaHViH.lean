/- The value interpreter's hints and the types' facts for this seat,one by one. -/
import Derived.Test.YticggdfaehneeaaHViS
import Derived.Test.YticggdfaehneeaaHVi26
namespace Go.Proofs.YticggdfaehneeaaV
open Go
set_option linter.unusedVariables false
noncomputable def inf (t : TypeId) : TypeInfo := (Try.prog.info? t).getD ((Try.prog.info? 3).get (by kernel_rfl))
theorem sm_4 : slotMs Try.prog 8 4 = [0] := by kernel_rfl
theorem sm_5 : slotMs Try.prog 8 5 = [0] := by kernel_rfl
theorem u_26 : Try.prog.underlying 26 = Option.some (Go.TypeDesc.struct (Array.mk [Go.Field.mk "Node" 3 0 false "" "" 0, Go.Field.mk "Next" 22 1 false "" "" 8, Go.Field.mk "Seen" 23 2 false "" "" 16, Go.Field.mk "Parts" 24 3 false "" "" 40])) := by kernel_rfl
theorem i_26 : Try.prog.info? 26 = some (inf 26) := by kernel_rfl
theorem iz_26 : zeroRow (inf 26) = Option.some [V.p (Go.Value.int Go.IntKind.i64 0),V.p (Go.Value.int Go.IntKind.u32 0),V.nil,V.nil] := by kernel_rfl
theorem bl_26 (σ : St) (ps : List (Nat × Operand)) : buildV Try.prog σ 26 ps = (fillL [(0,1),(1,1),(2,1),(3,1)] [V.p (Go.Value.int Go.IntKind.i64 0),V.p (Go.Value.int Go.IntKind.u32 0),V.nil,V.nil] (evL σ ps)).map .agg := build_eval i_26 iz_26 u_26 (by kernel_rfl)
theorem u_39 : Try.prog.underlying 39 = Option.some (Go.TypeDesc.struct (Array.mk [Go.Field.mk "Source" 3 0 false "" "" 0, Go.Field.mk "Dest" 3 1 false "" "" 8, Go.Field.mk "Seq" 22 2 false "" "" 16, Go.Field.mk "Created" 3 3 false "" "" 24, Go.Field.mk "Lifetime" 3 4 false "" "" 32, Go.Field.mk "HopLimit" 3 5 false "" "" 40, Go.Field.mk "Hops" 3 6 false "" "" 48, Go.Field.mk "Priority" 3 7 false "" "" 56, Go.Field.mk "Offset" 3 8 false "" "" 64, Go.Field.mk "Total" 3 9 false "" "" 72, Go.Field.mk "Payload" 29 10 false "" "" 80])) := by kernel_rfl
theorem i_39 : Try.prog.info? 39 = some (inf 39) := by kernel_rfl
theorem iz_39 : zeroRow (inf 39) = Option.some [V.p (Go.Value.int Go.IntKind.i64 0),V.p (Go.Value.int Go.IntKind.i64 0),V.p (Go.Value.int Go.IntKind.u32 0),V.p (Go.Value.int Go.IntKind.i64 0),V.p (Go.Value.int Go.IntKind.i64 0),V.p (Go.Value.int Go.IntKind.i64 0),V.p (Go.Value.int Go.IntKind.i64 0),V.p (Go.Value.int Go.IntKind.i64 0),V.p (Go.Value.int Go.IntKind.i64 0),V.p (Go.Value.int Go.IntKind.i64 0),V.nil] := by kernel_rfl
theorem sm_39 : slotMs Try.prog 8 39 = [0,0,0,0,0,0,0,0,0,0,1] := by kernel_rfl
theorem bl_39 (σ : St) (ps : List (Nat × Operand)) : buildV Try.prog σ 39 ps = (fillL [(0,1),(1,1),(2,1),(3,1),(4,1),(5,1),(6,1),(7,1),(8,1),(9,1),(10,1)] [V.p (Go.Value.int Go.IntKind.i64 0),V.p (Go.Value.int Go.IntKind.i64 0),V.p (Go.Value.int Go.IntKind.u32 0),V.p (Go.Value.int Go.IntKind.i64 0),V.p (Go.Value.int Go.IntKind.i64 0),V.p (Go.Value.int Go.IntKind.i64 0),V.p (Go.Value.int Go.IntKind.i64 0),V.p (Go.Value.int Go.IntKind.i64 0),V.p (Go.Value.int Go.IntKind.i64 0),V.p (Go.Value.int Go.IntKind.i64 0),V.nil] (evL σ ps)).map .agg := build_eval i_39 iz_39 u_39 (by kernel_rfl)
theorem u_48 : Try.prog.underlying 48 = Option.some (Go.TypeDesc.struct (Array.mk [Go.Field.mk "Kind" 3 0 false "" "" 0, Go.Field.mk "Bundle" 39 1 false "" "" 8])) := by kernel_rfl
theorem i_48 : Try.prog.info? 48 = some (inf 48) := by kernel_rfl
theorem iz_48 : zeroRow (inf 48) = Option.some [V.p (Go.Value.int Go.IntKind.i64 0),V.p (Go.Value.int Go.IntKind.i64 0),V.p (Go.Value.int Go.IntKind.i64 0),V.p (Go.Value.int Go.IntKind.u32 0),V.p (Go.Value.int Go.IntKind.i64 0),V.p (Go.Value.int Go.IntKind.i64 0),V.p (Go.Value.int Go.IntKind.i64 0),V.p (Go.Value.int Go.IntKind.i64 0),V.p (Go.Value.int Go.IntKind.i64 0),V.p (Go.Value.int Go.IntKind.i64 0),V.p (Go.Value.int Go.IntKind.i64 0),V.nil] := by kernel_rfl
theorem bl_48 (σ : St) (ps : List (Nat × Operand)) : buildV Try.prog σ 48 ps = (fillL [(0,1),(1,11)] [V.p (Go.Value.int Go.IntKind.i64 0),V.p (Go.Value.int Go.IntKind.i64 0),V.p (Go.Value.int Go.IntKind.i64 0),V.p (Go.Value.int Go.IntKind.u32 0),V.p (Go.Value.int Go.IntKind.i64 0),V.p (Go.Value.int Go.IntKind.i64 0),V.p (Go.Value.int Go.IntKind.i64 0),V.p (Go.Value.int Go.IntKind.i64 0),V.p (Go.Value.int Go.IntKind.i64 0),V.p (Go.Value.int Go.IntKind.i64 0),V.p (Go.Value.int Go.IntKind.i64 0),V.nil] (evL σ ps)).map .agg := build_eval i_48 iz_48 u_48 (by kernel_rfl)
theorem u_63 : Try.prog.underlying 63 = Option.some (Go.TypeDesc.struct (Array.mk [Go.Field.mk "Source" 3 0 false "" "" 0, Go.Field.mk "Seq" 22 1 false "" "" 8, Go.Field.mk "Offset" 3 2 false "" "" 16])) := by kernel_rfl
theorem i_63 : Try.prog.info? 63 = some (inf 63) := by kernel_rfl
theorem iz_63 : zeroRow (inf 63) = Option.some [V.p (Go.Value.int Go.IntKind.i64 0),V.p (Go.Value.int Go.IntKind.u32 0),V.p (Go.Value.int Go.IntKind.i64 0)] := by kernel_rfl
theorem ag_63 : (Try.prog.eqGuardType Try.prog.depth 63 || Try.prog.stoodInHeld 63) = false := by kernel_rfl
theorem bl_63 (σ : St) (ps : List (Nat × Operand)) : buildV Try.prog σ 63 ps = (fillL [(0,1),(1,1),(2,1)] [V.p (Go.Value.int Go.IntKind.i64 0),V.p (Go.Value.int Go.IntKind.u32 0),V.p (Go.Value.int Go.IntKind.i64 0)] (evL σ ps)).map .agg := build_eval i_63 iz_63 u_63 (by kernel_rfl)
theorem u_65 : Try.prog.underlying 65 = Option.some (Go.TypeDesc.struct (Array.mk [Go.Field.mk "Key" 63 0 false "" "" 0, Go.Field.mk "N" 3 3 false "" "" 24])) := by kernel_rfl
theorem i_65 : Try.prog.info? 65 = some (inf 65) := by kernel_rfl
theorem iz_65 : zeroRow (inf 65) = Option.some [V.p (Go.Value.int Go.IntKind.i64 0),V.p (Go.Value.int Go.IntKind.u32 0),V.p (Go.Value.int Go.IntKind.i64 0),V.p (Go.Value.int Go.IntKind.i64 0)] := by kernel_rfl
theorem sm_65 : slotMs Try.prog 8 65 = [0,0,0,0] := by kernel_rfl
theorem ag_65 : (Try.prog.eqGuardType Try.prog.depth 65 || Try.prog.stoodInHeld 65) = false := by kernel_rfl
theorem bl_65 (σ : St) (ps : List (Nat × Operand)) : buildV Try.prog σ 65 ps = (fillL [(0,3),(3,1)] [V.p (Go.Value.int Go.IntKind.i64 0),V.p (Go.Value.int Go.IntKind.u32 0),V.p (Go.Value.int Go.IntKind.i64 0),V.p (Go.Value.int Go.IntKind.i64 0)] (evL σ ps)).map .agg := build_eval i_65 iz_65 u_65 (by kernel_rfl)
theorem u_79 : Try.prog.underlying 79 = Option.some (Go.TypeDesc.struct (Array.mk [Go.Field.mk "Source" 3 0 false "" "" 0, Go.Field.mk "Seq" 22 1 false "" "" 8])) := by kernel_rfl
theorem i_79 : Try.prog.info? 79 = some (inf 79) := by kernel_rfl
theorem iz_79 : zeroRow (inf 79) = Option.some [V.p (Go.Value.int Go.IntKind.i64 0),V.p (Go.Value.int Go.IntKind.u32 0)] := by kernel_rfl
theorem ag_79 : (Try.prog.eqGuardType Try.prog.depth 79 || Try.prog.stoodInHeld 79) = false := by kernel_rfl
theorem bl_79 (σ : St) (ps : List (Nat × Operand)) : buildV Try.prog σ 79 ps = (fillL [(0,1),(1,1)] [V.p (Go.Value.int Go.IntKind.i64 0),V.p (Go.Value.int Go.IntKind.u32 0)] (evL σ ps)).map .agg := build_eval i_79 iz_79 u_79 (by kernel_rfl)
theorem u_104 : Try.prog.underlying 104 = Option.some (Go.TypeDesc.struct (Array.mk [Go.Field.mk "At" 3 0 false "" "" 0, Go.Field.mk "N" 3 1 false "" "" 8])) := by kernel_rfl
theorem i_104 : Try.prog.info? 104 = some (inf 104) := by kernel_rfl
theorem iz_104 : zeroRow (inf 104) = Option.some [V.p (Go.Value.int Go.IntKind.i64 0),V.p (Go.Value.int Go.IntKind.i64 0)] := by kernel_rfl
theorem sm_104 : slotMs Try.prog 8 104 = [0,0] := by kernel_rfl
theorem bl_104 (σ : St) (ps : List (Nat × Operand)) : buildV Try.prog σ 104 ps = (fillL [(0,1),(1,1)] [V.p (Go.Value.int Go.IntKind.i64 0),V.p (Go.Value.int Go.IntKind.i64 0)] (evL σ ps)).map .agg := build_eval i_104 iz_104 u_104 (by kernel_rfl)
theorem u_106 : Try.prog.underlying 106 = Option.some (Go.TypeDesc.struct (Array.mk [Go.Field.mk "source" 3 0 false "" "heliograph/bundle" 0, Go.Field.mk "dest" 3 1 false "" "heliograph/bundle" 8, Go.Field.mk "created" 3 2 false "" "heliograph/bundle" 16, Go.Field.mk "life" 3 3 false "" "heliograph/bundle" 24, Go.Field.mk "limit" 3 4 false "" "heliograph/bundle" 32, Go.Field.mk "hops" 3 5 false "" "heliograph/bundle" 40, Go.Field.mk "priority" 3 6 false "" "heliograph/bundle" 48, Go.Field.mk "offset" 3 7 false "" "heliograph/bundle" 56, Go.Field.mk "total" 3 8 false "" "heliograph/bundle" 64, Go.Field.mk "seq" 22 9 false "" "heliograph/bundle" 72])) := by kernel_rfl
theorem i_106 : Try.prog.info? 106 = some (inf 106) := by kernel_rfl
theorem iz_106 : zeroRow (inf 106) = Option.some [V.p (Go.Value.int Go.IntKind.i64 0),V.p (Go.Value.int Go.IntKind.i64 0),V.p (Go.Value.int Go.IntKind.i64 0),V.p (Go.Value.int Go.IntKind.i64 0),V.p (Go.Value.int Go.IntKind.i64 0),V.p (Go.Value.int Go.IntKind.i64 0),V.p (Go.Value.int Go.IntKind.i64 0),V.p (Go.Value.int Go.IntKind.i64 0),V.p (Go.Value.int Go.IntKind.i64 0),V.p (Go.Value.int Go.IntKind.u32 0)] := by kernel_rfl
theorem ag_106 : (Try.prog.eqGuardType Try.prog.depth 106 || Try.prog.stoodInHeld 106) = false := by kernel_rfl
theorem bl_106 (σ : St) (ps : List (Nat × Operand)) : buildV Try.prog σ 106 ps = (fillL [(0,1),(1,1),(2,1),(3,1),(4,1),(5,1),(6,1),(7,1),(8,1),(9,1)] [V.p (Go.Value.int Go.IntKind.i64 0),V.p (Go.Value.int Go.IntKind.i64 0),V.p (Go.Value.int Go.IntKind.i64 0),V.p (Go.Value.int Go.IntKind.i64 0),V.p (Go.Value.int Go.IntKind.i64 0),V.p (Go.Value.int Go.IntKind.i64 0),V.p (Go.Value.int Go.IntKind.i64 0),V.p (Go.Value.int Go.IntKind.i64 0),V.p (Go.Value.int Go.IntKind.i64 0),V.p (Go.Value.int Go.IntKind.u32 0)] (evL σ ps)).map .agg := build_eval i_106 iz_106 u_106 (by kernel_rfl)
theorem i_108 : Try.prog.info? 108 = some (inf 108) := by kernel_rfl
theorem is_108 : (inf 108).size = 1 := by kernel_rfl
theorem u_109 : Try.prog.underlying 109 = Option.some (Go.TypeDesc.array 2 108) := by kernel_rfl
theorem i_109 : Try.prog.info? 109 = some (inf 109) := by kernel_rfl
theorem iz_109 : zeroRow (inf 109) = Option.some [V.p (Go.Value.pointer Option.none),V.p (Go.Value.pointer Option.none)] := by kernel_rfl
theorem bl_109 (σ : St) (ps : List (Nat × Operand)) : buildV Try.prog σ 109 ps = (fillA [V.p (Go.Value.pointer Option.none),V.p (Go.Value.pointer Option.none)] (evL σ ps)).map .agg := by rw [build_evalA i_109 iz_109 u_109 i_108]; simp only [is_108,Nat.mul_one]; rfl
theorem gv (f : FuncId) : hints.gives f = [36,42,61,64].contains f := rfl
theorem hh_8_4 : hints.head 8 4 = some [22,23,24] := rfl
theorem hc_8_4 : hints.canon 8 4 = [] := rfl
theorem hh_19_4 : hints.head 19 4 = some [1,31,32,33] := rfl
theorem hc_19_4 : hints.canon 19 4 = [] := rfl
theorem hh_19_10 : hints.head 19 10 = some [1,76,77,78] := rfl
theorem hc_19_10 : hints.canon 19 10 = [] := rfl
theorem hh_26_5 : hints.head 26 5 = some [1,2,13,14,15] := rfl
theorem hc_26_5 : hints.canon 26 5 = [(1,some 3,20000,11,39)] := rfl
theorem hh_33_2 : hints.head 33 2 = some [0,3,7,8] := rfl
theorem hc_33_2 : hints.canon 33 2 = [] := rfl
theorem hh_36_3 : hints.head 36 3 = some [3,5,9,10,11] := rfl
theorem hc_36_3 : hints.canon 36 3 = [(5,none,20000,11,39)] := rfl
theorem hh_38_4 : hints.head 38 4 = some [0,1,12,13] := rfl
theorem hc_38_4 : hints.canon 38 4 = [] := rfl
theorem hh_39_4 : hints.head 39 4 = some [0,1,12,13] := rfl
theorem hc_39_4 : hints.canon 39 4 = [] := rfl
theorem hh_40_4 : hints.head 40 4 = some [1,2,15,16,17] := rfl
theorem hc_40_4 : hints.canon 40 4 = [] := rfl
theorem hh_42_5 : hints.head 42 5 = some [0,1,5,6] := rfl
theorem hc_42_5 : hints.canon 42 5 = [] := rfl
theorem hh_56_9 : hints.head 56 9 = some [2,7,33,34,35] := rfl
theorem hc_56_9 : hints.canon 56 9 = [] := rfl
theorem hh_58_2 : hints.head 58 2 = some [0,14,15,16] := rfl
theorem hc_58_2 : hints.canon 58 2 = [] := rfl
theorem hh_58_5 : hints.head 58 5 = some [0,6,14,15,16,24,25,26] := rfl
theorem hc_58_5 : hints.canon 58 5 = [] := rfl
theorem hh_58_15 : hints.head 58 15 = some [9,10,49,50,51] := rfl
theorem hc_58_15 : hints.canon 58 15 = [] := rfl
theorem hh_58_19 : hints.head 58 19 = some [9,10,12,49,50,51,64,65] := rfl
theorem hc_58_19 : hints.canon 58 19 = [] := rfl
theorem hh_59_3 : hints.head 59 3 = some [0,3,4] := rfl
theorem hc_59_3 : hints.canon 59 3 = [(3,none,20000,2,104)] := rfl
theorem hh_59_7 : hints.head 59 7 = some [0,3,4,5] := rfl
theorem hc_59_7 : hints.canon 59 7 = [] := rfl
theorem hh_61_2 : hints.head 61 2 = some [0,1,7,8] := rfl
theorem hc_61_2 : hints.canon 61 2 = [] := rfl
theorem hh_65_5 : hints.head 65 5 = some [2,3,5,25,26,27] := rfl
theorem hc_65_5 : hints.canon 65 5 = [] := rfl
theorem t_3 : Try.prog.underlying 3 = Option.some (Go.TypeDesc.int Go.IntKind.i64) ∧ Try.prog.info? 3 = some (inf 3) ∧ (inf 3).size = 1 ∧ (inf 3).bytes = 8 ∧ zeroRow (inf 3) = Option.some [V.p (Go.Value.int Go.IntKind.i64 0)] := ⟨by kernel_rfl,by kernel_rfl,by kernel_rfl,by kernel_rfl,by kernel_rfl⟩
theorem t_4 : Try.prog.underlying 4 = Option.some Go.TypeDesc.bool ∧ Try.prog.info? 4 = some (inf 4) ∧ (inf 4).size = 1 ∧ (inf 4).bytes = 1 ∧ zeroRow (inf 4) = Option.some [V.p (Go.Value.bool false)] := ⟨by kernel_rfl,by kernel_rfl,by kernel_rfl,by kernel_rfl,by kernel_rfl⟩
theorem t_5 : Try.prog.underlying 5 = Option.some (Go.TypeDesc.int Go.IntKind.u8) ∧ Try.prog.info? 5 = some (inf 5) ∧ (inf 5).size = 1 ∧ (inf 5).bytes = 1 ∧ zeroRow (inf 5) = Option.some [V.p (Go.Value.int Go.IntKind.u8 0)] := ⟨by kernel_rfl,by kernel_rfl,by kernel_rfl,by kernel_rfl,by kernel_rfl⟩
theorem t_9 : Try.prog.underlying 9 = Option.some Go.TypeDesc.string ∧ Try.prog.info? 9 = some (inf 9) ∧ (inf 9).size = 1 ∧ (inf 9).bytes = 16 ∧ zeroRow (inf 9) = Option.some [V.p (Go.Value.string (ByteArray.mk (Array.mk [])))] := ⟨by kernel_rfl,by kernel_rfl,by kernel_rfl,by kernel_rfl,by kernel_rfl⟩
theorem t_22 : Try.prog.underlying 22 = Option.some (Go.TypeDesc.int Go.IntKind.u32) ∧ Try.prog.info? 22 = some (inf 22) ∧ (inf 22).size = 1 ∧ (inf 22).bytes = 4 ∧ zeroRow (inf 22) = Option.some [V.p (Go.Value.int Go.IntKind.u32 0)] := ⟨by kernel_rfl,by kernel_rfl,by kernel_rfl,by kernel_rfl,by kernel_rfl⟩
theorem t_23 : Try.prog.underlying 23 = Option.some (Go.TypeDesc.slice 65) ∧ Try.prog.info? 23 = some (inf 23) ∧ (inf 23).size = 1 ∧ (inf 23).bytes = 24 ∧ zeroRow (inf 23) = Option.some [V.nil] := ⟨by kernel_rfl,by kernel_rfl,by kernel_rfl,by kernel_rfl,by kernel_rfl⟩
theorem t_24 : Try.prog.underlying 24 = Option.some (Go.TypeDesc.slice 39) ∧ Try.prog.info? 24 = some (inf 24) ∧ (inf 24).size = 1 ∧ (inf 24).bytes = 24 ∧ zeroRow (inf 24) = Option.some [V.nil] := ⟨by kernel_rfl,by kernel_rfl,by kernel_rfl,by kernel_rfl,by kernel_rfl⟩
theorem t_26 : Try.prog.underlying 26 = Option.some (Go.TypeDesc.struct (Array.mk [Go.Field.mk "Node" 3 0 false "" "" 0, Go.Field.mk "Next" 22 1 false "" "" 8, Go.Field.mk "Seen" 23 2 false "" "" 16, Go.Field.mk "Parts" 24 3 false "" "" 40])) ∧ Try.prog.info? 26 = some (inf 26) ∧ (inf 26).size = 4 ∧ (inf 26).bytes = 64 ∧ zeroRow (inf 26) = Option.some [V.p (Go.Value.int Go.IntKind.i64 0), V.p (Go.Value.int Go.IntKind.u32 0), V.nil, V.nil] := ⟨by kernel_rfl, by kernel_rfl, by kernel_rfl, by kernel_rfl, by kernel_rfl⟩
theorem t_29 : Try.prog.underlying 29 = Option.some (Go.TypeDesc.slice 5) ∧ Try.prog.info? 29 = some (inf 29) ∧ (inf 29).size = 1 ∧ (inf 29).bytes = 24 ∧ zeroRow (inf 29) = Option.some [V.nil] := ⟨by kernel_rfl,by kernel_rfl,by kernel_rfl,by kernel_rfl,by kernel_rfl⟩
theorem t_39 : Try.prog.underlying 39 = Option.some (Go.TypeDesc.struct (Array.mk [Go.Field.mk "Source" 3 0 false "" "" 0, Go.Field.mk "Dest" 3 1 false "" "" 8, Go.Field.mk "Seq" 22 2 false "" "" 16, Go.Field.mk "Created" 3 3 false "" "" 24, Go.Field.mk "Lifetime" 3 4 false "" "" 32, Go.Field.mk "HopLimit" 3 5 false "" "" 40, Go.Field.mk "Hops" 3 6 false "" "" 48, Go.Field.mk "Priority" 3 7 false "" "" 56, Go.Field.mk "Offset" 3 8 false "" "" 64, Go.Field.mk "Total" 3 9 false "" "" 72, Go.Field.mk "Payload" 29 10 false "" "" 80])) ∧ Try.prog.info? 39 = some (inf 39) ∧ (inf 39).size = 11 ∧ (inf 39).bytes = 104 ∧ zeroRow (inf 39) = Option.some [V.p (Go.Value.int Go.IntKind.i64 0), V.p (Go.Value.int Go.IntKind.i64 0), V.p (Go.Value.int Go.IntKind.u32 0), V.p (Go.Value.int Go.IntKind.i64 0), V.p (Go.Value.int Go.IntKind.i64 0), V.p (Go.Value.int Go.IntKind.i64 0), V.p (Go.Value.int Go.IntKind.i64 0), V.p (Go.Value.int Go.IntKind.i64 0), V.p (Go.Value.int Go.IntKind.i64 0), V.p (Go.Value.int Go.IntKind.i64 0), V.nil] := ⟨by kernel_rfl, by kernel_rfl, by kernel_rfl, by kernel_rfl, by kernel_rfl⟩
theorem t_48 : Try.prog.underlying 48 = Option.some (Go.TypeDesc.struct (Array.mk [Go.Field.mk "Kind" 3 0 false "" "" 0, Go.Field.mk "Bundle" 39 1 false "" "" 8])) ∧ Try.prog.info? 48 = some (inf 48) ∧ (inf 48).size = 12 ∧ (inf 48).bytes = 112 ∧ zeroRow (inf 48) = Option.some [V.p (Go.Value.int Go.IntKind.i64 0), V.p (Go.Value.int Go.IntKind.i64 0), V.p (Go.Value.int Go.IntKind.i64 0), V.p (Go.Value.int Go.IntKind.u32 0), V.p (Go.Value.int Go.IntKind.i64 0), V.p (Go.Value.int Go.IntKind.i64 0), V.p (Go.Value.int Go.IntKind.i64 0), V.p (Go.Value.int Go.IntKind.i64 0), V.p (Go.Value.int Go.IntKind.i64 0), V.p (Go.Value.int Go.IntKind.i64 0), V.p (Go.Value.int Go.IntKind.i64 0), V.nil] := ⟨by kernel_rfl, by kernel_rfl, by kernel_rfl, by kernel_rfl, by kernel_rfl⟩
theorem t_63 : Try.prog.underlying 63 = Option.some (Go.TypeDesc.struct (Array.mk [Go.Field.mk "Source" 3 0 false "" "" 0, Go.Field.mk "Seq" 22 1 false "" "" 8, Go.Field.mk "Offset" 3 2 false "" "" 16])) ∧ Try.prog.info? 63 = some (inf 63) ∧ (inf 63).size = 3 ∧ (inf 63).bytes = 24 ∧ zeroRow (inf 63) = Option.some [V.p (Go.Value.int Go.IntKind.i64 0), V.p (Go.Value.int Go.IntKind.u32 0), V.p (Go.Value.int Go.IntKind.i64 0)] := ⟨by kernel_rfl, by kernel_rfl, by kernel_rfl, by kernel_rfl, by kernel_rfl⟩
theorem t_65 : Try.prog.underlying 65 = Option.some (Go.TypeDesc.struct (Array.mk [Go.Field.mk "Key" 63 0 false "" "" 0, Go.Field.mk "N" 3 3 false "" "" 24])) ∧ Try.prog.info? 65 = some (inf 65) ∧ (inf 65).size = 4 ∧ (inf 65).bytes = 32 ∧ zeroRow (inf 65) = Option.some [V.p (Go.Value.int Go.IntKind.i64 0), V.p (Go.Value.int Go.IntKind.u32 0), V.p (Go.Value.int Go.IntKind.i64 0), V.p (Go.Value.int Go.IntKind.i64 0)] := ⟨by kernel_rfl, by kernel_rfl, by kernel_rfl, by kernel_rfl, by kernel_rfl⟩
theorem t_74 : Try.prog.underlying 74 = Option.some (Go.TypeDesc.slice 104) ∧ Try.prog.info? 74 = some (inf 74) ∧ (inf 74).size = 1 ∧ (inf 74).bytes = 24 ∧ zeroRow (inf 74) = Option.some [V.nil] := ⟨by kernel_rfl,by kernel_rfl,by kernel_rfl,by kernel_rfl,by kernel_rfl⟩
theorem t_79 : Try.prog.underlying 79 = Option.some (Go.TypeDesc.struct (Array.mk [Go.Field.mk "Source" 3 0 false "" "" 0, Go.Field.mk "Seq" 22 1 false "" "" 8])) ∧ Try.prog.info? 79 = some (inf 79) ∧ (inf 79).size = 2 ∧ (inf 79).bytes = 16 ∧ zeroRow (inf 79) = Option.some [V.p (Go.Value.int Go.IntKind.i64 0), V.p (Go.Value.int Go.IntKind.u32 0)] := ⟨by kernel_rfl, by kernel_rfl, by kernel_rfl, by kernel_rfl, by kernel_rfl⟩
theorem t_90 : Try.prog.underlying 90 = Option.some (Go.TypeDesc.slice 4) ∧ Try.prog.info? 90 = some (inf 90) ∧ (inf 90).size = 1 ∧ (inf 90).bytes = 24 ∧ zeroRow (inf 90) = Option.some [V.nil] := ⟨by kernel_rfl,by kernel_rfl,by kernel_rfl,by kernel_rfl,by kernel_rfl⟩
theorem t_104 : Try.prog.underlying 104 = Option.some (Go.TypeDesc.struct (Array.mk [Go.Field.mk "At" 3 0 false "" "" 0, Go.Field.mk "N" 3 1 false "" "" 8])) ∧ Try.prog.info? 104 = some (inf 104) ∧ (inf 104).size = 2 ∧ (inf 104).bytes = 16 ∧ zeroRow (inf 104) = Option.some [V.p (Go.Value.int Go.IntKind.i64 0), V.p (Go.Value.int Go.IntKind.i64 0)] := ⟨by kernel_rfl, by kernel_rfl, by kernel_rfl, by kernel_rfl, by kernel_rfl⟩
theorem t_106 : Try.prog.underlying 106 = Option.some (Go.TypeDesc.struct (Array.mk [Go.Field.mk "source" 3 0 false "" "heliograph/bundle" 0, Go.Field.mk "dest" 3 1 false "" "heliograph/bundle" 8, Go.Field.mk "created" 3 2 false "" "heliograph/bundle" 16, Go.Field.mk "life" 3 3 false "" "heliograph/bundle" 24, Go.Field.mk "limit" 3 4 false "" "heliograph/bundle" 32, Go.Field.mk "hops" 3 5 false "" "heliograph/bundle" 40, Go.Field.mk "priority" 3 6 false "" "heliograph/bundle" 48, Go.Field.mk "offset" 3 7 false "" "heliograph/bundle" 56, Go.Field.mk "total" 3 8 false "" "heliograph/bundle" 64, Go.Field.mk "seq" 22 9 false "" "heliograph/bundle" 72])) ∧ Try.prog.info? 106 = some (inf 106) ∧ (inf 106).size = 10 ∧ (inf 106).bytes = 80 ∧ zeroRow (inf 106) = Option.some [V.p (Go.Value.int Go.IntKind.i64 0), V.p (Go.Value.int Go.IntKind.i64 0), V.p (Go.Value.int Go.IntKind.i64 0), V.p (Go.Value.int Go.IntKind.i64 0), V.p (Go.Value.int Go.IntKind.i64 0), V.p (Go.Value.int Go.IntKind.i64 0), V.p (Go.Value.int Go.IntKind.i64 0), V.p (Go.Value.int Go.IntKind.i64 0), V.p (Go.Value.int Go.IntKind.i64 0), V.p (Go.Value.int Go.IntKind.u32 0)] := ⟨by kernel_rfl, by kernel_rfl, by kernel_rfl, by kernel_rfl, by kernel_rfl⟩
theorem t_108 : Try.prog.underlying 108 = Option.some (Go.TypeDesc.pointer 3) ∧ Try.prog.info? 108 = some (inf 108) ∧ (inf 108).size = 1 ∧ (inf 108).bytes = 8 ∧ zeroRow (inf 108) = Option.some [V.p (Go.Value.pointer Option.none)] := ⟨by kernel_rfl,by kernel_rfl,by kernel_rfl,by kernel_rfl,by kernel_rfl⟩
theorem t_109 : Try.prog.underlying 109 = Option.some (Go.TypeDesc.array 2 108) ∧ Try.prog.info? 109 = some (inf 109) ∧ (inf 109).size = 2 ∧ (inf 109).bytes = 16 ∧ zeroRow (inf 109) = Option.some [V.p (Go.Value.pointer Option.none),V.p (Go.Value.pointer Option.none)] := ⟨by kernel_rfl,by kernel_rfl,by kernel_rfl,by kernel_rfl,by kernel_rfl⟩
theorem t_110 : Try.prog.underlying 110 = Option.some (Go.TypeDesc.slice 109) ∧ Try.prog.info? 110 = some (inf 110) ∧ (inf 110).size = 1 ∧ (inf 110).bytes = 24 ∧ zeroRow (inf 110) = Option.some [V.nil] := ⟨by kernel_rfl,by kernel_rfl,by kernel_rfl,by kernel_rfl,by kernel_rfl⟩
theorem hr_18_0 : hints.keep 18 0 = some [2,3,4,6,7] ∧ hints.frz 18 0 = [] ∧ hints.soft 18 0 = [(6,some 2,4,none),(6,some 3,11,some (700001,39)),(7,some 11,1,none)] := ⟨rfl,rfl,rfl⟩
theorem hr_18_1 : hints.keep 18 1 = some [2,3,4,6,7,9] ∧ hints.frz 18 1 = [] ∧ hints.soft 18 1 = [] := ⟨rfl,rfl,rfl⟩
theorem hr_18_2 : hints.keep 18 2 = some [2,3,4,6,7,9,14] ∧ hints.frz 18 2 = [] ∧ hints.soft 18 2 = [] := ⟨rfl,rfl,rfl⟩
theorem hr_18_3 : hints.keep 18 3 = some [6,7,8] ∧ hints.frz 18 3 = [] ∧ hints.soft 18 3 = [(6,some 2,4,none),(6,some 3,11,some (700193,39)),(7,some 11,1,none)] := ⟨rfl,rfl,rfl⟩
theorem hr_18_4 : hints.keep 18 4 = some [2,3,4,6,7] ∧ hints.frz 18 4 = [] ∧ hints.soft 18 4 = [] := ⟨rfl,rfl,rfl⟩
theorem hr_18_5 : hints.keep 18 5 = some [3,6,7,10] ∧ hints.frz 18 5 = [3,10] ∧ hints.soft 18 5 = [] := ⟨rfl,rfl,rfl⟩
theorem hr_18_6 : hints.keep 18 6 = some [6,7,8] ∧ hints.frz 18 6 = [] ∧ hints.soft 18 6 = [] := ⟨rfl,rfl,rfl⟩
theorem hr_19_0 : hints.keep 19 0 = some [1] ∧ hints.frz 19 0 = [] ∧ hints.soft 19 0 = [] := ⟨rfl,rfl,rfl⟩
theorem hr_19_1 : hints.keep 19 1 = some [1,29] ∧ hints.frz 19 1 = [] ∧ hints.soft 19 1 = [] := ⟨rfl,rfl,rfl⟩
theorem hr_19_10 : hints.keep 19 10 = some [1,76,77,78,79] ∧ hints.frz 19 10 = [] ∧ hints.soft 19 10 = [] := ⟨rfl,rfl,rfl⟩
theorem hr_19_11 : hints.keep 19 11 = some [1,6,76,77,78] ∧ hints.frz 19 11 = [] ∧ hints.soft 19 11 = [] := ⟨rfl,rfl,rfl⟩
theorem hr_19_12 : hints.keep 19 12 = some [1,6,76,77,78,95] ∧ hints.frz 19 12 = [] ∧ hints.soft 19 12 = [] := ⟨rfl,rfl,rfl⟩
theorem hr_19_13 : hints.keep 19 13 = some [2] ∧ hints.frz 19 13 = [] ∧ hints.soft 19 13 = [] := ⟨rfl,rfl,rfl⟩
theorem hr_19_14 : hints.keep 19 14 = some [1,7,8,76,77,78] ∧ hints.frz 19 14 = [] ∧ hints.soft 19 14 = [] := ⟨rfl,rfl,rfl⟩
theorem hr_19_15 : hints.keep 19 15 = some [1,76,77,78,110] ∧ hints.frz 19 15 = [] ∧ hints.soft 19 15 = [] := ⟨rfl,rfl,rfl⟩
theorem hr_19_16 : hints.keep 19 16 = some [2] ∧ hints.frz 19 16 = [] ∧ hints.soft 19 16 = [] := ⟨rfl,rfl,rfl⟩
theorem hr_19_17 : hints.keep 19 17 = some [1,76,77,78] ∧ hints.frz 19 17 = [] ∧ hints.soft 19 17 = [] := ⟨rfl,rfl,rfl⟩
theorem hr_19_18 : hints.keep 19 18 = some [2] ∧ hints.frz 19 18 = [] ∧ hints.soft 19 18 = [] := ⟨rfl,rfl,rfl⟩
theorem hr_19_2 : hints.keep 19 2 = some [2] ∧ hints.frz 19 2 = [] ∧ hints.soft 19 2 = [] := ⟨rfl,rfl,rfl⟩
theorem hr_19_3 : hints.keep 19 3 = some [1,31,32,33] ∧ hints.frz 19 3 = [] ∧ hints.soft 19 3 = [] := ⟨rfl,rfl,rfl⟩
theorem hr_19_4 : hints.keep 19 4 = some [1,31,32,33,34] ∧ hints.frz 19 4 = [] ∧ hints.soft 19 4 = [] := ⟨rfl,rfl,rfl⟩
theorem hr_19_5 : hints.keep 19 5 = some [1,3,4,31,32,33] ∧ hints.frz 19 5 = [] ∧ hints.soft 19 5 = [] := ⟨rfl,rfl,rfl⟩
theorem hr_19_6 : hints.keep 19 6 = some [1,31,32,33,73] ∧ hints.frz 19 6 = [] ∧ hints.soft 19 6 = [] := ⟨rfl,rfl,rfl⟩
theorem hr_19_7 : hints.keep 19 7 = some [2] ∧ hints.frz 19 7 = [] ∧ hints.soft 19 7 = [] := ⟨rfl,rfl,rfl⟩
theorem hr_19_8 : hints.keep 19 8 = some [1,31,32,33] ∧ hints.frz 19 8 = [] ∧ hints.soft 19 8 = [] := ⟨rfl,rfl,rfl⟩
theorem hr_19_9 : hints.keep 19 9 = some [1,76,77,78] ∧ hints.frz 19 9 = [] ∧ hints.soft 19 9 = [] := ⟨rfl,rfl,rfl⟩
theorem hr_20_0 : hints.keep 20 0 = some [0,1] ∧ hints.frz 20 0 = [] ∧ hints.soft 20 0 = [] := ⟨rfl,rfl,rfl⟩
theorem hr_20_1 : hints.keep 20 1 = some [4] ∧ hints.frz 20 1 = [] ∧ hints.soft 20 1 = [] := ⟨rfl,rfl,rfl⟩
theorem hr_21_0 : hints.keep 21 0 = some [2,3] ∧ hints.frz 21 0 = [] ∧ hints.soft 21 0 = [] := ⟨rfl,rfl,rfl⟩
theorem hr_21_1 : hints.keep 21 1 = some [4] ∧ hints.frz 21 1 = [] ∧ hints.soft 21 1 = [] := ⟨rfl,rfl,rfl⟩
theorem hr_23_0 : hints.keep 23 0 = some [0,1,2] ∧ hints.frz 23 0 = [] ∧ hints.soft 23 0 = [] := ⟨rfl,rfl,rfl⟩
theorem hr_23_1 : hints.keep 23 1 = some [6] ∧ hints.frz 23 1 = [] ∧ hints.soft 23 1 = [] := ⟨rfl,rfl,rfl⟩
theorem hr_24_0 : hints.keep 24 0 = some [1] ∧ hints.frz 24 0 = [] ∧ hints.soft 24 0 = [] := ⟨rfl,rfl,rfl⟩
theorem hr_24_1 : hints.keep 24 1 = some [1,3] ∧ hints.frz 24 1 = [] ∧ hints.soft 24 1 = [] := ⟨rfl,rfl,rfl⟩
theorem hr_24_2 : hints.keep 24 2 = some [1,3] ∧ hints.frz 24 2 = [] ∧ hints.soft 24 2 = [] := ⟨rfl,rfl,rfl⟩
theorem hr_24_3 : hints.keep 24 3 = some [1,3] ∧ hints.frz 24 3 = [] ∧ hints.soft 24 3 = [] := ⟨rfl,rfl,rfl⟩
theorem hr_24_4 : hints.keep 24 4 = some [3] ∧ hints.frz 24 4 = [] ∧ hints.soft 24 4 = [] := ⟨rfl,rfl,rfl⟩
theorem hr_24_5 : hints.keep 24 5 = some [72] ∧ hints.frz 24 5 = [] ∧ hints.soft 24 5 = [] := ⟨rfl,rfl,rfl⟩
theorem hr_24_6 : hints.keep 24 6 = some [2] ∧ hints.frz 24 6 = [] ∧ hints.soft 24 6 = [] := ⟨rfl,rfl,rfl⟩
theorem hr_24_7 : hints.keep 24 7 = some [2] ∧ hints.frz 24 7 = [] ∧ hints.soft 24 7 = [] := ⟨rfl,rfl,rfl⟩
theorem hr_26_0 : hints.keep 26 0 = some [1,2] ∧ hints.frz 26 0 = [] ∧ hints.soft 26 0 = [(2,some 2,4,some (700000,65)),(2,some 3,11,some (700001,39))] := ⟨rfl,rfl,rfl⟩
theorem hr_26_1 : hints.keep 26 1 = some [1,2] ∧ hints.frz 26 1 = [] ∧ hints.soft 26 1 = [] := ⟨rfl,rfl,rfl⟩
theorem hr_26_10 : hints.keep 26 10 = some [2] ∧ hints.frz 26 10 = [] ∧ hints.soft 26 10 = [] := ⟨rfl,rfl,rfl⟩
theorem hr_26_2 : hints.keep 26 2 = some [1,2,3] ∧ hints.frz 26 2 = [] ∧ hints.soft 26 2 = [] := ⟨rfl,rfl,rfl⟩
theorem hr_26_3 : hints.keep 26 3 = some [1,2,3] ∧ hints.frz 26 3 = [] ∧ hints.soft 26 3 = [(1,some 3,11,some (700192,39))] := ⟨rfl,rfl,rfl⟩
theorem hr_26_4 : hints.keep 26 4 = some [1,2,13,14,15] ∧ hints.frz 26 4 = [] ∧ hints.soft 26 4 = [] := ⟨rfl,rfl,rfl⟩
theorem hr_26_5 : hints.keep 26 5 = some [1,2,13,14,15,16] ∧ hints.frz 26 5 = [] ∧ hints.soft 26 5 = [] := ⟨rfl,rfl,rfl⟩
theorem hr_26_6 : hints.keep 26 6 = some [1,2,5,13,14,15] ∧ hints.frz 26 6 = [] ∧ hints.soft 26 6 = [] := ⟨rfl,rfl,rfl⟩
theorem hr_26_7 : hints.keep 26 7 = some [1,2,5,13,14,15] ∧ hints.frz 26 7 = [] ∧ hints.soft 26 7 = [] := ⟨rfl,rfl,rfl⟩
theorem hr_26_8 : hints.keep 26 8 = some [1,2,13,14,15] ∧ hints.frz 26 8 = [] ∧ hints.soft 26 8 = [] := ⟨rfl,rfl,rfl⟩
theorem hr_26_9 : hints.keep 26 9 = some [1,2,13,14,15] ∧ hints.frz 26 9 = [] ∧ hints.soft 26 9 = [] := ⟨rfl,rfl,rfl⟩
theorem hr_32_0 : hints.keep 32 0 = some [0,2,4,6] ∧ hints.frz 32 0 = [] ∧ hints.soft 32 0 = [(6,some 11,1,some (700000,5))] := ⟨rfl,rfl,rfl⟩
theorem hr_32_1 : hints.keep 32 1 = some [0,2,4,6,7] ∧ hints.frz 32 1 = [] ∧ hints.soft 32 1 = [] := ⟨rfl,rfl,rfl⟩
theorem hr_32_10 : hints.keep 32 10 = some [0,4,6,7,44] ∧ hints.frz 32 10 = [] ∧ hints.soft 32 10 = [] := ⟨rfl,rfl,rfl⟩
theorem hr_32_11 : hints.keep 32 11 = some [6] ∧ hints.frz 32 11 = [] ∧ hints.soft 32 11 = [] := ⟨rfl,rfl,rfl⟩
theorem hr_32_12 : hints.keep 32 12 = some [0,4,6,7] ∧ hints.frz 32 12 = [] ∧ hints.soft 32 12 = [] := ⟨rfl,rfl,rfl⟩
theorem hr_32_13 : hints.keep 32 13 = some [0,4,6,7,71] ∧ hints.frz 32 13 = [] ∧ hints.soft 32 13 = [] := ⟨rfl,rfl,rfl⟩
theorem hr_32_14 : hints.keep 32 14 = some [4,6] ∧ hints.frz 32 14 = [] ∧ hints.soft 32 14 = [] := ⟨rfl,rfl,rfl⟩
theorem hr_32_15 : hints.keep 32 15 = some [4,6] ∧ hints.frz 32 15 = [] ∧ hints.soft 32 15 = [] := ⟨rfl,rfl,rfl⟩
theorem hr_32_16 : hints.keep 32 16 = some [6] ∧ hints.frz 32 16 = [] ∧ hints.soft 32 16 = [] := ⟨rfl,rfl,rfl⟩
theorem hr_32_17 : hints.keep 32 17 = some [0,4,6,7,82] ∧ hints.frz 32 17 = [4] ∧ hints.soft 32 17 = [] := ⟨rfl,rfl,rfl⟩
theorem hr_32_18 : hints.keep 32 18 = some [0,4,6,8] ∧ hints.frz 32 18 = [] ∧ hints.soft 32 18 = [] := ⟨rfl,rfl,rfl⟩
theorem hr_32_19 : hints.keep 32 19 = some [0,4,6] ∧ hints.frz 32 19 = [] ∧ hints.soft 32 19 = [] := ⟨rfl,rfl,rfl⟩
theorem hr_32_2 : hints.keep 32 2 = some [0,2,4,6,7,12] ∧ hints.frz 32 2 = [] ∧ hints.soft 32 2 = [] := ⟨rfl,rfl,rfl⟩
theorem hr_32_20 : hints.keep 32 20 = some [4,6] ∧ hints.frz 32 20 = [] ∧ hints.soft 32 20 = [] := ⟨rfl,rfl,rfl⟩
theorem hr_32_21 : hints.keep 32 21 = some [6] ∧ hints.frz 32 21 = [] ∧ hints.soft 32 21 = [] := ⟨rfl,rfl,rfl⟩
theorem hr_32_22 : hints.keep 32 22 = some [0,4,6,7,9] ∧ hints.frz 32 22 = [] ∧ hints.soft 32 22 = [] := ⟨rfl,rfl,rfl⟩
theorem hr_32_23 : hints.keep 32 23 = some [0,4,6,7,10,11] ∧ hints.frz 32 23 = [] ∧ hints.soft 32 23 = [] := ⟨rfl,rfl,rfl⟩
theorem hr_32_24 : hints.keep 32 24 = some [0,4,6,7,10,11,113] ∧ hints.frz 32 24 = [] ∧ hints.soft 32 24 = [] := ⟨rfl,rfl,rfl⟩
theorem hr_32_25 : hints.keep 32 25 = some [6] ∧ hints.frz 32 25 = [] ∧ hints.soft 32 25 = [] := ⟨rfl,rfl,rfl⟩
theorem hr_32_26 : hints.keep 32 26 = some [0,4,6,7,10,126] ∧ hints.frz 32 26 = [] ∧ hints.soft 32 26 = [] := ⟨rfl,rfl,rfl⟩
theorem hr_32_27 : hints.keep 32 27 = some [0,4,6,7] ∧ hints.frz 32 27 = [] ∧ hints.soft 32 27 = [] := ⟨rfl,rfl,rfl⟩
theorem hr_32_28 : hints.keep 32 28 = some [6,7] ∧ hints.frz 32 28 = [] ∧ hints.soft 32 28 = [] := ⟨rfl,rfl,rfl⟩
theorem hr_32_29 : hints.keep 32 29 = some [6] ∧ hints.frz 32 29 = [] ∧ hints.soft 32 29 = [] := ⟨rfl,rfl,rfl⟩
theorem hr_32_3 : hints.keep 32 3 = some [6] ∧ hints.frz 32 3 = [] ∧ hints.soft 32 3 = [] := ⟨rfl,rfl,rfl⟩
theorem hr_32_30 : hints.keep 32 30 = some [0,4,6,10] ∧ hints.frz 32 30 = [] ∧ hints.soft 32 30 = [] := ⟨rfl,rfl,rfl⟩
theorem hr_32_31 : hints.keep 32 31 = some [6,10] ∧ hints.frz 32 31 = [] ∧ hints.soft 32 31 = [] := ⟨rfl,rfl,rfl⟩
theorem hr_32_32 : hints.keep 32 32 = some [6] ∧ hints.frz 32 32 = [] ∧ hints.soft 32 32 = [] := ⟨rfl,rfl,rfl⟩
theorem hr_32_4 : hints.keep 32 4 = some [0,4,6,7,18] ∧ hints.frz 32 4 = [] ∧ hints.soft 32 4 = [] := ⟨rfl,rfl,rfl⟩
theorem hr_32_5 : hints.keep 32 5 = some [6] ∧ hints.frz 32 5 = [] ∧ hints.soft 32 5 = [] := ⟨rfl,rfl,rfl⟩
theorem hr_32_6 : hints.keep 32 6 = some [0,4,6,7,24] ∧ hints.frz 32 6 = [] ∧ hints.soft 32 6 = [] := ⟨rfl,rfl,rfl⟩
theorem hr_32_7 : hints.keep 32 7 = some [6] ∧ hints.frz 32 7 = [] ∧ hints.soft 32 7 = [] := ⟨rfl,rfl,rfl⟩
theorem hr_32_8 : hints.keep 32 8 = some [0,4,6,7,34] ∧ hints.frz 32 8 = [] ∧ hints.soft 32 8 = [] := ⟨rfl,rfl,rfl⟩
theorem hr_32_9 : hints.keep 32 9 = some [6] ∧ hints.frz 32 9 = [] ∧ hints.soft 32 9 = [] := ⟨rfl,rfl,rfl⟩
theorem hr_33_0 : hints.keep 33 0 = some [0,3] ∧ hints.frz 33 0 = [] ∧ hints.soft 33 0 = [] := ⟨rfl,rfl,rfl⟩
theorem hr_33_1 : hints.keep 33 1 = some [0,3,7,8] ∧ hints.frz 33 1 = [] ∧ hints.soft 33 1 = [] := ⟨rfl,rfl,rfl⟩
theorem hr_33_2 : hints.keep 33 2 = some [0,3,7,8,9] ∧ hints.frz 33 2 = [] ∧ hints.soft 33 2 = [] := ⟨rfl,rfl,rfl⟩
theorem hr_33_3 : hints.keep 33 3 = some [0,3,5,7,8] ∧ hints.frz 33 3 = [] ∧ hints.soft 33 3 = [] := ⟨rfl,rfl,rfl⟩
theorem hr_33_4 : hints.keep 33 4 = some [0,3,5,7,8,16] ∧ hints.frz 33 4 = [] ∧ hints.soft 33 4 = [] := ⟨rfl,rfl,rfl⟩
theorem hr_33_5 : hints.keep 33 5 = some [4] ∧ hints.frz 33 5 = [] ∧ hints.soft 33 5 = [] := ⟨rfl,rfl,rfl⟩
theorem hr_33_6 : hints.keep 33 6 = some [0,3,7,8] ∧ hints.frz 33 6 = [] ∧ hints.soft 33 6 = [] := ⟨rfl,rfl,rfl⟩
theorem hr_33_7 : hints.keep 33 7 = some [4] ∧ hints.frz 33 7 = [] ∧ hints.soft 33 7 = [] := ⟨rfl,rfl,rfl⟩
theorem hr_34_0 : hints.keep 34 0 = some [1] ∧ hints.frz 34 0 = [] ∧ hints.soft 34 0 = [] := ⟨rfl,rfl,rfl⟩
theorem hr_34_1 : hints.keep 34 1 = some [2] ∧ hints.frz 34 1 = [] ∧ hints.soft 34 1 = [] := ⟨rfl,rfl,rfl⟩
theorem hr_35_0 : hints.keep 35 0 = some [0] ∧ hints.frz 35 0 = [] ∧ hints.soft 35 0 = [] := ⟨rfl,rfl,rfl⟩
theorem hr_35_1 : hints.keep 35 1 = some [4,6] ∧ hints.frz 35 1 = [] ∧ hints.soft 35 1 = [] := ⟨rfl,rfl,rfl⟩
theorem hr_35_2 : hints.keep 35 2 = some [2,3] ∧ hints.frz 35 2 = [] ∧ hints.soft 35 2 = [] := ⟨rfl,rfl,rfl⟩
theorem hr_36_0 : hints.keep 36 0 = some [2,3] ∧ hints.frz 36 0 = [] ∧ hints.soft 36 0 = [] := ⟨rfl,rfl,rfl⟩
theorem hr_36_1 : hints.keep 36 1 = some [2,3,5] ∧ hints.frz 36 1 = [] ∧ hints.soft 36 1 = [(5,none,11,some (700064,39))] := ⟨rfl,rfl,rfl⟩
theorem hr_36_2 : hints.keep 36 2 = some [3,5,9,10,11] ∧ hints.frz 36 2 = [] ∧ hints.soft 36 2 = [] := ⟨rfl,rfl,rfl⟩
theorem hr_36_3 : hints.keep 36 3 = some [3,5,9,10,11,12] ∧ hints.frz 36 3 = [] ∧ hints.soft 36 3 = [] := ⟨rfl,rfl,rfl⟩
theorem hr_36_4 : hints.keep 36 4 = some [3,5,7,9,10,11] ∧ hints.frz 36 4 = [] ∧ hints.soft 36 4 = [] := ⟨rfl,rfl,rfl⟩
theorem hr_36_5 : hints.keep 36 5 = some [3,5,7,9,10,11,18] ∧ hints.frz 36 5 = [] ∧ hints.soft 36 5 = [] := ⟨rfl,rfl,rfl⟩
theorem hr_36_6 : hints.keep 36 6 = some [3,5,9,10,11] ∧ hints.frz 36 6 = [] ∧ hints.soft 36 6 = [] := ⟨rfl,rfl,rfl⟩
theorem hr_36_7 : hints.keep 36 7 = some [3,5,9,10,11] ∧ hints.frz 36 7 = [] ∧ hints.soft 36 7 = [] := ⟨rfl,rfl,rfl⟩
theorem hr_36_8 : hints.keep 36 8 = some [4] ∧ hints.frz 36 8 = [] ∧ hints.soft 36 8 = [] := ⟨rfl,rfl,rfl⟩
theorem hr_37_0 : hints.keep 37 0 = some [1,2] ∧ hints.frz 37 0 = [] ∧ hints.soft 37 0 = [] := ⟨rfl,rfl,rfl⟩
theorem hr_37_1 : hints.keep 37 1 = some [2] ∧ hints.frz 37 1 = [] ∧ hints.soft 37 1 = [] := ⟨rfl,rfl,rfl⟩
theorem hr_38_0 : hints.keep 38 0 = some [0,1] ∧ hints.frz 38 0 = [] ∧ hints.soft 38 0 = [] := ⟨rfl,rfl,rfl⟩
theorem hr_38_1 : hints.keep 38 1 = some [0,1,10] ∧ hints.frz 38 1 = [] ∧ hints.soft 38 1 = [] := ⟨rfl,rfl,rfl⟩
theorem hr_38_2 : hints.keep 38 2 = some [4] ∧ hints.frz 38 2 = [] ∧ hints.soft 38 2 = [] := ⟨rfl,rfl,rfl⟩
theorem hr_38_3 : hints.keep 38 3 = some [0,1,12,13] ∧ hints.frz 38 3 = [] ∧ hints.soft 38 3 = [] := ⟨rfl,rfl,rfl⟩
theorem hr_38_4 : hints.keep 38 4 = some [0,1,12,13,14] ∧ hints.frz 38 4 = [] ∧ hints.soft 38 4 = [] := ⟨rfl,rfl,rfl⟩
theorem hr_38_5 : hints.keep 38 5 = some [0,1,5,12,13] ∧ hints.frz 38 5 = [] ∧ hints.soft 38 5 = [] := ⟨rfl,rfl,rfl⟩
theorem hr_38_6 : hints.keep 38 6 = some [0,1,12,13,24] ∧ hints.frz 38 6 = [] ∧ hints.soft 38 6 = [] := ⟨rfl,rfl,rfl⟩
theorem hr_38_7 : hints.keep 38 7 = some [4] ∧ hints.frz 38 7 = [] ∧ hints.soft 38 7 = [] := ⟨rfl,rfl,rfl⟩
theorem hr_38_8 : hints.keep 38 8 = some [0,1,12,13] ∧ hints.frz 38 8 = [] ∧ hints.soft 38 8 = [] := ⟨rfl,rfl,rfl⟩
theorem hr_38_9 : hints.keep 38 9 = some [4] ∧ hints.frz 38 9 = [] ∧ hints.soft 38 9 = [] := ⟨rfl,rfl,rfl⟩
theorem hr_39_0 : hints.keep 39 0 = some [0,1] ∧ hints.frz 39 0 = [] ∧ hints.soft 39 0 = [] := ⟨rfl,rfl,rfl⟩
theorem hr_39_1 : hints.keep 39 1 = some [0,1,10] ∧ hints.frz 39 1 = [] ∧ hints.soft 39 1 = [] := ⟨rfl,rfl,rfl⟩
theorem hr_39_2 : hints.keep 39 2 = some [4] ∧ hints.frz 39 2 = [] ∧ hints.soft 39 2 = [] := ⟨rfl,rfl,rfl⟩
theorem hr_39_3 : hints.keep 39 3 = some [0,1,12,13] ∧ hints.frz 39 3 = [] ∧ hints.soft 39 3 = [] := ⟨rfl,rfl,rfl⟩
theorem hr_39_4 : hints.keep 39 4 = some [0,1,12,13,14] ∧ hints.frz 39 4 = [] ∧ hints.soft 39 4 = [] := ⟨rfl,rfl,rfl⟩
theorem hr_39_5 : hints.keep 39 5 = some [0,1,5,12,13] ∧ hints.frz 39 5 = [] ∧ hints.soft 39 5 = [] := ⟨rfl,rfl,rfl⟩
theorem hr_39_6 : hints.keep 39 6 = some [0,1,12,13,24] ∧ hints.frz 39 6 = [] ∧ hints.soft 39 6 = [] := ⟨rfl,rfl,rfl⟩
theorem hr_39_7 : hints.keep 39 7 = some [4] ∧ hints.frz 39 7 = [] ∧ hints.soft 39 7 = [] := ⟨rfl,rfl,rfl⟩
theorem hr_39_8 : hints.keep 39 8 = some [0,1,12,13] ∧ hints.frz 39 8 = [] ∧ hints.soft 39 8 = [] := ⟨rfl,rfl,rfl⟩
theorem hr_39_9 : hints.keep 39 9 = some [4] ∧ hints.frz 39 9 = [] ∧ hints.soft 39 9 = [] := ⟨rfl,rfl,rfl⟩
theorem hr_40_0 : hints.keep 40 0 = some [0,1,2] ∧ hints.frz 40 0 = [] ∧ hints.soft 40 0 = [] := ⟨rfl,rfl,rfl⟩
theorem hr_40_1 : hints.keep 40 1 = some [0,1,2,14] ∧ hints.frz 40 1 = [] ∧ hints.soft 40 1 = [] := ⟨rfl,rfl,rfl⟩
theorem hr_40_10 : hints.keep 40 10 = some [6] ∧ hints.frz 40 10 = [] ∧ hints.soft 40 10 = [] := ⟨rfl,rfl,rfl⟩
theorem hr_40_2 : hints.keep 40 2 = some [6] ∧ hints.frz 40 2 = [] ∧ hints.soft 40 2 = [] := ⟨rfl,rfl,rfl⟩
theorem hr_40_3 : hints.keep 40 3 = some [1,2,15,16,17] ∧ hints.frz 40 3 = [] ∧ hints.soft 40 3 = [] := ⟨rfl,rfl,rfl⟩
theorem hr_40_4 : hints.keep 40 4 = some [1,2,15,16,17,18] ∧ hints.frz 40 4 = [] ∧ hints.soft 40 4 = [] := ⟨rfl,rfl,rfl⟩
theorem hr_40_5 : hints.keep 40 5 = some [1,2,7,8,15,16,17] ∧ hints.frz 40 5 = [] ∧ hints.soft 40 5 = [] := ⟨rfl,rfl,rfl⟩
theorem hr_40_6 : hints.keep 40 6 = some [1,2,8,9,15,16,17] ∧ hints.frz 40 6 = [] ∧ hints.soft 40 6 = [] := ⟨rfl,rfl,rfl⟩
theorem hr_40_7 : hints.keep 40 7 = some [1,2,15,16,17,30] ∧ hints.frz 40 7 = [] ∧ hints.soft 40 7 = [] := ⟨rfl,rfl,rfl⟩
theorem hr_40_8 : hints.keep 40 8 = some [6] ∧ hints.frz 40 8 = [] ∧ hints.soft 40 8 = [] := ⟨rfl,rfl,rfl⟩
theorem hr_40_9 : hints.keep 40 9 = some [1,2,15,16,17] ∧ hints.frz 40 9 = [] ∧ hints.soft 40 9 = [] := ⟨rfl,rfl,rfl⟩
theorem hr_41_0 : hints.keep 41 0 = some [2,3] ∧ hints.frz 41 0 = [] ∧ hints.soft 41 0 = [] := ⟨rfl,rfl,rfl⟩
theorem hr_41_1 : hints.keep 41 1 = some [2,3,5,6] ∧ hints.frz 41 1 = [] ∧ hints.soft 41 1 = [] := ⟨rfl,rfl,rfl⟩
theorem hr_41_2 : hints.keep 41 2 = some [2,3,5,6] ∧ hints.frz 41 2 = [] ∧ hints.soft 41 2 = [(5,some 10,1,none),(6,some 10,1,none)] := ⟨rfl,rfl,rfl⟩
theorem hr_41_3 : hints.keep 41 3 = some [4] ∧ hints.frz 41 3 = [] ∧ hints.soft 41 3 = [] := ⟨rfl,rfl,rfl⟩
theorem hr_42_0 : hints.keep 42 0 = some [0,1] ∧ hints.frz 42 0 = [] ∧ hints.soft 42 0 = [] := ⟨rfl,rfl,rfl⟩
theorem hr_42_1 : hints.keep 42 1 = some [0,1,5] ∧ hints.frz 42 1 = [] ∧ hints.soft 42 1 = [] := ⟨rfl,rfl,rfl⟩
theorem hr_42_10 : hints.keep 42 10 = some [0,1,5,6] ∧ hints.frz 42 10 = [] ∧ hints.soft 42 10 = [] := ⟨rfl,rfl,rfl⟩
theorem hr_42_11 : hints.keep 42 11 = some [0,5] ∧ hints.frz 42 11 = [] ∧ hints.soft 42 11 = [] := ⟨rfl,rfl,rfl⟩
theorem hr_42_12 : hints.keep 42 12 = some [4] ∧ hints.frz 42 12 = [] ∧ hints.soft 42 12 = [] := ⟨rfl,rfl,rfl⟩
theorem hr_42_2 : hints.keep 42 2 = some [0,1,5,12] ∧ hints.frz 42 2 = [] ∧ hints.soft 42 2 = [] := ⟨rfl,rfl,rfl⟩
theorem hr_42_3 : hints.keep 42 3 = some [4] ∧ hints.frz 42 3 = [] ∧ hints.soft 42 3 = [] := ⟨rfl,rfl,rfl⟩
theorem hr_42_4 : hints.keep 42 4 = some [0,1,5,6] ∧ hints.frz 42 4 = [] ∧ hints.soft 42 4 = [] := ⟨rfl,rfl,rfl⟩
theorem hr_42_5 : hints.keep 42 5 = some [0,1,5,6,19] ∧ hints.frz 42 5 = [] ∧ hints.soft 42 5 = [] := ⟨rfl,rfl,rfl⟩
theorem hr_42_6 : hints.keep 42 6 = some [0,1,5,6] ∧ hints.frz 42 6 = [] ∧ hints.soft 42 6 = [] := ⟨rfl,rfl,rfl⟩
theorem hr_42_7 : hints.keep 42 7 = some [0,1,5,6,7] ∧ hints.frz 42 7 = [] ∧ hints.soft 42 7 = [] := ⟨rfl,rfl,rfl⟩
theorem hr_42_8 : hints.keep 42 8 = some [0,1,5,6,7,29] ∧ hints.frz 42 8 = [] ∧ hints.soft 42 8 = [] := ⟨rfl,rfl,rfl⟩
theorem hr_42_9 : hints.keep 42 9 = some [0,1,5,6] ∧ hints.frz 42 9 = [] ∧ hints.soft 42 9 = [] := ⟨rfl,rfl,rfl⟩
theorem hr_44_0 : hints.keep 44 0 = some [1,2] ∧ hints.frz 44 0 = [] ∧ hints.soft 44 0 = [] := ⟨rfl,rfl,rfl⟩
theorem hr_44_1 : hints.keep 44 1 = some [4] ∧ hints.frz 44 1 = [] ∧ hints.soft 44 1 = [] := ⟨rfl,rfl,rfl⟩
theorem hr_45_0 : hints.keep 45 0 = some [0,1,2] ∧ hints.frz 45 0 = [] ∧ hints.soft 45 0 = [] := ⟨rfl,rfl,rfl⟩
theorem hr_45_1 : hints.keep 45 1 = some [6] ∧ hints.frz 45 1 = [] ∧ hints.soft 45 1 = [] := ⟨rfl,rfl,rfl⟩
theorem hr_5_0 : hints.keep 5 0 = some [2,3,4] ∧ hints.frz 5 0 = [] ∧ hints.soft 5 0 = [] := ⟨rfl,rfl,rfl⟩
theorem hr_5_1 : hints.keep 5 1 = some [2,3,4,14] ∧ hints.frz 5 1 = [] ∧ hints.soft 5 1 = [] := ⟨rfl,rfl,rfl⟩
theorem hr_5_10 : hints.keep 5 10 = some [2,3,4,7,8,73] ∧ hints.frz 5 10 = [] ∧ hints.soft 5 10 = [] := ⟨rfl,rfl,rfl⟩
theorem hr_5_11 : hints.keep 5 11 = some [6] ∧ hints.frz 5 11 = [] ∧ hints.soft 5 11 = [] := ⟨rfl,rfl,rfl⟩
theorem hr_5_12 : hints.keep 5 12 = some [3,7,8,11,12] ∧ hints.frz 5 12 = [] ∧ hints.soft 5 12 = [] := ⟨rfl,rfl,rfl⟩
theorem hr_5_13 : hints.keep 5 13 = some [3,7,8,11,12,94] ∧ hints.frz 5 13 = [] ∧ hints.soft 5 13 = [] := ⟨rfl,rfl,rfl⟩
theorem hr_5_14 : hints.keep 5 14 = some [6] ∧ hints.frz 5 14 = [] ∧ hints.soft 5 14 = [] := ⟨rfl,rfl,rfl⟩
theorem hr_5_15 : hints.keep 5 15 = some [6] ∧ hints.frz 5 15 = [] ∧ hints.soft 5 15 = [] := ⟨rfl,rfl,rfl⟩
theorem hr_5_2 : hints.keep 5 2 = some [6] ∧ hints.frz 5 2 = [] ∧ hints.soft 5 2 = [] := ⟨rfl,rfl,rfl⟩
theorem hr_5_3 : hints.keep 5 3 = some [2,3,4,18] ∧ hints.frz 5 3 = [] ∧ hints.soft 5 3 = [] := ⟨rfl,rfl,rfl⟩
theorem hr_5_4 : hints.keep 5 4 = some [6] ∧ hints.frz 5 4 = [] ∧ hints.soft 5 4 = [] := ⟨rfl,rfl,rfl⟩
theorem hr_5_5 : hints.keep 5 5 = some [2,3,4,7,8,9] ∧ hints.frz 5 5 = [] ∧ hints.soft 5 5 = [] := ⟨rfl,rfl,rfl⟩
theorem hr_5_6 : hints.keep 5 6 = some [2,3,4,7,8,28] ∧ hints.frz 5 6 = [] ∧ hints.soft 5 6 = [] := ⟨rfl,rfl,rfl⟩
theorem hr_5_7 : hints.keep 5 7 = some [6] ∧ hints.frz 5 7 = [] ∧ hints.soft 5 7 = [] := ⟨rfl,rfl,rfl⟩
theorem hr_5_8 : hints.keep 5 8 = some [2,3,4,7,8,44] ∧ hints.frz 5 8 = [] ∧ hints.soft 5 8 = [] := ⟨rfl,rfl,rfl⟩
theorem hr_5_9 : hints.keep 5 9 = some [6] ∧ hints.frz 5 9 = [] ∧ hints.soft 5 9 = [] := ⟨rfl,rfl,rfl⟩
theorem hr_51_0 : hints.keep 51 0 = some [0,2] ∧ hints.frz 51 0 = [] ∧ hints.soft 51 0 = [(2,some 11,1,none)] := ⟨rfl,rfl,rfl⟩
theorem hr_51_1 : hints.keep 51 1 = some [2] ∧ hints.frz 51 1 = [] ∧ hints.soft 51 1 = [(2,some 11,1,none)] := ⟨rfl,rfl,rfl⟩
theorem hr_52_0 : hints.keep 52 0 = some [0,3] ∧ hints.frz 52 0 = [] ∧ hints.soft 52 0 = [] := ⟨rfl,rfl,rfl⟩
theorem hr_52_1 : hints.keep 52 1 = some [4] ∧ hints.frz 52 1 = [] ∧ hints.soft 52 1 = [] := ⟨rfl,rfl,rfl⟩
theorem hr_53_0 : hints.keep 53 0 = some [1,2] ∧ hints.frz 53 0 = [] ∧ hints.soft 53 0 = [] := ⟨rfl,rfl,rfl⟩
theorem hr_53_1 : hints.keep 53 1 = some [2] ∧ hints.frz 53 1 = [] ∧ hints.soft 53 1 = [] := ⟨rfl,rfl,rfl⟩
theorem hr_54_0 : hints.keep 54 0 = some [0,3] ∧ hints.frz 54 0 = [] ∧ hints.soft 54 0 = [] := ⟨rfl,rfl,rfl⟩
theorem hr_54_1 : hints.keep 54 1 = some [0] ∧ hints.frz 54 1 = [] ∧ hints.soft 54 1 = [] := ⟨rfl,rfl,rfl⟩
theorem hr_54_2 : hints.keep 54 2 = some [0,4] ∧ hints.frz 54 2 = [] ∧ hints.soft 54 2 = [] := ⟨rfl,rfl,rfl⟩
theorem hr_54_3 : hints.keep 54 3 = some [0,4,23] ∧ hints.frz 54 3 = [] ∧ hints.soft 54 3 = [] := ⟨rfl,rfl,rfl⟩
theorem hr_54_4 : hints.keep 54 4 = some [] ∧ hints.frz 54 4 = [] ∧ hints.soft 54 4 = [] := ⟨rfl,rfl,rfl⟩
theorem hr_55_0 : hints.keep 55 0 = some [1,2] ∧ hints.frz 55 0 = [] ∧ hints.soft 55 0 = [] := ⟨rfl,rfl,rfl⟩
theorem hr_55_1 : hints.keep 55 1 = some [3] ∧ hints.frz 55 1 = [] ∧ hints.soft 55 1 = [] := ⟨rfl,rfl,rfl⟩
theorem hr_56_0 : hints.keep 56 0 = some [0,2] ∧ hints.frz 56 0 = [] ∧ hints.soft 56 0 = [(2,some 10,1,none)] := ⟨rfl,rfl,rfl⟩
theorem hr_56_1 : hints.keep 56 1 = some [0,2,4,5,6] ∧ hints.frz 56 1 = [] ∧ hints.soft 56 1 = [] := ⟨rfl,rfl,rfl⟩
theorem hr_56_10 : hints.keep 56 10 = some [2,7,9,33,34,35] ∧ hints.frz 56 10 = [] ∧ hints.soft 56 10 = [] := ⟨rfl,rfl,rfl⟩
theorem hr_56_11 : hints.keep 56 11 = some [2,7,33,34,35] ∧ hints.frz 56 11 = [] ∧ hints.soft 56 11 = [] := ⟨rfl,rfl,rfl⟩
theorem hr_56_12 : hints.keep 56 12 = some [2,7,33,34,35] ∧ hints.frz 56 12 = [] ∧ hints.soft 56 12 = [] := ⟨rfl,rfl,rfl⟩
theorem hr_56_13 : hints.keep 56 13 = some [2,3] ∧ hints.frz 56 13 = [] ∧ hints.soft 56 13 = [] := ⟨rfl,rfl,rfl⟩
theorem hr_56_2 : hints.keep 56 2 = some [0,2,4,5,6,16] ∧ hints.frz 56 2 = [] ∧ hints.soft 56 2 = [] := ⟨rfl,rfl,rfl⟩
theorem hr_56_3 : hints.keep 56 3 = some [2,3] ∧ hints.frz 56 3 = [] ∧ hints.soft 56 3 = [(2,some 10,1,none)] := ⟨rfl,rfl,rfl⟩
theorem hr_56_4 : hints.keep 56 4 = some [0,2,5,21] ∧ hints.frz 56 4 = [] ∧ hints.soft 56 4 = [] := ⟨rfl,rfl,rfl⟩
theorem hr_56_5 : hints.keep 56 5 = some [2,3] ∧ hints.frz 56 5 = [] ∧ hints.soft 56 5 = [(2,some 10,1,none)] := ⟨rfl,rfl,rfl⟩
theorem hr_56_6 : hints.keep 56 6 = some [0,2,5,7] ∧ hints.frz 56 6 = [] ∧ hints.soft 56 6 = [] := ⟨rfl,rfl,rfl⟩
theorem hr_56_7 : hints.keep 56 7 = some [0,2,7] ∧ hints.frz 56 7 = [] ∧ hints.soft 56 7 = [] := ⟨rfl,rfl,rfl⟩
theorem hr_56_8 : hints.keep 56 8 = some [2,7,33,34,35] ∧ hints.frz 56 8 = [] ∧ hints.soft 56 8 = [] := ⟨rfl,rfl,rfl⟩
theorem hr_56_9 : hints.keep 56 9 = some [2,7,33,34,35,36] ∧ hints.frz 56 9 = [] ∧ hints.soft 56 9 = [] := ⟨rfl,rfl,rfl⟩
theorem hr_57_0 : hints.keep 57 0 = some [1,2] ∧ hints.frz 57 0 = [] ∧ hints.soft 57 0 = [] := ⟨rfl,rfl,rfl⟩
theorem hr_57_1 : hints.keep 57 1 = some [3] ∧ hints.frz 57 1 = [] ∧ hints.soft 57 1 = [] := ⟨rfl,rfl,rfl⟩
theorem hr_58_0 : hints.keep 58 0 = some [0] ∧ hints.frz 58 0 = [] ∧ hints.soft 58 0 = [] := ⟨rfl,rfl,rfl⟩
theorem hr_58_1 : hints.keep 58 1 = some [0,14,15,16] ∧ hints.frz 58 1 = [] ∧ hints.soft 58 1 = [] := ⟨rfl,rfl,rfl⟩
theorem hr_58_10 : hints.keep 58 10 = some [0,14,15,16] ∧ hints.frz 58 10 = [] ∧ hints.soft 58 10 = [] := ⟨rfl,rfl,rfl⟩
theorem hr_58_11 : hints.keep 58 11 = some [0,38] ∧ hints.frz 58 11 = [] ∧ hints.soft 58 11 = [] := ⟨rfl,rfl,rfl⟩
theorem hr_58_12 : hints.keep 58 12 = some [2,3,4] ∧ hints.frz 58 12 = [] ∧ hints.soft 58 12 = [(2,none,1,none),(3,none,1,none)] := ⟨rfl,rfl,rfl⟩
theorem hr_58_13 : hints.keep 58 13 = some [0,9,10] ∧ hints.frz 58 13 = [] ∧ hints.soft 58 13 = [] := ⟨rfl,rfl,rfl⟩
theorem hr_58_14 : hints.keep 58 14 = some [9,10,49,50,51] ∧ hints.frz 58 14 = [] ∧ hints.soft 58 14 = [] := ⟨rfl,rfl,rfl⟩
theorem hr_58_15 : hints.keep 58 15 = some [9,10,49,50,51,52] ∧ hints.frz 58 15 = [] ∧ hints.soft 58 15 = [] := ⟨rfl,rfl,rfl⟩
theorem hr_58_16 : hints.keep 58 16 = some [9,10,12,49,50,51] ∧ hints.frz 58 16 = [] ∧ hints.soft 58 16 = [] := ⟨rfl,rfl,rfl⟩
theorem hr_58_17 : hints.keep 58 17 = some [9,10,12,49,50,51] ∧ hints.frz 58 17 = [] ∧ hints.soft 58 17 = [] := ⟨rfl,rfl,rfl⟩
theorem hr_58_18 : hints.keep 58 18 = some [9,10,12,49,50,51,64,65] ∧ hints.frz 58 18 = [] ∧ hints.soft 58 18 = [] := ⟨rfl,rfl,rfl⟩
theorem hr_58_19 : hints.keep 58 19 = some [9,10,12,49,50,51,64,65,66] ∧ hints.frz 58 19 = [] ∧ hints.soft 58 19 = [] := ⟨rfl,rfl,rfl⟩
theorem hr_58_2 : hints.keep 58 2 = some [0,14,15,16,17] ∧ hints.frz 58 2 = [] ∧ hints.soft 58 2 = [] := ⟨rfl,rfl,rfl⟩
theorem hr_58_20 : hints.keep 58 20 = some [9,10,12,13,49,50,51,64,65] ∧ hints.frz 58 20 = [] ∧ hints.soft 58 20 = [] := ⟨rfl,rfl,rfl⟩
theorem hr_58_21 : hints.keep 58 21 = some [9,10,12,49,50,51,64,65] ∧ hints.frz 58 21 = [] ∧ hints.soft 58 21 = [] := ⟨rfl,rfl,rfl⟩
theorem hr_58_22 : hints.keep 58 22 = some [9,10,12,49,50,51,64,65] ∧ hints.frz 58 22 = [] ∧ hints.soft 58 22 = [] := ⟨rfl,rfl,rfl⟩
theorem hr_58_23 : hints.keep 58 23 = some [9,10,49,50,51] ∧ hints.frz 58 23 = [] ∧ hints.soft 58 23 = [] := ⟨rfl,rfl,rfl⟩
theorem hr_58_24 : hints.keep 58 24 = some [2,3,4] ∧ hints.frz 58 24 = [] ∧ hints.soft 58 24 = [] := ⟨rfl,rfl,rfl⟩
theorem hr_58_3 : hints.keep 58 3 = some [0,5,6,14,15,16] ∧ hints.frz 58 3 = [] ∧ hints.soft 58 3 = [] := ⟨rfl,rfl,rfl⟩
theorem hr_58_4 : hints.keep 58 4 = some [0,6,14,15,16,24,25,26] ∧ hints.frz 58 4 = [] ∧ hints.soft 58 4 = [] := ⟨rfl,rfl,rfl⟩
theorem hr_58_5 : hints.keep 58 5 = some [0,6,14,15,16,24,25,26,27] ∧ hints.frz 58 5 = [] ∧ hints.soft 58 5 = [] := ⟨rfl,rfl,rfl⟩
theorem hr_58_6 : hints.keep 58 6 = some [0,6,8,14,15,16,24,25,26] ∧ hints.frz 58 6 = [] ∧ hints.soft 58 6 = [] := ⟨rfl,rfl,rfl⟩
theorem hr_58_7 : hints.keep 58 7 = some [0,6,14,15,16,24,25,26,33] ∧ hints.frz 58 7 = [] ∧ hints.soft 58 7 = [] := ⟨rfl,rfl,rfl⟩
theorem hr_58_8 : hints.keep 58 8 = some [2,3,4] ∧ hints.frz 58 8 = [] ∧ hints.soft 58 8 = [(2,none,1,none),(3,none,1,none)] := ⟨rfl,rfl,rfl⟩
theorem hr_58_9 : hints.keep 58 9 = some [0,6,14,15,16,24,25,26] ∧ hints.frz 58 9 = [] ∧ hints.soft 58 9 = [] := ⟨rfl,rfl,rfl⟩
theorem hr_59_0 : hints.keep 59 0 = some [0] ∧ hints.frz 59 0 = [] ∧ hints.soft 59 0 = [] := ⟨rfl,rfl,rfl⟩
theorem hr_59_1 : hints.keep 59 1 = some [0,3] ∧ hints.frz 59 1 = [] ∧ hints.soft 59 1 = [(3,none,2,some (700064,104))] := ⟨rfl,rfl,rfl⟩
theorem hr_59_10 : hints.keep 59 10 = some [0,3,4] ∧ hints.frz 59 10 = [] ∧ hints.soft 59 10 = [] := ⟨rfl,rfl,rfl⟩
theorem hr_59_11 : hints.keep 59 11 = some [2] ∧ hints.frz 59 11 = [] ∧ hints.soft 59 11 = [] := ⟨rfl,rfl,rfl⟩
theorem hr_59_2 : hints.keep 59 2 = some [0,3,4] ∧ hints.frz 59 2 = [] ∧ hints.soft 59 2 = [] := ⟨rfl,rfl,rfl⟩
theorem hr_59_3 : hints.keep 59 3 = some [0,3,4,15] ∧ hints.frz 59 3 = [] ∧ hints.soft 59 3 = [] := ⟨rfl,rfl,rfl⟩
theorem hr_59_4 : hints.keep 59 4 = some [0,3,4] ∧ hints.frz 59 4 = [] ∧ hints.soft 59 4 = [] := ⟨rfl,rfl,rfl⟩
theorem hr_59_5 : hints.keep 59 5 = some [0,3,4,21] ∧ hints.frz 59 5 = [] ∧ hints.soft 59 5 = [] := ⟨rfl,rfl,rfl⟩
theorem hr_59_6 : hints.keep 59 6 = some [0,3,4,5] ∧ hints.frz 59 6 = [] ∧ hints.soft 59 6 = [] := ⟨rfl,rfl,rfl⟩
theorem hr_59_7 : hints.keep 59 7 = some [0,3,4,5,34] ∧ hints.frz 59 7 = [] ∧ hints.soft 59 7 = [] := ⟨rfl,rfl,rfl⟩
theorem hr_59_8 : hints.keep 59 8 = some [0,3,4,5] ∧ hints.frz 59 8 = [] ∧ hints.soft 59 8 = [] := ⟨rfl,rfl,rfl⟩
theorem hr_59_9 : hints.keep 59 9 = some [0,3,4,5] ∧ hints.frz 59 9 = [] ∧ hints.soft 59 9 = [] := ⟨rfl,rfl,rfl⟩
theorem hr_60_0 : hints.keep 60 0 = some [2,3] ∧ hints.frz 60 0 = [] ∧ hints.soft 60 0 = [] := ⟨rfl,rfl,rfl⟩
theorem hr_60_1 : hints.keep 60 1 = some [2,3,5] ∧ hints.frz 60 1 = [] ∧ hints.soft 60 1 = [] := ⟨rfl,rfl,rfl⟩
theorem hr_60_2 : hints.keep 60 2 = some [4] ∧ hints.frz 60 2 = [] ∧ hints.soft 60 2 = [] := ⟨rfl,rfl,rfl⟩
theorem hr_61_0 : hints.keep 61 0 = some [0,1] ∧ hints.frz 61 0 = [] ∧ hints.soft 61 0 = [] := ⟨rfl,rfl,rfl⟩
theorem hr_61_1 : hints.keep 61 1 = some [0,1,7,8] ∧ hints.frz 61 1 = [] ∧ hints.soft 61 1 = [] := ⟨rfl,rfl,rfl⟩
theorem hr_61_2 : hints.keep 61 2 = some [0,1,7,8,9] ∧ hints.frz 61 2 = [] ∧ hints.soft 61 2 = [] := ⟨rfl,rfl,rfl⟩
theorem hr_61_3 : hints.keep 61 3 = some [0,1,5,7,8] ∧ hints.frz 61 3 = [] ∧ hints.soft 61 3 = [] := ⟨rfl,rfl,rfl⟩
theorem hr_61_4 : hints.keep 61 4 = some [0,1,5,7,8,16] ∧ hints.frz 61 4 = [] ∧ hints.soft 61 4 = [] := ⟨rfl,rfl,rfl⟩
theorem hr_61_5 : hints.keep 61 5 = some [4] ∧ hints.frz 61 5 = [] ∧ hints.soft 61 5 = [] := ⟨rfl,rfl,rfl⟩
theorem hr_61_6 : hints.keep 61 6 = some [0,1,7,8] ∧ hints.frz 61 6 = [] ∧ hints.soft 61 6 = [] := ⟨rfl,rfl,rfl⟩
theorem hr_61_7 : hints.keep 61 7 = some [4] ∧ hints.frz 61 7 = [] ∧ hints.soft 61 7 = [] := ⟨rfl,rfl,rfl⟩
theorem hr_63_0 : hints.keep 63 0 = some [1,2] ∧ hints.frz 63 0 = [] ∧ hints.soft 63 0 = [] := ⟨rfl,rfl,rfl⟩
theorem hr_63_1 : hints.keep 63 1 = some [2] ∧ hints.frz 63 1 = [] ∧ hints.soft 63 1 = [] := ⟨rfl,rfl,rfl⟩
theorem hr_64_0 : hints.keep 64 0 = some [0,1,2] ∧ hints.frz 64 0 = [] ∧ hints.soft 64 0 = [] := ⟨rfl,rfl,rfl⟩
theorem hr_64_1 : hints.keep 64 1 = some [0,1,2] ∧ hints.frz 64 1 = [] ∧ hints.soft 64 1 = [] := ⟨rfl,rfl,rfl⟩
theorem hr_64_2 : hints.keep 64 2 = some [0,1,2,16] ∧ hints.frz 64 2 = [] ∧ hints.soft 64 2 = [] := ⟨rfl,rfl,rfl⟩
theorem hr_64_3 : hints.keep 64 3 = some [6] ∧ hints.frz 64 3 = [] ∧ hints.soft 64 3 = [] := ⟨rfl,rfl,rfl⟩
theorem hr_64_4 : hints.keep 64 4 = some [0,1,2,7] ∧ hints.frz 64 4 = [] ∧ hints.soft 64 4 = [] := ⟨rfl,rfl,rfl⟩
theorem hr_64_5 : hints.keep 64 5 = some [0,7] ∧ hints.frz 64 5 = [] ∧ hints.soft 64 5 = [] := ⟨rfl,rfl,rfl⟩
theorem hr_64_6 : hints.keep 64 6 = some [0] ∧ hints.frz 64 6 = [] ∧ hints.soft 64 6 = [] := ⟨rfl,rfl,rfl⟩
theorem hr_64_7 : hints.keep 64 7 = some [6] ∧ hints.frz 64 7 = [] ∧ hints.soft 64 7 = [] := ⟨rfl,rfl,rfl⟩
theorem hr_65_0 : hints.keep 65 0 = some [2,3] ∧ hints.frz 65 0 = [] ∧ hints.soft 65 0 = [] := ⟨rfl,rfl,rfl⟩
theorem hr_65_1 : hints.keep 65 1 = some [2,3,17] ∧ hints.frz 65 1 = [] ∧ hints.soft 65 1 = [] := ⟨rfl,rfl,rfl⟩
theorem hr_65_10 : hints.keep 65 10 = some [2,3,45] ∧ hints.frz 65 10 = [] ∧ hints.soft 65 10 = [] := ⟨rfl,rfl,rfl⟩
theorem hr_65_11 : hints.keep 65 11 = some [4] ∧ hints.frz 65 11 = [] ∧ hints.soft 65 11 = [] := ⟨rfl,rfl,rfl⟩
theorem hr_65_12 : hints.keep 65 12 = some [2,3,8,9] ∧ hints.frz 65 12 = [] ∧ hints.soft 65 12 = [] := ⟨rfl,rfl,rfl⟩
theorem hr_65_13 : hints.keep 65 13 = some [4] ∧ hints.frz 65 13 = [] ∧ hints.soft 65 13 = [] := ⟨rfl,rfl,rfl⟩
theorem hr_65_2 : hints.keep 65 2 = some [4] ∧ hints.frz 65 2 = [] ∧ hints.soft 65 2 = [] := ⟨rfl,rfl,rfl⟩
theorem hr_65_3 : hints.keep 65 3 = some [2,3,5] ∧ hints.frz 65 3 = [] ∧ hints.soft 65 3 = [] := ⟨rfl,rfl,rfl⟩
theorem hr_65_4 : hints.keep 65 4 = some [2,3,5,25,26,27] ∧ hints.frz 65 4 = [] ∧ hints.soft 65 4 = [] := ⟨rfl,rfl,rfl⟩
theorem hr_65_5 : hints.keep 65 5 = some [2,3,5,25,26,27,28] ∧ hints.frz 65 5 = [] ∧ hints.soft 65 5 = [] := ⟨rfl,rfl,rfl⟩
theorem hr_65_6 : hints.keep 65 6 = some [2,3,5,7,25,26,27] ∧ hints.frz 65 6 = [] ∧ hints.soft 65 6 = [] := ⟨rfl,rfl,rfl⟩
theorem hr_65_7 : hints.keep 65 7 = some [2,3,5,25,26,27] ∧ hints.frz 65 7 = [] ∧ hints.soft 65 7 = [] := ⟨rfl,rfl,rfl⟩
theorem hr_65_8 : hints.keep 65 8 = some [2,3,5,25,26,27] ∧ hints.frz 65 8 = [] ∧ hints.soft 65 8 = [] := ⟨rfl,rfl,rfl⟩
theorem hr_65_9 : hints.keep 65 9 = some [2,3,5] ∧ hints.frz 65 9 = [] ∧ hints.soft 65 9 = [] := ⟨rfl,rfl,rfl⟩
theorem hr_66_0 : hints.keep 66 0 = some [1,2] ∧ hints.frz 66 0 = [] ∧ hints.soft 66 0 = [] := ⟨rfl,rfl,rfl⟩
theorem hr_66_1 : hints.keep 66 1 = some [2] ∧ hints.frz 66 1 = [] ∧ hints.soft 66 1 = [] := ⟨rfl,rfl,rfl⟩
theorem hr_67_0 : hints.keep 67 0 = some [0,1] ∧ hints.frz 67 0 = [] ∧ hints.soft 67 0 = [] := ⟨rfl,rfl,rfl⟩
theorem hr_67_1 : hints.keep 67 1 = some [4] ∧ hints.frz 67 1 = [] ∧ hints.soft 67 1 = [] := ⟨rfl,rfl,rfl⟩
theorem hr_8_0 : hints.keep 8 0 = some [1,2] ∧ hints.frz 8 0 = [] ∧ hints.soft 8 0 = [] := ⟨rfl,rfl,rfl⟩
theorem hr_8_1 : hints.keep 8 1 = some [1,2,16] ∧ hints.frz 8 1 = [] ∧ hints.soft 8 1 = [] := ⟨rfl,rfl,rfl⟩
theorem hr_8_2 : hints.keep 8 2 = some [4] ∧ hints.frz 8 2 = [] ∧ hints.soft 8 2 = [] := ⟨rfl,rfl,rfl⟩
theorem hr_8_3 : hints.keep 8 3 = some [22,23,24] ∧ hints.frz 8 3 = [] ∧ hints.soft 8 3 = [] := ⟨rfl,rfl,rfl⟩
theorem hr_8_4 : hints.keep 8 4 = some [22,23,24,25] ∧ hints.frz 8 4 = [] ∧ hints.soft 8 4 = [] := ⟨rfl,rfl,rfl⟩
theorem hr_8_5 : hints.keep 8 5 = some [6,22,23,24] ∧ hints.frz 8 5 = [] ∧ hints.soft 8 5 = [] := ⟨rfl,rfl,rfl⟩
theorem hr_8_6 : hints.keep 8 6 = some [22,23,24,31] ∧ hints.frz 8 6 = [] ∧ hints.soft 8 6 = [] := ⟨rfl,rfl,rfl⟩
theorem hr_8_7 : hints.keep 8 7 = some [4] ∧ hints.frz 8 7 = [] ∧ hints.soft 8 7 = [] := ⟨rfl,rfl,rfl⟩
theorem hr_8_8 : hints.keep 8 8 = some [22,23,24] ∧ hints.frz 8 8 = [] ∧ hints.soft 8 8 = [] := ⟨rfl,rfl,rfl⟩
theorem hr_8_9 : hints.keep 8 9 = some [4] ∧ hints.frz 8 9 = [] ∧ hints.soft 8 9 = [] := ⟨rfl,rfl,rfl⟩
end Go.Proofs.YticggdfaehneeaaV