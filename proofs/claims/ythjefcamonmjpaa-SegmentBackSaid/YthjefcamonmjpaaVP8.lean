/- What the program's functions answer: plain functions, and that the interpreter answers what they do. Written by a program of this session, out of the translation. -/
import Derived.Test.YthjefcamonmjpaaVP7
namespace Go.Proofs.YthjefcamonmjpaaV
open Go
set_option linter.unusedVariables false
set_option linter.unusedSimpArgs false
set_option maxRecDepth 8000
set_option maxHeartbeats 4000000
-- f26_pp_brbbiiiiiiiiiibrow: f26 (*heliograph/segment.reader).fields
inductive R26_pp_brbbiiiiiiiiiibrow where
  | o0 (y : List Int) (y_1 : Bool) (y_2 : Int) (y_3 : Int) (y_4 : Int) (y_5 : Int) (y_6 : Int) (y_7 : Int) (y_8 : Int) (y_9 : Int) (y_10 : Int) (y_11 : Int) (y_12 : Bool) (y_13 : List T45) (y_14 : List Int)
  | o1 (y : List Int) (y_1 : Bool) (y_2 : Int) (y_3 : Int) (y_4 : Int) (y_5 : Int) (y_6 : Int) (y_7 : Int) (y_8 : Int) (y_9 : Int) (y_10 : Int) (y_11 : Int) (y_12 : Bool) (y_13 : List Int) (y_14 : List T45)
  | o2 (y : List Int) (y_1 : Bool) (y_2 : Int) (y_3 : Int) (y_4 : Int) (y_5 : Int) (y_6 : Int) (y_7 : Int) (y_8 : Int) (y_9 : Int) (y_10 : Int) (y_11 : Int) (y_12 : Bool) (y_13 : List Int) (y_14 : List T45)
noncomputable def R26_pp_brbbiiiiiiiiiibrow.st : R26_pp_brbbiiiiiiiiiibrow → V × List O × List O
  | .o0 y y_1 y_2 y_3 y_4 y_5 y_6 y_7 y_8 y_9 y_10 y_11 y_12 y_13 y_14 => (V.tup [], [O.box 57 [V.sl 1 (rowsOf (encI .u8) y), V.p (Value.bool y_1)], O.box 26 [V.p (Value.int .i64 y_2), V.p (Value.int .i64 y_3), V.p (Value.int .u32 y_4), V.p (Value.int .u32 y_5), V.p (Value.int .u32 y_6), V.p (Value.int .i64 y_7), V.p (Value.int .i64 y_8), V.p (Value.int .i64 y_9), V.p (Value.int .i64 y_10), V.p (Value.int .i64 y_11), V.p (Value.bool y_12), V.own 2000000, V.own 1000002], O.row true 2 45 (rowsOf encT45 y_13)], [O.row true 1 5 (rowsOf (encI .u8) y_14)])
  | .o1 y y_1 y_2 y_3 y_4 y_5 y_6 y_7 y_8 y_9 y_10 y_11 y_12 y_13 y_14 => (V.tup [], [O.box 57 [V.sl 1 (rowsOf (encI .u8) y), V.p (Value.bool y_1)], O.box 26 [V.p (Value.int .i64 y_2), V.p (Value.int .i64 y_3), V.p (Value.int .u32 y_4), V.p (Value.int .u32 y_5), V.p (Value.int .u32 y_6), V.p (Value.int .i64 y_7), V.p (Value.int .i64 y_8), V.p (Value.int .i64 y_9), V.p (Value.int .i64 y_10), V.p (Value.int .i64 y_11), V.p (Value.bool y_12), V.sl 1 (rowsOf (encI .u8) y_13), V.own 1000002], O.row true 2 45 (rowsOf encT45 y_14)], [])
  | .o2 y y_1 y_2 y_3 y_4 y_5 y_6 y_7 y_8 y_9 y_10 y_11 y_12 y_13 y_14 => (V.tup [], [O.box 57 [V.sl 1 (rowsOf (encI .u8) y), V.p (Value.bool y_1)], O.box 26 [V.p (Value.int .i64 y_2), V.p (Value.int .i64 y_3), V.p (Value.int .u32 y_4), V.p (Value.int .u32 y_5), V.p (Value.int .u32 y_6), V.p (Value.int .i64 y_7), V.p (Value.int .i64 y_8), V.p (Value.int .i64 y_9), V.p (Value.int .i64 y_10), V.p (Value.int .i64 y_11), V.p (Value.bool y_12), V.sl 1 (rowsOf (encI .u8) y_13), V.own 2000000], O.dead], [O.row true 2 45 (rowsOf encT45 y_14)])
inductive R26_pp_brbbiiiiiiiiiibrow_s1 where
  | o0 (y : Int) (y_1 : Bool) (y_2 : List Int) (y_3 : Bool) (y_4 : Int) (y_5 : Int) (y_6 : Int) (y_7 : Int) (y_8 : Int) (y_9 : Int) (y_10 : Int) (y_11 : Int) (y_12 : Int) (y_13 : Int) (y_14 : Bool) (y_15 : List Int) (y_16 : List T45)
  | o1 (y : List Int) (y_1 : Bool) (y_2 : Int) (y_3 : Int) (y_4 : Int) (y_5 : Int) (y_6 : Int) (y_7 : Int) (y_8 : Int) (y_9 : Int) (y_10 : Int) (y_11 : Int) (y_12 : Bool) (y_13 : List Int) (y_14 : List T45)
  | o2 (y : Bool) (y_1 : List Int) (y_2 : Bool) (y_3 : Int) (y_4 : Int) (y_5 : Int) (y_6 : Int) (y_7 : Int) (y_8 : Int) (y_9 : Int) (y_10 : Int) (y_11 : Int) (y_12 : Int) (y_13 : Bool) (y_14 : List Int) (y_15 : List T45)
  | o3 (y : Int) (y_1 : Bool) (y_2 : List Int) (y_3 : Bool) (y_4 : Int) (y_5 : Int) (y_6 : Int) (y_7 : Int) (y_8 : Int) (y_9 : Int) (y_10 : Int) (y_11 : Int) (y_12 : Int) (y_13 : Int) (y_14 : Bool) (y_15 : List Int) (y_16 : List T45)
  | o4 (y : Int) (y_1 : Int) (y_2 : Bool) (y_3 : List Int) (y_4 : Bool) (y_5 : Int) (y_6 : Int) (y_7 : Int) (y_8 : Int) (y_9 : Int) (y_10 : Int) (y_11 : Int) (y_12 : Int) (y_13 : Int) (y_14 : Int) (y_15 : Bool) (y_16 : List Int) (y_17 : List T45)
  | o5 (y : Int) (y_1 : Int) (y_2 : Bool) (y_3 : List Int) (y_4 : Bool) (y_5 : Int) (y_6 : Int) (y_7 : Int) (y_8 : Int) (y_9 : Int) (y_10 : Int) (y_11 : Int) (y_12 : Int) (y_13 : Int) (y_14 : Int) (y_15 : Bool) (y_16 : List Int) (y_17 : List T45)
  | o6 (y : Int) (y_1 : Int) (y_2 : Int) (y_3 : Int) (y_4 : Int) (y_5 : Int) (y_6 : Int) (y_7 : Int) (y_8 : Int) (y_9 : Int) (y_10 : Bool) (y_11 : List Int) (y_12 : List T45) (y_13 : List Int) (y_14 : Bool)
  | o7 (y : Int) (y_1 : Bool) (y_2 : List Int) (y_3 : Bool) (y_4 : Int) (y_5 : Int) (y_6 : Int) (y_7 : Int) (y_8 : Int) (y_9 : Int) (y_10 : Int) (y_11 : Int) (y_12 : Int) (y_13 : Int) (y_14 : Bool) (y_15 : List Int) (y_16 : List T45)
  | o8 (y : Bool) (y_1 : List Int) (y_2 : Bool) (y_3 : Int) (y_4 : Int) (y_5 : Int) (y_6 : Int) (y_7 : Int) (y_8 : Int) (y_9 : Int) (y_10 : Int) (y_11 : Int) (y_12 : Int) (y_13 : Bool) (y_14 : List Int) (y_15 : List T45)
  | o9 (y : List Int) (y_1 : Bool) (y_2 : Int) (y_3 : Int) (y_4 : Int) (y_5 : Int) (y_6 : Int) (y_7 : Int) (y_8 : Int) (y_9 : Int) (y_10 : Int) (y_11 : Int) (y_12 : Bool) (y_13 : List Int) (y_14 : List T45)
noncomputable def R26_pp_brbbiiiiiiiiiibrow_s1.st : R26_pp_brbbiiiiiiiiiibrow_s1 → Out × St
  | .o0 y y_1 y_2 y_3 y_4 y_5 y_6 y_7 y_8 y_9 y_10 y_11 y_12 y_13 y_14 y_15 y_16 => (.goto 0, ({ n := 130, F := [(0, V.ptr 1000000 0), (1, V.ptr 1000001 0), (4, V.p (Value.int .i64 y)), (45, V.p (Value.bool y_1))], M := [(1000000, O.box 57 [V.sl 1 (rowsOf (encI .u8) y_2), V.p (Value.bool y_3)]), (1000001, O.box 26 [V.p (Value.int .i64 y_4), V.p (Value.int .i64 y_5), V.p (Value.int .u32 y_6), V.p (Value.int .u32 y_7), V.p (Value.int .u32 y_8), V.p (Value.int .i64 y_9), V.p (Value.int .i64 y_10), V.p (Value.int .i64 y_11), V.p (Value.int .i64 y_12), V.p (Value.int .i64 y_13), V.p (Value.bool y_14), V.sl 1 (rowsOf (encI .u8) y_15), V.own 1000002]), (1000002, O.row true 2 45 (rowsOf encT45 y_16))] } : St))
  | .o1 y y_1 y_2 y_3 y_4 y_5 y_6 y_7 y_8 y_9 y_10 y_11 y_12 y_13 y_14 => (.ret, ({ n := 130, F := [], M := [(1000000, O.box 57 [V.sl 1 (rowsOf (encI .u8) y), V.p (Value.bool y_1)]), (1000001, O.box 26 [V.p (Value.int .i64 y_2), V.p (Value.int .i64 y_3), V.p (Value.int .u32 y_4), V.p (Value.int .u32 y_5), V.p (Value.int .u32 y_6), V.p (Value.int .i64 y_7), V.p (Value.int .i64 y_8), V.p (Value.int .i64 y_9), V.p (Value.int .i64 y_10), V.p (Value.int .i64 y_11), V.p (Value.bool y_12), V.own 54, V.own 1000002]), (54, O.row true 1 5 (rowsOf (encI .u8) y_13)), (1000002, O.row true 2 45 (rowsOf encT45 y_14))] } : St))
  | .o2 y y_1 y_2 y_3 y_4 y_5 y_6 y_7 y_8 y_9 y_10 y_11 y_12 y_13 y_14 y_15 => (.goto 0, ({ n := 130, F := [(0, V.ptr 1000000 0), (1, V.ptr 1000001 0), (25, V.p (Value.bool y))], M := [(1000000, O.box 57 [V.sl 1 (rowsOf (encI .u8) y_1), V.p (Value.bool y_2)]), (1000001, O.box 26 [V.p (Value.int .i64 y_3), V.p (Value.int .i64 y_4), V.p (Value.int .u32 y_5), V.p (Value.int .u32 y_6), V.p (Value.int .u32 y_7), V.p (Value.int .i64 y_8), V.p (Value.int .i64 y_9), V.p (Value.int .i64 y_10), V.p (Value.int .i64 y_11), V.p (Value.int .i64 y_12), V.p (Value.bool y_13), V.sl 1 (rowsOf (encI .u8) y_14), V.own 1000002]), (1000002, O.row true 2 45 (rowsOf encT45 y_15))] } : St))
  | .o3 y y_1 y_2 y_3 y_4 y_5 y_6 y_7 y_8 y_9 y_10 y_11 y_12 y_13 y_14 y_15 y_16 => (.goto 0, ({ n := 130, F := [(0, V.ptr 1000000 0), (1, V.ptr 1000001 0), (5, V.p (Value.int .i64 y)), (92, V.p (Value.bool y_1))], M := [(1000000, O.box 57 [V.sl 1 (rowsOf (encI .u8) y_2), V.p (Value.bool y_3)]), (1000001, O.box 26 [V.p (Value.int .i64 y_4), V.p (Value.int .i64 y_5), V.p (Value.int .u32 y_6), V.p (Value.int .u32 y_7), V.p (Value.int .u32 y_8), V.p (Value.int .i64 y_9), V.p (Value.int .i64 y_10), V.p (Value.int .i64 y_11), V.p (Value.int .i64 y_12), V.p (Value.int .i64 y_13), V.p (Value.bool y_14), V.sl 1 (rowsOf (encI .u8) y_15), V.own 1000002]), (1000002, O.row true 2 45 (rowsOf encT45 y_16))] } : St))
  | .o4 y y_1 y_2 y_3 y_4 y_5 y_6 y_7 y_8 y_9 y_10 y_11 y_12 y_13 y_14 y_15 y_16 y_17 => (.ret, ({ n := 130, F := [(0, V.ptr 1000000 0), (1, V.ptr 1000001 0), (93, V.p (Value.int .i64 y)), (94, V.p (Value.int .i64 y_1)), (95, V.p (Value.bool y_2))], M := [(1000000, O.box 57 [V.sl 1 (rowsOf (encI .u8) y_3), V.p (Value.bool y_4)]), (1000001, O.box 26 [V.p (Value.int .i64 y_5), V.p (Value.int .i64 y_6), V.p (Value.int .u32 y_7), V.p (Value.int .u32 y_8), V.p (Value.int .u32 y_9), V.p (Value.int .i64 y_10), V.p (Value.int .i64 y_11), V.p (Value.int .i64 y_12), V.p (Value.int .i64 y_13), V.p (Value.int .i64 y_14), V.p (Value.bool y_15), V.sl 1 (rowsOf (encI .u8) y_16), V.own 1000002]), (1000002, O.row true 2 45 (rowsOf encT45 y_17))] } : St))
  | .o5 y y_1 y_2 y_3 y_4 y_5 y_6 y_7 y_8 y_9 y_10 y_11 y_12 y_13 y_14 y_15 y_16 y_17 => (.ret, ({ n := 130, F := [(0, V.ptr 1000000 0), (1, V.ptr 1000001 0), (93, V.p (Value.int .i64 y)), (94, V.p (Value.int .i64 y_1)), (95, V.p (Value.bool y_2))], M := [(1000000, O.box 57 [V.sl 1 (rowsOf (encI .u8) y_3), V.p (Value.bool y_4)]), (1000001, O.box 26 [V.p (Value.int .i64 y_5), V.p (Value.int .i64 y_6), V.p (Value.int .u32 y_7), V.p (Value.int .u32 y_8), V.p (Value.int .u32 y_9), V.p (Value.int .i64 y_10), V.p (Value.int .i64 y_11), V.p (Value.int .i64 y_12), V.p (Value.int .i64 y_13), V.p (Value.int .i64 y_14), V.p (Value.bool y_15), V.sl 1 (rowsOf (encI .u8) y_16), V.own 30002]), (30002, O.row true 2 45 (rowsOf encT45 y_17)), (1000002, O.dead)] } : St))
  | .o6 y y_1 y_2 y_3 y_4 y_5 y_6 y_7 y_8 y_9 y_10 y_11 y_12 y_13 y_14 => (.ret, ({ n := 130, F := [], M := [(1000001, O.box 26 [V.p (Value.int .i64 y), V.p (Value.int .i64 y_1), V.p (Value.int .u32 y_2), V.p (Value.int .u32 y_3), V.p (Value.int .u32 y_4), V.p (Value.int .i64 y_5), V.p (Value.int .i64 y_6), V.p (Value.int .i64 y_7), V.p (Value.int .i64 y_8), V.p (Value.int .i64 y_9), V.p (Value.bool y_10), V.sl 1 (rowsOf (encI .u8) y_11), V.own 1000002]), (1000002, O.row true 2 45 (rowsOf encT45 y_12)), (1000000, O.box 57 [V.sl 1 (rowsOf (encI .u8) y_13), V.p (Value.bool y_14)])] } : St))
  | .o7 y y_1 y_2 y_3 y_4 y_5 y_6 y_7 y_8 y_9 y_10 y_11 y_12 y_13 y_14 y_15 y_16 => (.ret, ({ n := 130, F := [(0, V.ptr 1000000 0), (1, V.ptr 1000001 0), (9, V.p (Value.int .i64 y)), (119, V.p (Value.bool y_1))], M := [(1000000, O.box 57 [V.sl 1 (rowsOf (encI .u8) y_2), V.p (Value.bool y_3)]), (1000001, O.box 26 [V.p (Value.int .i64 y_4), V.p (Value.int .i64 y_5), V.p (Value.int .u32 y_6), V.p (Value.int .u32 y_7), V.p (Value.int .u32 y_8), V.p (Value.int .i64 y_9), V.p (Value.int .i64 y_10), V.p (Value.int .i64 y_11), V.p (Value.int .i64 y_12), V.p (Value.int .i64 y_13), V.p (Value.bool y_14), V.sl 1 (rowsOf (encI .u8) y_15), V.own 1000002]), (1000002, O.row true 2 45 (rowsOf encT45 y_16))] } : St))
  | .o8 y y_1 y_2 y_3 y_4 y_5 y_6 y_7 y_8 y_9 y_10 y_11 y_12 y_13 y_14 y_15 => (.ret, ({ n := 130, F := [(0, V.ptr 1000000 0), (1, V.ptr 1000001 0), (119, V.p (Value.bool y))], M := [(1000000, O.box 57 [V.sl 1 (rowsOf (encI .u8) y_1), V.p (Value.bool y_2)]), (1000001, O.box 26 [V.p (Value.int .i64 y_3), V.p (Value.int .i64 y_4), V.p (Value.int .u32 y_5), V.p (Value.int .u32 y_6), V.p (Value.int .u32 y_7), V.p (Value.int .i64 y_8), V.p (Value.int .i64 y_9), V.p (Value.int .i64 y_10), V.p (Value.int .i64 y_11), V.p (Value.int .i64 y_12), V.p (Value.bool y_13), V.sl 1 (rowsOf (encI .u8) y_14), V.own 1000002]), (1000002, O.row true 2 45 (rowsOf encT45 y_15))] } : St))
  | .o9 y y_1 y_2 y_3 y_4 y_5 y_6 y_7 y_8 y_9 y_10 y_11 y_12 y_13 y_14 => (.norm, ({ n := 130, F := [], M := [(1000000, O.box 57 [V.sl 1 (rowsOf (encI .u8) y), V.p (Value.bool y_1)]), (1000001, O.box 26 [V.p (Value.int .i64 y_2), V.p (Value.int .i64 y_3), V.p (Value.int .u32 y_4), V.p (Value.int .u32 y_5), V.p (Value.int .u32 y_6), V.p (Value.int .i64 y_7), V.p (Value.int .i64 y_8), V.p (Value.int .i64 y_9), V.p (Value.int .i64 y_10), V.p (Value.int .i64 y_11), V.p (Value.bool y_12), V.sl 1 (rowsOf (encI .u8) y_13), V.own 1000002]), (1000002, O.row true 2 45 (rowsOf encT45 y_14))] } : St))
noncomputable def f26_pp_brbbiiiiiiiiiibrow_s1_j3 (k : Nat) (e0 : List Int) (e0_1 : Bool) (e1 : Int) (e1_1 : Int) (e1_2 : Int) (e1_3 : Int) (e1_4 : Int) (e1_5 : Int) (e1_6 : Int) (e1_7 : Int) (e1_8 : Int) (e1_9 : Int) (e1_10 : Bool) (m54 : List Int) (e2 : List T45) : Option R26_pp_brbbiiiiiiiiiibrow_s1 :=
  some (R26_pp_brbbiiiiiiiiiibrow_s1.o1 e0 e0_1 e1 e1_1 e1_2 e1_3 e1_4 e1_5 e1_6 e1_7 e1_8 e1_9 e1_10 m54 e2)
theorem f26_pp_brbbiiiiiiiiiibrow_s1_j3_ok (k : Nat) (e0 : List Int) (e0_1 : Bool) (e1 : Int) (e1_1 : Int) (e1_2 : Int) (e1_3 : Int) (e1_4 : Int) (e1_5 : Int) (e1_6 : Int) (e1_7 : Int) (e1_8 : Int) (e1_9 : Int) (e1_10 : Bool) (m54 : List Int) (e2 : List T45) (r : R26_pp_brbbiiiiiiiiiibrow_s1) (hF : f26_pp_brbbiiiiiiiiiibrow_s1_j3 k e0 e0_1 e1 e1_1 e1_2 e1_3 e1_4 e1_5 e1_6 e1_7 e1_8 e1_9 e1_10 m54 e2 = some r) : EX 26 k (nav B26 [2, 1]) ({ n := 130, F := [], M := [(1000000, O.box 57 [V.sl 1 (rowsOf (encI .u8) e0), V.p (Value.bool e0_1)]), (1000001, O.box 26 [V.p (Value.int .i64 e1), V.p (Value.int .i64 e1_1), V.p (Value.int .u32 e1_2), V.p (Value.int .u32 e1_3), V.p (Value.int .u32 e1_4), V.p (Value.int .i64 e1_5), V.p (Value.int .i64 e1_6), V.p (Value.int .i64 e1_7), V.p (Value.int .i64 e1_8), V.p (Value.int .i64 e1_9), V.p (Value.bool e1_10), V.own 54, V.own 1000002]), (54, O.row true 1 5 (rowsOf (encI .u8) m54)), (1000002, O.row true 2 45 (rowsOf encT45 e2))] } : St) = some r.st := by
  unfold f26_pp_brbbiiiiiiiiiibrow_s1_j3 at hF
  cases hF
  simp (maxSteps := 999999) (disch := first | exact D (by decide) | exact K (by kernel_rfl)) only [EA, EE, EG, EF, ED, ofVal, ofVal1, ofCell, lenV, aggEqV, cellEq, intBin, isShift, V.ids, lendV, frz, flatV, cellsOf, addOff, firstReg, oneOf, cellsAt, isAggD, isPure, ↓reduceIte, reduceCtorEq, Nat.reduceAdd, Nat.reduceSub, Nat.reduceMul, Nat.reduceLeDiff, Nat.reduceEqDiff, Nat.reduceBEq, Int.reduceToNat, Int.reduceLE, Int.reduceLT, Nat.reduceLT, Int.reduceBEq, Int.reduceBNe, Int.reduceEq, String.reduceEq, xk B26 [2, 1] .sq rfl, xk B26 [1, 2, 1] .rt rfl, R26_pp_brbbiiiiiiiiiibrow_s1.st]
noncomputable def f26_pp_brbbiiiiiiiiiibrow_s1_j2 (k : Nat) (x4 : Int) (x45 : Bool) (e0 : List Int) (e0_1 : Bool) (e1 : Int) (e1_1 : Int) (e1_2 : Int) (e1_3 : Int) (e1_4 : Int) (e1_5 : Int) (e1_6 : Int) (e1_7 : Int) (e1_8 : Int) (e1_9 : Int) (e1_10 : Bool) (e1_11 : List Int) (e2 : List T45) : Option R26_pp_brbbiiiiiiiiiibrow_s1 :=
  ifE ((0 : Int) ≤ x4) (
    ifE ((Int.toNat x4) ≤ (List.length e0)) (
      Option.bind (f34_r k (List.take (Int.toNat x4) e0)) fun o3 =>
        match o3 with
        | .o0 v6 =>
          f26_pp_brbbiiiiiiiiiibrow_s1_j3 k ((List.drop (Int.toNat x4) (List.take (List.length e0) e0))) e0_1 e1 e1_1 e1_2 e1_3 e1_4 e1_5 e1_6 e1_7 e1_8 e1_9 e1_10 v6 e2))
theorem f26_pp_brbbiiiiiiiiiibrow_s1_j2_ok (k : Nat) (x4 : Int) (x45 : Bool) (e0 : List Int) (e0_1 : Bool) (e1 : Int) (e1_1 : Int) (e1_2 : Int) (e1_3 : Int) (e1_4 : Int) (e1_5 : Int) (e1_6 : Int) (e1_7 : Int) (e1_8 : Int) (e1_9 : Int) (e1_10 : Bool) (e1_11 : List Int) (e2 : List T45) (r : R26_pp_brbbiiiiiiiiiibrow_s1) (hF : f26_pp_brbbiiiiiiiiiibrow_s1_j2 k x4 x45 e0 e0_1 e1 e1_1 e1_2 e1_3 e1_4 e1_5 e1_6 e1_7 e1_8 e1_9 e1_10 e1_11 e2 = some r) : SQ 26 k (nav B26 [2, 1]) (blockK 0 (EX 26 k (nav B26 [2, 2, 2, 2, 2, 2, 2, 2, 1, 1]) ({ n := 130, F := [(0, V.ptr 1000000 0), (1, V.ptr 1000001 0), (4, V.p (Value.int .i64 x4)), (45, V.p (Value.bool x45))], M := [(1000000, O.box 57 [V.sl 1 (rowsOf (encI .u8) e0), V.p (Value.bool e0_1)]), (1000001, O.box 26 [V.p (Value.int .i64 e1), V.p (Value.int .i64 e1_1), V.p (Value.int .u32 e1_2), V.p (Value.int .u32 e1_3), V.p (Value.int .u32 e1_4), V.p (Value.int .i64 e1_5), V.p (Value.int .i64 e1_6), V.p (Value.int .i64 e1_7), V.p (Value.int .i64 e1_8), V.p (Value.int .i64 e1_9), V.p (Value.bool e1_10), V.sl 1 (rowsOf (encI .u8) e1_11), V.own 1000002]), (1000002, O.row true 2 45 (rowsOf encT45 e2))] } : St))) = some r.st := by
  unfold f26_pp_brbbiiiiiiiiiibrow_s1_j2 at hF
  replace hF := ifE_some.1 hF
  obtain ⟨h1, hF⟩ := hF
  replace hF := ifE_some.1 hF
  obtain ⟨h2, hF⟩ := hF
  replace hF := Option.bind_eq_some_iff.1 hF
  obtain ⟨o3, h4, hF⟩ := hF
  have hc5 := f34_r_ok k (List.take (Int.toNat x4) e0) _ h4
  cases o3 with
  | o0 v6 =>
    (try dsimp only at hF)
    (try simp only [NM, EE, R34_r.st] at hc5)
    have hJ := f26_pp_brbbiiiiiiiiiibrow_s1_j3_ok k ((List.drop (Int.toNat x4) (List.take (List.length e0) e0))) e0_1 e1 e1_1 e1_2 e1_3 e1_4 e1_5 e1_6 e1_7 e1_8 e1_9 e1_10 v6 e2 _ hF
    simp (maxSteps := 999999) (disch := first | exact D (by decide) | exact K (by kernel_rfl)) only [EA, EE, EG, EF, ED, ofVal, ofVal1, ofCell, lenV, aggEqV, cellEq, intBin, isShift, V.ids, lendV, frz, flatV, cellsOf, addOff, firstReg, oneOf, cellsAt, isAggD, isPure, ↓reduceIte, reduceCtorEq, Nat.reduceAdd, Nat.reduceSub, Nat.reduceMul, Nat.reduceLeDiff, Nat.reduceEqDiff, Nat.reduceBEq, Int.reduceToNat, Int.reduceLE, Int.reduceLT, Nat.reduceLT, Int.reduceBEq, Int.reduceBNe, Int.reduceEq, String.reduceEq, show (nav B26 [2, 2, 2, 2, 2, 2, 2, 2, 1, 1]) = Code.region 9 _ true from rfl, hk_26_9, hz_26_9, hs_26_9, fieldAddrV, u_57, i_57, is_57, ib_57, iz_57, u_23, i_23, is_23, ib_23, iz_23, sliceV, bound, u_5, i_5, is_5, ib_5, iz_5, callStep, calleeOf, gv, List.contains, u_26, i_26, is_26, ib_26, iz_26, h1, h2, hc5]
    try simp only [NM, EE] at hJ
    exact hJ
noncomputable def f26_pp_brbbiiiiiiiiiibrow_s1_j1 (k : Nat) (e0 : List Int) (e0_1 : Bool) (e1 : Int) (e1_1 : Int) (e1_2 : Int) (e1_3 : Int) (e1_4 : Int) (e1_5 : Int) (e1_6 : Int) (e1_7 : Int) (e1_8 : Int) (e1_9 : Int) (e1_10 : Bool) (e1_11 : List Int) (e2 : List T45) : Option R26_pp_brbbiiiiiiiiiibrow_s1 :=
  Option.bind (f25_p_brb k e0 e0_1) fun o1 =>
    match o1 with
    | .o0 v4 v5 v6 =>
      Option.bind (f25_p_brb k v5 v6) fun o7 =>
        match o7 with
        | .o0 v10 v11 v12 =>
          Option.bind (f25_p_brb k v11 v12) fun o13 =>
            match o13 with
            | .o0 v16 v17 v18 =>
              cond ((decide (v16 > ((List.length v17) : Int))))
                (some (R26_pp_brbbiiiiiiiiiibrow_s1.o0 v16 true v17 v18 e1 e1_1 e1_2 e1_3 e1_4 v4 v10 e1_7 e1_8 e1_9 e1_10 e1_11 e2))
                (f26_pp_brbbiiiiiiiiiibrow_s1_j2 k v16 false v17 v18 e1 e1_1 e1_2 e1_3 e1_4 v4 v10 e1_7 e1_8 e1_9 e1_10 e1_11 e2)
theorem f26_pp_brbbiiiiiiiiiibrow_s1_j1_ok (k : Nat) (e0 : List Int) (e0_1 : Bool) (e1 : Int) (e1_1 : Int) (e1_2 : Int) (e1_3 : Int) (e1_4 : Int) (e1_5 : Int) (e1_6 : Int) (e1_7 : Int) (e1_8 : Int) (e1_9 : Int) (e1_10 : Bool) (e1_11 : List Int) (e2 : List T45) (r : R26_pp_brbbiiiiiiiiiibrow_s1) (hF : f26_pp_brbbiiiiiiiiiibrow_s1_j1 k e0 e0_1 e1 e1_1 e1_2 e1_3 e1_4 e1_5 e1_6 e1_7 e1_8 e1_9 e1_10 e1_11 e2 = some r) : SQ 26 k (nav B26 [2, 1]) (blockK 0 (EX 26 k (nav B26 [2, 2, 2, 2, 2, 1, 1]) ({ n := 130, F := [(0, V.ptr 1000000 0), (1, V.ptr 1000001 0)], M := [(1000000, O.box 57 [V.sl 1 (rowsOf (encI .u8) e0), V.p (Value.bool e0_1)]), (1000001, O.box 26 [V.p (Value.int .i64 e1), V.p (Value.int .i64 e1_1), V.p (Value.int .u32 e1_2), V.p (Value.int .u32 e1_3), V.p (Value.int .u32 e1_4), V.p (Value.int .i64 e1_5), V.p (Value.int .i64 e1_6), V.p (Value.int .i64 e1_7), V.p (Value.int .i64 e1_8), V.p (Value.int .i64 e1_9), V.p (Value.bool e1_10), V.sl 1 (rowsOf (encI .u8) e1_11), V.own 1000002]), (1000002, O.row true 2 45 (rowsOf encT45 e2))] } : St))) = some r.st := by
  unfold f26_pp_brbbiiiiiiiiiibrow_s1_j1 at hF
  replace hF := Option.bind_eq_some_iff.1 hF
  obtain ⟨o1, h2, hF⟩ := hF
  have hc3 := f25_p_brb_ok k e0 e0_1 _ h2
  cases o1 with
  | o0 v4 v5 v6 =>
    (try dsimp only at hF)
    (try simp only [NM, EE, R25_p_brb.st] at hc3)
    replace hF := Option.bind_eq_some_iff.1 hF
    obtain ⟨o7, h8, hF⟩ := hF
    have hc9 := f25_p_brb_ok k v5 v6 _ h8
    cases o7 with
    | o0 v10 v11 v12 =>
      (try dsimp only at hF)
      (try simp only [NM, EE, R25_p_brb.st] at hc9)
      replace hF := Option.bind_eq_some_iff.1 hF
      obtain ⟨o13, h14, hF⟩ := hF
      have hc15 := f25_p_brb_ok k v11 v12 _ h14
      cases o13 with
      | o0 v16 v17 v18 =>
        (try dsimp only at hF)
        (try simp only [NM, EE, R25_p_brb.st] at hc15)
        simp (maxSteps := 999999) (disch := first | exact D (by decide) | exact K (by kernel_rfl)) only [EA, EE, EG, EF, ED, ofVal, ofVal1, ofCell, lenV, aggEqV, cellEq, intBin, isShift, V.ids, lendV, frz, flatV, cellsOf, addOff, firstReg, oneOf, cellsAt, isAggD, isPure, ↓reduceIte, reduceCtorEq, Nat.reduceAdd, Nat.reduceSub, Nat.reduceMul, Nat.reduceLeDiff, Nat.reduceEqDiff, Nat.reduceBEq, Int.reduceToNat, Int.reduceLE, Int.reduceLT, Nat.reduceLT, Int.reduceBEq, Int.reduceBNe, Int.reduceEq, String.reduceEq, xk B26 [2, 2, 2, 2, 2, 1, 1] .sq rfl, show (nav B26 [1, 2, 2, 2, 2, 2, 1, 1]) = Code.region 6 _ false from rfl, hk_26_6, hz_26_6, hs_26_6, callStep, calleeOf, gv, List.contains, fieldAddrV, u_26, i_26, is_26, ib_26, iz_26, u_3, i_3, is_3, ib_3, iz_3, xk B26 [2, 2, 2, 2, 2, 2, 1, 1] .sq rfl, show (nav B26 [1, 2, 2, 2, 2, 2, 2, 1, 1]) = Code.region 7 _ false from rfl, hk_26_7, hz_26_7, hs_26_7, xk B26 [2, 2, 2, 2, 2, 2, 2, 1, 1] .sq rfl, xk B26 [1, 2, 2, 2, 2, 2, 2, 2, 1, 1] .sq rfl, show (nav B26 [1, 1, 2, 2, 2, 2, 2, 2, 2, 1, 1]) = Code.region 8 _ false from rfl, hk_26_8, hz_26_8, hs_26_8, u_57, i_57, is_57, ib_57, iz_57, u_23, i_23, is_23, ib_23, iz_23, xk B26 [2, 1, 2, 2, 2, 2, 2, 2, 2, 1, 1] (.cd 45) rfl, hc3, hc9, hc15]
        replace hF := cond_some hF
        rcases hF with ⟨h19, hF⟩ | ⟨h19, hF⟩
        · cases hF
          simp (maxSteps := 999999) (disch := first | exact D (by decide) | exact K (by kernel_rfl)) only [EA, EE, EG, EF, ED, ofVal, ofVal1, ofCell, lenV, aggEqV, cellEq, intBin, isShift, V.ids, lendV, frz, flatV, cellsOf, addOff, firstReg, oneOf, cellsAt, isAggD, isPure, ↓reduceIte, reduceCtorEq, Nat.reduceAdd, Nat.reduceSub, Nat.reduceMul, Nat.reduceLeDiff, Nat.reduceEqDiff, Nat.reduceBEq, Int.reduceToNat, Int.reduceLE, Int.reduceLT, Nat.reduceLT, Int.reduceBEq, Int.reduceBNe, Int.reduceEq, String.reduceEq, xk B26 [2, 2, 1, 2, 2, 2, 2, 2, 2, 2, 1, 1] (.gt 0) rfl, R26_pp_brbbiiiiiiiiiibrow_s1.st, hc3, hc9, hc15, h19]
        · have hJ := f26_pp_brbbiiiiiiiiiibrow_s1_j2_ok k v16 false v17 v18 e1 e1_1 e1_2 e1_3 e1_4 v4 v10 e1_7 e1_8 e1_9 e1_10 e1_11 e2 _ hF
          simp (maxSteps := 999999) (disch := first | exact D (by decide) | exact K (by kernel_rfl)) only [EA, EE, EG, EF, ED, ofVal, ofVal1, ofCell, lenV, aggEqV, cellEq, intBin, isShift, V.ids, lendV, frz, flatV, cellsOf, addOff, firstReg, oneOf, cellsAt, isAggD, isPure, ↓reduceIte, reduceCtorEq, Nat.reduceAdd, Nat.reduceSub, Nat.reduceMul, Nat.reduceLeDiff, Nat.reduceEqDiff, Nat.reduceBEq, Int.reduceToNat, Int.reduceLE, Int.reduceLT, Nat.reduceLT, Int.reduceBEq, Int.reduceBNe, Int.reduceEq, String.reduceEq, xk B26 [3, 2, 1, 2, 2, 2, 2, 2, 2, 2, 1, 1] .sk rfl, hc3, hc9, hc15, h19]
          try simp only [NM, EE] at hJ
          exact hJ
noncomputable def f26_pp_brbbiiiiiiiiiibrow_s1_j4 (k : Nat) (x25 : Bool) (e0 : List Int) (e0_1 : Bool) (e1 : Int) (e1_1 : Int) (e1_2 : Int) (e1_3 : Int) (e1_4 : Int) (e1_5 : Int) (e1_6 : Int) (e1_7 : Int) (e1_8 : Int) (e1_9 : Int) (e1_10 : Bool) (e1_11 : List Int) (e2 : List T45) : Option R26_pp_brbbiiiiiiiiiibrow_s1 :=
  Option.bind (f25_p_brb k e0 e0_1) fun o1 =>
    match o1 with
    | .o0 v4 v5 v6 =>
      Option.bind (f25_p_brb k v5 v6) fun o7 =>
        match o7 with
        | .o0 v10 v11 v12 =>
          Option.bind (f25_p_brb k v11 v12) fun o13 =>
            match o13 with
            | .o0 v16 v17 v18 =>
              cond ((decide (v16 > ((List.length v17) : Int))))
                (some (R26_pp_brbbiiiiiiiiiibrow_s1.o0 v16 true v17 v18 e1 e1_1 e1_2 e1_3 e1_4 v4 v10 e1_7 e1_8 e1_9 e1_10 e1_11 e2))
                (f26_pp_brbbiiiiiiiiiibrow_s1_j2 k v16 false v17 v18 e1 e1_1 e1_2 e1_3 e1_4 v4 v10 e1_7 e1_8 e1_9 e1_10 e1_11 e2)
theorem f26_pp_brbbiiiiiiiiiibrow_s1_j4_ok (k : Nat) (x25 : Bool) (e0 : List Int) (e0_1 : Bool) (e1 : Int) (e1_1 : Int) (e1_2 : Int) (e1_3 : Int) (e1_4 : Int) (e1_5 : Int) (e1_6 : Int) (e1_7 : Int) (e1_8 : Int) (e1_9 : Int) (e1_10 : Bool) (e1_11 : List Int) (e2 : List T45) (r : R26_pp_brbbiiiiiiiiiibrow_s1) (hF : f26_pp_brbbiiiiiiiiiibrow_s1_j4 k x25 e0 e0_1 e1 e1_1 e1_2 e1_3 e1_4 e1_5 e1_6 e1_7 e1_8 e1_9 e1_10 e1_11 e2 = some r) : SQ 26 k (nav B26 [2, 1]) (blockK 0 (EX 26 k (nav B26 [2, 2, 2, 2, 2, 1, 1]) ({ n := 130, F := [(0, V.ptr 1000000 0), (1, V.ptr 1000001 0), (25, V.p (Value.bool x25))], M := [(1000000, O.box 57 [V.sl 1 (rowsOf (encI .u8) e0), V.p (Value.bool e0_1)]), (1000001, O.box 26 [V.p (Value.int .i64 e1), V.p (Value.int .i64 e1_1), V.p (Value.int .u32 e1_2), V.p (Value.int .u32 e1_3), V.p (Value.int .u32 e1_4), V.p (Value.int .i64 e1_5), V.p (Value.int .i64 e1_6), V.p (Value.int .i64 e1_7), V.p (Value.int .i64 e1_8), V.p (Value.int .i64 e1_9), V.p (Value.bool e1_10), V.sl 1 (rowsOf (encI .u8) e1_11), V.own 1000002]), (1000002, O.row true 2 45 (rowsOf encT45 e2))] } : St))) = some r.st := by
  unfold f26_pp_brbbiiiiiiiiiibrow_s1_j4 at hF
  replace hF := Option.bind_eq_some_iff.1 hF
  obtain ⟨o1, h2, hF⟩ := hF
  have hc3 := f25_p_brb_ok k e0 e0_1 _ h2
  cases o1 with
  | o0 v4 v5 v6 =>
    (try dsimp only at hF)
    (try simp only [NM, EE, R25_p_brb.st] at hc3)
    replace hF := Option.bind_eq_some_iff.1 hF
    obtain ⟨o7, h8, hF⟩ := hF
    have hc9 := f25_p_brb_ok k v5 v6 _ h8
    cases o7 with
    | o0 v10 v11 v12 =>
      (try dsimp only at hF)
      (try simp only [NM, EE, R25_p_brb.st] at hc9)
      replace hF := Option.bind_eq_some_iff.1 hF
      obtain ⟨o13, h14, hF⟩ := hF
      have hc15 := f25_p_brb_ok k v11 v12 _ h14
      cases o13 with
      | o0 v16 v17 v18 =>
        (try dsimp only at hF)
        (try simp only [NM, EE, R25_p_brb.st] at hc15)
        simp (maxSteps := 999999) (disch := first | exact D (by decide) | exact K (by kernel_rfl)) only [EA, EE, EG, EF, ED, ofVal, ofVal1, ofCell, lenV, aggEqV, cellEq, intBin, isShift, V.ids, lendV, frz, flatV, cellsOf, addOff, firstReg, oneOf, cellsAt, isAggD, isPure, ↓reduceIte, reduceCtorEq, Nat.reduceAdd, Nat.reduceSub, Nat.reduceMul, Nat.reduceLeDiff, Nat.reduceEqDiff, Nat.reduceBEq, Int.reduceToNat, Int.reduceLE, Int.reduceLT, Nat.reduceLT, Int.reduceBEq, Int.reduceBNe, Int.reduceEq, String.reduceEq, xk B26 [2, 2, 2, 2, 2, 1, 1] .sq rfl, show (nav B26 [1, 2, 2, 2, 2, 2, 1, 1]) = Code.region 6 _ false from rfl, hk_26_6, hz_26_6, hs_26_6, callStep, calleeOf, gv, List.contains, fieldAddrV, u_26, i_26, is_26, ib_26, iz_26, u_3, i_3, is_3, ib_3, iz_3, xk B26 [2, 2, 2, 2, 2, 2, 1, 1] .sq rfl, show (nav B26 [1, 2, 2, 2, 2, 2, 2, 1, 1]) = Code.region 7 _ false from rfl, hk_26_7, hz_26_7, hs_26_7, xk B26 [2, 2, 2, 2, 2, 2, 2, 1, 1] .sq rfl, xk B26 [1, 2, 2, 2, 2, 2, 2, 2, 1, 1] .sq rfl, show (nav B26 [1, 1, 2, 2, 2, 2, 2, 2, 2, 1, 1]) = Code.region 8 _ false from rfl, hk_26_8, hz_26_8, hs_26_8, u_57, i_57, is_57, ib_57, iz_57, u_23, i_23, is_23, ib_23, iz_23, xk B26 [2, 1, 2, 2, 2, 2, 2, 2, 2, 1, 1] (.cd 45) rfl, hc3, hc9, hc15]
        replace hF := cond_some hF
        rcases hF with ⟨h19, hF⟩ | ⟨h19, hF⟩
        · cases hF
          simp (maxSteps := 999999) (disch := first | exact D (by decide) | exact K (by kernel_rfl)) only [EA, EE, EG, EF, ED, ofVal, ofVal1, ofCell, lenV, aggEqV, cellEq, intBin, isShift, V.ids, lendV, frz, flatV, cellsOf, addOff, firstReg, oneOf, cellsAt, isAggD, isPure, ↓reduceIte, reduceCtorEq, Nat.reduceAdd, Nat.reduceSub, Nat.reduceMul, Nat.reduceLeDiff, Nat.reduceEqDiff, Nat.reduceBEq, Int.reduceToNat, Int.reduceLE, Int.reduceLT, Nat.reduceLT, Int.reduceBEq, Int.reduceBNe, Int.reduceEq, String.reduceEq, xk B26 [2, 2, 1, 2, 2, 2, 2, 2, 2, 2, 1, 1] (.gt 0) rfl, R26_pp_brbbiiiiiiiiiibrow_s1.st, hc3, hc9, hc15, h19]
        · have hJ := f26_pp_brbbiiiiiiiiiibrow_s1_j2_ok k v16 false v17 v18 e1 e1_1 e1_2 e1_3 e1_4 v4 v10 e1_7 e1_8 e1_9 e1_10 e1_11 e2 _ hF
          simp (maxSteps := 999999) (disch := first | exact D (by decide) | exact K (by kernel_rfl)) only [EA, EE, EG, EF, ED, ofVal, ofVal1, ofCell, lenV, aggEqV, cellEq, intBin, isShift, V.ids, lendV, frz, flatV, cellsOf, addOff, firstReg, oneOf, cellsAt, isAggD, isPure, ↓reduceIte, reduceCtorEq, Nat.reduceAdd, Nat.reduceSub, Nat.reduceMul, Nat.reduceLeDiff, Nat.reduceEqDiff, Nat.reduceBEq, Int.reduceToNat, Int.reduceLE, Int.reduceLT, Nat.reduceLT, Int.reduceBEq, Int.reduceBNe, Int.reduceEq, String.reduceEq, xk B26 [3, 2, 1, 2, 2, 2, 2, 2, 2, 2, 1, 1] .sk rfl, hc3, hc9, hc15, h19]
          try simp only [NM, EE] at hJ
          exact hJ
inductive R26_pp_brbbiiiiiiiiiibrow_s1_l6 where
  | o0 (y : Int) (y_1 : Int) (y_2 : List Int) (y_3 : Bool) (y_4 : Int) (y_5 : Int) (y_6 : Int) (y_7 : Int) (y_8 : Int) (y_9 : Int) (y_10 : Int) (y_11 : Int) (y_12 : Int) (y_13 : Int) (y_14 : Bool) (y_15 : List Int) (y_16 : List T45)
  | o1 (y : Int) (y_1 : Int) (y_2 : Bool) (y_3 : List Int) (y_4 : Bool) (y_5 : Int) (y_6 : Int) (y_7 : Int) (y_8 : Int) (y_9 : Int) (y_10 : Int) (y_11 : Int) (y_12 : Int) (y_13 : Int) (y_14 : Int) (y_15 : Bool) (y_16 : List Int) (y_17 : List T45)
  | o2 (y : Int) (y_1 : Int) (y_2 : Bool) (y_3 : List Int) (y_4 : Bool) (y_5 : Int) (y_6 : Int) (y_7 : Int) (y_8 : Int) (y_9 : Int) (y_10 : Int) (y_11 : Int) (y_12 : Int) (y_13 : Int) (y_14 : Int) (y_15 : Bool) (y_16 : List Int) (y_17 : List T45)
noncomputable def R26_pp_brbbiiiiiiiiiibrow_s1_l6.st : R26_pp_brbbiiiiiiiiiibrow_s1_l6 → Out × St
  | .o0 y y_1 y_2 y_3 y_4 y_5 y_6 y_7 y_8 y_9 y_10 y_11 y_12 y_13 y_14 y_15 y_16 => (.norm, ({ n := 130, F := [(0, V.ptr 1000000 0), (1, V.ptr 1000001 0), (93, V.p (Value.int .i64 y)), (94, V.p (Value.int .i64 y_1))], M := [(1000000, O.box 57 [V.sl 1 (rowsOf (encI .u8) y_2), V.p (Value.bool y_3)]), (1000001, O.box 26 [V.p (Value.int .i64 y_4), V.p (Value.int .i64 y_5), V.p (Value.int .u32 y_6), V.p (Value.int .u32 y_7), V.p (Value.int .u32 y_8), V.p (Value.int .i64 y_9), V.p (Value.int .i64 y_10), V.p (Value.int .i64 y_11), V.p (Value.int .i64 y_12), V.p (Value.int .i64 y_13), V.p (Value.bool y_14), V.sl 1 (rowsOf (encI .u8) y_15), V.own 107]), (107, O.row true 2 45 (rowsOf encT45 y_16)), (1000002, O.dead)] } : St))
  | .o1 y y_1 y_2 y_3 y_4 y_5 y_6 y_7 y_8 y_9 y_10 y_11 y_12 y_13 y_14 y_15 y_16 y_17 => (.exit 2, ({ n := 130, F := [(0, V.ptr 1000000 0), (1, V.ptr 1000001 0), (93, V.p (Value.int .i64 y)), (94, V.p (Value.int .i64 y_1)), (95, V.p (Value.bool y_2))], M := [(1000000, O.box 57 [V.sl 1 (rowsOf (encI .u8) y_3), V.p (Value.bool y_4)]), (1000001, O.box 26 [V.p (Value.int .i64 y_5), V.p (Value.int .i64 y_6), V.p (Value.int .u32 y_7), V.p (Value.int .u32 y_8), V.p (Value.int .u32 y_9), V.p (Value.int .i64 y_10), V.p (Value.int .i64 y_11), V.p (Value.int .i64 y_12), V.p (Value.int .i64 y_13), V.p (Value.int .i64 y_14), V.p (Value.bool y_15), V.sl 1 (rowsOf (encI .u8) y_16), V.own 1000002]), (1000002, O.row true 2 45 (rowsOf encT45 y_17))] } : St))
  | .o2 y y_1 y_2 y_3 y_4 y_5 y_6 y_7 y_8 y_9 y_10 y_11 y_12 y_13 y_14 y_15 y_16 y_17 => (.exit 2, ({ n := 130, F := [(0, V.ptr 1000000 0), (1, V.ptr 1000001 0), (93, V.p (Value.int .i64 y)), (94, V.p (Value.int .i64 y_1)), (95, V.p (Value.bool y_2))], M := [(1000000, O.box 57 [V.sl 1 (rowsOf (encI .u8) y_3), V.p (Value.bool y_4)]), (1000001, O.box 26 [V.p (Value.int .i64 y_5), V.p (Value.int .i64 y_6), V.p (Value.int .u32 y_7), V.p (Value.int .u32 y_8), V.p (Value.int .u32 y_9), V.p (Value.int .i64 y_10), V.p (Value.int .i64 y_11), V.p (Value.int .i64 y_12), V.p (Value.int .i64 y_13), V.p (Value.int .i64 y_14), V.p (Value.bool y_15), V.sl 1 (rowsOf (encI .u8) y_16), V.own 30002]), (30002, O.row true 2 45 (rowsOf encT45 y_17)), (1000002, O.dead)] } : St))
noncomputable def f26_pp_brbbiiiiiiiiiibrow_s1_l6_j2 (k : Nat) (x93 : Int) (x94 : Int) (e0 : List Int) (e0_1 : Bool) (e1 : Int) (e1_1 : Int) (e1_2 : Int) (e1_3 : Int) (e1_4 : Int) (e1_5 : Int) (e1_6 : Int) (e1_7 : Int) (e1_8 : Int) (e1_9 : Int) (e1_10 : Bool) (e1_11 : List Int) (m107 : List T45) : Option R26_pp_brbbiiiiiiiiiibrow_s1_l6 :=
  some (R26_pp_brbbiiiiiiiiiibrow_s1_l6.o0 x93 (IntKind.i64.wrap (x94 + (1 : Int))) e0 e0_1 e1 e1_1 e1_2 e1_3 e1_4 e1_5 e1_6 e1_7 e1_8 e1_9 e1_10 e1_11 m107)
theorem f26_pp_brbbiiiiiiiiiibrow_s1_l6_j2_ok (k : Nat) (x93 : Int) (x94 : Int) (e0 : List Int) (e0_1 : Bool) (e1 : Int) (e1_1 : Int) (e1_2 : Int) (e1_3 : Int) (e1_4 : Int) (e1_5 : Int) (e1_6 : Int) (e1_7 : Int) (e1_8 : Int) (e1_9 : Int) (e1_10 : Bool) (e1_11 : List Int) (m107 : List T45) (r : R26_pp_brbbiiiiiiiiiibrow_s1_l6) (hF : f26_pp_brbbiiiiiiiiiibrow_s1_l6_j2 k x93 x94 e0 e0_1 e1 e1_1 e1_2 e1_3 e1_4 e1_5 e1_6 e1_7 e1_8 e1_9 e1_10 e1_11 m107 = some r) : EX 26 k (nav B26 [2, 2, 2, 1, 2, 2, 2, 2, 2, 2, 2, 3, 2, 2, 2, 1, 1]) ({ n := 130, F := [(0, V.ptr 1000000 0), (1, V.ptr 1000001 0), (93, V.p (Value.int .i64 x93)), (94, V.p (Value.int .i64 x94))], M := [(1000000, O.box 57 [V.sl 1 (rowsOf (encI .u8) e0), V.p (Value.bool e0_1)]), (1000001, O.box 26 [V.p (Value.int .i64 e1), V.p (Value.int .i64 e1_1), V.p (Value.int .u32 e1_2), V.p (Value.int .u32 e1_3), V.p (Value.int .u32 e1_4), V.p (Value.int .i64 e1_5), V.p (Value.int .i64 e1_6), V.p (Value.int .i64 e1_7), V.p (Value.int .i64 e1_8), V.p (Value.int .i64 e1_9), V.p (Value.bool e1_10), V.sl 1 (rowsOf (encI .u8) e1_11), V.own 107]), (107, O.row true 2 45 (rowsOf encT45 m107)), (1000002, O.dead)] } : St) = some r.st := by
  unfold f26_pp_brbbiiiiiiiiiibrow_s1_l6_j2 at hF
  cases hF
  simp (maxSteps := 999999) (disch := first | exact D (by decide) | exact K (by kernel_rfl)) only [EA, EE, EG, EF, ED, ofVal, ofVal1, ofCell, lenV, aggEqV, cellEq, intBin, isShift, V.ids, lendV, frz, flatV, cellsOf, addOff, firstReg, oneOf, cellsAt, isAggD, isPure, ↓reduceIte, reduceCtorEq, Nat.reduceAdd, Nat.reduceSub, Nat.reduceMul, Nat.reduceLeDiff, Nat.reduceEqDiff, Nat.reduceBEq, Int.reduceToNat, Int.reduceLE, Int.reduceLT, Nat.reduceLT, Int.reduceBEq, Int.reduceBNe, Int.reduceEq, String.reduceEq, show (nav B26 [2, 2, 2, 1, 2, 2, 2, 2, 2, 2, 2, 3, 2, 2, 2, 1, 1]) = Code.region 17 _ false from rfl, hk_26_17, hz_26_17, hs_26_17, R26_pp_brbbiiiiiiiiiibrow_s1_l6.st]
noncomputable def f26_pp_brbbiiiiiiiiiibrow_s1_l6_j1 (k : Nat) (x93 : Int) (x94 : Int) (x95 : Bool) (e0 : List Int) (e0_1 : Bool) (e1 : Int) (e1_1 : Int) (e1_2 : Int) (e1_3 : Int) (e1_4 : Int) (e1_5 : Int) (e1_6 : Int) (e1_7 : Int) (e1_8 : Int) (e1_9 : Int) (e1_10 : Bool) (e1_11 : List Int) (e2 : List T45) : Option R26_pp_brbbiiiiiiiiiibrow_s1_l6 :=
  Option.bind (f25_p_brb k e0 e0_1) fun o1 =>
    match o1 with
    | .o0 v4 v5 v6 =>
      Option.bind (f25_p_brb k v5 v6) fun o7 =>
        match o7 with
        | .o0 v10 v11 v12 =>
          ifE (((List.length e2) + 1) * 16 ≤ roomy) (
            f26_pp_brbbiiiiiiiiiibrow_s1_l6_j2 k x93 x94 v11 v12 e1 e1_1 e1_2 e1_3 e1_4 e1_5 e1_6 e1_7 e1_8 e1_9 e1_10 e1_11 (e2 ++ ([(T45.mk v4 v10)] : List T45)))
theorem f26_pp_brbbiiiiiiiiiibrow_s1_l6_j1_ok (k : Nat) (x93 : Int) (x94 : Int) (x95 : Bool) (e0 : List Int) (e0_1 : Bool) (e1 : Int) (e1_1 : Int) (e1_2 : Int) (e1_3 : Int) (e1_4 : Int) (e1_5 : Int) (e1_6 : Int) (e1_7 : Int) (e1_8 : Int) (e1_9 : Int) (e1_10 : Bool) (e1_11 : List Int) (e2 : List T45) (r : R26_pp_brbbiiiiiiiiiibrow_s1_l6) (hF : f26_pp_brbbiiiiiiiiiibrow_s1_l6_j1 k x93 x94 x95 e0 e0_1 e1 e1_1 e1_2 e1_3 e1_4 e1_5 e1_6 e1_7 e1_8 e1_9 e1_10 e1_11 e2 = some r) : EX 26 k (nav B26 [2, 2, 1, 2, 2, 2, 2, 2, 2, 2, 3, 2, 2, 2, 1, 1]) ({ n := 130, F := [(0, V.ptr 1000000 0), (1, V.ptr 1000001 0), (93, V.p (Value.int .i64 x93)), (94, V.p (Value.int .i64 x94)), (95, V.p (Value.bool x95))], M := [(1000000, O.box 57 [V.sl 1 (rowsOf (encI .u8) e0), V.p (Value.bool e0_1)]), (1000001, O.box 26 [V.p (Value.int .i64 e1), V.p (Value.int .i64 e1_1), V.p (Value.int .u32 e1_2), V.p (Value.int .u32 e1_3), V.p (Value.int .u32 e1_4), V.p (Value.int .i64 e1_5), V.p (Value.int .i64 e1_6), V.p (Value.int .i64 e1_7), V.p (Value.int .i64 e1_8), V.p (Value.int .i64 e1_9), V.p (Value.bool e1_10), V.sl 1 (rowsOf (encI .u8) e1_11), V.own 1000002]), (1000002, O.row true 2 45 (rowsOf encT45 e2))] } : St) = some r.st := by
  unfold f26_pp_brbbiiiiiiiiiibrow_s1_l6_j1 at hF
  replace hF := Option.bind_eq_some_iff.1 hF
  obtain ⟨o1, h2, hF⟩ := hF
  have hc3 := f25_p_brb_ok k e0 e0_1 _ h2
  cases o1 with
  | o0 v4 v5 v6 =>
    (try dsimp only at hF)
    (try simp only [NM, EE, R25_p_brb.st] at hc3)
    replace hF := Option.bind_eq_some_iff.1 hF
    obtain ⟨o7, h8, hF⟩ := hF
    have hc9 := f25_p_brb_ok k v5 v6 _ h8
    cases o7 with
    | o0 v10 v11 v12 =>
      (try dsimp only at hF)
      (try simp only [NM, EE, R25_p_brb.st] at hc9)
      have q13 : [[V.p (Value.int .i64 v4), V.p (Value.int .i64 v10)]] = rowsOf encT45 ([(T45.mk v4 v10)] : List T45) := rfl
      have q14 : List.map (tell [0, 0]) (rowsOf encT45 ([(T45.mk v4 v10)] : List T45)) = rowsOf encT45 ([(T45.mk v4 v10)] : List T45) := rfl
      replace hF := ifE_some.1 hF
      obtain ⟨h15, hF⟩ := hF
      have hJ := f26_pp_brbbiiiiiiiiiibrow_s1_l6_j2_ok k x93 x94 v11 v12 e1 e1_1 e1_2 e1_3 e1_4 e1_5 e1_6 e1_7 e1_8 e1_9 e1_10 e1_11 (e2 ++ ([(T45.mk v4 v10)] : List T45)) _ hF
      simp (maxSteps := 999999) (disch := first | exact D (by decide) | exact K (by kernel_rfl)) only [EA, EE, EG, EF, ED, ofVal, ofVal1, ofCell, lenV, aggEqV, cellEq, intBin, isShift, V.ids, lendV, frz, flatV, cellsOf, addOff, firstReg, oneOf, cellsAt, isAggD, isPure, ↓reduceIte, reduceCtorEq, Nat.reduceAdd, Nat.reduceSub, Nat.reduceMul, Nat.reduceLeDiff, Nat.reduceEqDiff, Nat.reduceBEq, Int.reduceToNat, Int.reduceLE, Int.reduceLT, Nat.reduceLT, Int.reduceBEq, Int.reduceBNe, Int.reduceEq, String.reduceEq, xk B26 [2, 2, 1, 2, 2, 2, 2, 2, 2, 2, 3, 2, 2, 2, 1, 1] .sq rfl, xk B26 [1, 2, 2, 1, 2, 2, 2, 2, 2, 2, 2, 3, 2, 2, 2, 1, 1] (.bk 3) rfl, show (nav B26 [2, 1, 2, 2, 1, 2, 2, 2, 2, 2, 2, 2, 3, 2, 2, 2, 1, 1]) = Code.region 16 _ true from rfl, hk_26_16, hz_26_16, hs_26_16, fieldAddrV, u_26, i_26, is_26, ib_26, iz_26, u_24, i_24, is_24, ib_24, iz_24, callStep, calleeOf, gv, List.contains, bl_45, u_45, i_45, is_45, ib_45, iz_45, buildSliceV, fillRows, sm_45, appendV, content, hc3, hc9, q13, q14, h15]
      try simp only [NM, EE] at hJ
      exact hJ
noncomputable def f26_pp_brbbiiiiiiiiiibrow_s1_l6_b (k : Nat) (x93 : Int) (x94 : Int) (e0 : List Int) (e0_1 : Bool) (e1 : Int) (e1_1 : Int) (e1_2 : Int) (e1_3 : Int) (e1_4 : Int) (e1_5 : Int) (e1_6 : Int) (e1_7 : Int) (e1_8 : Int) (e1_9 : Int) (e1_10 : Bool) (e1_11 : List Int) (e2 : List T45) : Option R26_pp_brbbiiiiiiiiiibrow_s1_l6 :=
  cond ((decide (x94 < x93)))
    (f26_pp_brbbiiiiiiiiiibrow_s1_l6_j1 k x93 x94 true e0 e0_1 e1 e1_1 e1_2 e1_3 e1_4 e1_5 e1_6 e1_7 e1_8 e1_9 e1_10 e1_11 e2)
    (some (R26_pp_brbbiiiiiiiiiibrow_s1_l6.o1 x93 x94 false e0 e0_1 e1 e1_1 e1_2 e1_3 e1_4 e1_5 e1_6 e1_7 e1_8 e1_9 e1_10 e1_11 e2))
theorem f26_pp_brbbiiiiiiiiiibrow_s1_l6_b_ok (k : Nat) (x93 : Int) (x94 : Int) (e0 : List Int) (e0_1 : Bool) (e1 : Int) (e1_1 : Int) (e1_2 : Int) (e1_3 : Int) (e1_4 : Int) (e1_5 : Int) (e1_6 : Int) (e1_7 : Int) (e1_8 : Int) (e1_9 : Int) (e1_10 : Bool) (e1_11 : List Int) (e2 : List T45) (r : R26_pp_brbbiiiiiiiiiibrow_s1_l6) (hF : f26_pp_brbbiiiiiiiiiibrow_s1_l6_b k x93 x94 e0 e0_1 e1 e1_1 e1_2 e1_3 e1_4 e1_5 e1_6 e1_7 e1_8 e1_9 e1_10 e1_11 e2 = some r) : EX 26 k (nav B26 [1, 2, 2, 2, 2, 2, 2, 2, 3, 2, 2, 2, 1, 1]) ({ n := 130, F := [(0, V.ptr 1000000 0), (1, V.ptr 1000001 0), (93, V.p (Value.int .i64 x93)), (94, V.p (Value.int .i64 x94))], M := [(1000000, O.box 57 [V.sl 1 (rowsOf (encI .u8) e0), V.p (Value.bool e0_1)]), (1000001, O.box 26 [V.p (Value.int .i64 e1), V.p (Value.int .i64 e1_1), V.p (Value.int .u32 e1_2), V.p (Value.int .u32 e1_3), V.p (Value.int .u32 e1_4), V.p (Value.int .i64 e1_5), V.p (Value.int .i64 e1_6), V.p (Value.int .i64 e1_7), V.p (Value.int .i64 e1_8), V.p (Value.int .i64 e1_9), V.p (Value.bool e1_10), V.sl 1 (rowsOf (encI .u8) e1_11), V.own 1000002]), (1000002, O.row true 2 45 (rowsOf encT45 e2))] } : St) = some r.st := by
  unfold f26_pp_brbbiiiiiiiiiibrow_s1_l6_b at hF
  simp (maxSteps := 999999) (disch := first | exact D (by decide) | exact K (by kernel_rfl)) only [EA, EE, EG, EF, ED, ofVal, ofVal1, ofCell, lenV, aggEqV, cellEq, intBin, isShift, V.ids, lendV, frz, flatV, cellsOf, addOff, firstReg, oneOf, cellsAt, isAggD, isPure, ↓reduceIte, reduceCtorEq, Nat.reduceAdd, Nat.reduceSub, Nat.reduceMul, Nat.reduceLeDiff, Nat.reduceEqDiff, Nat.reduceBEq, Int.reduceToNat, Int.reduceLE, Int.reduceLT, Nat.reduceLT, Int.reduceBEq, Int.reduceBNe, Int.reduceEq, String.reduceEq, xk B26 [1, 2, 2, 2, 2, 2, 2, 2, 3, 2, 2, 2, 1, 1] .sq rfl, show (nav B26 [1, 1, 2, 2, 2, 2, 2, 2, 2, 3, 2, 2, 2, 1, 1]) = Code.region 15 _ false from rfl, hk_26_15, hz_26_15, hs_26_15, xk B26 [2, 1, 2, 2, 2, 2, 2, 2, 2, 3, 2, 2, 2, 1, 1] .sq rfl, xk B26 [1, 2, 1, 2, 2, 2, 2, 2, 2, 2, 3, 2, 2, 2, 1, 1] (.cd 95) rfl]
  replace hF := cond_some hF
  rcases hF with ⟨h1, hF⟩ | ⟨h1, hF⟩
  · have hJ := f26_pp_brbbiiiiiiiiiibrow_s1_l6_j1_ok k x93 x94 true e0 e0_1 e1 e1_1 e1_2 e1_3 e1_4 e1_5 e1_6 e1_7 e1_8 e1_9 e1_10 e1_11 e2 _ hF
    simp (maxSteps := 999999) (disch := first | exact D (by decide) | exact K (by kernel_rfl)) only [EA, EE, EG, EF, ED, ofVal, ofVal1, ofCell, lenV, aggEqV, cellEq, intBin, isShift, V.ids, lendV, frz, flatV, cellsOf, addOff, firstReg, oneOf, cellsAt, isAggD, isPure, ↓reduceIte, reduceCtorEq, Nat.reduceAdd, Nat.reduceSub, Nat.reduceMul, Nat.reduceLeDiff, Nat.reduceEqDiff, Nat.reduceBEq, Int.reduceToNat, Int.reduceLE, Int.reduceLT, Nat.reduceLT, Int.reduceBEq, Int.reduceBNe, Int.reduceEq, String.reduceEq, xk B26 [2, 1, 2, 1, 2, 2, 2, 2, 2, 2, 2, 3, 2, 2, 2, 1, 1] .sk rfl, h1]
    try simp only [NM, EE] at hJ
    exact hJ
  · cases hF
    simp (maxSteps := 999999) (disch := first | exact D (by decide) | exact K (by kernel_rfl)) only [EA, EE, EG, EF, ED, ofVal, ofVal1, ofCell, lenV, aggEqV, cellEq, intBin, isShift, V.ids, lendV, frz, flatV, cellsOf, addOff, firstReg, oneOf, cellsAt, isAggD, isPure, ↓reduceIte, reduceCtorEq, Nat.reduceAdd, Nat.reduceSub, Nat.reduceMul, Nat.reduceLeDiff, Nat.reduceEqDiff, Nat.reduceBEq, Int.reduceToNat, Int.reduceLE, Int.reduceLT, Nat.reduceLT, Int.reduceBEq, Int.reduceBNe, Int.reduceEq, String.reduceEq, xk B26 [3, 1, 2, 1, 2, 2, 2, 2, 2, 2, 2, 3, 2, 2, 2, 1, 1] (.ex 2) rfl, R26_pp_brbbiiiiiiiiiibrow_s1_l6.st, h1]
inductive R26_pp_brbbiiiiiiiiiibrow_s1_l7 where
  | o0 (y : Int) (y_1 : Int) (y_2 : List Int) (y_3 : Bool) (y_4 : Int) (y_5 : Int) (y_6 : Int) (y_7 : Int) (y_8 : Int) (y_9 : Int) (y_10 : Int) (y_11 : Int) (y_12 : Int) (y_13 : Int) (y_14 : Bool) (y_15 : List Int) (y_16 : List T45)
  | o1 (y : Int) (y_1 : Int) (y_2 : Bool) (y_3 : List Int) (y_4 : Bool) (y_5 : Int) (y_6 : Int) (y_7 : Int) (y_8 : Int) (y_9 : Int) (y_10 : Int) (y_11 : Int) (y_12 : Int) (y_13 : Int) (y_14 : Int) (y_15 : Bool) (y_16 : List Int) (y_17 : List T45)
noncomputable def R26_pp_brbbiiiiiiiiiibrow_s1_l7.st : R26_pp_brbbiiiiiiiiiibrow_s1_l7 → Out × St
  | .o0 y y_1 y_2 y_3 y_4 y_5 y_6 y_7 y_8 y_9 y_10 y_11 y_12 y_13 y_14 y_15 y_16 => (.norm, ({ n := 130, F := [(0, V.ptr 1000000 0), (1, V.ptr 1000001 0), (93, V.p (Value.int .i64 y)), (94, V.p (Value.int .i64 y_1))], M := [(1000000, O.box 57 [V.sl 1 (rowsOf (encI .u8) y_2), V.p (Value.bool y_3)]), (1000001, O.box 26 [V.p (Value.int .i64 y_4), V.p (Value.int .i64 y_5), V.p (Value.int .u32 y_6), V.p (Value.int .u32 y_7), V.p (Value.int .u32 y_8), V.p (Value.int .i64 y_9), V.p (Value.int .i64 y_10), V.p (Value.int .i64 y_11), V.p (Value.int .i64 y_12), V.p (Value.int .i64 y_13), V.p (Value.bool y_14), V.sl 1 (rowsOf (encI .u8) y_15), V.own 107]), (107, O.row true 2 45 (rowsOf encT45 y_16)), (1000002, O.dead)] } : St))
  | .o1 y y_1 y_2 y_3 y_4 y_5 y_6 y_7 y_8 y_9 y_10 y_11 y_12 y_13 y_14 y_15 y_16 y_17 => (.exit 2, ({ n := 130, F := [(0, V.ptr 1000000 0), (1, V.ptr 1000001 0), (93, V.p (Value.int .i64 y)), (94, V.p (Value.int .i64 y_1)), (95, V.p (Value.bool y_2))], M := [(1000000, O.box 57 [V.sl 1 (rowsOf (encI .u8) y_3), V.p (Value.bool y_4)]), (1000001, O.box 26 [V.p (Value.int .i64 y_5), V.p (Value.int .i64 y_6), V.p (Value.int .u32 y_7), V.p (Value.int .u32 y_8), V.p (Value.int .u32 y_9), V.p (Value.int .i64 y_10), V.p (Value.int .i64 y_11), V.p (Value.int .i64 y_12), V.p (Value.int .i64 y_13), V.p (Value.int .i64 y_14), V.p (Value.bool y_15), V.sl 1 (rowsOf (encI .u8) y_16), V.own 30002]), (30002, O.row true 2 45 (rowsOf encT45 y_17)), (1000002, O.dead)] } : St))
noncomputable def f26_pp_brbbiiiiiiiiiibrow_s1_l7_j2 (k : Nat) (x93 : Int) (x94 : Int) (e0 : List Int) (e0_1 : Bool) (e1 : Int) (e1_1 : Int) (e1_2 : Int) (e1_3 : Int) (e1_4 : Int) (e1_5 : Int) (e1_6 : Int) (e1_7 : Int) (e1_8 : Int) (e1_9 : Int) (e1_10 : Bool) (e1_11 : List Int) (m107 : List T45) : Option R26_pp_brbbiiiiiiiiiibrow_s1_l7 :=
  some (R26_pp_brbbiiiiiiiiiibrow_s1_l7.o0 x93 (IntKind.i64.wrap (x94 + (1 : Int))) e0 e0_1 e1 e1_1 e1_2 e1_3 e1_4 e1_5 e1_6 e1_7 e1_8 e1_9 e1_10 e1_11 m107)
theorem f26_pp_brbbiiiiiiiiiibrow_s1_l7_j2_ok (k : Nat) (x93 : Int) (x94 : Int) (e0 : List Int) (e0_1 : Bool) (e1 : Int) (e1_1 : Int) (e1_2 : Int) (e1_3 : Int) (e1_4 : Int) (e1_5 : Int) (e1_6 : Int) (e1_7 : Int) (e1_8 : Int) (e1_9 : Int) (e1_10 : Bool) (e1_11 : List Int) (m107 : List T45) (r : R26_pp_brbbiiiiiiiiiibrow_s1_l7) (hF : f26_pp_brbbiiiiiiiiiibrow_s1_l7_j2 k x93 x94 e0 e0_1 e1 e1_1 e1_2 e1_3 e1_4 e1_5 e1_6 e1_7 e1_8 e1_9 e1_10 e1_11 m107 = some r) : EX 26 k (nav B26 [2, 2, 2, 1, 2, 2, 2, 2, 2, 2, 2, 3, 2, 2, 2, 1, 1]) ({ n := 130, F := [(0, V.ptr 1000000 0), (1, V.ptr 1000001 0), (93, V.p (Value.int .i64 x93)), (94, V.p (Value.int .i64 x94))], M := [(1000000, O.box 57 [V.sl 1 (rowsOf (encI .u8) e0), V.p (Value.bool e0_1)]), (1000001, O.box 26 [V.p (Value.int .i64 e1), V.p (Value.int .i64 e1_1), V.p (Value.int .u32 e1_2), V.p (Value.int .u32 e1_3), V.p (Value.int .u32 e1_4), V.p (Value.int .i64 e1_5), V.p (Value.int .i64 e1_6), V.p (Value.int .i64 e1_7), V.p (Value.int .i64 e1_8), V.p (Value.int .i64 e1_9), V.p (Value.bool e1_10), V.sl 1 (rowsOf (encI .u8) e1_11), V.own 107]), (107, O.row true 2 45 (rowsOf encT45 m107)), (1000002, O.dead)] } : St) = some r.st := by
  unfold f26_pp_brbbiiiiiiiiiibrow_s1_l7_j2 at hF
  cases hF
  simp (maxSteps := 999999) (disch := first | exact D (by decide) | exact K (by kernel_rfl)) only [EA, EE, EG, EF, ED, ofVal, ofVal1, ofCell, lenV, aggEqV, cellEq, intBin, isShift, V.ids, lendV, frz, flatV, cellsOf, addOff, firstReg, oneOf, cellsAt, isAggD, isPure, ↓reduceIte, reduceCtorEq, Nat.reduceAdd, Nat.reduceSub, Nat.reduceMul, Nat.reduceLeDiff, Nat.reduceEqDiff, Nat.reduceBEq, Int.reduceToNat, Int.reduceLE, Int.reduceLT, Nat.reduceLT, Int.reduceBEq, Int.reduceBNe, Int.reduceEq, String.reduceEq, show (nav B26 [2, 2, 2, 1, 2, 2, 2, 2, 2, 2, 2, 3, 2, 2, 2, 1, 1]) = Code.region 17 _ false from rfl, hk_26_17, hz_26_17, hs_26_17, R26_pp_brbbiiiiiiiiiibrow_s1_l7.st]
noncomputable def f26_pp_brbbiiiiiiiiiibrow_s1_l7_j1 (k : Nat) (x93 : Int) (x94 : Int) (x95 : Bool) (e0 : List Int) (e0_1 : Bool) (e1 : Int) (e1_1 : Int) (e1_2 : Int) (e1_3 : Int) (e1_4 : Int) (e1_5 : Int) (e1_6 : Int) (e1_7 : Int) (e1_8 : Int) (e1_9 : Int) (e1_10 : Bool) (e1_11 : List Int) (h2_ : List T45) : Option R26_pp_brbbiiiiiiiiiibrow_s1_l7 :=
  Option.bind (f25_p_brb k e0 e0_1) fun o1 =>
    match o1 with
    | .o0 v4 v5 v6 =>
      Option.bind (f25_p_brb k v5 v6) fun o7 =>
        match o7 with
        | .o0 v10 v11 v12 =>
          ifE (((List.length h2_) + 1) * 16 ≤ roomy) (
            f26_pp_brbbiiiiiiiiiibrow_s1_l7_j2 k x93 x94 v11 v12 e1 e1_1 e1_2 e1_3 e1_4 e1_5 e1_6 e1_7 e1_8 e1_9 e1_10 e1_11 (h2_ ++ ([(T45.mk v4 v10)] : List T45)))
theorem f26_pp_brbbiiiiiiiiiibrow_s1_l7_j1_ok (k : Nat) (x93 : Int) (x94 : Int) (x95 : Bool) (e0 : List Int) (e0_1 : Bool) (e1 : Int) (e1_1 : Int) (e1_2 : Int) (e1_3 : Int) (e1_4 : Int) (e1_5 : Int) (e1_6 : Int) (e1_7 : Int) (e1_8 : Int) (e1_9 : Int) (e1_10 : Bool) (e1_11 : List Int) (h2_ : List T45) (r : R26_pp_brbbiiiiiiiiiibrow_s1_l7) (hF : f26_pp_brbbiiiiiiiiiibrow_s1_l7_j1 k x93 x94 x95 e0 e0_1 e1 e1_1 e1_2 e1_3 e1_4 e1_5 e1_6 e1_7 e1_8 e1_9 e1_10 e1_11 h2_ = some r) : EX 26 k (nav B26 [2, 2, 1, 2, 2, 2, 2, 2, 2, 2, 3, 2, 2, 2, 1, 1]) ({ n := 130, F := [(0, V.ptr 1000000 0), (1, V.ptr 1000001 0), (93, V.p (Value.int .i64 x93)), (94, V.p (Value.int .i64 x94)), (95, V.p (Value.bool x95))], M := [(1000000, O.box 57 [V.sl 1 (rowsOf (encI .u8) e0), V.p (Value.bool e0_1)]), (1000001, O.box 26 [V.p (Value.int .i64 e1), V.p (Value.int .i64 e1_1), V.p (Value.int .u32 e1_2), V.p (Value.int .u32 e1_3), V.p (Value.int .u32 e1_4), V.p (Value.int .i64 e1_5), V.p (Value.int .i64 e1_6), V.p (Value.int .i64 e1_7), V.p (Value.int .i64 e1_8), V.p (Value.int .i64 e1_9), V.p (Value.bool e1_10), V.sl 1 (rowsOf (encI .u8) e1_11), V.own 30002]), (30002, O.row true 2 45 (rowsOf encT45 h2_)), (1000002, O.dead)] } : St) = some r.st := by
  unfold f26_pp_brbbiiiiiiiiiibrow_s1_l7_j1 at hF
  replace hF := Option.bind_eq_some_iff.1 hF
  obtain ⟨o1, h2, hF⟩ := hF
  have hc3 := f25_p_brb_ok k e0 e0_1 _ h2
  cases o1 with
  | o0 v4 v5 v6 =>
    (try dsimp only at hF)
    (try simp only [NM, EE, R25_p_brb.st] at hc3)
    replace hF := Option.bind_eq_some_iff.1 hF
    obtain ⟨o7, h8, hF⟩ := hF
    have hc9 := f25_p_brb_ok k v5 v6 _ h8
    cases o7 with
    | o0 v10 v11 v12 =>
      (try dsimp only at hF)
      (try simp only [NM, EE, R25_p_brb.st] at hc9)
      have q13 : [[V.p (Value.int .i64 v4), V.p (Value.int .i64 v10)]] = rowsOf encT45 ([(T45.mk v4 v10)] : List T45) := rfl
      have q14 : List.map (tell [0, 0]) (rowsOf encT45 ([(T45.mk v4 v10)] : List T45)) = rowsOf encT45 ([(T45.mk v4 v10)] : List T45) := rfl
      replace hF := ifE_some.1 hF
      obtain ⟨h15, hF⟩ := hF
      have hJ := f26_pp_brbbiiiiiiiiiibrow_s1_l7_j2_ok k x93 x94 v11 v12 e1 e1_1 e1_2 e1_3 e1_4 e1_5 e1_6 e1_7 e1_8 e1_9 e1_10 e1_11 (h2_ ++ ([(T45.mk v4 v10)] : List T45)) _ hF
      simp (maxSteps := 999999) (disch := first | exact D (by decide) | exact K (by kernel_rfl)) only [EA, EE, EG, EF, ED, ofVal, ofVal1, ofCell, lenV, aggEqV, cellEq, intBin, isShift, V.ids, lendV, frz, flatV, cellsOf, addOff, firstReg, oneOf, cellsAt, isAggD, isPure, ↓reduceIte, reduceCtorEq, Nat.reduceAdd, Nat.reduceSub, Nat.reduceMul, Nat.reduceLeDiff, Nat.reduceEqDiff, Nat.reduceBEq, Int.reduceToNat, Int.reduceLE, Int.reduceLT, Nat.reduceLT, Int.reduceBEq, Int.reduceBNe, Int.reduceEq, String.reduceEq, xk B26 [2, 2, 1, 2, 2, 2, 2, 2, 2, 2, 3, 2, 2, 2, 1, 1] .sq rfl, xk B26 [1, 2, 2, 1, 2, 2, 2, 2, 2, 2, 2, 3, 2, 2, 2, 1, 1] (.bk 3) rfl, show (nav B26 [2, 1, 2, 2, 1, 2, 2, 2, 2, 2, 2, 2, 3, 2, 2, 2, 1, 1]) = Code.region 16 _ true from rfl, hk_26_16, hz_26_16, hs_26_16, fieldAddrV, u_26, i_26, is_26, ib_26, iz_26, u_24, i_24, is_24, ib_24, iz_24, callStep, calleeOf, gv, List.contains, bl_45, u_45, i_45, is_45, ib_45, iz_45, buildSliceV, fillRows, sm_45, appendV, content, hc3, hc9, q13, q14, h15]
      try simp only [NM, EE] at hJ
      exact hJ
noncomputable def f26_pp_brbbiiiiiiiiiibrow_s1_l7_b (k : Nat) (x93 : Int) (x94 : Int) (e0 : List Int) (e0_1 : Bool) (e1 : Int) (e1_1 : Int) (e1_2 : Int) (e1_3 : Int) (e1_4 : Int) (e1_5 : Int) (e1_6 : Int) (e1_7 : Int) (e1_8 : Int) (e1_9 : Int) (e1_10 : Bool) (e1_11 : List Int) (h2_ : List T45) : Option R26_pp_brbbiiiiiiiiiibrow_s1_l7 :=
  cond ((decide (x94 < x93)))
    (f26_pp_brbbiiiiiiiiiibrow_s1_l7_j1 k x93 x94 true e0 e0_1 e1 e1_1 e1_2 e1_3 e1_4 e1_5 e1_6 e1_7 e1_8 e1_9 e1_10 e1_11 h2_)
    (some (R26_pp_brbbiiiiiiiiiibrow_s1_l7.o1 x93 x94 false e0 e0_1 e1 e1_1 e1_2 e1_3 e1_4 e1_5 e1_6 e1_7 e1_8 e1_9 e1_10 e1_11 h2_))
theorem f26_pp_brbbiiiiiiiiiibrow_s1_l7_b_ok (k : Nat) (x93 : Int) (x94 : Int) (e0 : List Int) (e0_1 : Bool) (e1 : Int) (e1_1 : Int) (e1_2 : Int) (e1_3 : Int) (e1_4 : Int) (e1_5 : Int) (e1_6 : Int) (e1_7 : Int) (e1_8 : Int) (e1_9 : Int) (e1_10 : Bool) (e1_11 : List Int) (h2_ : List T45) (r : R26_pp_brbbiiiiiiiiiibrow_s1_l7) (hF : f26_pp_brbbiiiiiiiiiibrow_s1_l7_b k x93 x94 e0 e0_1 e1 e1_1 e1_2 e1_3 e1_4 e1_5 e1_6 e1_7 e1_8 e1_9 e1_10 e1_11 h2_ = some r) : EX 26 k (nav B26 [1, 2, 2, 2, 2, 2, 2, 2, 3, 2, 2, 2, 1, 1]) ({ n := 130, F := [(0, V.ptr 1000000 0), (1, V.ptr 1000001 0), (93, V.p (Value.int .i64 x93)), (94, V.p (Value.int .i64 x94))], M := [(1000000, O.box 57 [V.sl 1 (rowsOf (encI .u8) e0), V.p (Value.bool e0_1)]), (1000001, O.box 26 [V.p (Value.int .i64 e1), V.p (Value.int .i64 e1_1), V.p (Value.int .u32 e1_2), V.p (Value.int .u32 e1_3), V.p (Value.int .u32 e1_4), V.p (Value.int .i64 e1_5), V.p (Value.int .i64 e1_6), V.p (Value.int .i64 e1_7), V.p (Value.int .i64 e1_8), V.p (Value.int .i64 e1_9), V.p (Value.bool e1_10), V.sl 1 (rowsOf (encI .u8) e1_11), V.own 30002]), (30002, O.row true 2 45 (rowsOf encT45 h2_)), (1000002, O.dead)] } : St) = some r.st := by
  unfold f26_pp_brbbiiiiiiiiiibrow_s1_l7_b at hF
  simp (maxSteps := 999999) (disch := first | exact D (by decide) | exact K (by kernel_rfl)) only [EA, EE, EG, EF, ED, ofVal, ofVal1, ofCell, lenV, aggEqV, cellEq, intBin, isShift, V.ids, lendV, frz, flatV, cellsOf, addOff, firstReg, oneOf, cellsAt, isAggD, isPure, ↓reduceIte, reduceCtorEq, Nat.reduceAdd, Nat.reduceSub, Nat.reduceMul, Nat.reduceLeDiff, Nat.reduceEqDiff, Nat.reduceBEq, Int.reduceToNat, Int.reduceLE, Int.reduceLT, Nat.reduceLT, Int.reduceBEq, Int.reduceBNe, Int.reduceEq, String.reduceEq, xk B26 [1, 2, 2, 2, 2, 2, 2, 2, 3, 2, 2, 2, 1, 1] .sq rfl, show (nav B26 [1, 1, 2, 2, 2, 2, 2, 2, 2, 3, 2, 2, 2, 1, 1]) = Code.region 15 _ false from rfl, hk_26_15, hz_26_15, hs_26_15, xk B26 [2, 1, 2, 2, 2, 2, 2, 2, 2, 3, 2, 2, 2, 1, 1] .sq rfl, xk B26 [1, 2, 1, 2, 2, 2, 2, 2, 2, 2, 3, 2, 2, 2, 1, 1] (.cd 95) rfl]
  replace hF := cond_some hF
  rcases hF with ⟨h1, hF⟩ | ⟨h1, hF⟩
  · have hJ := f26_pp_brbbiiiiiiiiiibrow_s1_l7_j1_ok k x93 x94 true e0 e0_1 e1 e1_1 e1_2 e1_3 e1_4 e1_5 e1_6 e1_7 e1_8 e1_9 e1_10 e1_11 h2_ _ hF
    simp (maxSteps := 999999) (disch := first | exact D (by decide) | exact K (by kernel_rfl)) only [EA, EE, EG, EF, ED, ofVal, ofVal1, ofCell, lenV, aggEqV, cellEq, intBin, isShift, V.ids, lendV, frz, flatV, cellsOf, addOff, firstReg, oneOf, cellsAt, isAggD, isPure, ↓reduceIte, reduceCtorEq, Nat.reduceAdd, Nat.reduceSub, Nat.reduceMul, Nat.reduceLeDiff, Nat.reduceEqDiff, Nat.reduceBEq, Int.reduceToNat, Int.reduceLE, Int.reduceLT, Nat.reduceLT, Int.reduceBEq, Int.reduceBNe, Int.reduceEq, String.reduceEq, xk B26 [2, 1, 2, 1, 2, 2, 2, 2, 2, 2, 2, 3, 2, 2, 2, 1, 1] .sk rfl, h1]
    try simp only [NM, EE] at hJ
    exact hJ
  · cases hF
    simp (maxSteps := 999999) (disch := first | exact D (by decide) | exact K (by kernel_rfl)) only [EA, EE, EG, EF, ED, ofVal, ofVal1, ofCell, lenV, aggEqV, cellEq, intBin, isShift, V.ids, lendV, frz, flatV, cellsOf, addOff, firstReg, oneOf, cellsAt, isAggD, isPure, ↓reduceIte, reduceCtorEq, Nat.reduceAdd, Nat.reduceSub, Nat.reduceMul, Nat.reduceLeDiff, Nat.reduceEqDiff, Nat.reduceBEq, Int.reduceToNat, Int.reduceLE, Int.reduceLT, Nat.reduceLT, Int.reduceBEq, Int.reduceBNe, Int.reduceEq, String.reduceEq, xk B26 [3, 1, 2, 1, 2, 2, 2, 2, 2, 2, 2, 3, 2, 2, 2, 1, 1] (.ex 2) rfl, R26_pp_brbbiiiiiiiiiibrow_s1_l7.st, h1]
noncomputable def f26_pp_brbbiiiiiiiiiibrow_s1_l7 (k : Nat) : Nat → Int → Int → (List Int) → Bool → Int → Int → Int → Int → Int → Int → Int → Int → Int → Int → Bool → (List Int) → (List T45) → Option R26_pp_brbbiiiiiiiiiibrow_s1_l7
  | 0, _, _, _, _, _, _, _, _, _, _, _, _, _, _, _, _, _ => none
  | n + 1, x93, x94, e0, e0_1, e1, e1_1, e1_2, e1_3, e1_4, e1_5, e1_6, e1_7, e1_8, e1_9, e1_10, e1_11, h2_ => Option.bind (f26_pp_brbbiiiiiiiiiibrow_s1_l7_b k x93 x94 e0 e0_1 e1 e1_1 e1_2 e1_3 e1_4 e1_5 e1_6 e1_7 e1_8 e1_9 e1_10 e1_11 h2_) fun o =>
    match o with
    | .o0 y y_1 y_2 y_3 y_4 y_5 y_6 y_7 y_8 y_9 y_10 y_11 y_12 y_13 y_14 y_15 y_16 => f26_pp_brbbiiiiiiiiiibrow_s1_l7 k n y y_1 y_2 y_3 y_4 y_5 y_6 y_7 y_8 y_9 y_10 y_11 y_12 y_13 y_14 y_15 y_16
    | .o1 y y_1 y_2 y_3 y_4 y_5 y_6 y_7 y_8 y_9 y_10 y_11 y_12 y_13 y_14 y_15 y_16 y_17 => some (.o1 y y_1 y_2 y_3 y_4 y_5 y_6 y_7 y_8 y_9 y_10 y_11 y_12 y_13 y_14 y_15 y_16 y_17)
theorem f26_pp_brbbiiiiiiiiiibrow_s1_l7_ok (k : Nat) (n : Nat) : ∀ (x93 : Int) (x94 : Int) (e0 : List Int) (e0_1 : Bool) (e1 : Int) (e1_1 : Int) (e1_2 : Int) (e1_3 : Int) (e1_4 : Int) (e1_5 : Int) (e1_6 : Int) (e1_7 : Int) (e1_8 : Int) (e1_9 : Int) (e1_10 : Bool) (e1_11 : List Int) (h2_ : List T45) (r : R26_pp_brbbiiiiiiiiiibrow_s1_l7) (hF : f26_pp_brbbiiiiiiiiiibrow_s1_l7 k n x93 x94 e0 e0_1 e1 e1_1 e1_2 e1_3 e1_4 e1_5 e1_6 e1_7 e1_8 e1_9 e1_10 e1_11 h2_ = some r) (σ : St) (hσ : headR (hints.head 26 15) (hints.canon 26 15) σ = some ({ n := 130, F := [(0, V.ptr 1000000 0), (1, V.ptr 1000001 0), (93, V.p (Value.int .i64 x93)), (94, V.p (Value.int .i64 x94))], M := [(1000000, O.box 57 [V.sl 1 (rowsOf (encI .u8) e0), V.p (Value.bool e0_1)]), (1000001, O.box 26 [V.p (Value.int .i64 e1), V.p (Value.int .i64 e1_1), V.p (Value.int .u32 e1_2), V.p (Value.int .u32 e1_3), V.p (Value.int .u32 e1_4), V.p (Value.int .i64 e1_5), V.p (Value.int .i64 e1_6), V.p (Value.int .i64 e1_7), V.p (Value.int .i64 e1_8), V.p (Value.int .i64 e1_9), V.p (Value.bool e1_10), V.sl 1 (rowsOf (encI .u8) e1_11), V.own 30002]), (30002, O.row true 2 45 (rowsOf encT45 h2_)), (1000002, O.dead)] } : St)), LP 26 k (nav B26 [1, 2, 2, 2, 2, 2, 2, 2, 3, 2, 2, 2, 1, 1]) n σ = some r.st := by
  induction n with
  | zero => intro x93 x94 e0 e0_1 e1 e1_1 e1_2 e1_3 e1_4 e1_5 e1_6 e1_7 e1_8 e1_9 e1_10 e1_11 h2_ r hF; cases hF
  | succ n ih =>
    intro x93 x94 e0 e0_1 e1 e1_1 e1_2 e1_3 e1_4 e1_5 e1_6 e1_7 e1_8 e1_9 e1_10 e1_11 h2_ r hF σ hσ
    rw [f26_pp_brbbiiiiiiiiiibrow_s1_l7] at hF
    obtain ⟨o, h, hF⟩ := Option.bind_eq_some_iff.1 hF
    have hB := f26_pp_brbbiiiiiiiiiibrow_s1_l7_b_ok k x93 x94 e0 e0_1 e1 e1_1 e1_2 e1_3 e1_4 e1_5 e1_6 e1_7 e1_8 e1_9 e1_10 e1_11 h2_ o h
    unfold LP at ih ⊢
    unfold EX at hB
    rw [loopK_succ, show firstReg (nav B26 [1, 2, 2, 2, 2, 2, 2, 2, 3, 2, 2, 2, 1, 1]) = 15 from rfl, hσ, headK_some, hB]
    cases o with
    | o0 y y_1 y_2 y_3 y_4 y_5 y_6 y_7 y_8 y_9 y_10 y_11 y_12 y_13 y_14 y_15 y_16 =>
      refine ih y y_1 y_2 y_3 y_4 y_5 y_6 y_7 y_8 y_9 y_10 y_11 y_12 y_13 y_14 y_15 y_16 r hF _ ?_
      simp (maxSteps := 999999) (disch := first | exact D (by decide) | exact K (by kernel_rfl)) only [EA, EE, EG, EF, ED, ofVal, ofVal1, ofCell, lenV, aggEqV, cellEq, intBin, isShift, V.ids, lendV, frz, flatV, cellsOf, addOff, firstReg, oneOf, cellsAt, isAggD, isPure, ↓reduceIte, reduceCtorEq, Nat.reduceAdd, Nat.reduceSub, Nat.reduceMul, Nat.reduceLeDiff, Nat.reduceEqDiff, Nat.reduceBEq, Int.reduceToNat, Int.reduceLE, Int.reduceLT, Nat.reduceLT, Int.reduceBEq, Int.reduceBNe, Int.reduceEq, String.reduceEq, hh_26_15, hc_26_15]
    | o1 y y_1 y_2 y_3 y_4 y_5 y_6 y_7 y_8 y_9 y_10 y_11 y_12 y_13 y_14 y_15 y_16 y_17 => cases hF; rfl
noncomputable def f26_pp_brbbiiiiiiiiiibrow_s1_l6 (k : Nat) : Nat → Int → Int → (List Int) → Bool → Int → Int → Int → Int → Int → Int → Int → Int → Int → Int → Bool → (List Int) → (List T45) → Option R26_pp_brbbiiiiiiiiiibrow_s1_l6
  | 0, _, _, _, _, _, _, _, _, _, _, _, _, _, _, _, _, _ => none
  | n + 1, x93, x94, e0, e0_1, e1, e1_1, e1_2, e1_3, e1_4, e1_5, e1_6, e1_7, e1_8, e1_9, e1_10, e1_11, e2 => Option.bind (f26_pp_brbbiiiiiiiiiibrow_s1_l6_b k x93 x94 e0 e0_1 e1 e1_1 e1_2 e1_3 e1_4 e1_5 e1_6 e1_7 e1_8 e1_9 e1_10 e1_11 e2) fun o =>
    match o with
    | .o0 y y_1 y_2 y_3 y_4 y_5 y_6 y_7 y_8 y_9 y_10 y_11 y_12 y_13 y_14 y_15 y_16 => Option.bind (f26_pp_brbbiiiiiiiiiibrow_s1_l7 k n y y_1 y_2 y_3 y_4 y_5 y_6 y_7 y_8 y_9 y_10 y_11 y_12 y_13 y_14 y_15 y_16) fun o2 =>
      match o2 with
      | .o0 z0 z1 z2 z3 z4 z5 z6 z7 z8 z9 z10 z11 z12 z13 z14 z15 z16 => none
      | .o1 z0 z1 z2 z3 z4 z5 z6 z7 z8 z9 z10 z11 z12 z13 z14 z15 z16 z17 => some (.o2 z0 z1 z2 z3 z4 z5 z6 z7 z8 z9 z10 z11 z12 z13 z14 z15 z16 z17)
    | .o1 y y_1 y_2 y_3 y_4 y_5 y_6 y_7 y_8 y_9 y_10 y_11 y_12 y_13 y_14 y_15 y_16 y_17 => some (.o1 y y_1 y_2 y_3 y_4 y_5 y_6 y_7 y_8 y_9 y_10 y_11 y_12 y_13 y_14 y_15 y_16 y_17)
    | .o2 y y_1 y_2 y_3 y_4 y_5 y_6 y_7 y_8 y_9 y_10 y_11 y_12 y_13 y_14 y_15 y_16 y_17 => some (.o2 y y_1 y_2 y_3 y_4 y_5 y_6 y_7 y_8 y_9 y_10 y_11 y_12 y_13 y_14 y_15 y_16 y_17)
theorem f26_pp_brbbiiiiiiiiiibrow_s1_l6_ok (k : Nat) (n : Nat) : ∀ (x93 : Int) (x94 : Int) (e0 : List Int) (e0_1 : Bool) (e1 : Int) (e1_1 : Int) (e1_2 : Int) (e1_3 : Int) (e1_4 : Int) (e1_5 : Int) (e1_6 : Int) (e1_7 : Int) (e1_8 : Int) (e1_9 : Int) (e1_10 : Bool) (e1_11 : List Int) (e2 : List T45) (r : R26_pp_brbbiiiiiiiiiibrow_s1_l6) (hF : f26_pp_brbbiiiiiiiiiibrow_s1_l6 k n x93 x94 e0 e0_1 e1 e1_1 e1_2 e1_3 e1_4 e1_5 e1_6 e1_7 e1_8 e1_9 e1_10 e1_11 e2 = some r) (σ : St) (hσ : headR (hints.head 26 15) (hints.canon 26 15) σ = some ({ n := 130, F := [(0, V.ptr 1000000 0), (1, V.ptr 1000001 0), (93, V.p (Value.int .i64 x93)), (94, V.p (Value.int .i64 x94))], M := [(1000000, O.box 57 [V.sl 1 (rowsOf (encI .u8) e0), V.p (Value.bool e0_1)]), (1000001, O.box 26 [V.p (Value.int .i64 e1), V.p (Value.int .i64 e1_1), V.p (Value.int .u32 e1_2), V.p (Value.int .u32 e1_3), V.p (Value.int .u32 e1_4), V.p (Value.int .i64 e1_5), V.p (Value.int .i64 e1_6), V.p (Value.int .i64 e1_7), V.p (Value.int .i64 e1_8), V.p (Value.int .i64 e1_9), V.p (Value.bool e1_10), V.sl 1 (rowsOf (encI .u8) e1_11), V.own 1000002]), (1000002, O.row true 2 45 (rowsOf encT45 e2))] } : St)), LP 26 k (nav B26 [1, 2, 2, 2, 2, 2, 2, 2, 3, 2, 2, 2, 1, 1]) n σ = some r.st := by
  induction n with
  | zero => intro x93 x94 e0 e0_1 e1 e1_1 e1_2 e1_3 e1_4 e1_5 e1_6 e1_7 e1_8 e1_9 e1_10 e1_11 e2 r hF; cases hF
  | succ n ih =>
    intro x93 x94 e0 e0_1 e1 e1_1 e1_2 e1_3 e1_4 e1_5 e1_6 e1_7 e1_8 e1_9 e1_10 e1_11 e2 r hF σ hσ
    rw [f26_pp_brbbiiiiiiiiiibrow_s1_l6] at hF
    obtain ⟨o, h, hF⟩ := Option.bind_eq_some_iff.1 hF
    have hB := f26_pp_brbbiiiiiiiiiibrow_s1_l6_b_ok k x93 x94 e0 e0_1 e1 e1_1 e1_2 e1_3 e1_4 e1_5 e1_6 e1_7 e1_8 e1_9 e1_10 e1_11 e2 o h
    unfold LP at ih ⊢
    unfold EX at hB
    rw [loopK_succ, show firstReg (nav B26 [1, 2, 2, 2, 2, 2, 2, 2, 3, 2, 2, 2, 1, 1]) = 15 from rfl, hσ, headK_some, hB]
    cases o with
    | o0 y y_1 y_2 y_3 y_4 y_5 y_6 y_7 y_8 y_9 y_10 y_11 y_12 y_13 y_14 y_15 y_16 =>
      replace hF := Option.bind_eq_some_iff.1 hF
      obtain ⟨o2, h2, hF⟩ := hF
      refine Eq.trans (f26_pp_brbbiiiiiiiiiibrow_s1_l7_ok k n y y_1 y_2 y_3 y_4 y_5 y_6 y_7 y_8 y_9 y_10 y_11 y_12 y_13 y_14 y_15 y_16 o2 h2 _ ?_) ?_
      · simp (maxSteps := 999999) (disch := first | exact D (by decide) | exact K (by kernel_rfl)) only [EA, EE, EG, EF, ED, ofVal, ofVal1, ofCell, lenV, aggEqV, cellEq, intBin, isShift, V.ids, lendV, frz, flatV, cellsOf, addOff, firstReg, oneOf, cellsAt, isAggD, isPure, ↓reduceIte, reduceCtorEq, Nat.reduceAdd, Nat.reduceSub, Nat.reduceMul, Nat.reduceLeDiff, Nat.reduceEqDiff, Nat.reduceBEq, Int.reduceToNat, Int.reduceLE, Int.reduceLT, Nat.reduceLT, Int.reduceBEq, Int.reduceBNe, Int.reduceEq, String.reduceEq, hh_26_15, hc_26_15]
      · cases o2 <;> first | (cases hF; rfl) | cases hF
    | o1 y y_1 y_2 y_3 y_4 y_5 y_6 y_7 y_8 y_9 y_10 y_11 y_12 y_13 y_14 y_15 y_16 y_17 => cases hF; rfl
    | o2 y y_1 y_2 y_3 y_4 y_5 y_6 y_7 y_8 y_9 y_10 y_11 y_12 y_13 y_14 y_15 y_16 y_17 => cases hF; rfl
noncomputable def f26_pp_brbbiiiiiiiiiibrow_s1_j8 (k : Nat) (x93 : Int) (x94 : Int) (x95 : Bool) (e0 : List Int) (e0_1 : Bool) (e1 : Int) (e1_1 : Int) (e1_2 : Int) (e1_3 : Int) (e1_4 : Int) (e1_5 : Int) (e1_6 : Int) (e1_7 : Int) (e1_8 : Int) (e1_9 : Int) (e1_10 : Bool) (e1_11 : List Int) (e2 : List T45) : Option R26_pp_brbbiiiiiiiiiibrow_s1 :=
  some (R26_pp_brbbiiiiiiiiiibrow_s1.o4 x93 x94 x95 e0 e0_1 e1 e1_1 e1_2 e1_3 e1_4 e1_5 e1_6 e1_7 e1_8 e1_9 e1_10 e1_11 e2)
theorem f26_pp_brbbiiiiiiiiiibrow_s1_j8_ok (k : Nat) (x93 : Int) (x94 : Int) (x95 : Bool) (e0 : List Int) (e0_1 : Bool) (e1 : Int) (e1_1 : Int) (e1_2 : Int) (e1_3 : Int) (e1_4 : Int) (e1_5 : Int) (e1_6 : Int) (e1_7 : Int) (e1_8 : Int) (e1_9 : Int) (e1_10 : Bool) (e1_11 : List Int) (e2 : List T45) (r : R26_pp_brbbiiiiiiiiiibrow_s1) (hF : f26_pp_brbbiiiiiiiiiibrow_s1_j8 k x93 x94 x95 e0 e0_1 e1 e1_1 e1_2 e1_3 e1_4 e1_5 e1_6 e1_7 e1_8 e1_9 e1_10 e1_11 e2 = some r) : EX 26 k (nav B26 [2, 1]) ({ n := 130, F := [(0, V.ptr 1000000 0), (1, V.ptr 1000001 0), (93, V.p (Value.int .i64 x93)), (94, V.p (Value.int .i64 x94)), (95, V.p (Value.bool x95))], M := [(1000000, O.box 57 [V.sl 1 (rowsOf (encI .u8) e0), V.p (Value.bool e0_1)]), (1000001, O.box 26 [V.p (Value.int .i64 e1), V.p (Value.int .i64 e1_1), V.p (Value.int .u32 e1_2), V.p (Value.int .u32 e1_3), V.p (Value.int .u32 e1_4), V.p (Value.int .i64 e1_5), V.p (Value.int .i64 e1_6), V.p (Value.int .i64 e1_7), V.p (Value.int .i64 e1_8), V.p (Value.int .i64 e1_9), V.p (Value.bool e1_10), V.sl 1 (rowsOf (encI .u8) e1_11), V.own 1000002]), (1000002, O.row true 2 45 (rowsOf encT45 e2))] } : St) = some r.st := by
  unfold f26_pp_brbbiiiiiiiiiibrow_s1_j8 at hF
  cases hF
  simp (maxSteps := 999999) (disch := first | exact D (by decide) | exact K (by kernel_rfl)) only [EA, EE, EG, EF, ED, ofVal, ofVal1, ofCell, lenV, aggEqV, cellEq, intBin, isShift, V.ids, lendV, frz, flatV, cellsOf, addOff, firstReg, oneOf, cellsAt, isAggD, isPure, ↓reduceIte, reduceCtorEq, Nat.reduceAdd, Nat.reduceSub, Nat.reduceMul, Nat.reduceLeDiff, Nat.reduceEqDiff, Nat.reduceBEq, Int.reduceToNat, Int.reduceLE, Int.reduceLT, Nat.reduceLT, Int.reduceBEq, Int.reduceBNe, Int.reduceEq, String.reduceEq, xk B26 [2, 1] .sq rfl, xk B26 [1, 2, 1] .rt rfl, R26_pp_brbbiiiiiiiiiibrow_s1.st]
noncomputable def f26_pp_brbbiiiiiiiiiibrow_s1_j9 (k : Nat) (x93 : Int) (x94 : Int) (x95 : Bool) (e0 : List Int) (e0_1 : Bool) (e1 : Int) (e1_1 : Int) (e1_2 : Int) (e1_3 : Int) (e1_4 : Int) (e1_5 : Int) (e1_6 : Int) (e1_7 : Int) (e1_8 : Int) (e1_9 : Int) (e1_10 : Bool) (e1_11 : List Int) (h2_ : List T45) : Option R26_pp_brbbiiiiiiiiiibrow_s1 :=
  some (R26_pp_brbbiiiiiiiiiibrow_s1.o5 x93 x94 x95 e0 e0_1 e1 e1_1 e1_2 e1_3 e1_4 e1_5 e1_6 e1_7 e1_8 e1_9 e1_10 e1_11 h2_)
theorem f26_pp_brbbiiiiiiiiiibrow_s1_j9_ok (k : Nat) (x93 : Int) (x94 : Int) (x95 : Bool) (e0 : List Int) (e0_1 : Bool) (e1 : Int) (e1_1 : Int) (e1_2 : Int) (e1_3 : Int) (e1_4 : Int) (e1_5 : Int) (e1_6 : Int) (e1_7 : Int) (e1_8 : Int) (e1_9 : Int) (e1_10 : Bool) (e1_11 : List Int) (h2_ : List T45) (r : R26_pp_brbbiiiiiiiiiibrow_s1) (hF : f26_pp_brbbiiiiiiiiiibrow_s1_j9 k x93 x94 x95 e0 e0_1 e1 e1_1 e1_2 e1_3 e1_4 e1_5 e1_6 e1_7 e1_8 e1_9 e1_10 e1_11 h2_ = some r) : EX 26 k (nav B26 [2, 1]) ({ n := 130, F := [(0, V.ptr 1000000 0), (1, V.ptr 1000001 0), (93, V.p (Value.int .i64 x93)), (94, V.p (Value.int .i64 x94)), (95, V.p (Value.bool x95))], M := [(1000000, O.box 57 [V.sl 1 (rowsOf (encI .u8) e0), V.p (Value.bool e0_1)]), (1000001, O.box 26 [V.p (Value.int .i64 e1), V.p (Value.int .i64 e1_1), V.p (Value.int .u32 e1_2), V.p (Value.int .u32 e1_3), V.p (Value.int .u32 e1_4), V.p (Value.int .i64 e1_5), V.p (Value.int .i64 e1_6), V.p (Value.int .i64 e1_7), V.p (Value.int .i64 e1_8), V.p (Value.int .i64 e1_9), V.p (Value.bool e1_10), V.sl 1 (rowsOf (encI .u8) e1_11), V.own 30002]), (30002, O.row true 2 45 (rowsOf encT45 h2_)), (1000002, O.dead)] } : St) = some r.st := by
  unfold f26_pp_brbbiiiiiiiiiibrow_s1_j9 at hF
  cases hF
  simp (maxSteps := 999999) (disch := first | exact D (by decide) | exact K (by kernel_rfl)) only [EA, EE, EG, EF, ED, ofVal, ofVal1, ofCell, lenV, aggEqV, cellEq, intBin, isShift, V.ids, lendV, frz, flatV, cellsOf, addOff, firstReg, oneOf, cellsAt, isAggD, isPure, ↓reduceIte, reduceCtorEq, Nat.reduceAdd, Nat.reduceSub, Nat.reduceMul, Nat.reduceLeDiff, Nat.reduceEqDiff, Nat.reduceBEq, Int.reduceToNat, Int.reduceLE, Int.reduceLT, Nat.reduceLT, Int.reduceBEq, Int.reduceBNe, Int.reduceEq, String.reduceEq, xk B26 [2, 1] .sq rfl, xk B26 [1, 2, 1] .rt rfl, R26_pp_brbbiiiiiiiiiibrow_s1.st]
noncomputable def f26_pp_brbbiiiiiiiiiibrow_s1_j5 (k : Nat) (x5 : Int) (x92 : Bool) (e0 : List Int) (e0_1 : Bool) (e1 : Int) (e1_1 : Int) (e1_2 : Int) (e1_3 : Int) (e1_4 : Int) (e1_5 : Int) (e1_6 : Int) (e1_7 : Int) (e1_8 : Int) (e1_9 : Int) (e1_10 : Bool) (e1_11 : List Int) (e2 : List T45) : Option R26_pp_brbbiiiiiiiiiibrow_s1 :=
  Option.bind (f26_pp_brbbiiiiiiiiiibrow_s1_l6 k k x5 0 e0 e0_1 e1 e1_1 e1_2 e1_3 e1_4 e1_5 e1_6 e1_7 e1_8 e1_9 e1_10 e1_11 e2) fun o1 =>
    match o1 with
    | .o0 _ _ _ _ _ _ _ _ _ _ _ _ _ _ _ _ _ =>
      none  -- no way out
    | .o1 v4 v5 v6 v7 v8 v9 v10 v11 v12 v13 v14 v15 v16 v17 v18 v19 v20 v21 =>
      f26_pp_brbbiiiiiiiiiibrow_s1_j8 k v4 v5 v6 v7 v8 v9 v10 v11 v12 v13 v14 v15 v16 v17 v18 v19 v20 v21
    | .o2 v22 v23 v24 v25 v26 v27 v28 v29 v30 v31 v32 v33 v34 v35 v36 v37 v38 v39 =>
      f26_pp_brbbiiiiiiiiiibrow_s1_j9 k v22 v23 v24 v25 v26 v27 v28 v29 v30 v31 v32 v33 v34 v35 v36 v37 v38 v39
theorem f26_pp_brbbiiiiiiiiiibrow_s1_j5_ok (k : Nat) (x5 : Int) (x92 : Bool) (e0 : List Int) (e0_1 : Bool) (e1 : Int) (e1_1 : Int) (e1_2 : Int) (e1_3 : Int) (e1_4 : Int) (e1_5 : Int) (e1_6 : Int) (e1_7 : Int) (e1_8 : Int) (e1_9 : Int) (e1_10 : Bool) (e1_11 : List Int) (e2 : List T45) (r : R26_pp_brbbiiiiiiiiiibrow_s1) (hF : f26_pp_brbbiiiiiiiiiibrow_s1_j5 k x5 x92 e0 e0_1 e1 e1_1 e1_2 e1_3 e1_4 e1_5 e1_6 e1_7 e1_8 e1_9 e1_10 e1_11 e2 = some r) : SQ 26 k (nav B26 [2, 1]) (blockK 0 (EX 26 k (nav B26 [2, 2, 2, 2, 2, 3, 2, 2, 2, 1, 1]) ({ n := 130, F := [(0, V.ptr 1000000 0), (1, V.ptr 1000001 0), (5, V.p (Value.int .i64 x5)), (92, V.p (Value.bool x92))], M := [(1000000, O.box 57 [V.sl 1 (rowsOf (encI .u8) e0), V.p (Value.bool e0_1)]), (1000001, O.box 26 [V.p (Value.int .i64 e1), V.p (Value.int .i64 e1_1), V.p (Value.int .u32 e1_2), V.p (Value.int .u32 e1_3), V.p (Value.int .u32 e1_4), V.p (Value.int .i64 e1_5), V.p (Value.int .i64 e1_6), V.p (Value.int .i64 e1_7), V.p (Value.int .i64 e1_8), V.p (Value.int .i64 e1_9), V.p (Value.bool e1_10), V.sl 1 (rowsOf (encI .u8) e1_11), V.own 1000002]), (1000002, O.row true 2 45 (rowsOf encT45 e2))] } : St))) = some r.st := by
  unfold f26_pp_brbbiiiiiiiiiibrow_s1_j5 at hF
  replace hF := Option.bind_eq_some_iff.1 hF
  obtain ⟨o1, h2, hF⟩ := hF
  have hc3 := f26_pp_brbbiiiiiiiiiibrow_s1_l6_ok k k x5 0 e0 e0_1 e1 e1_1 e1_2 e1_3 e1_4 e1_5 e1_6 e1_7 e1_8 e1_9 e1_10 e1_11 e2 _ h2
  simp (maxSteps := 999999) (disch := first | exact D (by decide) | exact K (by kernel_rfl)) only [EA, EE, EG, EF, ED, ofVal, ofVal1, ofCell, lenV, aggEqV, cellEq, intBin, isShift, V.ids, lendV, frz, flatV, cellsOf, addOff, firstReg, oneOf, cellsAt, isAggD, isPure, ↓reduceIte, reduceCtorEq, Nat.reduceAdd, Nat.reduceSub, Nat.reduceMul, Nat.reduceLeDiff, Nat.reduceEqDiff, Nat.reduceBEq, Int.reduceToNat, Int.reduceLE, Int.reduceLT, Nat.reduceLT, Int.reduceBEq, Int.reduceBNe, Int.reduceEq, String.reduceEq, xk B26 [2, 2, 2, 2, 2, 3, 2, 2, 2, 1, 1] .sq rfl, show (nav B26 [1, 2, 2, 2, 2, 2, 3, 2, 2, 2, 1, 1]) = Code.region 14 _ false from rfl, hk_26_14, hz_26_14, hs_26_14, xk B26 [2, 2, 2, 2, 2, 2, 3, 2, 2, 2, 1, 1] (.bk 2) rfl, xk B26 [2, 2, 2, 2, 2, 2, 2, 3, 2, 2, 2, 1, 1] .lp rfl, hh_26_15, hc_26_15]
  (try simp only [NM, EE] at hc3)
  rw [hc3 _ (by simp (maxSteps := 999999) (disch := first | exact D (by decide) | exact K (by kernel_rfl)) only [EA, EE, EG, EF, ED, ofVal, ofVal1, ofCell, lenV, aggEqV, cellEq, intBin, isShift, V.ids, lendV, frz, flatV, cellsOf, addOff, firstReg, oneOf, cellsAt, isAggD, isPure, ↓reduceIte, reduceCtorEq, Nat.reduceAdd, Nat.reduceSub, Nat.reduceMul, Nat.reduceLeDiff, Nat.reduceEqDiff, Nat.reduceBEq, Int.reduceToNat, Int.reduceLE, Int.reduceLT, Nat.reduceLT, Int.reduceBEq, Int.reduceBNe, Int.reduceEq, String.reduceEq, hh_26_15, hc_26_15])]
  clear hc3
  cases o1 with
  | o0 _ _ _ _ _ _ _ _ _ _ _ _ _ _ _ _ _ =>
    (try dsimp only at hF)
    cases hF
  | o1 v4 v5 v6 v7 v8 v9 v10 v11 v12 v13 v14 v15 v16 v17 v18 v19 v20 v21 =>
    (try dsimp only at hF)
    have hJ := f26_pp_brbbiiiiiiiiiibrow_s1_j8_ok k v4 v5 v6 v7 v8 v9 v10 v11 v12 v13 v14 v15 v16 v17 v18 v19 v20 v21 _ hF
    simp (maxSteps := 999999) (disch := first | exact D (by decide) | exact K (by kernel_rfl)) only [EA, EE, EG, EF, ED, ofVal, ofVal1, ofCell, lenV, aggEqV, cellEq, intBin, isShift, V.ids, lendV, frz, flatV, cellsOf, addOff, firstReg, oneOf, cellsAt, isAggD, isPure, ↓reduceIte, reduceCtorEq, Nat.reduceAdd, Nat.reduceSub, Nat.reduceMul, Nat.reduceLeDiff, Nat.reduceEqDiff, Nat.reduceBEq, Int.reduceToNat, Int.reduceLE, Int.reduceLT, Nat.reduceLT, Int.reduceBEq, Int.reduceBNe, Int.reduceEq, String.reduceEq, R26_pp_brbbiiiiiiiiiibrow_s1_l6.st]
    try simp only [NM, EE] at hJ
    exact hJ
  | o2 v22 v23 v24 v25 v26 v27 v28 v29 v30 v31 v32 v33 v34 v35 v36 v37 v38 v39 =>
    (try dsimp only at hF)
    have hJ := f26_pp_brbbiiiiiiiiiibrow_s1_j9_ok k v22 v23 v24 v25 v26 v27 v28 v29 v30 v31 v32 v33 v34 v35 v36 v37 v38 v39 _ hF
    simp (maxSteps := 999999) (disch := first | exact D (by decide) | exact K (by kernel_rfl)) only [EA, EE, EG, EF, ED, ofVal, ofVal1, ofCell, lenV, aggEqV, cellEq, intBin, isShift, V.ids, lendV, frz, flatV, cellsOf, addOff, firstReg, oneOf, cellsAt, isAggD, isPure, ↓reduceIte, reduceCtorEq, Nat.reduceAdd, Nat.reduceSub, Nat.reduceMul, Nat.reduceLeDiff, Nat.reduceEqDiff, Nat.reduceBEq, Int.reduceToNat, Int.reduceLE, Int.reduceLT, Nat.reduceLT, Int.reduceBEq, Int.reduceBNe, Int.reduceEq, String.reduceEq, R26_pp_brbbiiiiiiiiiibrow_s1_l6.st]
    try simp only [NM, EE] at hJ
    exact hJ
noncomputable def f26_pp_brbbiiiiiiiiiibrow_s1_j10 (k : Nat) (e1 : Int) (e1_1 : Int) (e1_2 : Int) (e1_3 : Int) (e1_4 : Int) (e1_5 : Int) (e1_6 : Int) (e1_7 : Int) (e1_8 : Int) (e1_9 : Int) (e1_10 : Bool) (e1_11 : List Int) (e2 : List T45) (e0 : List Int) (e0_1 : Bool) : Option R26_pp_brbbiiiiiiiiiibrow_s1 :=
  some (R26_pp_brbbiiiiiiiiiibrow_s1.o6 e1 e1_1 e1_2 e1_3 e1_4 e1_5 e1_6 e1_7 e1_8 e1_9 e1_10 e1_11 e2 e0 e0_1)
theorem f26_pp_brbbiiiiiiiiiibrow_s1_j10_ok (k : Nat) (e1 : Int) (e1_1 : Int) (e1_2 : Int) (e1_3 : Int) (e1_4 : Int) (e1_5 : Int) (e1_6 : Int) (e1_7 : Int) (e1_8 : Int) (e1_9 : Int) (e1_10 : Bool) (e1_11 : List Int) (e2 : List T45) (e0 : List Int) (e0_1 : Bool) (r : R26_pp_brbbiiiiiiiiiibrow_s1) (hF : f26_pp_brbbiiiiiiiiiibrow_s1_j10 k e1 e1_1 e1_2 e1_3 e1_4 e1_5 e1_6 e1_7 e1_8 e1_9 e1_10 e1_11 e2 e0 e0_1 = some r) : EX 26 k (nav B26 [2, 1]) ({ n := 130, F := [], M := [(1000001, O.box 26 [V.p (Value.int .i64 e1), V.p (Value.int .i64 e1_1), V.p (Value.int .u32 e1_2), V.p (Value.int .u32 e1_3), V.p (Value.int .u32 e1_4), V.p (Value.int .i64 e1_5), V.p (Value.int .i64 e1_6), V.p (Value.int .i64 e1_7), V.p (Value.int .i64 e1_8), V.p (Value.int .i64 e1_9), V.p (Value.bool e1_10), V.sl 1 (rowsOf (encI .u8) e1_11), V.own 1000002]), (1000002, O.row true 2 45 (rowsOf encT45 e2)), (1000000, O.box 57 [V.sl 1 (rowsOf (encI .u8) e0), V.p (Value.bool e0_1)])] } : St) = some r.st := by
  unfold f26_pp_brbbiiiiiiiiiibrow_s1_j10 at hF
  cases hF
  simp (maxSteps := 999999) (disch := first | exact D (by decide) | exact K (by kernel_rfl)) only [EA, EE, EG, EF, ED, ofVal, ofVal1, ofCell, lenV, aggEqV, cellEq, intBin, isShift, V.ids, lendV, frz, flatV, cellsOf, addOff, firstReg, oneOf, cellsAt, isAggD, isPure, ↓reduceIte, reduceCtorEq, Nat.reduceAdd, Nat.reduceSub, Nat.reduceMul, Nat.reduceLeDiff, Nat.reduceEqDiff, Nat.reduceBEq, Int.reduceToNat, Int.reduceLE, Int.reduceLT, Nat.reduceLT, Int.reduceBEq, Int.reduceBNe, Int.reduceEq, String.reduceEq, xk B26 [2, 1] .sq rfl, xk B26 [1, 2, 1] .rt rfl, R26_pp_brbbiiiiiiiiiibrow_s1.st]
noncomputable def f26_pp_brbbiiiiiiiiiibrow_s1_j12 (k : Nat) (x9 : Int) (x119 : Bool) (e0 : List Int) (e0_1 : Bool) (e1 : Int) (e1_1 : Int) (e1_2 : Int) (e1_3 : Int) (e1_4 : Int) (e1_5 : Int) (e1_6 : Int) (e1_7 : Int) (e1_8 : Int) (e1_9 : Int) (e1_10 : Bool) (e1_11 : List Int) (e2 : List T45) : Option R26_pp_brbbiiiiiiiiiibrow_s1 :=
  some (R26_pp_brbbiiiiiiiiiibrow_s1.o7 x9 x119 e0 e0_1 e1 e1_1 e1_2 e1_3 e1_4 e1_5 e1_6 e1_7 e1_8 e1_9 e1_10 e1_11 e2)
theorem f26_pp_brbbiiiiiiiiiibrow_s1_j12_ok (k : Nat) (x9 : Int) (x119 : Bool) (e0 : List Int) (e0_1 : Bool) (e1 : Int) (e1_1 : Int) (e1_2 : Int) (e1_3 : Int) (e1_4 : Int) (e1_5 : Int) (e1_6 : Int) (e1_7 : Int) (e1_8 : Int) (e1_9 : Int) (e1_10 : Bool) (e1_11 : List Int) (e2 : List T45) (r : R26_pp_brbbiiiiiiiiiibrow_s1) (hF : f26_pp_brbbiiiiiiiiiibrow_s1_j12 k x9 x119 e0 e0_1 e1 e1_1 e1_2 e1_3 e1_4 e1_5 e1_6 e1_7 e1_8 e1_9 e1_10 e1_11 e2 = some r) : EX 26 k (nav B26 [2, 1]) ({ n := 130, F := [(0, V.ptr 1000000 0), (1, V.ptr 1000001 0), (9, V.p (Value.int .i64 x9)), (119, V.p (Value.bool x119))], M := [(1000000, O.box 57 [V.sl 1 (rowsOf (encI .u8) e0), V.p (Value.bool e0_1)]), (1000001, O.box 26 [V.p (Value.int .i64 e1), V.p (Value.int .i64 e1_1), V.p (Value.int .u32 e1_2), V.p (Value.int .u32 e1_3), V.p (Value.int .u32 e1_4), V.p (Value.int .i64 e1_5), V.p (Value.int .i64 e1_6), V.p (Value.int .i64 e1_7), V.p (Value.int .i64 e1_8), V.p (Value.int .i64 e1_9), V.p (Value.bool e1_10), V.sl 1 (rowsOf (encI .u8) e1_11), V.own 1000002]), (1000002, O.row true 2 45 (rowsOf encT45 e2))] } : St) = some r.st := by
  unfold f26_pp_brbbiiiiiiiiiibrow_s1_j12 at hF
  cases hF
  simp (maxSteps := 999999) (disch := first | exact D (by decide) | exact K (by kernel_rfl)) only [EA, EE, EG, EF, ED, ofVal, ofVal1, ofCell, lenV, aggEqV, cellEq, intBin, isShift, V.ids, lendV, frz, flatV, cellsOf, addOff, firstReg, oneOf, cellsAt, isAggD, isPure, ↓reduceIte, reduceCtorEq, Nat.reduceAdd, Nat.reduceSub, Nat.reduceMul, Nat.reduceLeDiff, Nat.reduceEqDiff, Nat.reduceBEq, Int.reduceToNat, Int.reduceLE, Int.reduceLT, Nat.reduceLT, Int.reduceBEq, Int.reduceBNe, Int.reduceEq, String.reduceEq, xk B26 [2, 1] .sq rfl, xk B26 [1, 2, 1] .rt rfl, R26_pp_brbbiiiiiiiiiibrow_s1.st]
noncomputable def f26_pp_brbbiiiiiiiiiibrow_s1_j11 (k : Nat) (x9 : Int) (x119 : Bool) (e0 : List Int) (e0_1 : Bool) (e1 : Int) (e1_1 : Int) (e1_2 : Int) (e1_3 : Int) (e1_4 : Int) (e1_5 : Int) (e1_6 : Int) (e1_7 : Int) (e1_8 : Int) (e1_9 : Int) (e1_10 : Bool) (e1_11 : List Int) (e2 : List T45) : Option R26_pp_brbbiiiiiiiiiibrow_s1 :=
  cond (x119)
    (
      Option.bind (f25_p_brb k e0 e0_1) fun o2 =>
        match o2 with
        | .o0 v5 v6 v7 =>
          f26_pp_brbbiiiiiiiiiibrow_s1_j10 k e1 e1_1 e1_2 e1_3 e1_4 e1_5 e1_6 e1_7 e1_8 v5 e1_10 e1_11 e2 v6 v7)
    (f26_pp_brbbiiiiiiiiiibrow_s1_j12 k x9 false e0 e0_1 e1 e1_1 e1_2 e1_3 e1_4 e1_5 e1_6 e1_7 e1_8 e1_9 e1_10 e1_11 e2)
theorem f26_pp_brbbiiiiiiiiiibrow_s1_j11_ok (k : Nat) (x9 : Int) (x119 : Bool) (e0 : List Int) (e0_1 : Bool) (e1 : Int) (e1_1 : Int) (e1_2 : Int) (e1_3 : Int) (e1_4 : Int) (e1_5 : Int) (e1_6 : Int) (e1_7 : Int) (e1_8 : Int) (e1_9 : Int) (e1_10 : Bool) (e1_11 : List Int) (e2 : List T45) (r : R26_pp_brbbiiiiiiiiiibrow_s1) (hF : f26_pp_brbbiiiiiiiiiibrow_s1_j11 k x9 x119 e0 e0_1 e1 e1_1 e1_2 e1_3 e1_4 e1_5 e1_6 e1_7 e1_8 e1_9 e1_10 e1_11 e2 = some r) : SQ 26 k (nav B26 [2, 1]) (blockK 0 (EX 26 k (nav B26 [2, 3, 2, 3, 2, 3, 2, 2, 2, 1, 1]) ({ n := 130, F := [(0, V.ptr 1000000 0), (1, V.ptr 1000001 0), (9, V.p (Value.int .i64 x9)), (119, V.p (Value.bool x119))], M := [(1000000, O.box 57 [V.sl 1 (rowsOf (encI .u8) e0), V.p (Value.bool e0_1)]), (1000001, O.box 26 [V.p (Value.int .i64 e1), V.p (Value.int .i64 e1_1), V.p (Value.int .u32 e1_2), V.p (Value.int .u32 e1_3), V.p (Value.int .u32 e1_4), V.p (Value.int .i64 e1_5), V.p (Value.int .i64 e1_6), V.p (Value.int .i64 e1_7), V.p (Value.int .i64 e1_8), V.p (Value.int .i64 e1_9), V.p (Value.bool e1_10), V.sl 1 (rowsOf (encI .u8) e1_11), V.own 1000002]), (1000002, O.row true 2 45 (rowsOf encT45 e2))] } : St))) = some r.st := by
  unfold f26_pp_brbbiiiiiiiiiibrow_s1_j11 at hF
  simp (maxSteps := 999999) (disch := first | exact D (by decide) | exact K (by kernel_rfl)) only [EA, EE, EG, EF, ED, ofVal, ofVal1, ofCell, lenV, aggEqV, cellEq, intBin, isShift, V.ids, lendV, frz, flatV, cellsOf, addOff, firstReg, oneOf, cellsAt, isAggD, isPure, ↓reduceIte, reduceCtorEq, Nat.reduceAdd, Nat.reduceSub, Nat.reduceMul, Nat.reduceLeDiff, Nat.reduceEqDiff, Nat.reduceBEq, Int.reduceToNat, Int.reduceLE, Int.reduceLT, Nat.reduceLT, Int.reduceBEq, Int.reduceBNe, Int.reduceEq, String.reduceEq, xk B26 [2, 3, 2, 3, 2, 3, 2, 2, 2, 1, 1] (.cd 119) rfl]
  replace hF := cond_some hF
  rcases hF with ⟨h1, hF⟩ | ⟨h1, hF⟩
  · replace hF := Option.bind_eq_some_iff.1 hF
    obtain ⟨o2, h3, hF⟩ := hF
    have hc4 := f25_p_brb_ok k e0 e0_1 _ h3
    cases o2 with
    | o0 v5 v6 v7 =>
      (try dsimp only at hF)
      (try simp only [NM, EE, R25_p_brb.st] at hc4)
      have hJ := f26_pp_brbbiiiiiiiiiibrow_s1_j10_ok k e1 e1_1 e1_2 e1_3 e1_4 e1_5 e1_6 e1_7 e1_8 v5 e1_10 e1_11 e2 v6 v7 _ hF
      simp (maxSteps := 999999) (disch := first | exact D (by decide) | exact K (by kernel_rfl)) only [EA, EE, EG, EF, ED, ofVal, ofVal1, ofCell, lenV, aggEqV, cellEq, intBin, isShift, V.ids, lendV, frz, flatV, cellsOf, addOff, firstReg, oneOf, cellsAt, isAggD, isPure, ↓reduceIte, reduceCtorEq, Nat.reduceAdd, Nat.reduceSub, Nat.reduceMul, Nat.reduceLeDiff, Nat.reduceEqDiff, Nat.reduceBEq, Int.reduceToNat, Int.reduceLE, Int.reduceLT, Nat.reduceLT, Int.reduceBEq, Int.reduceBNe, Int.reduceEq, String.reduceEq, show (nav B26 [2, 2, 3, 2, 3, 2, 3, 2, 2, 2, 1, 1]) = Code.region 22 _ false from rfl, hk_26_22, hz_26_22, hs_26_22, callStep, calleeOf, gv, List.contains, fieldAddrV, u_26, i_26, is_26, ib_26, iz_26, u_3, i_3, is_3, ib_3, iz_3, h1, hc4]
      try simp only [NM, EE] at hJ
      exact hJ
  · have hJ := f26_pp_brbbiiiiiiiiiibrow_s1_j12_ok k x9 false e0 e0_1 e1 e1_1 e1_2 e1_3 e1_4 e1_5 e1_6 e1_7 e1_8 e1_9 e1_10 e1_11 e2 _ hF
    simp (maxSteps := 999999) (disch := first | exact D (by decide) | exact K (by kernel_rfl)) only [EA, EE, EG, EF, ED, ofVal, ofVal1, ofCell, lenV, aggEqV, cellEq, intBin, isShift, V.ids, lendV, frz, flatV, cellsOf, addOff, firstReg, oneOf, cellsAt, isAggD, isPure, ↓reduceIte, reduceCtorEq, Nat.reduceAdd, Nat.reduceSub, Nat.reduceMul, Nat.reduceLeDiff, Nat.reduceEqDiff, Nat.reduceBEq, Int.reduceToNat, Int.reduceLE, Int.reduceLT, Nat.reduceLT, Int.reduceBEq, Int.reduceBNe, Int.reduceEq, String.reduceEq, xk B26 [3, 2, 3, 2, 3, 2, 3, 2, 2, 2, 1, 1] .sk rfl, h1]
    try simp only [NM, EE] at hJ
    exact hJ
noncomputable def f26_pp_brbbiiiiiiiiiibrow_s1_j14 (k : Nat) (x119 : Bool) (e0 : List Int) (e0_1 : Bool) (e1 : Int) (e1_1 : Int) (e1_2 : Int) (e1_3 : Int) (e1_4 : Int) (e1_5 : Int) (e1_6 : Int) (e1_7 : Int) (e1_8 : Int) (e1_9 : Int) (e1_10 : Bool) (e1_11 : List Int) (e2 : List T45) : Option R26_pp_brbbiiiiiiiiiibrow_s1 :=
  some (R26_pp_brbbiiiiiiiiiibrow_s1.o8 x119 e0 e0_1 e1 e1_1 e1_2 e1_3 e1_4 e1_5 e1_6 e1_7 e1_8 e1_9 e1_10 e1_11 e2)
theorem f26_pp_brbbiiiiiiiiiibrow_s1_j14_ok (k : Nat) (x119 : Bool) (e0 : List Int) (e0_1 : Bool) (e1 : Int) (e1_1 : Int) (e1_2 : Int) (e1_3 : Int) (e1_4 : Int) (e1_5 : Int) (e1_6 : Int) (e1_7 : Int) (e1_8 : Int) (e1_9 : Int) (e1_10 : Bool) (e1_11 : List Int) (e2 : List T45) (r : R26_pp_brbbiiiiiiiiiibrow_s1) (hF : f26_pp_brbbiiiiiiiiiibrow_s1_j14 k x119 e0 e0_1 e1 e1_1 e1_2 e1_3 e1_4 e1_5 e1_6 e1_7 e1_8 e1_9 e1_10 e1_11 e2 = some r) : EX 26 k (nav B26 [2, 1]) ({ n := 130, F := [(0, V.ptr 1000000 0), (1, V.ptr 1000001 0), (119, V.p (Value.bool x119))], M := [(1000000, O.box 57 [V.sl 1 (rowsOf (encI .u8) e0), V.p (Value.bool e0_1)]), (1000001, O.box 26 [V.p (Value.int .i64 e1), V.p (Value.int .i64 e1_1), V.p (Value.int .u32 e1_2), V.p (Value.int .u32 e1_3), V.p (Value.int .u32 e1_4), V.p (Value.int .i64 e1_5), V.p (Value.int .i64 e1_6), V.p (Value.int .i64 e1_7), V.p (Value.int .i64 e1_8), V.p (Value.int .i64 e1_9), V.p (Value.bool e1_10), V.sl 1 (rowsOf (encI .u8) e1_11), V.own 1000002]), (1000002, O.row true 2 45 (rowsOf encT45 e2))] } : St) = some r.st := by
  unfold f26_pp_brbbiiiiiiiiiibrow_s1_j14 at hF
  cases hF
  simp (maxSteps := 999999) (disch := first | exact D (by decide) | exact K (by kernel_rfl)) only [EA, EE, EG, EF, ED, ofVal, ofVal1, ofCell, lenV, aggEqV, cellEq, intBin, isShift, V.ids, lendV, frz, flatV, cellsOf, addOff, firstReg, oneOf, cellsAt, isAggD, isPure, ↓reduceIte, reduceCtorEq, Nat.reduceAdd, Nat.reduceSub, Nat.reduceMul, Nat.reduceLeDiff, Nat.reduceEqDiff, Nat.reduceBEq, Int.reduceToNat, Int.reduceLE, Int.reduceLT, Nat.reduceLT, Int.reduceBEq, Int.reduceBNe, Int.reduceEq, String.reduceEq, xk B26 [2, 1] .sq rfl, xk B26 [1, 2, 1] .rt rfl, R26_pp_brbbiiiiiiiiiibrow_s1.st]
noncomputable def f26_pp_brbbiiiiiiiiiibrow_s1_j13 (k : Nat) (x119 : Bool) (e0 : List Int) (e0_1 : Bool) (e1 : Int) (e1_1 : Int) (e1_2 : Int) (e1_3 : Int) (e1_4 : Int) (e1_5 : Int) (e1_6 : Int) (e1_7 : Int) (e1_8 : Int) (e1_9 : Int) (e1_10 : Bool) (e1_11 : List Int) (e2 : List T45) : Option R26_pp_brbbiiiiiiiiiibrow_s1 :=
  cond (x119)
    (
      Option.bind (f25_p_brb k e0 e0_1) fun o2 =>
        match o2 with
        | .o0 v5 v6 v7 =>
          f26_pp_brbbiiiiiiiiiibrow_s1_j10 k e1 e1_1 e1_2 e1_3 e1_4 e1_5 e1_6 e1_7 e1_8 v5 e1_10 e1_11 e2 v6 v7)
    (f26_pp_brbbiiiiiiiiiibrow_s1_j14 k false e0 e0_1 e1 e1_1 e1_2 e1_3 e1_4 e1_5 e1_6 e1_7 e1_8 e1_9 e1_10 e1_11 e2)
theorem f26_pp_brbbiiiiiiiiiibrow_s1_j13_ok (k : Nat) (x119 : Bool) (e0 : List Int) (e0_1 : Bool) (e1 : Int) (e1_1 : Int) (e1_2 : Int) (e1_3 : Int) (e1_4 : Int) (e1_5 : Int) (e1_6 : Int) (e1_7 : Int) (e1_8 : Int) (e1_9 : Int) (e1_10 : Bool) (e1_11 : List Int) (e2 : List T45) (r : R26_pp_brbbiiiiiiiiiibrow_s1) (hF : f26_pp_brbbiiiiiiiiiibrow_s1_j13 k x119 e0 e0_1 e1 e1_1 e1_2 e1_3 e1_4 e1_5 e1_6 e1_7 e1_8 e1_9 e1_10 e1_11 e2 = some r) : SQ 26 k (nav B26 [2, 1]) (blockK 0 (EX 26 k (nav B26 [2, 3, 2, 3, 2, 3, 2, 2, 2, 1, 1]) ({ n := 130, F := [(0, V.ptr 1000000 0), (1, V.ptr 1000001 0), (119, V.p (Value.bool x119))], M := [(1000000, O.box 57 [V.sl 1 (rowsOf (encI .u8) e0), V.p (Value.bool e0_1)]), (1000001, O.box 26 [V.p (Value.int .i64 e1), V.p (Value.int .i64 e1_1), V.p (Value.int .u32 e1_2), V.p (Value.int .u32 e1_3), V.p (Value.int .u32 e1_4), V.p (Value.int .i64 e1_5), V.p (Value.int .i64 e1_6), V.p (Value.int .i64 e1_7), V.p (Value.int .i64 e1_8), V.p (Value.int .i64 e1_9), V.p (Value.bool e1_10), V.sl 1 (rowsOf (encI .u8) e1_11), V.own 1000002]), (1000002, O.row true 2 45 (rowsOf encT45 e2))] } : St))) = some r.st := by
  unfold f26_pp_brbbiiiiiiiiiibrow_s1_j13 at hF
  simp (maxSteps := 999999) (disch := first | exact D (by decide) | exact K (by kernel_rfl)) only [EA, EE, EG, EF, ED, ofVal, ofVal1, ofCell, lenV, aggEqV, cellEq, intBin, isShift, V.ids, lendV, frz, flatV, cellsOf, addOff, firstReg, oneOf, cellsAt, isAggD, isPure, ↓reduceIte, reduceCtorEq, Nat.reduceAdd, Nat.reduceSub, Nat.reduceMul, Nat.reduceLeDiff, Nat.reduceEqDiff, Nat.reduceBEq, Int.reduceToNat, Int.reduceLE, Int.reduceLT, Nat.reduceLT, Int.reduceBEq, Int.reduceBNe, Int.reduceEq, String.reduceEq, xk B26 [2, 3, 2, 3, 2, 3, 2, 2, 2, 1, 1] (.cd 119) rfl]
  replace hF := cond_some hF
  rcases hF with ⟨h1, hF⟩ | ⟨h1, hF⟩
  · replace hF := Option.bind_eq_some_iff.1 hF
    obtain ⟨o2, h3, hF⟩ := hF
    have hc4 := f25_p_brb_ok k e0 e0_1 _ h3
    cases o2 with
    | o0 v5 v6 v7 =>
      (try dsimp only at hF)
      (try simp only [NM, EE, R25_p_brb.st] at hc4)
      have hJ := f26_pp_brbbiiiiiiiiiibrow_s1_j10_ok k e1 e1_1 e1_2 e1_3 e1_4 e1_5 e1_6 e1_7 e1_8 v5 e1_10 e1_11 e2 v6 v7 _ hF
      simp (maxSteps := 999999) (disch := first | exact D (by decide) | exact K (by kernel_rfl)) only [EA, EE, EG, EF, ED, ofVal, ofVal1, ofCell, lenV, aggEqV, cellEq, intBin, isShift, V.ids, lendV, frz, flatV, cellsOf, addOff, firstReg, oneOf, cellsAt, isAggD, isPure, ↓reduceIte, reduceCtorEq, Nat.reduceAdd, Nat.reduceSub, Nat.reduceMul, Nat.reduceLeDiff, Nat.reduceEqDiff, Nat.reduceBEq, Int.reduceToNat, Int.reduceLE, Int.reduceLT, Nat.reduceLT, Int.reduceBEq, Int.reduceBNe, Int.reduceEq, String.reduceEq, show (nav B26 [2, 2, 3, 2, 3, 2, 3, 2, 2, 2, 1, 1]) = Code.region 22 _ false from rfl, hk_26_22, hz_26_22, hs_26_22, callStep, calleeOf, gv, List.contains, fieldAddrV, u_26, i_26, is_26, ib_26, iz_26, u_3, i_3, is_3, ib_3, iz_3, h1, hc4]
      try simp only [NM, EE] at hJ
      exact hJ
  · have hJ := f26_pp_brbbiiiiiiiiiibrow_s1_j14_ok k false e0 e0_1 e1 e1_1 e1_2 e1_3 e1_4 e1_5 e1_6 e1_7 e1_8 e1_9 e1_10 e1_11 e2 _ hF
    simp (maxSteps := 999999) (disch := first | exact D (by decide) | exact K (by kernel_rfl)) only [EA, EE, EG, EF, ED, ofVal, ofVal1, ofCell, lenV, aggEqV, cellEq, intBin, isShift, V.ids, lendV, frz, flatV, cellsOf, addOff, firstReg, oneOf, cellsAt, isAggD, isPure, ↓reduceIte, reduceCtorEq, Nat.reduceAdd, Nat.reduceSub, Nat.reduceMul, Nat.reduceLeDiff, Nat.reduceEqDiff, Nat.reduceBEq, Int.reduceToNat, Int.reduceLE, Int.reduceLT, Nat.reduceLT, Int.reduceBEq, Int.reduceBNe, Int.reduceEq, String.reduceEq, xk B26 [3, 2, 3, 2, 3, 2, 3, 2, 2, 2, 1, 1] .sk rfl, h1]
    try simp only [NM, EE] at hJ
    exact hJ
noncomputable def f26_pp_brbbiiiiiiiiiibrow_s1_b (k : Nat) (e0 : List Int) (e0_1 : Bool) (e1 : Int) (e1_1 : Int) (e1_2 : Int) (e1_3 : Int) (e1_4 : Int) (e1_5 : Int) (e1_6 : Int) (e1_7 : Int) (e1_8 : Int) (e1_9 : Int) (e1_10 : Bool) (e1_11 : List Int) (e2 : List T45) : Option R26_pp_brbbiiiiiiiiiibrow_s1 :=
  cond ((e1 == 1))
    (
      Option.bind (f25_p_brb k e0 e0_1) fun o2 =>
        match o2 with
        | .o0 v5 v6 v7 =>
          cond ((v5 == 1))
            (
              Option.bind (f25_p_brb k v6 v7) fun o9 =>
                match o9 with
                | .o0 v12 v13 v14 =>
                  f26_pp_brbbiiiiiiiiiibrow_s1_j1 k v13 v14 e1 e1_1 e1_2 (IntKind.u32.wrap v12) e1_4 e1_5 e1_6 e1_7 e1_8 e1_9 true e1_11 e2)
            (
              cond ((v5 == 0))
                (f26_pp_brbbiiiiiiiiiibrow_s1_j4 k true v6 v7 e1 e1_1 e1_2 e1_3 e1_4 e1_5 e1_6 e1_7 e1_8 e1_9 e1_10 e1_11 e2)
                (some (R26_pp_brbbiiiiiiiiiibrow_s1.o2 false v6 v7 e1 e1_1 e1_2 e1_3 e1_4 e1_5 e1_6 e1_7 e1_8 e1_9 e1_10 e1_11 e2))))
    (
      cond ((e1 == 2))
        (
          Option.bind (f25_p_brb k e0 e0_1) fun o17 =>
            match o17 with
            | .o0 v20 v21 v22 =>
              Option.bind (f25_p_brb k v21 v22) fun o23 =>
                match o23 with
                | .o0 v26 v27 v28 =>
                  Option.bind (f25_p_brb k v27 v28) fun o29 =>
                    match o29 with
                    | .o0 v32 v33 v34 =>
                      Option.bind (f25_p_brb k v33 v34) fun o35 =>
                        match o35 with
                        | .o0 v38 v39 v40 =>
                          Option.bind (f25_p_brb k v39 v40) fun o41 =>
                            match o41 with
                            | .o0 v44 v45 v46 =>
                              cond ((decide (v44 > 20)))
                                (some (R26_pp_brbbiiiiiiiiiibrow_s1.o3 v44 true v45 v46 e1 e1_1 e1_2 (IntKind.u32.wrap v20) (IntKind.u32.wrap v26) e1_5 e1_6 v32 v38 e1_9 e1_10 e1_11 e2))
                                (f26_pp_brbbiiiiiiiiiibrow_s1_j5 k v44 false v45 v46 e1 e1_1 e1_2 (IntKind.u32.wrap v20) (IntKind.u32.wrap v26) e1_5 e1_6 v32 v38 e1_9 e1_10 e1_11 e2))
        (
          cond ((e1 == 3))
            (
              Option.bind (f25_p_brb k e0 e0_1) fun o49 =>
                match o49 with
                | .o0 v52 v53 v54 =>
                  f26_pp_brbbiiiiiiiiiibrow_s1_j10 k e1 e1_1 e1_2 (IntKind.u32.wrap v52) e1_4 e1_5 e1_6 e1_7 e1_8 e1_9 e1_10 e1_11 e2 v53 v54)
            (
              cond ((e1 == 4))
                (f26_pp_brbbiiiiiiiiiibrow_s1_j11 k e1 true e0 e0_1 e1 e1_1 e1_2 e1_3 e1_4 e1_5 e1_6 e1_7 e1_8 e1_9 e1_10 e1_11 e2)
                (f26_pp_brbbiiiiiiiiiibrow_s1_j13 k (e1 == 6) e0 e0_1 e1 e1_1 e1_2 e1_3 e1_4 e1_5 e1_6 e1_7 e1_8 e1_9 e1_10 e1_11 e2))))
theorem f26_pp_brbbiiiiiiiiiibrow_s1_b_ok (k : Nat) (e0 : List Int) (e0_1 : Bool) (e1 : Int) (e1_1 : Int) (e1_2 : Int) (e1_3 : Int) (e1_4 : Int) (e1_5 : Int) (e1_6 : Int) (e1_7 : Int) (e1_8 : Int) (e1_9 : Int) (e1_10 : Bool) (e1_11 : List Int) (e2 : List T45) (r : R26_pp_brbbiiiiiiiiiibrow_s1) (hF : f26_pp_brbbiiiiiiiiiibrow_s1_b k e0 e0_1 e1 e1_1 e1_2 e1_3 e1_4 e1_5 e1_6 e1_7 e1_8 e1_9 e1_10 e1_11 e2 = some r) : EX 26 k (nav B26 [1]) ({ n := 130, F := [(0, V.ptr 1000000 0), (1, V.ptr 1000001 0)], M := [(1000000, O.box 57 [V.sl 1 (rowsOf (encI .u8) e0), V.p (Value.bool e0_1)]), (1000001, O.box 26 [V.p (Value.int .i64 e1), V.p (Value.int .i64 e1_1), V.p (Value.int .u32 e1_2), V.p (Value.int .u32 e1_3), V.p (Value.int .u32 e1_4), V.p (Value.int .i64 e1_5), V.p (Value.int .i64 e1_6), V.p (Value.int .i64 e1_7), V.p (Value.int .i64 e1_8), V.p (Value.int .i64 e1_9), V.p (Value.bool e1_10), V.sl 1 (rowsOf (encI .u8) e1_11), V.own 1000002]), (1000002, O.row true 2 45 (rowsOf encT45 e2))] } : St) = some r.st := by
  unfold f26_pp_brbbiiiiiiiiiibrow_s1_b at hF
  simp (maxSteps := 999999) (disch := first | exact D (by decide) | exact K (by kernel_rfl)) only [EA, EE, EG, EF, ED, ofVal, ofVal1, ofCell, lenV, aggEqV, cellEq, intBin, isShift, V.ids, lendV, frz, flatV, cellsOf, addOff, firstReg, oneOf, cellsAt, isAggD, isPure, ↓reduceIte, reduceCtorEq, Nat.reduceAdd, Nat.reduceSub, Nat.reduceMul, Nat.reduceLeDiff, Nat.reduceEqDiff, Nat.reduceBEq, Int.reduceToNat, Int.reduceLE, Int.reduceLT, Nat.reduceLT, Int.reduceBEq, Int.reduceBNe, Int.reduceEq, String.reduceEq, xk B26 [1] .sq rfl, xk B26 [1, 1] .sq rfl, show (nav B26 [1, 1, 1]) = Code.region 0 _ false from rfl, hk_26_0, hz_26_0, hs_26_0, fieldAddrV, u_26, i_26, is_26, ib_26, iz_26, u_3, i_3, is_3, ib_3, iz_3, xk B26 [2, 1, 1] (.bk 0) rfl, xk B26 [2, 2, 1, 1] .sq rfl, show (nav B26 [1, 2, 2, 1, 1]) = Code.region 1 _ false from rfl, hk_26_1, hz_26_1, hs_26_1, xk B26 [2, 2, 2, 1, 1] (.cd 10) rfl]
  replace hF := cond_some hF
  rcases hF with ⟨h1, hF⟩ | ⟨h1, hF⟩
  · replace hF := Option.bind_eq_some_iff.1 hF
    obtain ⟨o2, h3, hF⟩ := hF
    have hc4 := f25_p_brb_ok k e0 e0_1 _ h3
    cases o2 with
    | o0 v5 v6 v7 =>
      (try dsimp only at hF)
      (try simp only [NM, EE, R25_p_brb.st] at hc4)
      simp (maxSteps := 999999) (disch := first | exact D (by decide) | exact K (by kernel_rfl)) only [EA, EE, EG, EF, ED, ofVal, ofVal1, ofCell, lenV, aggEqV, cellEq, intBin, isShift, V.ids, lendV, frz, flatV, cellsOf, addOff, firstReg, oneOf, cellsAt, isAggD, isPure, ↓reduceIte, reduceCtorEq, Nat.reduceAdd, Nat.reduceSub, Nat.reduceMul, Nat.reduceLeDiff, Nat.reduceEqDiff, Nat.reduceBEq, Int.reduceToNat, Int.reduceLE, Int.reduceLT, Nat.reduceLT, Int.reduceBEq, Int.reduceBNe, Int.reduceEq, String.reduceEq, xk B26 [2, 2, 2, 2, 1, 1] .sq rfl, xk B26 [1, 2, 2, 2, 2, 1, 1] .sq rfl, show (nav B26 [1, 1, 2, 2, 2, 2, 1, 1]) = Code.region 2 _ false from rfl, hk_26_2, hz_26_2, hs_26_2, callStep, calleeOf, gv, List.contains, xk B26 [2, 1, 2, 2, 2, 2, 1, 1] (.bk 1) rfl, xk B26 [2, 2, 1, 2, 2, 2, 2, 1, 1] .sq rfl, show (nav B26 [1, 2, 2, 1, 2, 2, 2, 2, 1, 1]) = Code.region 3 _ false from rfl, hk_26_3, hz_26_3, hs_26_3, xk B26 [2, 2, 2, 1, 2, 2, 2, 2, 1, 1] (.cd 14) rfl, h1, hc4]
      replace hF := cond_some hF
      rcases hF with ⟨h8, hF⟩ | ⟨h8, hF⟩
      · replace hF := Option.bind_eq_some_iff.1 hF
        obtain ⟨o9, h10, hF⟩ := hF
        have hc11 := f25_p_brb_ok k v6 v7 _ h10
        cases o9 with
        | o0 v12 v13 v14 =>
          (try dsimp only at hF)
          (try simp only [NM, EE, R25_p_brb.st] at hc11)
          have hJ := f26_pp_brbbiiiiiiiiiibrow_s1_j1_ok k v13 v14 e1 e1_1 e1_2 (IntKind.u32.wrap v12) e1_4 e1_5 e1_6 e1_7 e1_8 e1_9 true e1_11 e2 _ hF
          simp (maxSteps := 999999) (disch := first | exact D (by decide) | exact K (by kernel_rfl)) only [EA, EE, EG, EF, ED, ofVal, ofVal1, ofCell, lenV, aggEqV, cellEq, intBin, isShift, V.ids, lendV, frz, flatV, cellsOf, addOff, firstReg, oneOf, cellsAt, isAggD, isPure, ↓reduceIte, reduceCtorEq, Nat.reduceAdd, Nat.reduceSub, Nat.reduceMul, Nat.reduceLeDiff, Nat.reduceEqDiff, Nat.reduceBEq, Int.reduceToNat, Int.reduceLE, Int.reduceLT, Nat.reduceLT, Int.reduceBEq, Int.reduceBNe, Int.reduceEq, String.reduceEq, show (nav B26 [2, 2, 2, 2, 1, 2, 2, 2, 2, 1, 1]) = Code.region 4 _ false from rfl, hk_26_4, hz_26_4, hs_26_4, callStep, calleeOf, gv, List.contains, u_3, i_3, is_3, ib_3, iz_3, u_22, i_22, is_22, ib_22, iz_22, convV, fieldAddrV, u_26, i_26, is_26, ib_26, iz_26, u_4, i_4, is_4, ib_4, iz_4, h1, hc4, h8, hc11]
          try simp only [NM, EE] at hJ
          exact hJ
      · simp (maxSteps := 999999) (disch := first | exact D (by decide) | exact K (by kernel_rfl)) only [EA, EE, EG, EF, ED, ofVal, ofVal1, ofCell, lenV, aggEqV, cellEq, intBin, isShift, V.ids, lendV, frz, flatV, cellsOf, addOff, firstReg, oneOf, cellsAt, isAggD, isPure, ↓reduceIte, reduceCtorEq, Nat.reduceAdd, Nat.reduceSub, Nat.reduceMul, Nat.reduceLeDiff, Nat.reduceEqDiff, Nat.reduceBEq, Int.reduceToNat, Int.reduceLE, Int.reduceLT, Nat.reduceLT, Int.reduceBEq, Int.reduceBNe, Int.reduceEq, String.reduceEq, xk B26 [3, 2, 2, 2, 1, 2, 2, 2, 2, 1, 1] .sq rfl, show (nav B26 [1, 3, 2, 2, 2, 1, 2, 2, 2, 2, 1, 1]) = Code.region 5 _ false from rfl, hk_26_5, hz_26_5, hs_26_5, xk B26 [2, 3, 2, 2, 2, 1, 2, 2, 2, 2, 1, 1] (.cd 25) rfl, h1, hc4, h8]
        replace hF := cond_some hF
        rcases hF with ⟨h15, hF⟩ | ⟨h15, hF⟩
        · have hJ := f26_pp_brbbiiiiiiiiiibrow_s1_j4_ok k true v6 v7 e1 e1_1 e1_2 e1_3 e1_4 e1_5 e1_6 e1_7 e1_8 e1_9 e1_10 e1_11 e2 _ hF
          simp (maxSteps := 999999) (disch := first | exact D (by decide) | exact K (by kernel_rfl)) only [EA, EE, EG, EF, ED, ofVal, ofVal1, ofCell, lenV, aggEqV, cellEq, intBin, isShift, V.ids, lendV, frz, flatV, cellsOf, addOff, firstReg, oneOf, cellsAt, isAggD, isPure, ↓reduceIte, reduceCtorEq, Nat.reduceAdd, Nat.reduceSub, Nat.reduceMul, Nat.reduceLeDiff, Nat.reduceEqDiff, Nat.reduceBEq, Int.reduceToNat, Int.reduceLE, Int.reduceLT, Nat.reduceLT, Int.reduceBEq, Int.reduceBNe, Int.reduceEq, String.reduceEq, xk B26 [2, 2, 3, 2, 2, 2, 1, 2, 2, 2, 2, 1, 1] .sk rfl, h1, hc4, h8, h15]
          try simp only [NM, EE] at hJ
          exact hJ
        · cases hF
          simp (maxSteps := 999999) (disch := first | exact D (by decide) | exact K (by kernel_rfl)) only [EA, EE, EG, EF, ED, ofVal, ofVal1, ofCell, lenV, aggEqV, cellEq, intBin, isShift, V.ids, lendV, frz, flatV, cellsOf, addOff, firstReg, oneOf, cellsAt, isAggD, isPure, ↓reduceIte, reduceCtorEq, Nat.reduceAdd, Nat.reduceSub, Nat.reduceMul, Nat.reduceLeDiff, Nat.reduceEqDiff, Nat.reduceBEq, Int.reduceToNat, Int.reduceLE, Int.reduceLT, Nat.reduceLT, Int.reduceBEq, Int.reduceBNe, Int.reduceEq, String.reduceEq, xk B26 [3, 2, 3, 2, 2, 2, 1, 2, 2, 2, 2, 1, 1] (.gt 0) rfl, R26_pp_brbbiiiiiiiiiibrow_s1.st, h1, hc4, h8, h15]
  · simp (maxSteps := 999999) (disch := first | exact D (by decide) | exact K (by kernel_rfl)) only [EA, EE, EG, EF, ED, ofVal, ofVal1, ofCell, lenV, aggEqV, cellEq, intBin, isShift, V.ids, lendV, frz, flatV, cellsOf, addOff, firstReg, oneOf, cellsAt, isAggD, isPure, ↓reduceIte, reduceCtorEq, Nat.reduceAdd, Nat.reduceSub, Nat.reduceMul, Nat.reduceLeDiff, Nat.reduceEqDiff, Nat.reduceBEq, Int.reduceToNat, Int.reduceLE, Int.reduceLT, Nat.reduceLT, Int.reduceBEq, Int.reduceBNe, Int.reduceEq, String.reduceEq, xk B26 [3, 2, 2, 2, 1, 1] .sq rfl, show (nav B26 [1, 3, 2, 2, 2, 1, 1]) = Code.region 10 _ false from rfl, hk_26_10, hz_26_10, hs_26_10, xk B26 [2, 3, 2, 2, 2, 1, 1] (.cd 65) rfl, h1]
    replace hF := cond_some hF
    rcases hF with ⟨h16, hF⟩ | ⟨h16, hF⟩
    · replace hF := Option.bind_eq_some_iff.1 hF
      obtain ⟨o17, h18, hF⟩ := hF
      have hc19 := f25_p_brb_ok k e0 e0_1 _ h18
      cases o17 with
      | o0 v20 v21 v22 =>
        (try dsimp only at hF)
        (try simp only [NM, EE, R25_p_brb.st] at hc19)
        replace hF := Option.bind_eq_some_iff.1 hF
        obtain ⟨o23, h24, hF⟩ := hF
        have hc25 := f25_p_brb_ok k v21 v22 _ h24
        cases o23 with
        | o0 v26 v27 v28 =>
          (try dsimp only at hF)
          (try simp only [NM, EE, R25_p_brb.st] at hc25)
          replace hF := Option.bind_eq_some_iff.1 hF
          obtain ⟨o29, h30, hF⟩ := hF
          have hc31 := f25_p_brb_ok k v27 v28 _ h30
          cases o29 with
          | o0 v32 v33 v34 =>
            (try dsimp only at hF)
            (try simp only [NM, EE, R25_p_brb.st] at hc31)
            replace hF := Option.bind_eq_some_iff.1 hF
            obtain ⟨o35, h36, hF⟩ := hF
            have hc37 := f25_p_brb_ok k v33 v34 _ h36
            cases o35 with
            | o0 v38 v39 v40 =>
              (try dsimp only at hF)
              (try simp only [NM, EE, R25_p_brb.st] at hc37)
              replace hF := Option.bind_eq_some_iff.1 hF
              obtain ⟨o41, h42, hF⟩ := hF
              have hc43 := f25_p_brb_ok k v39 v40 _ h42
              cases o41 with
              | o0 v44 v45 v46 =>
                (try dsimp only at hF)
                (try simp only [NM, EE, R25_p_brb.st] at hc43)
                simp (maxSteps := 999999) (disch := first | exact D (by decide) | exact K (by kernel_rfl)) only [EA, EE, EG, EF, ED, ofVal, ofVal1, ofCell, lenV, aggEqV, cellEq, intBin, isShift, V.ids, lendV, frz, flatV, cellsOf, addOff, firstReg, oneOf, cellsAt, isAggD, isPure, ↓reduceIte, reduceCtorEq, Nat.reduceAdd, Nat.reduceSub, Nat.reduceMul, Nat.reduceLeDiff, Nat.reduceEqDiff, Nat.reduceBEq, Int.reduceToNat, Int.reduceLE, Int.reduceLT, Nat.reduceLT, Int.reduceBEq, Int.reduceBNe, Int.reduceEq, String.reduceEq, xk B26 [2, 2, 3, 2, 2, 2, 1, 1] .sq rfl, show (nav B26 [1, 2, 2, 3, 2, 2, 2, 1, 1]) = Code.region 11 _ false from rfl, hk_26_11, hz_26_11, hs_26_11, callStep, calleeOf, gv, List.contains, u_3, i_3, is_3, ib_3, iz_3, u_22, i_22, is_22, ib_22, iz_22, convV, fieldAddrV, u_26, i_26, is_26, ib_26, iz_26, xk B26 [2, 2, 2, 3, 2, 2, 2, 1, 1] .sq rfl, show (nav B26 [1, 2, 2, 2, 3, 2, 2, 2, 1, 1]) = Code.region 12 _ false from rfl, hk_26_12, hz_26_12, hs_26_12, xk B26 [2, 2, 2, 2, 3, 2, 2, 2, 1, 1] .sq rfl, xk B26 [1, 2, 2, 2, 2, 3, 2, 2, 2, 1, 1] .sq rfl, show (nav B26 [1, 1, 2, 2, 2, 2, 3, 2, 2, 2, 1, 1]) = Code.region 13 _ false from rfl, hk_26_13, hz_26_13, hs_26_13, xk B26 [2, 1, 2, 2, 2, 2, 3, 2, 2, 2, 1, 1] (.cd 92) rfl, h1, h16, hc19, hc25, hc31, hc37, hc43]
                replace hF := cond_some hF
                rcases hF with ⟨h47, hF⟩ | ⟨h47, hF⟩
                · cases hF
                  simp (maxSteps := 999999) (disch := first | exact D (by decide) | exact K (by kernel_rfl)) only [EA, EE, EG, EF, ED, ofVal, ofVal1, ofCell, lenV, aggEqV, cellEq, intBin, isShift, V.ids, lendV, frz, flatV, cellsOf, addOff, firstReg, oneOf, cellsAt, isAggD, isPure, ↓reduceIte, reduceCtorEq, Nat.reduceAdd, Nat.reduceSub, Nat.reduceMul, Nat.reduceLeDiff, Nat.reduceEqDiff, Nat.reduceBEq, Int.reduceToNat, Int.reduceLE, Int.reduceLT, Nat.reduceLT, Int.reduceBEq, Int.reduceBNe, Int.reduceEq, String.reduceEq, xk B26 [2, 2, 1, 2, 2, 2, 2, 3, 2, 2, 2, 1, 1] (.gt 0) rfl, R26_pp_brbbiiiiiiiiiibrow_s1.st, h1, h16, hc19, hc25, hc31, hc37, hc43, h47]
                · have hJ := f26_pp_brbbiiiiiiiiiibrow_s1_j5_ok k v44 false v45 v46 e1 e1_1 e1_2 (IntKind.u32.wrap v20) (IntKind.u32.wrap v26) e1_5 e1_6 v32 v38 e1_9 e1_10 e1_11 e2 _ hF
                  simp (maxSteps := 999999) (disch := first | exact D (by decide) | exact K (by kernel_rfl)) only [EA, EE, EG, EF, ED, ofVal, ofVal1, ofCell, lenV, aggEqV, cellEq, intBin, isShift, V.ids, lendV, frz, flatV, cellsOf, addOff, firstReg, oneOf, cellsAt, isAggD, isPure, ↓reduceIte, reduceCtorEq, Nat.reduceAdd, Nat.reduceSub, Nat.reduceMul, Nat.reduceLeDiff, Nat.reduceEqDiff, Nat.reduceBEq, Int.reduceToNat, Int.reduceLE, Int.reduceLT, Nat.reduceLT, Int.reduceBEq, Int.reduceBNe, Int.reduceEq, String.reduceEq, xk B26 [3, 2, 1, 2, 2, 2, 2, 3, 2, 2, 2, 1, 1] .sk rfl, h1, h16, hc19, hc25, hc31, hc37, hc43, h47]
                  try simp only [NM, EE] at hJ
                  exact hJ
    · simp (maxSteps := 999999) (disch := first | exact D (by decide) | exact K (by kernel_rfl)) only [EA, EE, EG, EF, ED, ofVal, ofVal1, ofCell, lenV, aggEqV, cellEq, intBin, isShift, V.ids, lendV, frz, flatV, cellsOf, addOff, firstReg, oneOf, cellsAt, isAggD, isPure, ↓reduceIte, reduceCtorEq, Nat.reduceAdd, Nat.reduceSub, Nat.reduceMul, Nat.reduceLeDiff, Nat.reduceEqDiff, Nat.reduceBEq, Int.reduceToNat, Int.reduceLE, Int.reduceLT, Nat.reduceLT, Int.reduceBEq, Int.reduceBNe, Int.reduceEq, String.reduceEq, xk B26 [3, 2, 3, 2, 2, 2, 1, 1] .sq rfl, show (nav B26 [1, 3, 2, 3, 2, 2, 2, 1, 1]) = Code.region 18 _ false from rfl, hk_26_18, hz_26_18, hs_26_18, xk B26 [2, 3, 2, 3, 2, 2, 2, 1, 1] (.cd 111) rfl, h1, h16]
      replace hF := cond_some hF
      rcases hF with ⟨h48, hF⟩ | ⟨h48, hF⟩
      · replace hF := Option.bind_eq_some_iff.1 hF
        obtain ⟨o49, h50, hF⟩ := hF
        have hc51 := f25_p_brb_ok k e0 e0_1 _ h50
        cases o49 with
        | o0 v52 v53 v54 =>
          (try dsimp only at hF)
          (try simp only [NM, EE, R25_p_brb.st] at hc51)
          have hJ := f26_pp_brbbiiiiiiiiiibrow_s1_j10_ok k e1 e1_1 e1_2 (IntKind.u32.wrap v52) e1_4 e1_5 e1_6 e1_7 e1_8 e1_9 e1_10 e1_11 e2 v53 v54 _ hF
          simp (maxSteps := 999999) (disch := first | exact D (by decide) | exact K (by kernel_rfl)) only [EA, EE, EG, EF, ED, ofVal, ofVal1, ofCell, lenV, aggEqV, cellEq, intBin, isShift, V.ids, lendV, frz, flatV, cellsOf, addOff, firstReg, oneOf, cellsAt, isAggD, isPure, ↓reduceIte, reduceCtorEq, Nat.reduceAdd, Nat.reduceSub, Nat.reduceMul, Nat.reduceLeDiff, Nat.reduceEqDiff, Nat.reduceBEq, Int.reduceToNat, Int.reduceLE, Int.reduceLT, Nat.reduceLT, Int.reduceBEq, Int.reduceBNe, Int.reduceEq, String.reduceEq, show (nav B26 [2, 2, 3, 2, 3, 2, 2, 2, 1, 1]) = Code.region 19 _ false from rfl, hk_26_19, hz_26_19, hs_26_19, callStep, calleeOf, gv, List.contains, u_3, i_3, is_3, ib_3, iz_3, u_22, i_22, is_22, ib_22, iz_22, convV, fieldAddrV, u_26, i_26, is_26, ib_26, iz_26, h1, h16, h48, hc51]
          try simp only [NM, EE] at hJ
          exact hJ
      · simp (maxSteps := 999999) (disch := first | exact D (by decide) | exact K (by kernel_rfl)) only [EA, EE, EG, EF, ED, ofVal, ofVal1, ofCell, lenV, aggEqV, cellEq, intBin, isShift, V.ids, lendV, frz, flatV, cellsOf, addOff, firstReg, oneOf, cellsAt, isAggD, isPure, ↓reduceIte, reduceCtorEq, Nat.reduceAdd, Nat.reduceSub, Nat.reduceMul, Nat.reduceLeDiff, Nat.reduceEqDiff, Nat.reduceBEq, Int.reduceToNat, Int.reduceLE, Int.reduceLT, Nat.reduceLT, Int.reduceBEq, Int.reduceBNe, Int.reduceEq, String.reduceEq, xk B26 [3, 2, 3, 2, 3, 2, 2, 2, 1, 1] .sq rfl, xk B26 [1, 3, 2, 3, 2, 3, 2, 2, 2, 1, 1] .sq rfl, show (nav B26 [1, 1, 3, 2, 3, 2, 3, 2, 2, 2, 1, 1]) = Code.region 20 _ false from rfl, hk_26_20, hz_26_20, hs_26_20, xk B26 [2, 1, 3, 2, 3, 2, 3, 2, 2, 2, 1, 1] (.cd 119) rfl, h1, h16, h48]
        replace hF := cond_some hF
        rcases hF with ⟨h55, hF⟩ | ⟨h55, hF⟩
        · have hJ := f26_pp_brbbiiiiiiiiiibrow_s1_j11_ok k e1 true e0 e0_1 e1 e1_1 e1_2 e1_3 e1_4 e1_5 e1_6 e1_7 e1_8 e1_9 e1_10 e1_11 e2 _ hF
          simp (maxSteps := 999999) (disch := first | exact D (by decide) | exact K (by kernel_rfl)) only [EA, EE, EG, EF, ED, ofVal, ofVal1, ofCell, lenV, aggEqV, cellEq, intBin, isShift, V.ids, lendV, frz, flatV, cellsOf, addOff, firstReg, oneOf, cellsAt, isAggD, isPure, ↓reduceIte, reduceCtorEq, Nat.reduceAdd, Nat.reduceSub, Nat.reduceMul, Nat.reduceLeDiff, Nat.reduceEqDiff, Nat.reduceBEq, Int.reduceToNat, Int.reduceLE, Int.reduceLT, Nat.reduceLT, Int.reduceBEq, Int.reduceBNe, Int.reduceEq, String.reduceEq, xk B26 [2, 2, 1, 3, 2, 3, 2, 3, 2, 2, 2, 1, 1] .sk rfl, h1, h16, h48, h55]
          try simp only [NM, EE] at hJ
          exact hJ
        · have hJ := f26_pp_brbbiiiiiiiiiibrow_s1_j13_ok k (e1 == 6) e0 e0_1 e1 e1_1 e1_2 e1_3 e1_4 e1_5 e1_6 e1_7 e1_8 e1_9 e1_10 e1_11 e2 _ hF
          simp (maxSteps := 999999) (disch := first | exact D (by decide) | exact K (by kernel_rfl)) only [EA, EE, EG, EF, ED, ofVal, ofVal1, ofCell, lenV, aggEqV, cellEq, intBin, isShift, V.ids, lendV, frz, flatV, cellsOf, addOff, firstReg, oneOf, cellsAt, isAggD, isPure, ↓reduceIte, reduceCtorEq, Nat.reduceAdd, Nat.reduceSub, Nat.reduceMul, Nat.reduceLeDiff, Nat.reduceEqDiff, Nat.reduceBEq, Int.reduceToNat, Int.reduceLE, Int.reduceLT, Nat.reduceLT, Int.reduceBEq, Int.reduceBNe, Int.reduceEq, String.reduceEq, show (nav B26 [3, 2, 1, 3, 2, 3, 2, 3, 2, 2, 2, 1, 1]) = Code.region 21 _ false from rfl, hk_26_21, hz_26_21, hs_26_21, h1, h16, h48, h55]
          try simp only [NM, EE] at hJ
          exact hJ
noncomputable def f26_pp_brbbiiiiiiiiiibrow_s1_g0_b (k : Nat) (x4 : Int) (x45 : Bool) (e0 : List Int) (e0_1 : Bool) (e1 : Int) (e1_1 : Int) (e1_2 : Int) (e1_3 : Int) (e1_4 : Int) (e1_5 : Int) (e1_6 : Int) (e1_7 : Int) (e1_8 : Int) (e1_9 : Int) (e1_10 : Bool) (e1_11 : List Int) (e2 : List T45) : Option R26_pp_brbbiiiiiiiiiibrow_s1 :=
  some (R26_pp_brbbiiiiiiiiiibrow_s1.o9 e0 true e1 e1_1 e1_2 e1_3 e1_4 e1_5 e1_6 e1_7 e1_8 e1_9 e1_10 e1_11 e2)
theorem f26_pp_brbbiiiiiiiiiibrow_s1_g0_b_ok (k : Nat) (x4 : Int) (x45 : Bool) (e0 : List Int) (e0_1 : Bool) (e1 : Int) (e1_1 : Int) (e1_2 : Int) (e1_3 : Int) (e1_4 : Int) (e1_5 : Int) (e1_6 : Int) (e1_7 : Int) (e1_8 : Int) (e1_9 : Int) (e1_10 : Bool) (e1_11 : List Int) (e2 : List T45) (r : R26_pp_brbbiiiiiiiiiibrow_s1) (hF : f26_pp_brbbiiiiiiiiiibrow_s1_g0_b k x4 x45 e0 e0_1 e1 e1_1 e1_2 e1_3 e1_4 e1_5 e1_6 e1_7 e1_8 e1_9 e1_10 e1_11 e2 = some r) : EL 26 k 0 (nav B26 [1]) ({ n := 130, F := [(0, V.ptr 1000000 0), (1, V.ptr 1000001 0), (4, V.p (Value.int .i64 x4)), (45, V.p (Value.bool x45))], M := [(1000000, O.box 57 [V.sl 1 (rowsOf (encI .u8) e0), V.p (Value.bool e0_1)]), (1000001, O.box 26 [V.p (Value.int .i64 e1), V.p (Value.int .i64 e1_1), V.p (Value.int .u32 e1_2), V.p (Value.int .u32 e1_3), V.p (Value.int .u32 e1_4), V.p (Value.int .i64 e1_5), V.p (Value.int .i64 e1_6), V.p (Value.int .i64 e1_7), V.p (Value.int .i64 e1_8), V.p (Value.int .i64 e1_9), V.p (Value.bool e1_10), V.sl 1 (rowsOf (encI .u8) e1_11), V.own 1000002]), (1000002, O.row true 2 45 (rowsOf encT45 e2))] } : St) = some r.st := by
  unfold f26_pp_brbbiiiiiiiiiibrow_s1_g0_b at hF
  cases hF
  simp (maxSteps := 999999) (disch := first | exact D (by decide) | exact K (by kernel_rfl)) only [EA, EE, EG, EF, ED, ofVal, ofVal1, ofCell, lenV, aggEqV, cellEq, intBin, isShift, V.ids, lendV, frz, flatV, cellsOf, addOff, firstReg, oneOf, cellsAt, isAggD, isPure, ↓reduceIte, reduceCtorEq, Nat.reduceAdd, Nat.reduceSub, Nat.reduceMul, Nat.reduceLeDiff, Nat.reduceEqDiff, Nat.reduceBEq, Int.reduceToNat, Int.reduceLE, Int.reduceLT, Nat.reduceLT, Int.reduceBEq, Int.reduceBNe, Int.reduceEq, String.reduceEq, y26_1_0, show (nav B26 [2, 2, 2, 1]) = Code.region 23 _ false from rfl, hk_26_23, hz_26_23, hs_26_23, fieldAddrV, u_57, i_57, is_57, ib_57, iz_57, u_4, i_4, is_4, ib_4, iz_4, R26_pp_brbbiiiiiiiiiibrow_s1.st]
noncomputable def f26_pp_brbbiiiiiiiiiibrow_s1_g1_b (k : Nat) (x25 : Bool) (e0 : List Int) (e0_1 : Bool) (e1 : Int) (e1_1 : Int) (e1_2 : Int) (e1_3 : Int) (e1_4 : Int) (e1_5 : Int) (e1_6 : Int) (e1_7 : Int) (e1_8 : Int) (e1_9 : Int) (e1_10 : Bool) (e1_11 : List Int) (e2 : List T45) : Option R26_pp_brbbiiiiiiiiiibrow_s1 :=
  some (R26_pp_brbbiiiiiiiiiibrow_s1.o9 e0 true e1 e1_1 e1_2 e1_3 e1_4 e1_5 e1_6 e1_7 e1_8 e1_9 e1_10 e1_11 e2)
theorem f26_pp_brbbiiiiiiiiiibrow_s1_g1_b_ok (k : Nat) (x25 : Bool) (e0 : List Int) (e0_1 : Bool) (e1 : Int) (e1_1 : Int) (e1_2 : Int) (e1_3 : Int) (e1_4 : Int) (e1_5 : Int) (e1_6 : Int) (e1_7 : Int) (e1_8 : Int) (e1_9 : Int) (e1_10 : Bool) (e1_11 : List Int) (e2 : List T45) (r : R26_pp_brbbiiiiiiiiiibrow_s1) (hF : f26_pp_brbbiiiiiiiiiibrow_s1_g1_b k x25 e0 e0_1 e1 e1_1 e1_2 e1_3 e1_4 e1_5 e1_6 e1_7 e1_8 e1_9 e1_10 e1_11 e2 = some r) : EL 26 k 0 (nav B26 [1]) ({ n := 130, F := [(0, V.ptr 1000000 0), (1, V.ptr 1000001 0), (25, V.p (Value.bool x25))], M := [(1000000, O.box 57 [V.sl 1 (rowsOf (encI .u8) e0), V.p (Value.bool e0_1)]), (1000001, O.box 26 [V.p (Value.int .i64 e1), V.p (Value.int .i64 e1_1), V.p (Value.int .u32 e1_2), V.p (Value.int .u32 e1_3), V.p (Value.int .u32 e1_4), V.p (Value.int .i64 e1_5), V.p (Value.int .i64 e1_6), V.p (Value.int .i64 e1_7), V.p (Value.int .i64 e1_8), V.p (Value.int .i64 e1_9), V.p (Value.bool e1_10), V.sl 1 (rowsOf (encI .u8) e1_11), V.own 1000002]), (1000002, O.row true 2 45 (rowsOf encT45 e2))] } : St) = some r.st := by
  unfold f26_pp_brbbiiiiiiiiiibrow_s1_g1_b at hF
  cases hF
  simp (maxSteps := 999999) (disch := first | exact D (by decide) | exact K (by kernel_rfl)) only [EA, EE, EG, EF, ED, ofVal, ofVal1, ofCell, lenV, aggEqV, cellEq, intBin, isShift, V.ids, lendV, frz, flatV, cellsOf, addOff, firstReg, oneOf, cellsAt, isAggD, isPure, ↓reduceIte, reduceCtorEq, Nat.reduceAdd, Nat.reduceSub, Nat.reduceMul, Nat.reduceLeDiff, Nat.reduceEqDiff, Nat.reduceBEq, Int.reduceToNat, Int.reduceLE, Int.reduceLT, Nat.reduceLT, Int.reduceBEq, Int.reduceBNe, Int.reduceEq, String.reduceEq, y26_1_0, show (nav B26 [2, 2, 2, 1]) = Code.region 23 _ false from rfl, hk_26_23, hz_26_23, hs_26_23, fieldAddrV, u_57, i_57, is_57, ib_57, iz_57, u_4, i_4, is_4, ib_4, iz_4, R26_pp_brbbiiiiiiiiiibrow_s1.st]
noncomputable def f26_pp_brbbiiiiiiiiiibrow_s1_g2_b (k : Nat) (x5 : Int) (x92 : Bool) (e0 : List Int) (e0_1 : Bool) (e1 : Int) (e1_1 : Int) (e1_2 : Int) (e1_3 : Int) (e1_4 : Int) (e1_5 : Int) (e1_6 : Int) (e1_7 : Int) (e1_8 : Int) (e1_9 : Int) (e1_10 : Bool) (e1_11 : List Int) (e2 : List T45) : Option R26_pp_brbbiiiiiiiiiibrow_s1 :=
  some (R26_pp_brbbiiiiiiiiiibrow_s1.o9 e0 true e1 e1_1 e1_2 e1_3 e1_4 e1_5 e1_6 e1_7 e1_8 e1_9 e1_10 e1_11 e2)
theorem f26_pp_brbbiiiiiiiiiibrow_s1_g2_b_ok (k : Nat) (x5 : Int) (x92 : Bool) (e0 : List Int) (e0_1 : Bool) (e1 : Int) (e1_1 : Int) (e1_2 : Int) (e1_3 : Int) (e1_4 : Int) (e1_5 : Int) (e1_6 : Int) (e1_7 : Int) (e1_8 : Int) (e1_9 : Int) (e1_10 : Bool) (e1_11 : List Int) (e2 : List T45) (r : R26_pp_brbbiiiiiiiiiibrow_s1) (hF : f26_pp_brbbiiiiiiiiiibrow_s1_g2_b k x5 x92 e0 e0_1 e1 e1_1 e1_2 e1_3 e1_4 e1_5 e1_6 e1_7 e1_8 e1_9 e1_10 e1_11 e2 = some r) : EL 26 k 0 (nav B26 [1]) ({ n := 130, F := [(0, V.ptr 1000000 0), (1, V.ptr 1000001 0), (5, V.p (Value.int .i64 x5)), (92, V.p (Value.bool x92))], M := [(1000000, O.box 57 [V.sl 1 (rowsOf (encI .u8) e0), V.p (Value.bool e0_1)]), (1000001, O.box 26 [V.p (Value.int .i64 e1), V.p (Value.int .i64 e1_1), V.p (Value.int .u32 e1_2), V.p (Value.int .u32 e1_3), V.p (Value.int .u32 e1_4), V.p (Value.int .i64 e1_5), V.p (Value.int .i64 e1_6), V.p (Value.int .i64 e1_7), V.p (Value.int .i64 e1_8), V.p (Value.int .i64 e1_9), V.p (Value.bool e1_10), V.sl 1 (rowsOf (encI .u8) e1_11), V.own 1000002]), (1000002, O.row true 2 45 (rowsOf encT45 e2))] } : St) = some r.st := by
  unfold f26_pp_brbbiiiiiiiiiibrow_s1_g2_b at hF
  cases hF
  simp (maxSteps := 999999) (disch := first | exact D (by decide) | exact K (by kernel_rfl)) only [EA, EE, EG, EF, ED, ofVal, ofVal1, ofCell, lenV, aggEqV, cellEq, intBin, isShift, V.ids, lendV, frz, flatV, cellsOf, addOff, firstReg, oneOf, cellsAt, isAggD, isPure, ↓reduceIte, reduceCtorEq, Nat.reduceAdd, Nat.reduceSub, Nat.reduceMul, Nat.reduceLeDiff, Nat.reduceEqDiff, Nat.reduceBEq, Int.reduceToNat, Int.reduceLE, Int.reduceLT, Nat.reduceLT, Int.reduceBEq, Int.reduceBNe, Int.reduceEq, String.reduceEq, y26_1_0, show (nav B26 [2, 2, 2, 1]) = Code.region 23 _ false from rfl, hk_26_23, hz_26_23, hs_26_23, fieldAddrV, u_57, i_57, is_57, ib_57, iz_57, u_4, i_4, is_4, ib_4, iz_4, R26_pp_brbbiiiiiiiiiibrow_s1.st]
noncomputable def f26_pp_brbbiiiiiiiiiibrow_s1_g0 (k : Nat) : Nat → Int → Bool → (List Int) → Bool → Int → Int → Int → Int → Int → Int → Int → Int → Int → Int → Bool → (List Int) → (List T45) → Option R26_pp_brbbiiiiiiiiiibrow_s1
  | 0, _, _, _, _, _, _, _, _, _, _, _, _, _, _, _, _, _ => none
  | n + 1, x4, x45, e0, e0_1, e1, e1_1, e1_2, e1_3, e1_4, e1_5, e1_6, e1_7, e1_8, e1_9, e1_10, e1_11, e2 => Option.bind (f26_pp_brbbiiiiiiiiiibrow_s1_g0_b k x4 x45 e0 e0_1 e1 e1_1 e1_2 e1_3 e1_4 e1_5 e1_6 e1_7 e1_8 e1_9 e1_10 e1_11 e2) fun o =>
    match o with
    | .o0 y y_1 y_2 y_3 y_4 y_5 y_6 y_7 y_8 y_9 y_10 y_11 y_12 y_13 y_14 y_15 y_16 => f26_pp_brbbiiiiiiiiiibrow_s1_g0 k n y y_1 y_2 y_3 y_4 y_5 y_6 y_7 y_8 y_9 y_10 y_11 y_12 y_13 y_14 y_15 y_16
    | .o1 y y_1 y_2 y_3 y_4 y_5 y_6 y_7 y_8 y_9 y_10 y_11 y_12 y_13 y_14 => some (.o1 y y_1 y_2 y_3 y_4 y_5 y_6 y_7 y_8 y_9 y_10 y_11 y_12 y_13 y_14)
    | .o2 y y_1 y_2 y_3 y_4 y_5 y_6 y_7 y_8 y_9 y_10 y_11 y_12 y_13 y_14 y_15 => none
    | .o3 y y_1 y_2 y_3 y_4 y_5 y_6 y_7 y_8 y_9 y_10 y_11 y_12 y_13 y_14 y_15 y_16 => none
    | .o4 y y_1 y_2 y_3 y_4 y_5 y_6 y_7 y_8 y_9 y_10 y_11 y_12 y_13 y_14 y_15 y_16 y_17 => some (.o4 y y_1 y_2 y_3 y_4 y_5 y_6 y_7 y_8 y_9 y_10 y_11 y_12 y_13 y_14 y_15 y_16 y_17)
    | .o5 y y_1 y_2 y_3 y_4 y_5 y_6 y_7 y_8 y_9 y_10 y_11 y_12 y_13 y_14 y_15 y_16 y_17 => some (.o5 y y_1 y_2 y_3 y_4 y_5 y_6 y_7 y_8 y_9 y_10 y_11 y_12 y_13 y_14 y_15 y_16 y_17)
    | .o6 y y_1 y_2 y_3 y_4 y_5 y_6 y_7 y_8 y_9 y_10 y_11 y_12 y_13 y_14 => some (.o6 y y_1 y_2 y_3 y_4 y_5 y_6 y_7 y_8 y_9 y_10 y_11 y_12 y_13 y_14)
    | .o7 y y_1 y_2 y_3 y_4 y_5 y_6 y_7 y_8 y_9 y_10 y_11 y_12 y_13 y_14 y_15 y_16 => some (.o7 y y_1 y_2 y_3 y_4 y_5 y_6 y_7 y_8 y_9 y_10 y_11 y_12 y_13 y_14 y_15 y_16)
    | .o8 y y_1 y_2 y_3 y_4 y_5 y_6 y_7 y_8 y_9 y_10 y_11 y_12 y_13 y_14 y_15 => some (.o8 y y_1 y_2 y_3 y_4 y_5 y_6 y_7 y_8 y_9 y_10 y_11 y_12 y_13 y_14 y_15)
    | .o9 y y_1 y_2 y_3 y_4 y_5 y_6 y_7 y_8 y_9 y_10 y_11 y_12 y_13 y_14 => some (.o9 y y_1 y_2 y_3 y_4 y_5 y_6 y_7 y_8 y_9 y_10 y_11 y_12 y_13 y_14)
theorem f26_pp_brbbiiiiiiiiiibrow_s1_g0_ok (k : Nat) (n : Nat) : ∀ (x4 : Int) (x45 : Bool) (e0 : List Int) (e0_1 : Bool) (e1 : Int) (e1_1 : Int) (e1_2 : Int) (e1_3 : Int) (e1_4 : Int) (e1_5 : Int) (e1_6 : Int) (e1_7 : Int) (e1_8 : Int) (e1_9 : Int) (e1_10 : Bool) (e1_11 : List Int) (e2 : List T45) (r : R26_pp_brbbiiiiiiiiiibrow_s1) (hF : f26_pp_brbbiiiiiiiiiibrow_s1_g0 k n x4 x45 e0 e0_1 e1 e1_1 e1_2 e1_3 e1_4 e1_5 e1_6 e1_7 e1_8 e1_9 e1_10 e1_11 e2 = some r), JK 26 k (nav B26 [1]) n (some (.goto 0, ({ n := 130, F := [(0, V.ptr 1000000 0), (1, V.ptr 1000001 0), (4, V.p (Value.int .i64 x4)), (45, V.p (Value.bool x45))], M := [(1000000, O.box 57 [V.sl 1 (rowsOf (encI .u8) e0), V.p (Value.bool e0_1)]), (1000001, O.box 26 [V.p (Value.int .i64 e1), V.p (Value.int .i64 e1_1), V.p (Value.int .u32 e1_2), V.p (Value.int .u32 e1_3), V.p (Value.int .u32 e1_4), V.p (Value.int .i64 e1_5), V.p (Value.int .i64 e1_6), V.p (Value.int .i64 e1_7), V.p (Value.int .i64 e1_8), V.p (Value.int .i64 e1_9), V.p (Value.bool e1_10), V.sl 1 (rowsOf (encI .u8) e1_11), V.own 1000002]), (1000002, O.row true 2 45 (rowsOf encT45 e2))] } : St))) = some r.st := by
  induction n with
  | zero => intro x4 x45 e0 e0_1 e1 e1_1 e1_2 e1_3 e1_4 e1_5 e1_6 e1_7 e1_8 e1_9 e1_10 e1_11 e2 r hF; cases hF
  | succ n ih =>
    intro x4 x45 e0 e0_1 e1 e1_1 e1_2 e1_3 e1_4 e1_5 e1_6 e1_7 e1_8 e1_9 e1_10 e1_11 e2 r hF
    rw [f26_pp_brbbiiiiiiiiiibrow_s1_g0] at hF
    obtain ⟨o, h, hF⟩ := Option.bind_eq_some_iff.1 hF
    unfold JK at ih ⊢
    rw [jumpsK_goto, (show exec _ _ _ _ _ _ _ _ = _ from f26_pp_brbbiiiiiiiiiibrow_s1_g0_b_ok k x4 x45 e0 e0_1 e1 e1_1 e1_2 e1_3 e1_4 e1_5 e1_6 e1_7 e1_8 e1_9 e1_10 e1_11 e2 o h)]
    cases o with
    | o0 y y_1 y_2 y_3 y_4 y_5 y_6 y_7 y_8 y_9 y_10 y_11 y_12 y_13 y_14 y_15 y_16 => exact ih y y_1 y_2 y_3 y_4 y_5 y_6 y_7 y_8 y_9 y_10 y_11 y_12 y_13 y_14 y_15 y_16 r hF
    | o1 y y_1 y_2 y_3 y_4 y_5 y_6 y_7 y_8 y_9 y_10 y_11 y_12 y_13 y_14 => cases hF; simp only [R26_pp_brbbiiiiiiiiiibrow_s1.st, jumpsK_norm, jumpsK_ret, jumpsK_exit]
    | o2 y y_1 y_2 y_3 y_4 y_5 y_6 y_7 y_8 y_9 y_10 y_11 y_12 y_13 y_14 y_15 => cases hF
    | o3 y y_1 y_2 y_3 y_4 y_5 y_6 y_7 y_8 y_9 y_10 y_11 y_12 y_13 y_14 y_15 y_16 => cases hF
    | o4 y y_1 y_2 y_3 y_4 y_5 y_6 y_7 y_8 y_9 y_10 y_11 y_12 y_13 y_14 y_15 y_16 y_17 => cases hF; simp only [R26_pp_brbbiiiiiiiiiibrow_s1.st, jumpsK_norm, jumpsK_ret, jumpsK_exit]
    | o5 y y_1 y_2 y_3 y_4 y_5 y_6 y_7 y_8 y_9 y_10 y_11 y_12 y_13 y_14 y_15 y_16 y_17 => cases hF; simp only [R26_pp_brbbiiiiiiiiiibrow_s1.st, jumpsK_norm, jumpsK_ret, jumpsK_exit]
    | o6 y y_1 y_2 y_3 y_4 y_5 y_6 y_7 y_8 y_9 y_10 y_11 y_12 y_13 y_14 => cases hF; simp only [R26_pp_brbbiiiiiiiiiibrow_s1.st, jumpsK_norm, jumpsK_ret, jumpsK_exit]
    | o7 y y_1 y_2 y_3 y_4 y_5 y_6 y_7 y_8 y_9 y_10 y_11 y_12 y_13 y_14 y_15 y_16 => cases hF; simp only [R26_pp_brbbiiiiiiiiiibrow_s1.st, jumpsK_norm, jumpsK_ret, jumpsK_exit]
    | o8 y y_1 y_2 y_3 y_4 y_5 y_6 y_7 y_8 y_9 y_10 y_11 y_12 y_13 y_14 y_15 => cases hF; simp only [R26_pp_brbbiiiiiiiiiibrow_s1.st, jumpsK_norm, jumpsK_ret, jumpsK_exit]
    | o9 y y_1 y_2 y_3 y_4 y_5 y_6 y_7 y_8 y_9 y_10 y_11 y_12 y_13 y_14 => cases hF; simp only [R26_pp_brbbiiiiiiiiiibrow_s1.st, jumpsK_norm, jumpsK_ret, jumpsK_exit]
noncomputable def f26_pp_brbbiiiiiiiiiibrow_s1_g1 (k : Nat) : Nat → Bool → (List Int) → Bool → Int → Int → Int → Int → Int → Int → Int → Int → Int → Int → Bool → (List Int) → (List T45) → Option R26_pp_brbbiiiiiiiiiibrow_s1
  | 0, _, _, _, _, _, _, _, _, _, _, _, _, _, _, _, _ => none
  | n + 1, x25, e0, e0_1, e1, e1_1, e1_2, e1_3, e1_4, e1_5, e1_6, e1_7, e1_8, e1_9, e1_10, e1_11, e2 => Option.bind (f26_pp_brbbiiiiiiiiiibrow_s1_g1_b k x25 e0 e0_1 e1 e1_1 e1_2 e1_3 e1_4 e1_5 e1_6 e1_7 e1_8 e1_9 e1_10 e1_11 e2) fun o =>
    match o with
    | .o0 y y_1 y_2 y_3 y_4 y_5 y_6 y_7 y_8 y_9 y_10 y_11 y_12 y_13 y_14 y_15 y_16 => f26_pp_brbbiiiiiiiiiibrow_s1_g0 k n y y_1 y_2 y_3 y_4 y_5 y_6 y_7 y_8 y_9 y_10 y_11 y_12 y_13 y_14 y_15 y_16
    | .o1 y y_1 y_2 y_3 y_4 y_5 y_6 y_7 y_8 y_9 y_10 y_11 y_12 y_13 y_14 => some (.o1 y y_1 y_2 y_3 y_4 y_5 y_6 y_7 y_8 y_9 y_10 y_11 y_12 y_13 y_14)
    | .o2 y y_1 y_2 y_3 y_4 y_5 y_6 y_7 y_8 y_9 y_10 y_11 y_12 y_13 y_14 y_15 => f26_pp_brbbiiiiiiiiiibrow_s1_g1 k n y y_1 y_2 y_3 y_4 y_5 y_6 y_7 y_8 y_9 y_10 y_11 y_12 y_13 y_14 y_15
    | .o3 y y_1 y_2 y_3 y_4 y_5 y_6 y_7 y_8 y_9 y_10 y_11 y_12 y_13 y_14 y_15 y_16 => none
    | .o4 y y_1 y_2 y_3 y_4 y_5 y_6 y_7 y_8 y_9 y_10 y_11 y_12 y_13 y_14 y_15 y_16 y_17 => some (.o4 y y_1 y_2 y_3 y_4 y_5 y_6 y_7 y_8 y_9 y_10 y_11 y_12 y_13 y_14 y_15 y_16 y_17)
    | .o5 y y_1 y_2 y_3 y_4 y_5 y_6 y_7 y_8 y_9 y_10 y_11 y_12 y_13 y_14 y_15 y_16 y_17 => some (.o5 y y_1 y_2 y_3 y_4 y_5 y_6 y_7 y_8 y_9 y_10 y_11 y_12 y_13 y_14 y_15 y_16 y_17)
    | .o6 y y_1 y_2 y_3 y_4 y_5 y_6 y_7 y_8 y_9 y_10 y_11 y_12 y_13 y_14 => some (.o6 y y_1 y_2 y_3 y_4 y_5 y_6 y_7 y_8 y_9 y_10 y_11 y_12 y_13 y_14)
    | .o7 y y_1 y_2 y_3 y_4 y_5 y_6 y_7 y_8 y_9 y_10 y_11 y_12 y_13 y_14 y_15 y_16 => some (.o7 y y_1 y_2 y_3 y_4 y_5 y_6 y_7 y_8 y_9 y_10 y_11 y_12 y_13 y_14 y_15 y_16)
    | .o8 y y_1 y_2 y_3 y_4 y_5 y_6 y_7 y_8 y_9 y_10 y_11 y_12 y_13 y_14 y_15 => some (.o8 y y_1 y_2 y_3 y_4 y_5 y_6 y_7 y_8 y_9 y_10 y_11 y_12 y_13 y_14 y_15)
    | .o9 y y_1 y_2 y_3 y_4 y_5 y_6 y_7 y_8 y_9 y_10 y_11 y_12 y_13 y_14 => some (.o9 y y_1 y_2 y_3 y_4 y_5 y_6 y_7 y_8 y_9 y_10 y_11 y_12 y_13 y_14)
theorem f26_pp_brbbiiiiiiiiiibrow_s1_g1_ok (k : Nat) (n : Nat) : ∀ (x25 : Bool) (e0 : List Int) (e0_1 : Bool) (e1 : Int) (e1_1 : Int) (e1_2 : Int) (e1_3 : Int) (e1_4 : Int) (e1_5 : Int) (e1_6 : Int) (e1_7 : Int) (e1_8 : Int) (e1_9 : Int) (e1_10 : Bool) (e1_11 : List Int) (e2 : List T45) (r : R26_pp_brbbiiiiiiiiiibrow_s1) (hF : f26_pp_brbbiiiiiiiiiibrow_s1_g1 k n x25 e0 e0_1 e1 e1_1 e1_2 e1_3 e1_4 e1_5 e1_6 e1_7 e1_8 e1_9 e1_10 e1_11 e2 = some r), JK 26 k (nav B26 [1]) n (some (.goto 0, ({ n := 130, F := [(0, V.ptr 1000000 0), (1, V.ptr 1000001 0), (25, V.p (Value.bool x25))], M := [(1000000, O.box 57 [V.sl 1 (rowsOf (encI .u8) e0), V.p (Value.bool e0_1)]), (1000001, O.box 26 [V.p (Value.int .i64 e1), V.p (Value.int .i64 e1_1), V.p (Value.int .u32 e1_2), V.p (Value.int .u32 e1_3), V.p (Value.int .u32 e1_4), V.p (Value.int .i64 e1_5), V.p (Value.int .i64 e1_6), V.p (Value.int .i64 e1_7), V.p (Value.int .i64 e1_8), V.p (Value.int .i64 e1_9), V.p (Value.bool e1_10), V.sl 1 (rowsOf (encI .u8) e1_11), V.own 1000002]), (1000002, O.row true 2 45 (rowsOf encT45 e2))] } : St))) = some r.st := by
  induction n with
  | zero => intro x25 e0 e0_1 e1 e1_1 e1_2 e1_3 e1_4 e1_5 e1_6 e1_7 e1_8 e1_9 e1_10 e1_11 e2 r hF; cases hF
  | succ n ih =>
    intro x25 e0 e0_1 e1 e1_1 e1_2 e1_3 e1_4 e1_5 e1_6 e1_7 e1_8 e1_9 e1_10 e1_11 e2 r hF
    rw [f26_pp_brbbiiiiiiiiiibrow_s1_g1] at hF
    obtain ⟨o, h, hF⟩ := Option.bind_eq_some_iff.1 hF
    unfold JK at ih ⊢
    rw [jumpsK_goto, (show exec _ _ _ _ _ _ _ _ = _ from f26_pp_brbbiiiiiiiiiibrow_s1_g1_b_ok k x25 e0 e0_1 e1 e1_1 e1_2 e1_3 e1_4 e1_5 e1_6 e1_7 e1_8 e1_9 e1_10 e1_11 e2 o h)]
    cases o with
    | o0 y y_1 y_2 y_3 y_4 y_5 y_6 y_7 y_8 y_9 y_10 y_11 y_12 y_13 y_14 y_15 y_16 => exact f26_pp_brbbiiiiiiiiiibrow_s1_g0_ok k n y y_1 y_2 y_3 y_4 y_5 y_6 y_7 y_8 y_9 y_10 y_11 y_12 y_13 y_14 y_15 y_16 r hF
    | o1 y y_1 y_2 y_3 y_4 y_5 y_6 y_7 y_8 y_9 y_10 y_11 y_12 y_13 y_14 => cases hF; simp only [R26_pp_brbbiiiiiiiiiibrow_s1.st, jumpsK_norm, jumpsK_ret, jumpsK_exit]
    | o2 y y_1 y_2 y_3 y_4 y_5 y_6 y_7 y_8 y_9 y_10 y_11 y_12 y_13 y_14 y_15 => exact ih y y_1 y_2 y_3 y_4 y_5 y_6 y_7 y_8 y_9 y_10 y_11 y_12 y_13 y_14 y_15 r hF
    | o3 y y_1 y_2 y_3 y_4 y_5 y_6 y_7 y_8 y_9 y_10 y_11 y_12 y_13 y_14 y_15 y_16 => cases hF
    | o4 y y_1 y_2 y_3 y_4 y_5 y_6 y_7 y_8 y_9 y_10 y_11 y_12 y_13 y_14 y_15 y_16 y_17 => cases hF; simp only [R26_pp_brbbiiiiiiiiiibrow_s1.st, jumpsK_norm, jumpsK_ret, jumpsK_exit]
    | o5 y y_1 y_2 y_3 y_4 y_5 y_6 y_7 y_8 y_9 y_10 y_11 y_12 y_13 y_14 y_15 y_16 y_17 => cases hF; simp only [R26_pp_brbbiiiiiiiiiibrow_s1.st, jumpsK_norm, jumpsK_ret, jumpsK_exit]
    | o6 y y_1 y_2 y_3 y_4 y_5 y_6 y_7 y_8 y_9 y_10 y_11 y_12 y_13 y_14 => cases hF; simp only [R26_pp_brbbiiiiiiiiiibrow_s1.st, jumpsK_norm, jumpsK_ret, jumpsK_exit]
    | o7 y y_1 y_2 y_3 y_4 y_5 y_6 y_7 y_8 y_9 y_10 y_11 y_12 y_13 y_14 y_15 y_16 => cases hF; simp only [R26_pp_brbbiiiiiiiiiibrow_s1.st, jumpsK_norm, jumpsK_ret, jumpsK_exit]
    | o8 y y_1 y_2 y_3 y_4 y_5 y_6 y_7 y_8 y_9 y_10 y_11 y_12 y_13 y_14 y_15 => cases hF; simp only [R26_pp_brbbiiiiiiiiiibrow_s1.st, jumpsK_norm, jumpsK_ret, jumpsK_exit]
    | o9 y y_1 y_2 y_3 y_4 y_5 y_6 y_7 y_8 y_9 y_10 y_11 y_12 y_13 y_14 => cases hF; simp only [R26_pp_brbbiiiiiiiiiibrow_s1.st, jumpsK_norm, jumpsK_ret, jumpsK_exit]
noncomputable def f26_pp_brbbiiiiiiiiiibrow_s1_g2 (k : Nat) : Nat → Int → Bool → (List Int) → Bool → Int → Int → Int → Int → Int → Int → Int → Int → Int → Int → Bool → (List Int) → (List T45) → Option R26_pp_brbbiiiiiiiiiibrow_s1
  | 0, _, _, _, _, _, _, _, _, _, _, _, _, _, _, _, _, _ => none
  | n + 1, x5, x92, e0, e0_1, e1, e1_1, e1_2, e1_3, e1_4, e1_5, e1_6, e1_7, e1_8, e1_9, e1_10, e1_11, e2 => Option.bind (f26_pp_brbbiiiiiiiiiibrow_s1_g2_b k x5 x92 e0 e0_1 e1 e1_1 e1_2 e1_3 e1_4 e1_5 e1_6 e1_7 e1_8 e1_9 e1_10 e1_11 e2) fun o =>
    match o with
    | .o0 y y_1 y_2 y_3 y_4 y_5 y_6 y_7 y_8 y_9 y_10 y_11 y_12 y_13 y_14 y_15 y_16 => f26_pp_brbbiiiiiiiiiibrow_s1_g0 k n y y_1 y_2 y_3 y_4 y_5 y_6 y_7 y_8 y_9 y_10 y_11 y_12 y_13 y_14 y_15 y_16
    | .o1 y y_1 y_2 y_3 y_4 y_5 y_6 y_7 y_8 y_9 y_10 y_11 y_12 y_13 y_14 => some (.o1 y y_1 y_2 y_3 y_4 y_5 y_6 y_7 y_8 y_9 y_10 y_11 y_12 y_13 y_14)
    | .o2 y y_1 y_2 y_3 y_4 y_5 y_6 y_7 y_8 y_9 y_10 y_11 y_12 y_13 y_14 y_15 => f26_pp_brbbiiiiiiiiiibrow_s1_g1 k n y y_1 y_2 y_3 y_4 y_5 y_6 y_7 y_8 y_9 y_10 y_11 y_12 y_13 y_14 y_15
    | .o3 y y_1 y_2 y_3 y_4 y_5 y_6 y_7 y_8 y_9 y_10 y_11 y_12 y_13 y_14 y_15 y_16 => f26_pp_brbbiiiiiiiiiibrow_s1_g2 k n y y_1 y_2 y_3 y_4 y_5 y_6 y_7 y_8 y_9 y_10 y_11 y_12 y_13 y_14 y_15 y_16
    | .o4 y y_1 y_2 y_3 y_4 y_5 y_6 y_7 y_8 y_9 y_10 y_11 y_12 y_13 y_14 y_15 y_16 y_17 => some (.o4 y y_1 y_2 y_3 y_4 y_5 y_6 y_7 y_8 y_9 y_10 y_11 y_12 y_13 y_14 y_15 y_16 y_17)
    | .o5 y y_1 y_2 y_3 y_4 y_5 y_6 y_7 y_8 y_9 y_10 y_11 y_12 y_13 y_14 y_15 y_16 y_17 => some (.o5 y y_1 y_2 y_3 y_4 y_5 y_6 y_7 y_8 y_9 y_10 y_11 y_12 y_13 y_14 y_15 y_16 y_17)
    | .o6 y y_1 y_2 y_3 y_4 y_5 y_6 y_7 y_8 y_9 y_10 y_11 y_12 y_13 y_14 => some (.o6 y y_1 y_2 y_3 y_4 y_5 y_6 y_7 y_8 y_9 y_10 y_11 y_12 y_13 y_14)
    | .o7 y y_1 y_2 y_3 y_4 y_5 y_6 y_7 y_8 y_9 y_10 y_11 y_12 y_13 y_14 y_15 y_16 => some (.o7 y y_1 y_2 y_3 y_4 y_5 y_6 y_7 y_8 y_9 y_10 y_11 y_12 y_13 y_14 y_15 y_16)
    | .o8 y y_1 y_2 y_3 y_4 y_5 y_6 y_7 y_8 y_9 y_10 y_11 y_12 y_13 y_14 y_15 => some (.o8 y y_1 y_2 y_3 y_4 y_5 y_6 y_7 y_8 y_9 y_10 y_11 y_12 y_13 y_14 y_15)
    | .o9 y y_1 y_2 y_3 y_4 y_5 y_6 y_7 y_8 y_9 y_10 y_11 y_12 y_13 y_14 => some (.o9 y y_1 y_2 y_3 y_4 y_5 y_6 y_7 y_8 y_9 y_10 y_11 y_12 y_13 y_14)
theorem f26_pp_brbbiiiiiiiiiibrow_s1_g2_ok (k : Nat) (n : Nat) : ∀ (x5 : Int) (x92 : Bool) (e0 : List Int) (e0_1 : Bool) (e1 : Int) (e1_1 : Int) (e1_2 : Int) (e1_3 : Int) (e1_4 : Int) (e1_5 : Int) (e1_6 : Int) (e1_7 : Int) (e1_8 : Int) (e1_9 : Int) (e1_10 : Bool) (e1_11 : List Int) (e2 : List T45) (r : R26_pp_brbbiiiiiiiiiibrow_s1) (hF : f26_pp_brbbiiiiiiiiiibrow_s1_g2 k n x5 x92 e0 e0_1 e1 e1_1 e1_2 e1_3 e1_4 e1_5 e1_6 e1_7 e1_8 e1_9 e1_10 e1_11 e2 = some r), JK 26 k (nav B26 [1]) n (some (.goto 0, ({ n := 130, F := [(0, V.ptr 1000000 0), (1, V.ptr 1000001 0), (5, V.p (Value.int .i64 x5)), (92, V.p (Value.bool x92))], M := [(1000000, O.box 57 [V.sl 1 (rowsOf (encI .u8) e0), V.p (Value.bool e0_1)]), (1000001, O.box 26 [V.p (Value.int .i64 e1), V.p (Value.int .i64 e1_1), V.p (Value.int .u32 e1_2), V.p (Value.int .u32 e1_3), V.p (Value.int .u32 e1_4), V.p (Value.int .i64 e1_5), V.p (Value.int .i64 e1_6), V.p (Value.int .i64 e1_7), V.p (Value.int .i64 e1_8), V.p (Value.int .i64 e1_9), V.p (Value.bool e1_10), V.sl 1 (rowsOf (encI .u8) e1_11), V.own 1000002]), (1000002, O.row true 2 45 (rowsOf encT45 e2))] } : St))) = some r.st := by
  induction n with
  | zero => intro x5 x92 e0 e0_1 e1 e1_1 e1_2 e1_3 e1_4 e1_5 e1_6 e1_7 e1_8 e1_9 e1_10 e1_11 e2 r hF; cases hF
  | succ n ih =>
    intro x5 x92 e0 e0_1 e1 e1_1 e1_2 e1_3 e1_4 e1_5 e1_6 e1_7 e1_8 e1_9 e1_10 e1_11 e2 r hF
    rw [f26_pp_brbbiiiiiiiiiibrow_s1_g2] at hF
    obtain ⟨o, h, hF⟩ := Option.bind_eq_some_iff.1 hF
    unfold JK at ih ⊢
    rw [jumpsK_goto, (show exec _ _ _ _ _ _ _ _ = _ from f26_pp_brbbiiiiiiiiiibrow_s1_g2_b_ok k x5 x92 e0 e0_1 e1 e1_1 e1_2 e1_3 e1_4 e1_5 e1_6 e1_7 e1_8 e1_9 e1_10 e1_11 e2 o h)]
    cases o with
    | o0 y y_1 y_2 y_3 y_4 y_5 y_6 y_7 y_8 y_9 y_10 y_11 y_12 y_13 y_14 y_15 y_16 => exact f26_pp_brbbiiiiiiiiiibrow_s1_g0_ok k n y y_1 y_2 y_3 y_4 y_5 y_6 y_7 y_8 y_9 y_10 y_11 y_12 y_13 y_14 y_15 y_16 r hF
    | o1 y y_1 y_2 y_3 y_4 y_5 y_6 y_7 y_8 y_9 y_10 y_11 y_12 y_13 y_14 => cases hF; simp only [R26_pp_brbbiiiiiiiiiibrow_s1.st, jumpsK_norm, jumpsK_ret, jumpsK_exit]
    | o2 y y_1 y_2 y_3 y_4 y_5 y_6 y_7 y_8 y_9 y_10 y_11 y_12 y_13 y_14 y_15 => exact f26_pp_brbbiiiiiiiiiibrow_s1_g1_ok k n y y_1 y_2 y_3 y_4 y_5 y_6 y_7 y_8 y_9 y_10 y_11 y_12 y_13 y_14 y_15 r hF
    | o3 y y_1 y_2 y_3 y_4 y_5 y_6 y_7 y_8 y_9 y_10 y_11 y_12 y_13 y_14 y_15 y_16 => exact ih y y_1 y_2 y_3 y_4 y_5 y_6 y_7 y_8 y_9 y_10 y_11 y_12 y_13 y_14 y_15 y_16 r hF
    | o4 y y_1 y_2 y_3 y_4 y_5 y_6 y_7 y_8 y_9 y_10 y_11 y_12 y_13 y_14 y_15 y_16 y_17 => cases hF; simp only [R26_pp_brbbiiiiiiiiiibrow_s1.st, jumpsK_norm, jumpsK_ret, jumpsK_exit]
    | o5 y y_1 y_2 y_3 y_4 y_5 y_6 y_7 y_8 y_9 y_10 y_11 y_12 y_13 y_14 y_15 y_16 y_17 => cases hF; simp only [R26_pp_brbbiiiiiiiiiibrow_s1.st, jumpsK_norm, jumpsK_ret, jumpsK_exit]
    | o6 y y_1 y_2 y_3 y_4 y_5 y_6 y_7 y_8 y_9 y_10 y_11 y_12 y_13 y_14 => cases hF; simp only [R26_pp_brbbiiiiiiiiiibrow_s1.st, jumpsK_norm, jumpsK_ret, jumpsK_exit]
    | o7 y y_1 y_2 y_3 y_4 y_5 y_6 y_7 y_8 y_9 y_10 y_11 y_12 y_13 y_14 y_15 y_16 => cases hF; simp only [R26_pp_brbbiiiiiiiiiibrow_s1.st, jumpsK_norm, jumpsK_ret, jumpsK_exit]
    | o8 y y_1 y_2 y_3 y_4 y_5 y_6 y_7 y_8 y_9 y_10 y_11 y_12 y_13 y_14 y_15 => cases hF; simp only [R26_pp_brbbiiiiiiiiiibrow_s1.st, jumpsK_norm, jumpsK_ret, jumpsK_exit]
    | o9 y y_1 y_2 y_3 y_4 y_5 y_6 y_7 y_8 y_9 y_10 y_11 y_12 y_13 y_14 => cases hF; simp only [R26_pp_brbbiiiiiiiiiibrow_s1.st, jumpsK_norm, jumpsK_ret, jumpsK_exit]
noncomputable def f26_pp_brbbiiiiiiiiiibrow_s1 (k : Nat) (e0 : List Int) (e0_1 : Bool) (e1 : Int) (e1_1 : Int) (e1_2 : Int) (e1_3 : Int) (e1_4 : Int) (e1_5 : Int) (e1_6 : Int) (e1_7 : Int) (e1_8 : Int) (e1_9 : Int) (e1_10 : Bool) (e1_11 : List Int) (e2 : List T45) : Option R26_pp_brbbiiiiiiiiiibrow_s1 := Option.bind (f26_pp_brbbiiiiiiiiiibrow_s1_b k e0 e0_1 e1 e1_1 e1_2 e1_3 e1_4 e1_5 e1_6 e1_7 e1_8 e1_9 e1_10 e1_11 e2) fun o =>
  match o with
  | .o0 y y_1 y_2 y_3 y_4 y_5 y_6 y_7 y_8 y_9 y_10 y_11 y_12 y_13 y_14 y_15 y_16 => f26_pp_brbbiiiiiiiiiibrow_s1_g0 k k y y_1 y_2 y_3 y_4 y_5 y_6 y_7 y_8 y_9 y_10 y_11 y_12 y_13 y_14 y_15 y_16
  | .o1 y y_1 y_2 y_3 y_4 y_5 y_6 y_7 y_8 y_9 y_10 y_11 y_12 y_13 y_14 => some (.o1 y y_1 y_2 y_3 y_4 y_5 y_6 y_7 y_8 y_9 y_10 y_11 y_12 y_13 y_14)
  | .o2 y y_1 y_2 y_3 y_4 y_5 y_6 y_7 y_8 y_9 y_10 y_11 y_12 y_13 y_14 y_15 => f26_pp_brbbiiiiiiiiiibrow_s1_g1 k k y y_1 y_2 y_3 y_4 y_5 y_6 y_7 y_8 y_9 y_10 y_11 y_12 y_13 y_14 y_15
  | .o3 y y_1 y_2 y_3 y_4 y_5 y_6 y_7 y_8 y_9 y_10 y_11 y_12 y_13 y_14 y_15 y_16 => f26_pp_brbbiiiiiiiiiibrow_s1_g2 k k y y_1 y_2 y_3 y_4 y_5 y_6 y_7 y_8 y_9 y_10 y_11 y_12 y_13 y_14 y_15 y_16
  | .o4 y y_1 y_2 y_3 y_4 y_5 y_6 y_7 y_8 y_9 y_10 y_11 y_12 y_13 y_14 y_15 y_16 y_17 => some (.o4 y y_1 y_2 y_3 y_4 y_5 y_6 y_7 y_8 y_9 y_10 y_11 y_12 y_13 y_14 y_15 y_16 y_17)
  | .o5 y y_1 y_2 y_3 y_4 y_5 y_6 y_7 y_8 y_9 y_10 y_11 y_12 y_13 y_14 y_15 y_16 y_17 => some (.o5 y y_1 y_2 y_3 y_4 y_5 y_6 y_7 y_8 y_9 y_10 y_11 y_12 y_13 y_14 y_15 y_16 y_17)
  | .o6 y y_1 y_2 y_3 y_4 y_5 y_6 y_7 y_8 y_9 y_10 y_11 y_12 y_13 y_14 => some (.o6 y y_1 y_2 y_3 y_4 y_5 y_6 y_7 y_8 y_9 y_10 y_11 y_12 y_13 y_14)
  | .o7 y y_1 y_2 y_3 y_4 y_5 y_6 y_7 y_8 y_9 y_10 y_11 y_12 y_13 y_14 y_15 y_16 => some (.o7 y y_1 y_2 y_3 y_4 y_5 y_6 y_7 y_8 y_9 y_10 y_11 y_12 y_13 y_14 y_15 y_16)
  | .o8 y y_1 y_2 y_3 y_4 y_5 y_6 y_7 y_8 y_9 y_10 y_11 y_12 y_13 y_14 y_15 => some (.o8 y y_1 y_2 y_3 y_4 y_5 y_6 y_7 y_8 y_9 y_10 y_11 y_12 y_13 y_14 y_15)
  | .o9 y y_1 y_2 y_3 y_4 y_5 y_6 y_7 y_8 y_9 y_10 y_11 y_12 y_13 y_14 => some (.o9 y y_1 y_2 y_3 y_4 y_5 y_6 y_7 y_8 y_9 y_10 y_11 y_12 y_13 y_14)
theorem f26_pp_brbbiiiiiiiiiibrow_s1_ok (k : Nat) (e0 : List Int) (e0_1 : Bool) (e1 : Int) (e1_1 : Int) (e1_2 : Int) (e1_3 : Int) (e1_4 : Int) (e1_5 : Int) (e1_6 : Int) (e1_7 : Int) (e1_8 : Int) (e1_9 : Int) (e1_10 : Bool) (e1_11 : List Int) (e2 : List T45) (r : R26_pp_brbbiiiiiiiiiibrow_s1) (hF : f26_pp_brbbiiiiiiiiiibrow_s1 k e0 e0_1 e1 e1_1 e1_2 e1_3 e1_4 e1_5 e1_6 e1_7 e1_8 e1_9 e1_10 e1_11 e2 = some r) : EX 26 k (nav B26 []) ({ n := 130, F := [(0, V.ptr 1000000 0), (1, V.ptr 1000001 0)], M := [(1000000, O.box 57 [V.sl 1 (rowsOf (encI .u8) e0), V.p (Value.bool e0_1)]), (1000001, O.box 26 [V.p (Value.int .i64 e1), V.p (Value.int .i64 e1_1), V.p (Value.int .u32 e1_2), V.p (Value.int .u32 e1_3), V.p (Value.int .u32 e1_4), V.p (Value.int .i64 e1_5), V.p (Value.int .i64 e1_6), V.p (Value.int .i64 e1_7), V.p (Value.int .i64 e1_8), V.p (Value.int .i64 e1_9), V.p (Value.bool e1_10), V.sl 1 (rowsOf (encI .u8) e1_11), V.own 1000002]), (1000002, O.row true 2 45 (rowsOf encT45 e2))] } : St) = some r.st := by
  unfold f26_pp_brbbiiiiiiiiiibrow_s1 at hF
  obtain ⟨o, h, hF⟩ := Option.bind_eq_some_iff.1 hF
  unfold EX
  rw [show (nav B26 []) = Code.scope (nav B26 [1]) from rfl, ev_scope, (show exec _ _ _ _ _ _ _ _ = _ from f26_pp_brbbiiiiiiiiiibrow_s1_b_ok k e0 e0_1 e1 e1_1 e1_2 e1_3 e1_4 e1_5 e1_6 e1_7 e1_8 e1_9 e1_10 e1_11 e2 o h)]
  cases o with
  | o0 y y_1 y_2 y_3 y_4 y_5 y_6 y_7 y_8 y_9 y_10 y_11 y_12 y_13 y_14 y_15 y_16 => exact f26_pp_brbbiiiiiiiiiibrow_s1_g0_ok k k y y_1 y_2 y_3 y_4 y_5 y_6 y_7 y_8 y_9 y_10 y_11 y_12 y_13 y_14 y_15 y_16 r hF
  | o1 y y_1 y_2 y_3 y_4 y_5 y_6 y_7 y_8 y_9 y_10 y_11 y_12 y_13 y_14 => cases hF; simp only [R26_pp_brbbiiiiiiiiiibrow_s1.st, jumpsK_norm, jumpsK_ret, jumpsK_exit]
  | o2 y y_1 y_2 y_3 y_4 y_5 y_6 y_7 y_8 y_9 y_10 y_11 y_12 y_13 y_14 y_15 => exact f26_pp_brbbiiiiiiiiiibrow_s1_g1_ok k k y y_1 y_2 y_3 y_4 y_5 y_6 y_7 y_8 y_9 y_10 y_11 y_12 y_13 y_14 y_15 r hF
  | o3 y y_1 y_2 y_3 y_4 y_5 y_6 y_7 y_8 y_9 y_10 y_11 y_12 y_13 y_14 y_15 y_16 => exact f26_pp_brbbiiiiiiiiiibrow_s1_g2_ok k k y y_1 y_2 y_3 y_4 y_5 y_6 y_7 y_8 y_9 y_10 y_11 y_12 y_13 y_14 y_15 y_16 r hF
  | o4 y y_1 y_2 y_3 y_4 y_5 y_6 y_7 y_8 y_9 y_10 y_11 y_12 y_13 y_14 y_15 y_16 y_17 => cases hF; simp only [R26_pp_brbbiiiiiiiiiibrow_s1.st, jumpsK_norm, jumpsK_ret, jumpsK_exit]
  | o5 y y_1 y_2 y_3 y_4 y_5 y_6 y_7 y_8 y_9 y_10 y_11 y_12 y_13 y_14 y_15 y_16 y_17 => cases hF; simp only [R26_pp_brbbiiiiiiiiiibrow_s1.st, jumpsK_norm, jumpsK_ret, jumpsK_exit]
  | o6 y y_1 y_2 y_3 y_4 y_5 y_6 y_7 y_8 y_9 y_10 y_11 y_12 y_13 y_14 => cases hF; simp only [R26_pp_brbbiiiiiiiiiibrow_s1.st, jumpsK_norm, jumpsK_ret, jumpsK_exit]
  | o7 y y_1 y_2 y_3 y_4 y_5 y_6 y_7 y_8 y_9 y_10 y_11 y_12 y_13 y_14 y_15 y_16 => cases hF; simp only [R26_pp_brbbiiiiiiiiiibrow_s1.st, jumpsK_norm, jumpsK_ret, jumpsK_exit]
  | o8 y y_1 y_2 y_3 y_4 y_5 y_6 y_7 y_8 y_9 y_10 y_11 y_12 y_13 y_14 y_15 => cases hF; simp only [R26_pp_brbbiiiiiiiiiibrow_s1.st, jumpsK_norm, jumpsK_ret, jumpsK_exit]
  | o9 y y_1 y_2 y_3 y_4 y_5 y_6 y_7 y_8 y_9 y_10 y_11 y_12 y_13 y_14 => cases hF; simp only [R26_pp_brbbiiiiiiiiiibrow_s1.st, jumpsK_norm, jumpsK_ret, jumpsK_exit]
noncomputable def f26_pp_brbbiiiiiiiiiibrow_e (k : Nat) (e0 : List Int) (e0_1 : Bool) (e1 : Int) (e1_1 : Int) (e1_2 : Int) (e1_3 : Int) (e1_4 : Int) (e1_5 : Int) (e1_6 : Int) (e1_7 : Int) (e1_8 : Int) (e1_9 : Int) (e1_10 : Bool) (e1_11 : List Int) (e2 : List T45) : Option R26_pp_brbbiiiiiiiiiibrow :=
  Option.bind (f26_pp_brbbiiiiiiiiiibrow_s1 k e0 e0_1 e1 e1_1 e1_2 e1_3 e1_4 e1_5 e1_6 e1_7 e1_8 e1_9 e1_10 e1_11 e2) fun o1 =>
    match o1 with
    | .o0 _ _ _ _ _ _ _ _ _ _ _ _ _ _ _ _ _ =>
      none  -- no way out
    | .o1 v4 v5 v6 v7 v8 v9 v10 v11 v12 v13 v14 v15 v16 v17 v18 =>
      some (R26_pp_brbbiiiiiiiiiibrow.o0 v4 v5 v6 v7 v8 v9 v10 v11 v12 v13 v14 v15 v16 v18 v17)
    | .o2 _ _ _ _ _ _ _ _ _ _ _ _ _ _ _ _ =>
      none  -- no way out
    | .o3 _ _ _ _ _ _ _ _ _ _ _ _ _ _ _ _ _ =>
      none  -- no way out
    | .o4 v19 v20 v21 v22 v23 v24 v25 v26 v27 v28 v29 v30 v31 v32 v33 v34 v35 v36 =>
      some (R26_pp_brbbiiiiiiiiiibrow.o1 v22 v23 v24 v25 v26 v27 v28 v29 v30 v31 v32 v33 v34 v35 v36)
    | .o5 v37 v38 v39 v40 v41 v42 v43 v44 v45 v46 v47 v48 v49 v50 v51 v52 v53 v54 =>
      some (R26_pp_brbbiiiiiiiiiibrow.o2 v40 v41 v42 v43 v44 v45 v46 v47 v48 v49 v50 v51 v52 v53 v54)
    | .o6 v55 v56 v57 v58 v59 v60 v61 v62 v63 v64 v65 v66 v67 v68 v69 =>
      some (R26_pp_brbbiiiiiiiiiibrow.o1 v68 v69 v55 v56 v57 v58 v59 v60 v61 v62 v63 v64 v65 v66 v67)
    | .o7 v70 v71 v72 v73 v74 v75 v76 v77 v78 v79 v80 v81 v82 v83 v84 v85 v86 =>
      some (R26_pp_brbbiiiiiiiiiibrow.o1 v72 v73 v74 v75 v76 v77 v78 v79 v80 v81 v82 v83 v84 v85 v86)
    | .o8 v87 v88 v89 v90 v91 v92 v93 v94 v95 v96 v97 v98 v99 v100 v101 v102 =>
      some (R26_pp_brbbiiiiiiiiiibrow.o1 v88 v89 v90 v91 v92 v93 v94 v95 v96 v97 v98 v99 v100 v101 v102)
    | .o9 v103 v104 v105 v106 v107 v108 v109 v110 v111 v112 v113 v114 v115 v116 v117 =>
      some (R26_pp_brbbiiiiiiiiiibrow.o1 v103 v104 v105 v106 v107 v108 v109 v110 v111 v112 v113 v114 v115 v116 v117)
theorem f26_pp_brbbiiiiiiiiiibrow_e_ok (k : Nat) (e0 : List Int) (e0_1 : Bool) (e1 : Int) (e1_1 : Int) (e1_2 : Int) (e1_3 : Int) (e1_4 : Int) (e1_5 : Int) (e1_6 : Int) (e1_7 : Int) (e1_8 : Int) (e1_9 : Int) (e1_10 : Bool) (e1_11 : List Int) (e2 : List T45) (r : R26_pp_brbbiiiiiiiiiibrow) (hF : f26_pp_brbbiiiiiiiiiibrow_e k e0 e0_1 e1 e1_1 e1_2 e1_3 e1_4 e1_5 e1_6 e1_7 e1_8 e1_9 e1_10 e1_11 e2 = some r) : finK Try.prog Try.f26 3 (EX 26 k (nav B26 []) ({ n := 130, F := [(0, V.ptr 1000000 0), (1, V.ptr 1000001 0)], M := [(1000000, O.box 57 [V.sl 1 (rowsOf (encI .u8) e0), V.p (Value.bool e0_1)]), (1000001, O.box 26 [V.p (Value.int .i64 e1), V.p (Value.int .i64 e1_1), V.p (Value.int .u32 e1_2), V.p (Value.int .u32 e1_3), V.p (Value.int .u32 e1_4), V.p (Value.int .i64 e1_5), V.p (Value.int .i64 e1_6), V.p (Value.int .i64 e1_7), V.p (Value.int .i64 e1_8), V.p (Value.int .i64 e1_9), V.p (Value.bool e1_10), V.sl 1 (rowsOf (encI .u8) e1_11), V.own 1000002]), (1000002, O.row true 2 45 (rowsOf encT45 e2))] } : St)) = some r.st := by
  unfold f26_pp_brbbiiiiiiiiiibrow_e at hF
  replace hF := Option.bind_eq_some_iff.1 hF
  obtain ⟨o1, h2, hF⟩ := hF
  have hc3 := f26_pp_brbbiiiiiiiiiibrow_s1_ok k e0 e0_1 e1 e1_1 e1_2 e1_3 e1_4 e1_5 e1_6 e1_7 e1_8 e1_9 e1_10 e1_11 e2 _ h2
  cases o1 with
  | o0 _ _ _ _ _ _ _ _ _ _ _ _ _ _ _ _ _ =>
    (try dsimp only at hF)
    (try simp only [NM, EE, R26_pp_brbbiiiiiiiiiibrow_s1.st] at hc3)
    cases hF
  | o1 v4 v5 v6 v7 v8 v9 v10 v11 v12 v13 v14 v15 v16 v17 v18 =>
    (try dsimp only at hF)
    (try simp only [NM, EE, R26_pp_brbbiiiiiiiiiibrow_s1.st] at hc3)
    cases hF
    simp (maxSteps := 999999) (disch := first | exact D (by decide) | exact K (by kernel_rfl)) only [EA, EE, EG, EF, ED, ofVal, ofVal1, ofCell, lenV, aggEqV, cellEq, intBin, isShift, V.ids, lendV, frz, flatV, cellsOf, addOff, firstReg, oneOf, cellsAt, isAggD, isPure, ↓reduceIte, reduceCtorEq, Nat.reduceAdd, Nat.reduceSub, Nat.reduceMul, Nat.reduceLeDiff, Nat.reduceEqDiff, Nat.reduceBEq, Int.reduceToNat, Int.reduceLE, Int.reduceLT, Nat.reduceLT, Int.reduceBEq, Int.reduceBNe, Int.reduceEq, String.reduceEq, R26_pp_brbbiiiiiiiiiibrow_s1.st, finK_norm, finK_ret, fin26, R26_pp_brbbiiiiiiiiiibrow.st, hc3]
  | o2 _ _ _ _ _ _ _ _ _ _ _ _ _ _ _ _ =>
    (try dsimp only at hF)
    (try simp only [NM, EE, R26_pp_brbbiiiiiiiiiibrow_s1.st] at hc3)
    cases hF
  | o3 _ _ _ _ _ _ _ _ _ _ _ _ _ _ _ _ _ =>
    (try dsimp only at hF)
    (try simp only [NM, EE, R26_pp_brbbiiiiiiiiiibrow_s1.st] at hc3)
    cases hF
  | o4 v19 v20 v21 v22 v23 v24 v25 v26 v27 v28 v29 v30 v31 v32 v33 v34 v35 v36 =>
    (try dsimp only at hF)
    (try simp only [NM, EE, R26_pp_brbbiiiiiiiiiibrow_s1.st] at hc3)
    cases hF
    simp (maxSteps := 999999) (disch := first | exact D (by decide) | exact K (by kernel_rfl)) only [EA, EE, EG, EF, ED, ofVal, ofVal1, ofCell, lenV, aggEqV, cellEq, intBin, isShift, V.ids, lendV, frz, flatV, cellsOf, addOff, firstReg, oneOf, cellsAt, isAggD, isPure, ↓reduceIte, reduceCtorEq, Nat.reduceAdd, Nat.reduceSub, Nat.reduceMul, Nat.reduceLeDiff, Nat.reduceEqDiff, Nat.reduceBEq, Int.reduceToNat, Int.reduceLE, Int.reduceLT, Nat.reduceLT, Int.reduceBEq, Int.reduceBNe, Int.reduceEq, String.reduceEq, R26_pp_brbbiiiiiiiiiibrow_s1.st, finK_norm, finK_ret, fin26, R26_pp_brbbiiiiiiiiiibrow.st, hc3]
  | o5 v37 v38 v39 v40 v41 v42 v43 v44 v45 v46 v47 v48 v49 v50 v51 v52 v53 v54 =>
    (try dsimp only at hF)
    (try simp only [NM, EE, R26_pp_brbbiiiiiiiiiibrow_s1.st] at hc3)
    cases hF
    simp (maxSteps := 999999) (disch := first | exact D (by decide) | exact K (by kernel_rfl)) only [EA, EE, EG, EF, ED, ofVal, ofVal1, ofCell, lenV, aggEqV, cellEq, intBin, isShift, V.ids, lendV, frz, flatV, cellsOf, addOff, firstReg, oneOf, cellsAt, isAggD, isPure, ↓reduceIte, reduceCtorEq, Nat.reduceAdd, Nat.reduceSub, Nat.reduceMul, Nat.reduceLeDiff, Nat.reduceEqDiff, Nat.reduceBEq, Int.reduceToNat, Int.reduceLE, Int.reduceLT, Nat.reduceLT, Int.reduceBEq, Int.reduceBNe, Int.reduceEq, String.reduceEq, R26_pp_brbbiiiiiiiiiibrow_s1.st, finK_norm, finK_ret, fin26, R26_pp_brbbiiiiiiiiiibrow.st, hc3]
  | o6 v55 v56 v57 v58 v59 v60 v61 v62 v63 v64 v65 v66 v67 v68 v69 =>
    (try dsimp only at hF)
    (try simp only [NM, EE, R26_pp_brbbiiiiiiiiiibrow_s1.st] at hc3)
    cases hF
    simp (maxSteps := 999999) (disch := first | exact D (by decide) | exact K (by kernel_rfl)) only [EA, EE, EG, EF, ED, ofVal, ofVal1, ofCell, lenV, aggEqV, cellEq, intBin, isShift, V.ids, lendV, frz, flatV, cellsOf, addOff, firstReg, oneOf, cellsAt, isAggD, isPure, ↓reduceIte, reduceCtorEq, Nat.reduceAdd, Nat.reduceSub, Nat.reduceMul, Nat.reduceLeDiff, Nat.reduceEqDiff, Nat.reduceBEq, Int.reduceToNat, Int.reduceLE, Int.reduceLT, Nat.reduceLT, Int.reduceBEq, Int.reduceBNe, Int.reduceEq, String.reduceEq, R26_pp_brbbiiiiiiiiiibrow_s1.st, finK_norm, finK_ret, fin26, R26_pp_brbbiiiiiiiiiibrow.st, hc3]
  | o7 v70 v71 v72 v73 v74 v75 v76 v77 v78 v79 v80 v81 v82 v83 v84 v85 v86 =>
    (try dsimp only at hF)
    (try simp only [NM, EE, R26_pp_brbbiiiiiiiiiibrow_s1.st] at hc3)
    cases hF
    simp (maxSteps := 999999) (disch := first | exact D (by decide) | exact K (by kernel_rfl)) only [EA, EE, EG, EF, ED, ofVal, ofVal1, ofCell, lenV, aggEqV, cellEq, intBin, isShift, V.ids, lendV, frz, flatV, cellsOf, addOff, firstReg, oneOf, cellsAt, isAggD, isPure, ↓reduceIte, reduceCtorEq, Nat.reduceAdd, Nat.reduceSub, Nat.reduceMul, Nat.reduceLeDiff, Nat.reduceEqDiff, Nat.reduceBEq, Int.reduceToNat, Int.reduceLE, Int.reduceLT, Nat.reduceLT, Int.reduceBEq, Int.reduceBNe, Int.reduceEq, String.reduceEq, R26_pp_brbbiiiiiiiiiibrow_s1.st, finK_norm, finK_ret, fin26, R26_pp_brbbiiiiiiiiiibrow.st, hc3]
  | o8 v87 v88 v89 v90 v91 v92 v93 v94 v95 v96 v97 v98 v99 v100 v101 v102 =>
    (try dsimp only at hF)
    (try simp only [NM, EE, R26_pp_brbbiiiiiiiiiibrow_s1.st] at hc3)
    cases hF
    simp (maxSteps := 999999) (disch := first | exact D (by decide) | exact K (by kernel_rfl)) only [EA, EE, EG, EF, ED, ofVal, ofVal1, ofCell, lenV, aggEqV, cellEq, intBin, isShift, V.ids, lendV, frz, flatV, cellsOf, addOff, firstReg, oneOf, cellsAt, isAggD, isPure, ↓reduceIte, reduceCtorEq, Nat.reduceAdd, Nat.reduceSub, Nat.reduceMul, Nat.reduceLeDiff, Nat.reduceEqDiff, Nat.reduceBEq, Int.reduceToNat, Int.reduceLE, Int.reduceLT, Nat.reduceLT, Int.reduceBEq, Int.reduceBNe, Int.reduceEq, String.reduceEq, R26_pp_brbbiiiiiiiiiibrow_s1.st, finK_norm, finK_ret, fin26, R26_pp_brbbiiiiiiiiiibrow.st, hc3]
  | o9 v103 v104 v105 v106 v107 v108 v109 v110 v111 v112 v113 v114 v115 v116 v117 =>
    (try dsimp only at hF)
    (try simp only [NM, EE, R26_pp_brbbiiiiiiiiiibrow_s1.st] at hc3)
    cases hF
    simp (maxSteps := 999999) (disch := first | exact D (by decide) | exact K (by kernel_rfl)) only [EA, EE, EG, EF, ED, ofVal, ofVal1, ofCell, lenV, aggEqV, cellEq, intBin, isShift, V.ids, lendV, frz, flatV, cellsOf, addOff, firstReg, oneOf, cellsAt, isAggD, isPure, ↓reduceIte, reduceCtorEq, Nat.reduceAdd, Nat.reduceSub, Nat.reduceMul, Nat.reduceLeDiff, Nat.reduceEqDiff, Nat.reduceBEq, Int.reduceToNat, Int.reduceLE, Int.reduceLT, Nat.reduceLT, Int.reduceBEq, Int.reduceBNe, Int.reduceEq, String.reduceEq, R26_pp_brbbiiiiiiiiiibrow_s1.st, finK_norm, finK_ret, fin26, R26_pp_brbbiiiiiiiiiibrow.st, hc3]
noncomputable def f26_pp_brbbiiiiiiiiiibrow (k : Nat) (e0 : List Int) (e0_1 : Bool) (e1 : Int) (e1_1 : Int) (e1_2 : Int) (e1_3 : Int) (e1_4 : Int) (e1_5 : Int) (e1_6 : Int) (e1_7 : Int) (e1_8 : Int) (e1_9 : Int) (e1_10 : Bool) (e1_11 : List Int) (e2 : List T45) : Option R26_pp_brbbiiiiiiiiiibrow := match k with | 0 => none | k + 1 => f26_pp_brbbiiiiiiiiiibrow_e k e0 e0_1 e1 e1_1 e1_2 e1_3 e1_4 e1_5 e1_6 e1_7 e1_8 e1_9 e1_10 e1_11 e2
theorem f26_pp_brbbiiiiiiiiiibrow_ok (k : Nat) (e0 : List Int) (e0_1 : Bool) (e1 : Int) (e1_1 : Int) (e1_2 : Int) (e1_3 : Int) (e1_4 : Int) (e1_5 : Int) (e1_6 : Int) (e1_7 : Int) (e1_8 : Int) (e1_9 : Int) (e1_10 : Bool) (e1_11 : List Int) (e2 : List T45) (r : R26_pp_brbbiiiiiiiiiibrow) (hF : f26_pp_brbbiiiiiiiiiibrow k e0 e0_1 e1 e1_1 e1_2 e1_3 e1_4 e1_5 e1_6 e1_7 e1_8 e1_9 e1_10 e1_11 e2 = some r) : CV k 26 [V.ptr 1000000 0, V.ptr 1000001 0] [O.box 57 [V.sl 1 (rowsOf (encI .u8) e0), V.p (Value.bool e0_1)], O.box 26 [V.p (Value.int .i64 e1), V.p (Value.int .i64 e1_1), V.p (Value.int .u32 e1_2), V.p (Value.int .u32 e1_3), V.p (Value.int .u32 e1_4), V.p (Value.int .i64 e1_5), V.p (Value.int .i64 e1_6), V.p (Value.int .i64 e1_7), V.p (Value.int .i64 e1_8), V.p (Value.int .i64 e1_9), V.p (Value.bool e1_10), V.sl 1 (rowsOf (encI .u8) e1_11), V.own 1000002], O.row true 2 45 (rowsOf encT45 e2)] = some r.st := by
  cases k with
  | zero => cases hF
  | succ k =>
    unfold CV
    rw [ev_call (F := Try.f26) (c := (nav B26 [])) rfl Try.func26 rfl rfl rfl]
    exact f26_pp_brbbiiiiiiiiiibrow_e_ok k e0 e0_1 e1 e1_1 e1_2 e1_3 e1_4 e1_5 e1_6 e1_7 e1_8 e1_9 e1_10 e1_11 e2 r hF
end Go.Proofs.YthjefcamonmjpaaV
