/- Joined by program (merge.py): the parts C7, VL27, M1, M2, M3, A11, E3, L1, L2. -/
import Derived.Test.YteicmeojabemhaaDoorRows
import Derived.ProofKit
import Derived.LaidMore
import Derived.OpenShut
import Derived.ChangeSlices
import Derived.Carry
import Derived.MakeChecks
import Derived.Test.YteicmeojabemhaaDoorX04
/- The array seat: the examples. -/
section
set_option linter.unusedSimpArgs false
set_option linter.unusedVariables false
set_option maxRecDepth 100000
namespace Go.VL
open Go Go.Proofs

theorem x25 (st : St) : VCall D 23 [.int .i64 9, .int .i64 2, .int .i64 1] st (fun r st' => r = .int .i64 0 ∧ st' = st) := Rao_none 9 2 1 (by omega) st

theorem VCall.withB {f : FuncId} {args : List V} {st : St} {K : V → St → Prop} (h0 : callable D.P f) (h : StB st → VCall D f args st K) : VCall D f args st K :=
  ⟨h0, fun S σ w vals h1 h2 h3 => (h h2.stB).2 S σ w vals h1 h2 h3⟩

theorem x18' (st : St) : VCall D 21 [.int .i64 1, .e0] st (fun r st' => r = gotV 0 [] 1 ∧ st' = st) := by
  refine VCall.withB (x18 []).1 fun hB => ?_
  have := VCall.freeze (cx := D) (f := 21) (args := [.int .i64 1, .e0]) (args' := [.int .i64 1, cubeV []]) (st1 := st) (st1' := st) (new := []) (K := fun r st' => r = gotV 0 [] 1 ∧ st' = st) (StConv.refl_of hB) (.cons (.keep rfl) (.cons .e0 .nil)) ((x18 st).mono fun r st' ⟨h1, h2⟩ => ⟨h2, h1, by simp⟩)
  rwa [List.append_nil] at this

theorem x21' (st : St) (hB : StB st) : VCall D 16 [arrV 2 exA, .slc st.length 0 0 1 1] (st ++ [.cells 0 [.int .i64 2]]) (fun r st' => r = gotV 0 [] 1 ∧ st' = st ++ [.dead]) := by
  refine VCall.freeze (st1 := st) (st1' := st) (new := [.cells 0 [.int .i64 2]]) (StConv.refl_of hB) (.cons (.keep ?_) (.cons (Conv.row (l := [2]) (Nat.le_refl _) (ob := .cells 0 (intsV [2])) (by simp [intsV]) rfl rfl) .nil)) ((x21 st).mono fun r st' ⟨h1, h2⟩ => ⟨h2, h1, rfl⟩)
  simp only [arrV, V.bdd, bddL, bdd_rows, Bool.true_and, Bool.and_self]

theorem StB.app {s l : St} (h : StB s) (hl : ∀ ob ∈ l, ob.bdd (s ++ l).length) : StB (s ++ l) := by
  intro id ob ho
  rcases Nat.lt_or_ge id s.length with hlt | hge
  · rw [List.getElem?_append_left hlt] at ho
    exact Ob.bdd_le (by simp) (h id ob ho)
  · rw [List.getElem?_append_right hge] at ho
    exact hl ob (List.mem_of_getElem? ho)

theorem gotV_bdd (n : Nat) (S : Int) (R : List (List Int)) (e : Int) : (gotV S R e).bdd n = true := by
  simp only [gotV, V.bdd, bddL, bdd_rows, Bool.true_and, Bool.and_self]

theorem x17' (st : St) (hB : StB st) {K : V → St → Prop} (hK : K (gotV 3 (fsR 3 exL) 0) (st ++ [.dead, .dead, .dead, .dead, .dead, .dead, .dead, .dead, .dead])) : VCall D 21 [.int .i64 3, .slc (st.length + 8) 0 0 2 1]
    (st ++ [.cells 0 [.int .i64 0, .int .i64 1, .int .i64 2], .cells 0 [.int .i64 1, .int .i64 2, .int .i64 0], .cells 0 [.int .i64 2, .int .i64 0, .int .i64 1],
      .cells 0 [.slc st.length 0 0 3 1, .slc (st.length + 1) 0 0 3 1, .slc (st.length + 2) 0 0 3 1],
      .cells 0 [.int .i64 0, .int .i64 1, .int .i64 2], .cells 0 [.int .i64 2, .int .i64 0, .int .i64 1], .cells 0 [.int .i64 1, .int .i64 2, .int .i64 0],
      .cells 0 [.slc (st.length + 4) 0 0 3 1, .slc (st.length + 5) 0 0 3 1, .slc (st.length + 6) 0 0 3 1],
      .cells 0 [.slc (st.length + 3) 0 0 3 1, .slc (st.length + 7) 0 0 3 1]]) K := by
  refine VCall.freeze (st1 := st) (st1' := st) (args' := [.int .i64 3, cubeV exL]) (StConv.refl_of hB) (.cons (.keep rfl) (.cons ?_ .nil)) ((x17 st).mono fun r st' ⟨h1, h2⟩ => ⟨h2, by subst h1; exact hK⟩)
  refine .slc (by omega) (ob := .cells 0 [.slc (st.length + 3) 0 0 3 1, .slc (st.length + 7) 0 0 3 1]) (by simp) rfl (by simp) (.cons ?_ (.cons ?_ .nil))
  · refine .slc (by omega) (ob := .cells 0 [.slc st.length 0 0 3 1, .slc (st.length + 1) 0 0 3 1, .slc (st.length + 2) 0 0 3 1]) (by simp) rfl (by simp) ?_
    exact .cons (Conv.row (l := [0, 1, 2]) (by omega) (ob := .cells 0 (intsV [0, 1, 2])) (by simp [intsV]) rfl rfl) (.cons (Conv.row (l := [1, 2, 0]) (by omega) (ob := .cells 0 (intsV [1, 2, 0])) (by simp [intsV]) rfl rfl) (.cons (Conv.row (l := [2, 0, 1]) (by omega) (ob := .cells 0 (intsV [2, 0, 1])) (by simp [intsV]) rfl rfl) .nil))
  · refine .slc (by omega) (ob := .cells 0 [.slc (st.length + 4) 0 0 3 1, .slc (st.length + 5) 0 0 3 1, .slc (st.length + 6) 0 0 3 1]) (by simp) rfl (by simp) ?_
    exact .cons (Conv.row (l := [0, 1, 2]) (by omega) (ob := .cells 0 (intsV [0, 1, 2])) (by simp [intsV]) rfl rfl) (.cons (Conv.row (l := [2, 0, 1]) (by omega) (ob := .cells 0 (intsV [2, 0, 1])) (by simp [intsV]) rfl rfl) (.cons (Conv.row (l := [1, 2, 0]) (by omega) (ob := .cells 0 (intsV [1, 2, 0])) (by simp [intsV]) rfl rfl) .nil))

theorem len9 : (fsR 3 exL).length = 9 := by decide

set_option maxHeartbeats 4000000 in
theorem examples_spec (st : St) : VCall D 9 [] st (fun r st' => r = .bool true ∧ st' = st) := by
  refine VCall.clean ?_
  refine VCall.of_WPB (fn := Tryd.f9) (c := _) Tryd.func9 rfl (by decide +kernel) (Nat.le_of_ble_eq_true rfl) fun hB => ?_
  refine WP.seq (wpF_sound ?_)
  simp -implicitDefEqProofs only [s_s, argEnv, PastOK, PendOK, sel, isE, isSp, baseOK, opR, opnd, opnds, opndL, ofConst, look, putE, dstOK, guardL, binR, intOp, loadR, bad, bound, lenV, srcV, Ob.read, V.plain, V.one, V.cells, fillV, setMany, zeros, TK.agg, Sub, cellRes, loadV, bindE, Nat.reduceAdd, Nat.reduceEqDiff, Nat.reduceLT, Nat.reduceLeDiff, Nat.reduceMul, Nat.reduceSub, Nat.reduceDiv, Nat.reduceMod, Nat.reduceBEq, Nat.reduceBNe, reduceIte, reduceCtorEq, Int.reduceToNat, Int.reduceLT, Int.reduceLE, Int.reduceAdd, Int.reduceSub, Int.reduceMul, Int.reduceNeg, Int.reduceEq, Int.reduceNe, D_G, D_P, List.lookup, tys, intsV_len, Tryd.ntmps9, Then]
  refine WP.seq (wpF_sound ?_)
  simp -implicitDefEqProofs only [s_s, argEnv, PastOK, PendOK, sel, isE, isSp, baseOK, opR, opnd, opnds, opndL, ofConst, look, putE, dstOK, guardL, binR, intOp, loadR, bad, bound, lenV, srcV, Ob.read, V.plain, V.one, V.cells, fillV, setMany, zeros, TK.agg, Sub, cellRes, loadV, bindE, Nat.reduceAdd, Nat.reduceEqDiff, Nat.reduceLT, Nat.reduceLeDiff, Nat.reduceMul, Nat.reduceSub, Nat.reduceDiv, Nat.reduceMod, Nat.reduceBEq, Nat.reduceBNe, reduceIte, reduceCtorEq, Int.reduceToNat, Int.reduceLT, Int.reduceLE, Int.reduceAdd, Int.reduceSub, Int.reduceMul, Int.reduceNeg, Int.reduceEq, Int.reduceNe, D_G, D_P, List.lookup, tys, intsV_len, Then]
  refine WP.seq (wpF_sound ?_)
  simp -implicitDefEqProofs only [s_s, argEnv, PastOK, PendOK, sel, isE, isSp, baseOK, opR, opnd, opnds, opndL, ofConst, look, putE, dstOK, guardL, binR, intOp, loadR, bad, bound, lenV, srcV, Ob.read, V.plain, V.one, V.cells, fillV, setMany, zeros, TK.agg, Sub, cellRes, loadV, bindE, Nat.reduceAdd, Nat.reduceEqDiff, Nat.reduceLT, Nat.reduceLeDiff, Nat.reduceMul, Nat.reduceSub, Nat.reduceDiv, Nat.reduceMod, Nat.reduceBEq, Nat.reduceBNe, reduceIte, reduceCtorEq, Int.reduceToNat, Int.reduceLT, Int.reduceLE, Int.reduceAdd, Int.reduceSub, Int.reduceMul, Int.reduceNeg, Int.reduceEq, Int.reduceNe, D_G, D_P, List.lookup, tys, intsV_len, Then]
  refine WP.cut (env' := [(0, .bool false), (1, .pptr [.int .i64 2, .lst 1 (exA.map rowV)] 0), (2, .pptr [.int .i64 2, .lst 1 (exB.map rowV)] 0)]) (st1 := st) (st1' := st) rfl (Nat.le_refl _) (StConv.refl_of hB) ?_ ?_
  · refine ⟨⟨_, rfl, .keep rfl⟩, ⟨_, rfl, ?_⟩, ⟨_, rfl, ?_⟩, trivial⟩
    · refine .ptr (by omega) (ob := .cells 0 [.int .i64 2, .slc (st.length + 4) 0 0 4 1]) (by simp) rfl rfl (.cons (.keep rfl) (.cons (.slc (by omega) (ob := .cells 0 [.slc st.length 0 0 2 1, .slc (st.length + 1) 0 0 2 1, .slc (st.length + 2) 0 0 2 1, .slc (st.length + 3) 0 0 2 1]) (by simp) rfl (by simp) ?_) .nil))
      exact .cons (Conv.row (l := [0, 0]) (by omega) (ob := .cells 0 (intsV [0, 0])) (by simp [intsV]) rfl rfl) (.cons (Conv.row (l := [0, 1]) (by omega) (ob := .cells 0 (intsV [0, 1])) (by simp [intsV]) rfl rfl) (.cons (Conv.row (l := [1, 0]) (by omega) (ob := .cells 0 (intsV [1, 0])) (by simp [intsV]) rfl rfl) (.cons (Conv.row (l := [1, 1]) (by omega) (ob := .cells 0 (intsV [1, 1])) (by simp [intsV]) rfl rfl) .nil)))
    · refine .ptr (by omega) (ob := .cells 0 [.int .i64 2, .slc (st.length + 10) 0 0 4 1]) (by simp) rfl rfl (.cons (.keep rfl) (.cons (.slc (by omega) (ob := .cells 0 [.slc (st.length + 6) 0 0 3 1, .slc (st.length + 7) 0 0 3 1, .slc (st.length + 8) 0 0 3 1, .slc (st.length + 9) 0 0 3 1]) (by simp) rfl (by simp) ?_) .nil))
      exact .cons (Conv.row (l := [0, 0, 0]) (by omega) (ob := .cells 0 (intsV [0, 0, 0])) (by simp [intsV]) rfl rfl) (.cons (Conv.row (l := [0, 1, 1]) (by omega) (ob := .cells 0 (intsV [0, 1, 1])) (by simp [intsV]) rfl rfl) (.cons (Conv.row (l := [1, 0, 1]) (by omega) (ob := .cells 0 (intsV [1, 0, 1])) (by simp [intsV]) rfl rfl) (.cons (Conv.row (l := [1, 1, 0]) (by omega) (ob := .cells 0 (intsV [1, 1, 0])) (by simp [intsV]) rfl rfl) .nil)))
  refine wpF_sound ?_
  simp -implicitDefEqProofs only [s_s, argEnv, PastOK, PendOK, sel, isE, isSp, baseOK, opR, opnd, opnds, opndL, ofConst, look, putE, dstOK, guardL, binR, intOp, loadR, bad, bound, lenV, srcV, Ob.read, V.plain, V.one, V.cells, fillV, setMany, zeros, TK.agg, Sub, cellRes, loadV, bindE, Nat.reduceAdd, Nat.reduceEqDiff, Nat.reduceLT, Nat.reduceLeDiff, Nat.reduceMul, Nat.reduceSub, Nat.reduceDiv, Nat.reduceMod, Nat.reduceBEq, Nat.reduceBNe, reduceIte, reduceCtorEq, Int.reduceToNat, Int.reduceLT, Int.reduceLE, Int.reduceAdd, Int.reduceSub, Int.reduceMul, Int.reduceNeg, Int.reduceEq, Int.reduceNe, D_G, D_P, List.lookup, tys, intsV_len]
  refine Sp.call rfl rfl ((x1 _).mono ?_)
  rintro v st' ⟨rfl, rfl⟩
  simp -implicitDefEqProofs only [s_s, argEnv, PastOK, PendOK, sel, isE, isSp, baseOK, opR, opnd, opnds, opndL, ofConst, look, putE, dstOK, guardL, binR, intOp, loadR, bad, bound, lenV, srcV, Ob.read, V.plain, V.one, V.cells, fillV, setMany, zeros, TK.agg, Sub, cellRes, loadV, bindE, Nat.reduceAdd, Nat.reduceEqDiff, Nat.reduceLT, Nat.reduceLeDiff, Nat.reduceMul, Nat.reduceSub, Nat.reduceDiv, Nat.reduceMod, Nat.reduceBEq, Nat.reduceBNe, reduceIte, reduceCtorEq, Int.reduceToNat, Int.reduceLT, Int.reduceLE, Int.reduceAdd, Int.reduceSub, Int.reduceMul, Int.reduceNeg, Int.reduceEq, Int.reduceNe, D_G, D_P, List.lookup, tys, intsV_len]
  refine Sp.call rfl rfl ((x2 _).mono ?_)
  rintro v st' ⟨rfl, rfl⟩
  simp -implicitDefEqProofs only [s_s, argEnv, PastOK, PendOK, sel, isE, isSp, baseOK, opR, opnd, opnds, opndL, ofConst, look, putE, dstOK, guardL, binR, intOp, loadR, bad, bound, lenV, srcV, Ob.read, V.plain, V.one, V.cells, fillV, setMany, zeros, TK.agg, Sub, cellRes, loadV, bindE, Nat.reduceAdd, Nat.reduceEqDiff, Nat.reduceLT, Nat.reduceLeDiff, Nat.reduceMul, Nat.reduceSub, Nat.reduceDiv, Nat.reduceMod, Nat.reduceBEq, Nat.reduceBNe, reduceIte, reduceCtorEq, Int.reduceToNat, Int.reduceLT, Int.reduceLE, Int.reduceAdd, Int.reduceSub, Int.reduceMul, Int.reduceNeg, Int.reduceEq, Int.reduceNe, D_G, D_P, List.lookup, tys, intsV_len]
  refine Sp.call rfl rfl ((x3 _).mono ?_)
  rintro v st' ⟨rfl, rfl⟩
  simp -implicitDefEqProofs only [s_s, argEnv, PastOK, PendOK, sel, isE, isSp, baseOK, opR, opnd, opnds, opndL, ofConst, look, putE, dstOK, guardL, binR, intOp, loadR, bad, bound, lenV, srcV, Ob.read, V.plain, V.one, V.cells, fillV, setMany, zeros, TK.agg, Sub, cellRes, loadV, bindE, Nat.reduceAdd, Nat.reduceEqDiff, Nat.reduceLT, Nat.reduceLeDiff, Nat.reduceMul, Nat.reduceSub, Nat.reduceDiv, Nat.reduceMod, Nat.reduceBEq, Nat.reduceBNe, reduceIte, reduceCtorEq, Int.reduceToNat, Int.reduceLT, Int.reduceLE, Int.reduceAdd, Int.reduceSub, Int.reduceMul, Int.reduceNeg, Int.reduceEq, Int.reduceNe, D_G, D_P, List.lookup, tys, intsV_len]
  refine Sp.call rfl rfl ((x4 _).mono ?_)
  rintro v st' ⟨rfl, rfl⟩
  simp -implicitDefEqProofs only [s_s, argEnv, PastOK, PendOK, sel, isE, isSp, baseOK, opR, opnd, opnds, opndL, ofConst, look, putE, dstOK, guardL, binR, intOp, loadR, bad, bound, lenV, srcV, Ob.read, V.plain, V.one, V.cells, fillV, setMany, zeros, TK.agg, Sub, cellRes, loadV, bindE, Nat.reduceAdd, Nat.reduceEqDiff, Nat.reduceLT, Nat.reduceLeDiff, Nat.reduceMul, Nat.reduceSub, Nat.reduceDiv, Nat.reduceMod, Nat.reduceBEq, Nat.reduceBNe, reduceIte, reduceCtorEq, Int.reduceToNat, Int.reduceLT, Int.reduceLE, Int.reduceAdd, Int.reduceSub, Int.reduceMul, Int.reduceNeg, Int.reduceEq, Int.reduceNe, D_G, D_P, List.lookup, tys, intsV_len]
  refine Sp.call rfl rfl ((x5 _).mono ?_)
  rintro v st' ⟨rfl, rfl⟩
  simp -implicitDefEqProofs only [s_s, argEnv, PastOK, PendOK, sel, isE, isSp, baseOK, opR, opnd, opnds, opndL, ofConst, look, putE, dstOK, guardL, binR, intOp, loadR, bad, bound, lenV, srcV, Ob.read, V.plain, V.one, V.cells, fillV, setMany, zeros, TK.agg, Sub, cellRes, loadV, bindE, Nat.reduceAdd, Nat.reduceEqDiff, Nat.reduceLT, Nat.reduceLeDiff, Nat.reduceMul, Nat.reduceSub, Nat.reduceDiv, Nat.reduceMod, Nat.reduceBEq, Nat.reduceBNe, reduceIte, reduceCtorEq, Int.reduceToNat, Int.reduceLT, Int.reduceLE, Int.reduceAdd, Int.reduceSub, Int.reduceMul, Int.reduceNeg, Int.reduceEq, Int.reduceNe, D_G, D_P, List.lookup, tys, intsV_len]
  refine Sp.call rfl rfl ((x6 _).mono ?_)
  rintro v st' ⟨rfl, rfl⟩
  simp -implicitDefEqProofs only [s_s, argEnv, PastOK, PendOK, sel, isE, isSp, baseOK, opR, opnd, opnds, opndL, ofConst, look, putE, dstOK, guardL, binR, intOp, loadR, bad, bound, lenV, srcV, Ob.read, V.plain, V.one, V.cells, fillV, setMany, zeros, TK.agg, Sub, cellRes, loadV, bindE, Nat.reduceAdd, Nat.reduceEqDiff, Nat.reduceLT, Nat.reduceLeDiff, Nat.reduceMul, Nat.reduceSub, Nat.reduceDiv, Nat.reduceMod, Nat.reduceBEq, Nat.reduceBNe, reduceIte, reduceCtorEq, Int.reduceToNat, Int.reduceLT, Int.reduceLE, Int.reduceAdd, Int.reduceSub, Int.reduceMul, Int.reduceNeg, Int.reduceEq, Int.reduceNe, D_G, D_P, List.lookup, tys, intsV_len]
  refine Sp.call rfl rfl ((x7 _).mono ?_)
  rintro v st' ⟨rfl, rfl⟩
  simp -implicitDefEqProofs only [s_s, argEnv, PastOK, PendOK, sel, isE, isSp, baseOK, opR, opnd, opnds, opndL, ofConst, look, putE, dstOK, guardL, binR, intOp, loadR, bad, bound, lenV, srcV, Ob.read, V.plain, V.one, V.cells, fillV, setMany, zeros, TK.agg, Sub, cellRes, loadV, bindE, Nat.reduceAdd, Nat.reduceEqDiff, Nat.reduceLT, Nat.reduceLeDiff, Nat.reduceMul, Nat.reduceSub, Nat.reduceDiv, Nat.reduceMod, Nat.reduceBEq, Nat.reduceBNe, reduceIte, reduceCtorEq, Int.reduceToNat, Int.reduceLT, Int.reduceLE, Int.reduceAdd, Int.reduceSub, Int.reduceMul, Int.reduceNeg, Int.reduceEq, Int.reduceNe, D_G, D_P, List.lookup, tys, intsV_len]
  refine Sp.call rfl rfl ((x8 _).mono ?_)
  rintro v st' ⟨rfl, rfl⟩
  simp -implicitDefEqProofs only [s_s, argEnv, PastOK, PendOK, sel, isE, isSp, baseOK, opR, opnd, opnds, opndL, ofConst, look, putE, dstOK, guardL, binR, intOp, loadR, bad, bound, lenV, srcV, Ob.read, V.plain, V.one, V.cells, fillV, setMany, zeros, TK.agg, Sub, cellRes, loadV, bindE, Nat.reduceAdd, Nat.reduceEqDiff, Nat.reduceLT, Nat.reduceLeDiff, Nat.reduceMul, Nat.reduceSub, Nat.reduceDiv, Nat.reduceMod, Nat.reduceBEq, Nat.reduceBNe, reduceIte, reduceCtorEq, Int.reduceToNat, Int.reduceLT, Int.reduceLE, Int.reduceAdd, Int.reduceSub, Int.reduceMul, Int.reduceNeg, Int.reduceEq, Int.reduceNe, D_G, D_P, List.lookup, tys, intsV_len]
  refine Sp.call rfl rfl ((x9 _).mono ?_)
  rintro v st' ⟨rfl, rfl⟩
  simp -implicitDefEqProofs only [s_s, argEnv, PastOK, PendOK, sel, isE, isSp, baseOK, opR, opnd, opnds, opndL, ofConst, look, putE, dstOK, guardL, binR, intOp, loadR, bad, bound, lenV, srcV, Ob.read, V.plain, V.one, V.cells, fillV, setMany, zeros, TK.agg, Sub, cellRes, loadV, bindE, Nat.reduceAdd, Nat.reduceEqDiff, Nat.reduceLT, Nat.reduceLeDiff, Nat.reduceMul, Nat.reduceSub, Nat.reduceDiv, Nat.reduceMod, Nat.reduceBEq, Nat.reduceBNe, reduceIte, reduceCtorEq, Int.reduceToNat, Int.reduceLT, Int.reduceLE, Int.reduceAdd, Int.reduceSub, Int.reduceMul, Int.reduceNeg, Int.reduceEq, Int.reduceNe, D_G, D_P, List.lookup, tys, intsV_len]
  refine WP.drawF [(0, 0, 1, []), (0, 0, 1, [2]), (2, 0, 1, [59]), (7, 1, 2, [58, 60]), (15, 2, 2, [61]), (31, 2, 2, [62]), (63, 2, 3, [63]), (127, 3, 3, [64, 63]), (255, 3, 3, [65, 63]), (511, 3, 3, [63, 66]), (1023, 3, 3, [67]), (2047, 3, 4, [68]), (4095, 4, 4, [69, 68]), (8191, 4, 4, [70, 68]), (16383, 4, 4, [68, 71]), (32767, 4, 4, [72]), (65535, 4, 5, [73]), (131071, 5, 5, [74, 73]), (262143, 5, 5, [75, 73]), (524287, 5, 5, [73, 76]), (1048575, 5, 5, [77]), (2097151, 5, 5, [2, 78]), (4194303, 5, 6, [79, 78]), (8388607, 6, 6, [80, 78]), (16777215, 6, 6, [78, 81]), (33554431, 6, 6, [82]), (67108863, 6, 6, [2, 83]), (134217727, 6, 7, [84, 83]), (268435455, 7, 7, [83, 85])] D_mixed (by decide +kernel) ?_
  simp -implicitDefEqProofs only [s_s, argEnv, PastOK, PendOK, sel, isE, isSp, baseOK, opR, opnd, opnds, opndL, ofConst, look, putE, dstOK, guardL, binR, intOp, loadR, bad, bound, lenV, srcV, Ob.read, V.plain, V.one, V.cells, fillV, setMany, zeros, TK.agg, Sub, cellRes, loadV, bindE, Nat.reduceAdd, Nat.reduceEqDiff, Nat.reduceLT, Nat.reduceLeDiff, Nat.reduceMul, Nat.reduceSub, Nat.reduceDiv, Nat.reduceMod, Nat.reduceBEq, Nat.reduceBNe, reduceIte, reduceCtorEq, Int.reduceToNat, Int.reduceLT, Int.reduceLE, Int.reduceAdd, Int.reduceSub, Int.reduceMul, Int.reduceNeg, Int.reduceEq, Int.reduceNe, D_G, D_P, List.lookup, tys, intsV_len]
  refine SpD.call rfl rfl (x10 _) ?_
  simp -implicitDefEqProofs only [s_s, argEnv, PastOK, PendOK, sel, isE, isSp, baseOK, opR, opnd, opnds, opndL, ofConst, look, putE, dstOK, guardL, binR, intOp, loadR, bad, bound, lenV, srcV, Ob.read, V.plain, V.one, V.cells, fillV, setMany, zeros, TK.agg, Sub, cellRes, loadV, bindE, Nat.reduceAdd, Nat.reduceEqDiff, Nat.reduceLT, Nat.reduceLeDiff, Nat.reduceMul, Nat.reduceSub, Nat.reduceDiv, Nat.reduceMod, Nat.reduceBEq, Nat.reduceBNe, reduceIte, reduceCtorEq, Int.reduceToNat, Int.reduceLT, Int.reduceLE, Int.reduceAdd, Int.reduceSub, Int.reduceMul, Int.reduceNeg, Int.reduceEq, Int.reduceNe, D_G, D_P, List.lookup, tys, intsV_len, gotV]
  refine SpD.call rfl rfl (x14 _) ?_
  simp -implicitDefEqProofs only [s_s, argEnv, PastOK, PendOK, sel, isE, isSp, baseOK, opR, opnd, opnds, opndL, ofConst, look, putE, dstOK, guardL, binR, intOp, loadR, bad, bound, lenV, srcV, Ob.read, V.plain, V.one, V.cells, fillV, setMany, zeros, TK.agg, Sub, cellRes, loadV, bindE, Nat.reduceAdd, Nat.reduceEqDiff, Nat.reduceLT, Nat.reduceLeDiff, Nat.reduceMul, Nat.reduceSub, Nat.reduceDiv, Nat.reduceMod, Nat.reduceBEq, Nat.reduceBNe, reduceIte, reduceCtorEq, Int.reduceToNat, Int.reduceLT, Int.reduceLE, Int.reduceAdd, Int.reduceSub, Int.reduceMul, Int.reduceNeg, Int.reduceEq, Int.reduceNe, D_G, D_P, List.lookup, tys, intsV_len, gotV]
  refine SpD.call rfl rfl (x11 _) ?_
  simp -implicitDefEqProofs only [s_s, argEnv, PastOK, PendOK, sel, isE, isSp, baseOK, opR, opnd, opnds, opndL, ofConst, look, putE, dstOK, guardL, binR, intOp, loadR, bad, bound, lenV, srcV, Ob.read, V.plain, V.one, V.cells, fillV, setMany, zeros, TK.agg, Sub, cellRes, loadV, bindE, Nat.reduceAdd, Nat.reduceEqDiff, Nat.reduceLT, Nat.reduceLeDiff, Nat.reduceMul, Nat.reduceSub, Nat.reduceDiv, Nat.reduceMod, Nat.reduceBEq, Nat.reduceBNe, reduceIte, reduceCtorEq, Int.reduceToNat, Int.reduceLT, Int.reduceLE, Int.reduceAdd, Int.reduceSub, Int.reduceMul, Int.reduceNeg, Int.reduceEq, Int.reduceNe, D_G, D_P, List.lookup, tys, intsV_len, gotV]
  refine SpD.call rfl rfl (x12 _) ?_
  simp -implicitDefEqProofs only [s_s, argEnv, PastOK, PendOK, sel, isE, isSp, baseOK, opR, opnd, opnds, opndL, ofConst, look, putE, dstOK, guardL, binR, intOp, loadR, bad, bound, lenV, srcV, Ob.read, V.plain, V.one, V.cells, fillV, setMany, zeros, TK.agg, Sub, cellRes, loadV, bindE, Nat.reduceAdd, Nat.reduceEqDiff, Nat.reduceLT, Nat.reduceLeDiff, Nat.reduceMul, Nat.reduceSub, Nat.reduceDiv, Nat.reduceMod, Nat.reduceBEq, Nat.reduceBNe, reduceIte, reduceCtorEq, Int.reduceToNat, Int.reduceLT, Int.reduceLE, Int.reduceAdd, Int.reduceSub, Int.reduceMul, Int.reduceNeg, Int.reduceEq, Int.reduceNe, D_G, D_P, List.lookup, tys, intsV_len, gotV]
  refine SpD.call rfl rfl (x13 _) ?_
  simp -implicitDefEqProofs only [s_s, argEnv, PastOK, PendOK, sel, isE, isSp, baseOK, opR, opnd, opnds, opndL, ofConst, look, putE, dstOK, guardL, binR, intOp, loadR, bad, bound, lenV, srcV, Ob.read, V.plain, V.one, V.cells, fillV, setMany, zeros, TK.agg, Sub, cellRes, loadV, bindE, Nat.reduceAdd, Nat.reduceEqDiff, Nat.reduceLT, Nat.reduceLeDiff, Nat.reduceMul, Nat.reduceSub, Nat.reduceDiv, Nat.reduceMod, Nat.reduceBEq, Nat.reduceBNe, reduceIte, reduceCtorEq, Int.reduceToNat, Int.reduceLT, Int.reduceLE, Int.reduceAdd, Int.reduceSub, Int.reduceMul, Int.reduceNeg, Int.reduceEq, Int.reduceNe, D_G, D_P, List.lookup, tys, intsV_len, gotV]
  refine SpD.call rfl rfl (x15 _) ?_
  simp -implicitDefEqProofs only [s_s, argEnv, PastOK, PendOK, sel, isE, isSp, baseOK, opR, opnd, opnds, opndL, ofConst, look, putE, dstOK, guardL, binR, intOp, loadR, bad, bound, lenV, srcV, Ob.read, V.plain, V.one, V.cells, fillV, setMany, zeros, TK.agg, Sub, cellRes, loadV, bindE, Nat.reduceAdd, Nat.reduceEqDiff, Nat.reduceLT, Nat.reduceLeDiff, Nat.reduceMul, Nat.reduceSub, Nat.reduceDiv, Nat.reduceMod, Nat.reduceBEq, Nat.reduceBNe, reduceIte, reduceCtorEq, Int.reduceToNat, Int.reduceLT, Int.reduceLE, Int.reduceAdd, Int.reduceSub, Int.reduceMul, Int.reduceNeg, Int.reduceEq, Int.reduceNe, D_G, D_P, List.lookup, tys, intsV_len, gotV]
  refine SpD.call rfl rfl (x16 _) ?_
  simp -implicitDefEqProofs only [s_s, argEnv, PastOK, PendOK, sel, isE, isSp, baseOK, opR, opnd, opnds, opndL, ofConst, look, putE, dstOK, guardL, binR, intOp, loadR, bad, bound, lenV, srcV, Ob.read, V.plain, V.one, V.cells, fillV, setMany, zeros, TK.agg, Sub, cellRes, loadV, bindE, Nat.reduceAdd, Nat.reduceEqDiff, Nat.reduceLT, Nat.reduceLeDiff, Nat.reduceMul, Nat.reduceSub, Nat.reduceDiv, Nat.reduceMod, Nat.reduceBEq, Nat.reduceBNe, reduceIte, reduceCtorEq, Int.reduceToNat, Int.reduceLT, Int.reduceLE, Int.reduceAdd, Int.reduceSub, Int.reduceMul, Int.reduceNeg, Int.reduceEq, Int.reduceNe, D_G, D_P, List.lookup, tys, intsV_len, gotV]
  refine Sp.call rfl rfl (x17' st' hB ?_)
  simp -implicitDefEqProofs only [s_s, argEnv, PastOK, PendOK, sel, isE, isSp, baseOK, opR, opnd, opnds, opndL, ofConst, look, putE, dstOK, guardL, binR, intOp, loadR, bad, bound, lenV, srcV, Ob.read, V.plain, V.one, V.cells, fillV, setMany, zeros, TK.agg, Sub, cellRes, loadV, bindE, Nat.reduceAdd, Nat.reduceEqDiff, Nat.reduceLT, Nat.reduceLeDiff, Nat.reduceMul, Nat.reduceSub, Nat.reduceDiv, Nat.reduceMod, Nat.reduceBEq, Nat.reduceBNe, reduceIte, reduceCtorEq, Int.reduceToNat, Int.reduceLT, Int.reduceLE, Int.reduceAdd, Int.reduceSub, Int.reduceMul, Int.reduceNeg, Int.reduceEq, Int.reduceNe, D_G, D_P, List.lookup, tys, intsV_len, gotV]
  refine Sp.call rfl rfl ((x19 _).mono ?_)
  rintro v s2 ⟨rfl, rfl⟩
  simp -implicitDefEqProofs only [s_s, argEnv, PastOK, PendOK, sel, isE, isSp, baseOK, opR, opnd, opnds, opndL, ofConst, look, putE, dstOK, guardL, binR, intOp, loadR, bad, bound, lenV, srcV, Ob.read, V.plain, V.one, V.cells, fillV, setMany, zeros, TK.agg, Sub, cellRes, loadV, bindE, Nat.reduceAdd, Nat.reduceEqDiff, Nat.reduceLT, Nat.reduceLeDiff, Nat.reduceMul, Nat.reduceSub, Nat.reduceDiv, Nat.reduceMod, Nat.reduceBEq, Nat.reduceBNe, reduceIte, reduceCtorEq, Int.reduceToNat, Int.reduceLT, Int.reduceLE, Int.reduceAdd, Int.reduceSub, Int.reduceMul, Int.reduceNeg, Int.reduceEq, Int.reduceNe, D_G, D_P, List.lookup, tys, intsV_len, len9, Int.cast_ofNat_Int]
  refine Sp.call rfl rfl ((x18' _).mono ?_)
  rintro v s2 ⟨rfl, rfl⟩
  simp -implicitDefEqProofs only [s_s, argEnv, PastOK, PendOK, sel, isE, isSp, baseOK, opR, opnd, opnds, opndL, ofConst, look, putE, dstOK, guardL, binR, intOp, loadR, bad, bound, lenV, srcV, Ob.read, V.plain, V.one, V.cells, fillV, setMany, zeros, TK.agg, Sub, cellRes, loadV, bindE, Nat.reduceAdd, Nat.reduceEqDiff, Nat.reduceLT, Nat.reduceLeDiff, Nat.reduceMul, Nat.reduceSub, Nat.reduceDiv, Nat.reduceMod, Nat.reduceBEq, Nat.reduceBNe, reduceIte, reduceCtorEq, Int.reduceToNat, Int.reduceLT, Int.reduceLE, Int.reduceAdd, Int.reduceSub, Int.reduceMul, Int.reduceNeg, Int.reduceEq, Int.reduceNe, D_G, D_P, List.lookup, tys, intsV_len, gotV]
  refine Sp.call rfl rfl ((x20 _).mono ?_)
  rintro v s2 ⟨rfl, rfl⟩
  simp -implicitDefEqProofs only [s_s, argEnv, PastOK, PendOK, sel, isE, isSp, baseOK, opR, opnd, opnds, opndL, ofConst, look, putE, dstOK, guardL, binR, intOp, loadR, bad, bound, lenV, srcV, Ob.read, V.plain, V.one, V.cells, fillV, setMany, zeros, TK.agg, Sub, cellRes, loadV, bindE, Nat.reduceAdd, Nat.reduceEqDiff, Nat.reduceLT, Nat.reduceLeDiff, Nat.reduceMul, Nat.reduceSub, Nat.reduceDiv, Nat.reduceMod, Nat.reduceBEq, Nat.reduceBNe, reduceIte, reduceCtorEq, Int.reduceToNat, Int.reduceLT, Int.reduceLE, Int.reduceAdd, Int.reduceSub, Int.reduceMul, Int.reduceNeg, Int.reduceEq, Int.reduceNe, D_G, D_P, List.lookup, tys, intsV_len, gotV]
  have h21 := x21' (st' ++ [.dead, .dead, .dead, .dead, .dead, .dead, .dead, .dead, .dead, .cells 0 [.int .i64 3, .lst 1 ((fsR 3 exL).map rowV), .int .i64 0]]) (hB.app (by
    intro ob ho
    simp only [List.mem_cons, List.not_mem_nil, or_false] at ho
    rcases ho with rfl | rfl | rfl | rfl | rfl | rfl | rfl | rfl | rfl | rfl <;> first | trivial | (simp only [Ob.bdd, bddL, V.bdd, bdd_rows, Bool.true_and, Bool.and_self])))
  simp only [List.append_assoc, List.cons_append, List.nil_append, List.length_append, List.length_cons, List.length_nil] at h21
  refine Sp.call rfl rfl (h21.mono ?_)
  rintro v s2 ⟨rfl, rfl⟩
  simp -implicitDefEqProofs only [s_s, argEnv, PastOK, PendOK, sel, isE, isSp, baseOK, opR, opnd, opnds, opndL, ofConst, look, putE, dstOK, guardL, binR, intOp, loadR, bad, bound, lenV, srcV, Ob.read, V.plain, V.one, V.cells, fillV, setMany, zeros, TK.agg, Sub, cellRes, loadV, bindE, Nat.reduceAdd, Nat.reduceEqDiff, Nat.reduceLT, Nat.reduceLeDiff, Nat.reduceMul, Nat.reduceSub, Nat.reduceDiv, Nat.reduceMod, Nat.reduceBEq, Nat.reduceBNe, reduceIte, reduceCtorEq, Int.reduceToNat, Int.reduceLT, Int.reduceLE, Int.reduceAdd, Int.reduceSub, Int.reduceMul, Int.reduceNeg, Int.reduceEq, Int.reduceNe, D_G, D_P, List.lookup, tys, intsV_len, gotV]
  refine Sp.call rfl rfl ((x22 _).mono ?_)
  rintro v s2 ⟨rfl, rfl⟩
  simp -implicitDefEqProofs only [s_s, argEnv, PastOK, PendOK, sel, isE, isSp, baseOK, opR, opnd, opnds, opndL, ofConst, look, putE, dstOK, guardL, binR, intOp, loadR, bad, bound, lenV, srcV, Ob.read, V.plain, V.one, V.cells, fillV, setMany, zeros, TK.agg, Sub, cellRes, loadV, bindE, Nat.reduceAdd, Nat.reduceEqDiff, Nat.reduceLT, Nat.reduceLeDiff, Nat.reduceMul, Nat.reduceSub, Nat.reduceDiv, Nat.reduceMod, Nat.reduceBEq, Nat.reduceBNe, reduceIte, reduceCtorEq, Int.reduceToNat, Int.reduceLT, Int.reduceLE, Int.reduceAdd, Int.reduceSub, Int.reduceMul, Int.reduceNeg, Int.reduceEq, Int.reduceNe, D_G, D_P, List.lookup, tys, intsV_len]
  refine Sp.call rfl rfl ((x23 _).mono ?_)
  rintro v s2 ⟨rfl, rfl⟩
  simp -implicitDefEqProofs only [s_s, argEnv, PastOK, PendOK, sel, isE, isSp, baseOK, opR, opnd, opnds, opndL, ofConst, look, putE, dstOK, guardL, binR, intOp, loadR, bad, bound, lenV, srcV, Ob.read, V.plain, V.one, V.cells, fillV, setMany, zeros, TK.agg, Sub, cellRes, loadV, bindE, Nat.reduceAdd, Nat.reduceEqDiff, Nat.reduceLT, Nat.reduceLeDiff, Nat.reduceMul, Nat.reduceSub, Nat.reduceDiv, Nat.reduceMod, Nat.reduceBEq, Nat.reduceBNe, reduceIte, reduceCtorEq, Int.reduceToNat, Int.reduceLT, Int.reduceLE, Int.reduceAdd, Int.reduceSub, Int.reduceMul, Int.reduceNeg, Int.reduceEq, Int.reduceNe, D_G, D_P, List.lookup, tys, intsV_len]
  refine Sp.call rfl rfl ((x24 _).mono ?_)
  rintro v s2 ⟨rfl, rfl⟩
  simp -implicitDefEqProofs only [s_s, argEnv, PastOK, PendOK, sel, isE, isSp, baseOK, opR, opnd, opnds, opndL, ofConst, look, putE, dstOK, guardL, binR, intOp, loadR, bad, bound, lenV, srcV, Ob.read, V.plain, V.one, V.cells, fillV, setMany, zeros, TK.agg, Sub, cellRes, loadV, bindE, Nat.reduceAdd, Nat.reduceEqDiff, Nat.reduceLT, Nat.reduceLeDiff, Nat.reduceMul, Nat.reduceSub, Nat.reduceDiv, Nat.reduceMod, Nat.reduceBEq, Nat.reduceBNe, reduceIte, reduceCtorEq, Int.reduceToNat, Int.reduceLT, Int.reduceLE, Int.reduceAdd, Int.reduceSub, Int.reduceMul, Int.reduceNeg, Int.reduceEq, Int.reduceNe, D_G, D_P, List.lookup, tys, intsV_len]
  refine Sp.call rfl rfl ((x25 _).mono ?_)
  rintro v s2 ⟨rfl, rfl⟩
  simp -implicitDefEqProofs only [s_s, argEnv, PastOK, PendOK, sel, isE, isSp, baseOK, opR, opnd, opnds, opndL, ofConst, look, putE, dstOK, guardL, binR, intOp, loadR, bad, bound, lenV, srcV, Ob.read, V.plain, V.one, V.cells, fillV, setMany, zeros, TK.agg, Sub, cellRes, loadV, bindE, Nat.reduceAdd, Nat.reduceEqDiff, Nat.reduceLT, Nat.reduceLeDiff, Nat.reduceMul, Nat.reduceSub, Nat.reduceDiv, Nat.reduceMod, Nat.reduceBEq, Nat.reduceBNe, reduceIte, reduceCtorEq, Int.reduceToNat, Int.reduceLT, Int.reduceLE, Int.reduceAdd, Int.reduceSub, Int.reduceMul, Int.reduceNeg, Int.reduceEq, Int.reduceNe, D_G, D_P, List.lookup, tys, intsV_len]
  exact Post.r1 rfl ⟨_, _, rfl, .keep rfl, rfl⟩
end Go.VL
end

/- The value-level program logic, part 27: a walk that stops behind the n-th piece. -/
section
set_option linter.unusedSimpArgs false
namespace Go.VL
open Go

variable {cx : Cx} {N : Nat} {r : RR} {Q : Exit → Env → St → Prop} {env : Env} {st : St}

/-- The first n pieces as a computing form, the rest as it is. -/
def wpN (cx : Cx) (N : Nat) (r : RR) : Nat → Code → (Exit → Env → St → Prop) → Env → St → Prop
  | n + 1, .seq x y, Q, env, st => wpF cx N r x (Then (fun _ env st => wpN cx N r n y Q env st) Q) env st
  | _, c, Q, env, st => WP cx N r c Q env st

theorem wpN_sound : ∀ {n : Nat} {c : Code} {Q : Exit → Env → St → Prop} {env : Env} {st : St}, wpN cx N r n c Q env st → WP cx N r c Q env st := by
  intro n
  induction n with
  | zero => intro c Q env st h; simpa only [wpN] using h
  | succ n ih =>
    intro c Q env st h
    cases c with
    | seq x y =>
      refine WP.seq (WP.mono (wpF_sound h) ?_)
      intro e env st h
      cases e with
      | normal => exact ih h
      | exit id => exact h
      | goto id => exact h
      | ret => exact h
      | panic ch => exact h
      | outgrown => exact h
    | _ => exact h

/-- Behind a piece, with pieces to come. -/
def Kn (cx : Cx) (N : Nat) (r : RR) (n : Nat) (y : Code) (Q : Exit → Env → St → Prop) : Exit → Env → St → Prop := Then (fun _ env st => wpN cx N r n y Q env st) Q

theorem wpN_seq {n : Nat} {x y : Code} : wpN cx N r (n + 1) (.seq x y) Q env st = wpF cx N r x (Kn cx N r n y Q) env st := rfl
theorem wpN_zero {c : Code} : wpN cx N r 0 c Q env st = WP cx N r c Q env st := by rw [wpN]; intro n x y h; cases h
theorem Kn_normal {n : Nat} {y : Code} : Kn cx N r n y Q .normal env st = wpN cx N r n y Q env st := rfl
theorem Kn_exit {n : Nat} {y : Code} {i : Nat} : Kn cx N r n y Q (.exit i) env st = Q (.exit i) env st := rfl
theorem Kn_goto {n : Nat} {y : Code} {i : Nat} : Kn cx N r n y Q (.goto i) env st = Q (.goto i) env st := rfl
theorem Kn_ret {n : Nat} {y : Code} : Kn cx N r n y Q .ret env st = Q .ret env st := rfl
end Go.VL
end

/- Orthogonal arrays, in plain Lean: what the index and the missing combinations mean. -/
section
set_option linter.unusedSimpArgs false
set_option linter.unusedVariables false
namespace Go.VL
open Go Go.Proofs

theorem sum_map_zero {α : Type} (L : List α) (f : α → Nat) (h : ∀ a ∈ L, f a = 0) : (L.map f).sum = 0 := by
  induction L with
  | nil => rfl
  | cons a L ih => simp [h a (by simp), ih fun b hb => h b (by simp [hb])]

theorem sum_map_add {α : Type} (L : List α) (f g : α → Nat) : (L.map fun a => f a + g a).sum = (L.map f).sum + (L.map g).sum := by
  induction L with
  | nil => rfl
  | cons a L ih => simp [ih]; omega

theorem sum_ind {β : Type} [DecidableEq β] (x : β) (L : List β) (hn : L.Nodup) (hx : x ∈ L) : (L.map fun p => if x = p then 1 else 0).sum = 1 := by
  induction L with
  | nil => simp at hx
  | cons a L ih =>
    rw [List.nodup_cons] at hn
    by_cases h : x = a
    · subst h
      have : (L.map fun p => if x = p then 1 else 0).sum = 0 := sum_map_zero L _ fun b hb => by
        have : x ≠ b := by rintro rfl; exact hn.1 hb
        simp [this]
      simp [this]
    · have hx' : x ∈ L := by simpa [h] using hx
      simp [h, ih hn.2 hx']

theorem sum_count {α β : Type} [DecidableEq β] (f : α → β) (R : List α) (L : List β) (hn : L.Nodup) (h : ∀ r ∈ R, f r ∈ L) : (L.map fun p => R.countP fun r => decide (f r = p)).sum = R.length := by
  induction R with
  | nil => exact sum_map_zero L _ fun _ _ => rfl
  | cons r R ih =>
    have h1 := ih fun x hx => h x (by simp [hx])
    have h2 := sum_ind (f r) L hn (h r (by simp))
    have : (fun p => (r :: R).countP fun r => decide (f r = p)) = fun p => R.countP (fun r => decide (f r = p)) + if f r = p then 1 else 0 := by
      funext p; simp [List.countP_cons]
    rw [this, sum_map_add, h1, h2]; simp

theorem all_max : ∀ (L : List Nat) (M : Nat), (∀ x ∈ L, x ≤ M) → L.sum = L.length * M → ∀ x ∈ L, x = M
  | [], _, _, _, _, hx => by simp at hx
  | a :: L, M, h, hs, x, hx => by
    have h1 : ∀ (l : List Nat), (∀ x ∈ l, x ≤ M) → l.sum ≤ l.length * M := by
      intro l; induction l with
      | nil => simp
      | cons b l ih => intro hb; have := ih fun x hx => hb x (by simp [hx]); have := hb b (by simp); simp [Nat.add_mul]; omega
    have ha := h a (by simp)
    have hL := h1 L fun x hx => h x (by simp [hx])
    simp [Nat.add_mul] at hs
    rcases List.mem_cons.1 hx with rfl | hx
    · omega
    · exact all_max L M (fun x hx => h x (by simp [hx])) (by omega) x hx

theorem nodup_sub {α : Type} [DecidableEq α] : ∀ {l m : List α}, l.Nodup → (∀ x ∈ l, x ∈ m) → l.length ≤ m.length
  | [], _, _, _ => by simp
  | a :: l, m, hn, h => by
    rw [List.nodup_cons] at hn
    have ha := h a (by simp)
    have := nodup_sub (l := l) (m := m.erase a) hn.2 fun x hx => (List.mem_erase_of_ne (by rintro rfl; exact hn.1 hx)).2 (h x (by simp [hx]))
    rw [List.length_erase_of_mem ha] at this
    have := List.length_pos_of_mem ha
    simp; omega

theorem nodup_full {α : Type} [DecidableEq α] {l m : List α} (hn : l.Nodup) (h : ∀ x ∈ l, x ∈ m) (hl : m.length ≤ l.length) : ∀ x ∈ m, x ∈ l := by
  intro x hx
  refine Decidable.byContradiction fun hc => ?_
  have := nodup_sub (l := l) (m := m.erase x) hn fun y hy => (List.mem_erase_of_ne (by rintro rfl; exact hc hy)).2 (h y hy)
  rw [List.length_erase_of_mem hx] at this
  have := List.length_pos_of_mem hx
  omega

/-- All combinations for the columns of a set, zero outside. -/
def WL (S s : Nat) : Nat → List (List Int)
  | 0 => [[]]
  | i + 1 => (WL S s i).flatMap fun p => if s.testBit i then (List.range S).map (fun (v : Nat) => p ++ [(v : Int)]) else [p ++ [0]]

def goodW (S s : Nat) (p : List Int) : Prop := ∀ (j : Nat) (x : Int), p[j]? = some x → if s.testBit j then 0 ≤ x ∧ x < S else x = 0

theorem goodW_snoc {S s : Nat} {p : List Int} {x : Int} : goodW S s (p ++ [x]) ↔ goodW S s p ∧ if s.testBit p.length then 0 ≤ x ∧ x < S else x = 0 := by
  constructor
  · intro h
    refine ⟨fun j y hy => h j y ?_, h p.length x (by simp)⟩
    rw [List.getElem?_append_left (List.getElem?_eq_some_iff.1 hy).1, hy]
  · rintro ⟨h1, h2⟩ j y hy
    rcases Nat.lt_or_ge j p.length with hj | hj
    · rw [List.getElem?_append_left hj] at hy; exact h1 j y hy
    · rw [List.getElem?_append_right hj] at hy
      have : j = p.length := by
        have := (List.getElem?_eq_some_iff.1 hy).1; simp at this; omega
      subst this
      simp at hy; subst hy; exact h2

theorem mem_WL {S s : Nat} : ∀ {i : Nat} {p : List Int}, p ∈ WL S s i ↔ p.length = i ∧ goodW S s p
  | 0, p => by
    simp only [WL, List.mem_singleton]
    constructor
    · rintro rfl; exact ⟨rfl, fun j x h => by simp at h⟩
    · rintro ⟨h, -⟩; exact List.length_eq_zero_iff.1 h
  | i + 1, p => by
    simp only [WL, List.mem_flatMap]
    constructor
    · rintro ⟨q, hq, hp⟩
      obtain ⟨h1, h2⟩ := mem_WL.1 hq
      split at hp
      · obtain ⟨v, hv, rfl⟩ := List.mem_map.1 hp
        refine ⟨by simp [h1], goodW_snoc.2 ⟨h2, ?_⟩⟩
        rw [h1, if_pos (by assumption)]
        have := List.mem_range.1 hv
        omega
      · rw [List.mem_singleton] at hp; subst hp
        refine ⟨by simp [h1], goodW_snoc.2 ⟨h2, ?_⟩⟩
        rw [h1, if_neg (by assumption)]
    · rintro ⟨h1, h2⟩
      obtain ⟨q, x, rfl⟩ : ∃ q x, p = q ++ [x] := ⟨p.dropLast, p.getLast (by intro h; simp [h] at h1), (List.dropLast_concat_getLast _).symm⟩
      obtain ⟨h3, h4⟩ := goodW_snoc.1 h2
      simp at h1
      refine ⟨q, mem_WL.2 ⟨h1, h3⟩, ?_⟩
      rw [h1] at h4
      split at h4
      · rw [if_pos (by assumption), List.mem_map]
        exact ⟨x.toNat, List.mem_range.2 (by omega), by congr; omega⟩
      · rw [if_neg (by assumption), h4]; simp

theorem WL_nodup (S s : Nat) : ∀ i, (WL S s i).Nodup
  | 0 => by simp [WL]
  | i + 1 => by
    rw [WL, List.Nodup, List.pairwise_flatMap]
    refine ⟨fun p _ => ?_, ?_⟩
    · split
      · rw [List.pairwise_map]
        refine List.Pairwise.imp (fun h => ?_) List.nodup_range
        intro he
        have := List.append_inj he rfl
        simp at this
        exact h (by omega)
      · simp
    · refine List.Pairwise.imp (fun {p q} h => ?_) (WL_nodup S s i)
      intro x hx y hy he
      subst he
      refine h ?_
      have e : ∀ {p x : List Int}, (x ∈ if s.testBit i then (List.range S).map (fun (v : Nat) => p ++ [(v : Int)]) else [p ++ [0]]) → p = x.dropLast := by
        intro p x hx
        split at hx
        · obtain ⟨v, _, rfl⟩ := List.mem_map.1 hx; simp
        · simp at hx; subst hx; simp
      rw [e hx, e hy]

def popi (s i : Nat) : Nat := ((List.range i).filter fun j => s.testBit j).length

theorem len_WL (S s : Nat) : ∀ i, (WL S s i).length = S ^ popi s i
  | 0 => rfl
  | i + 1 => by
    have h1 : popi s (i + 1) = popi s i + if s.testBit i then 1 else 0 := by
      simp only [popi, List.range_succ, List.filter_append, List.length_append]
      congr 1
      by_cases h : s.testBit i = true <;> simp [h]
    have h2 : ∀ l : List (List Int), (l.flatMap fun p => if s.testBit i then (List.range S).map (fun (v : Nat) => p ++ [(v : Int)]) else [p ++ [0]]).length = l.length * S ^ (if s.testBit i then 1 else 0) := by
      intro l
      induction l with
      | nil => simp
      | cons a l ih =>
        rw [List.flatMap_cons, List.length_append, ih, List.length_cons, Nat.add_mul]
        by_cases h : s.testBit i = true <;> simp [h] <;> omega
    rw [WL, h2, len_WL S s i, h1, Nat.pow_add]

def cntR (R : List (List Int)) (s : Nat) (p : List Int) : Nat := R.countP fun r => decide (levs r s 8 = p)

/-- Each combination of t columns occurs equally often. -/
def OA (S : Nat) (R : List (List Int)) (k t : Nat) : Prop := ∀ s ∈ setsL k t, ∀ p ∈ WL S s 8, cntR R s p * S ^ t = R.length

def key (s : Nat) (p : List Int) : Key := .cells ((.u64, (s : Int)) :: p.map fun x => (.i8, x))

theorem key_comb (r : List Int) (s : Nat) : comb r s = key s (levs r s 8) := rfl

theorem key_inj {s s' : Nat} {p p' : List Int} : key s p = key s' p' ↔ s = s' ∧ p = p' := by
  constructor
  · intro h
    simp only [key, Key.cells.injEq, List.cons.injEq, Prod.mk.injEq, true_and] at h
    refine ⟨by omega, ?_⟩
    have := congrArg (List.map Prod.snd) h.2
    simpa [Function.comp_def] using this
  · rintro ⟨rfl, rfl⟩; rfl

theorem times_app (l m : List Key) (q : Key) : times (l ++ m) q = times l q + times m q := by simp [times]

theorem times_one (R : List (List Int)) (a s : Nat) (p : List Int) : times (R.map fun r => comb r a) (key s p) = if a = s then cntR R s p else 0 := by
  simp only [times, List.countP_map, cntR, key_comb, Function.comp_def, key_inj]
  split
  · rename_i h; subst h; simp
  · rename_i h; simp [h]

theorem times_combs (R : List (List Int)) (s : Nat) (p : List Int) (l : List Nat) (hn : l.Nodup) : times (combs R l) (key s p) = if s ∈ l then cntR R s p else 0 := by
  induction l with
  | nil => simp [combs, times]
  | cons a l ih =>
    rw [List.nodup_cons] at hn
    have e : combs R (a :: l) = (R.map fun r => comb r a) ++ combs R l := by simp [combs]
    rw [e, times_app, times_one, ih hn.2]
    by_cases h : a = s
    · subst h; simp [hn.1]
    · have : s ≠ a := fun h' => h h'.symm
      simp [h, this]

theorem setsL_nodup (k t : Nat) : (setsL k t).Nodup := List.Pairwise.filter _ List.nodup_range

theorem levs_get (r : List Int) (s j : Nat) : (levs r s 8)[j]? = if j < 8 then some (lev r s j) else none := by
  by_cases h : j < 8
  · simp [levs, h]
  · simp [levs, h]

theorem levs_WL {S : Nat} {r : List Int} {s : Nat} (hS : 0 < S) (h : ∀ x ∈ r, 0 ≤ x ∧ x < (S : Int)) : levs r s 8 ∈ WL S s 8 := by
  refine mem_WL.2 ⟨by simp [levs], ?_⟩
  intro j x hx
  rw [levs_get] at hx
  split at hx
  · simp only [Option.some.injEq] at hx; subst hx
    simp only [lev]
    split
    · cases h' : r[j]? with
      | none => simp; omega
      | some y => simpa using h y (List.mem_of_getElem? h')
    · rfl
  · simp at hx

theorem cnt_sum {S : Nat} {R : List (List Int)} {k : Nat} (h : ArrOK S R k) (s : Nat) : ((WL S s 8).map fun p => cntR R s p).sum = R.length :=
  sum_count (fun r => levs r s 8) R _ (WL_nodup S s 8) fun r hr => levs_WL (by have := h.s2; omega) (h.row r hr).2

theorem setsL_pop {k t s : Nat} (h : s ∈ setsL k t) : s < 2 ^ k ∧ pop s = t := by
  simpa [setsL] using h

theorem sum_mul {α : Type} (L : List α) (f : α → Nat) (c : Nat) : (L.map fun a => f a * c).sum = (L.map f).sum * c := by
  induction L with
  | nil => simp
  | cons a L ih => simp [ih, Nat.add_mul]

/-- What an index that is not zero says. -/
theorem index_OA {S : Nat} {R : List (List Int)} {k t : Nat} (h : ArrOK S R k) (hi : indexN S R k t ≠ 0) : OA S R k t ∧ indexN S R k t * S ^ t = R.length := by
  unfold indexN at hi ⊢
  split at hi
  · rename_i hc
    rw [if_pos hc]
    refine ⟨?_, by have := Nat.div_add_mod R.length (S ^ t); rw [hc.1, Nat.mul_comm] at this; simpa using this⟩
    intro s hs p hp
    have hpop := (setsL_pop hs).2
    have hle : ∀ p, cntR R s p * S ^ t ≤ R.length := by
      intro p
      rcases Nat.eq_zero_or_pos (cntR R s p) with h0 | h0
      · rw [h0]; simp
      · obtain ⟨r, hr, hrp⟩ := List.countP_pos_iff.1 h0
        have hrp : levs r s 8 = p := by simpa using hrp
        have h1 := hc.2 (key s p) (by
          rw [combs, List.mem_flatMap]
          exact ⟨s, hs, List.mem_map.2 ⟨r, hr, by rw [key_comb, hrp]⟩⟩)
        rw [times_combs _ _ _ _ (setsL_nodup k t), if_pos hs] at h1
        omega
    have hsum := cnt_sum h s
    have := all_max ((WL S s 8).map fun p => cntR R s p * S ^ t) R.length (by
      intro x hx
      obtain ⟨q, _, rfl⟩ := List.mem_map.1 hx
      exact hle q) (by
        rw [sum_mul, hsum, List.length_map, len_WL]
        have : popi s 8 = t := hpop
        rw [this, Nat.mul_comm])
    exact this _ (List.mem_map.2 ⟨p, hp, rfl⟩)
  · exact absurd rfl hi

theorem OA_index {S : Nat} {R : List (List Int)} {k t : Nat} (h : ArrOK S R k) (hd : S ^ t ∣ R.length) (ho : OA S R k t) : indexN S R k t * S ^ t = R.length ∧ indexN S R k t ≠ 0 := by
  have hp : 0 < S ^ t := Nat.pow_pos (by have := h.s2; omega)
  have hc : R.length % S ^ t = 0 ∧ ∀ q ∈ combs R (setsL k t), times (combs R (setsL k t)) q * S ^ t = R.length := by
    refine ⟨Nat.mod_eq_zero_of_dvd hd, ?_⟩
    intro q hq
    obtain ⟨s, hs, r, hr, rfl⟩ := combs_mem hq
    rw [key_comb, times_combs _ _ _ _ (setsL_nodup k t), if_pos hs]
    exact ho s hs _ (levs_WL (by have := h.s2; omega) (h.row r hr).2)
  have h1 : indexN S R k t * S ^ t = R.length := by rw [indexN, if_pos hc]; exact Nat.div_mul_cancel hd
  refine ⟨h1, fun h0 => ?_⟩
  rw [h0] at h1
  have := h.r1
  simp at h1; omega

theorem OA_dvd {S : Nat} {R : List (List Int)} {k t s : Nat} (h : ArrOK S R k) (hs : s ∈ setsL k t) (ho : OA S R k t) : S ^ t ∣ R.length := by
  obtain ⟨r, hr⟩ : ∃ r, r ∈ R := ⟨R[0]'h.r1, List.getElem_mem _⟩
  exact ⟨_, by rw [Nat.mul_comm]; exact (ho s hs _ (levs_WL (by have := h.s2; omega) (h.row r hr).2)).symm⟩
end Go.VL
end

/- Orthogonal arrays: lesser strengths, missing combinations, columns that are chosen. -/
section
set_option linter.unusedSimpArgs false
set_option linter.unusedVariables false
namespace Go.VL
open Go Go.Proofs

theorem testBit_or_pow (s j i : Nat) : (s ||| 2 ^ j).testBit i = (s.testBit i || decide (i = j)) := by
  rw [Nat.testBit_or, Nat.testBit_two_pow]
  congr 1
  by_cases h : i = j
  · subst h; simp
  · have : ¬ j = i := fun h' => h h'.symm
    simp [h, this]

theorem pop_add {s j : Nat} (hj : j < 8) (hs : s.testBit j = false) : pop (s ||| 2 ^ j) = pop s + 1 := by
  have key : ∀ n, j < n → ((List.range n).filter fun i => (s ||| 2 ^ j).testBit i).length = ((List.range n).filter fun i => s.testBit i).length + 1 := by
    intro n
    induction n with
    | zero => intro h; omega
    | succ n ih =>
      intro h
      simp only [List.range_succ, List.filter_append, List.length_append]
      by_cases hn : j < n
      · rw [ih hn]
        have : (s ||| 2 ^ j).testBit n = s.testBit n := by rw [testBit_or_pow]; simp; omega
        simp only [List.filter_cons, List.filter_nil, this]; omega
      · have hjn : j = n := by omega
        subst hjn
        have e : (List.range j).filter (fun i => (s ||| 2 ^ j).testBit i) = (List.range j).filter fun i => s.testBit i := by
          apply List.filter_congr
          intro i hi
          have := List.mem_range.1 hi
          rw [testBit_or_pow]
          have : ¬ i = j := by omega
          simp [this]
        rw [e]
        have : (s ||| 2 ^ j).testBit j = true := by rw [testBit_or_pow]; simp
        simp [this, hs]
  exact key 8 hj

theorem levs_eq {r : List Int} {s : Nat} {p : List Int} (hp : p.length = 8) : levs r s 8 = p ↔ ∀ j, j < 8 → lev r s j = (p[j]?).getD 0 := by
  constructor
  · intro h j hj
    rw [← h, levs_get, if_pos hj]; rfl
  · intro h
    apply List.ext_getElem?
    intro j
    rw [levs_get]
    by_cases hj : j < 8
    · rw [if_pos hj, h j hj, List.getElem?_eq_getElem (by omega)]; rfl
    · rw [if_neg hj, List.getElem?_eq_none (by omega)]

/-- One more column splits a combination. -/
theorem split_col {S : Nat} {R : List (List Int)} {k s j : Nat} {p : List Int} (h : ArrOK S R k) (hj : j < k) (hs : s.testBit j = false) (hp : p ∈ WL S s 8) :
    cntR R s p = ((List.range S).map fun (v : Nat) => cntR R (s ||| 2 ^ j) (p.set j (v : Int))).sum := by
  obtain ⟨hpl, hpg⟩ := mem_WL.1 hp
  have hk8 := h.k8
  have one : ∀ r ∈ R, (if levs r s 8 = p then 1 else 0) = ((List.range S).map fun (v : Nat) => if levs r (s ||| 2 ^ j) 8 = p.set j (v : Int) then 1 else 0).sum := by
    intro r hr
    obtain ⟨hrl, hrx⟩ := h.row r hr
    obtain ⟨x, hx⟩ : ∃ x, r[j]? = some x := ⟨_, List.getElem?_eq_getElem (by omega)⟩
    have hxb := hrx x (List.mem_of_getElem? hx)
    obtain ⟨n, rfl⟩ := Int.eq_ofNat_of_zero_le hxb.1
    have hpj : (p[j]?).getD 0 = 0 := by
      cases hpj : p[j]? with
      | none => rfl
      | some y => have := hpg j y hpj; rw [hs] at this; simpa using this
    have iffv : ∀ v : Nat, levs r (s ||| 2 ^ j) 8 = p.set j (v : Int) ↔ (levs r s 8 = p ∧ n = v) := by
      intro v
      rw [levs_eq (by simp [hpl]), levs_eq hpl]
      constructor
      · intro hh
        refine ⟨fun i hi => ?_, ?_⟩
        · have h1 := hh i hi
          by_cases hij : i = j
          · subst hij
            rw [hpj]; simp [lev, hs]
          · rw [List.getElem?_set_ne (by omega)] at h1
            rw [← h1]
            simp only [lev, testBit_or_pow, hij, decide_false, Bool.or_false]
        · have h1 := hh j (by omega)
          rw [List.getElem?_set_self (by omega)] at h1
          simp only [lev, testBit_or_pow, decide_true, Bool.or_true, if_true, hx, Option.getD_some] at h1
          omega
      · rintro ⟨hh, rfl⟩ i hi
        by_cases hij : i = j
        · subst hij
          rw [List.getElem?_set_self (by omega)]
          simp [lev, testBit_or_pow, hx]
        · rw [List.getElem?_set_ne (by omega), ← hh i hi]
          simp only [lev, testBit_or_pow, hij, decide_false, Bool.or_false]
    by_cases hc : levs r s 8 = p
    · rw [if_pos hc]
      have := sum_ind n (List.range S) List.nodup_range (List.mem_range.2 (by omega))
      refine this.symm.trans ?_
      congr 1
      apply List.map_congr_left
      intro v _
      by_cases hv : n = v
      · rw [if_pos hv, if_pos ((iffv v).2 ⟨hc, hv⟩)]
      · rw [if_neg hv, if_neg fun hh => hv ((iffv v).1 hh).2]
    · rw [if_neg hc]
      symm
      apply sum_map_zero
      intro v _
      rw [if_neg fun hh => hc ((iffv v).1 hh).1]
  have all : ∀ T : List (List Int), (∀ r ∈ T, r ∈ R) → cntR T s p = ((List.range S).map fun (v : Nat) => cntR T (s ||| 2 ^ j) (p.set j (v : Int))).sum := by
    intro T
    induction T with
    | nil => intro _; exact (sum_map_zero _ _ fun _ _ => rfl).symm
    | cons r T ih =>
      intro hT
      have h1 := ih fun x hx => hT x (by simp [hx])
      have h2 := one r (hT r (by simp))
      have : (fun v : Nat => cntR (r :: T) (s ||| 2 ^ j) (p.set j (v : Int))) = fun (v : Nat) => cntR T (s ||| 2 ^ j) (p.set j (v : Int)) + if levs r (s ||| 2 ^ j) 8 = p.set j (v : Int) then 1 else 0 := by
        funext v; simp [cntR, List.countP_cons]
      rw [this, sum_map_add, ← h1, ← h2]
      simp [cntR, List.countP_cons]
  exact all R fun _ hr => hr

theorem set_good {S s j : Nat} {p : List Int} {v : Nat} (hp : p ∈ WL S s 8) (hv : v < S) : p.set j (v : Int) ∈ WL S (s ||| 2 ^ j) 8 := by
  obtain ⟨h1, h2⟩ := mem_WL.1 hp
  refine mem_WL.2 ⟨by simp [h1], ?_⟩
  intro i x hx
  by_cases hij : i = j
  · subst hij
    by_cases hl : i < p.length
    · rw [List.getElem?_set_self hl] at hx
      simp at hx; subst hx
      simp [testBit_or_pow]; omega
    · rw [List.getElem?_eq_none (by simp; omega)] at hx; simp at hx
  · rw [List.getElem?_set_ne (by omega)] at hx
    have := h2 i x hx
    rw [testBit_or_pow, decide_eq_false hij, Bool.or_false]
    exact this

theorem sum_const {α : Type} (L : List α) (f : α → Nat) (c : Nat) (h : ∀ a ∈ L, f a = c) : (L.map f).sum = L.length * c := by
  induction L with
  | nil => simp
  | cons a L ih => simp [h a (by simp), ih fun b hb => h b (by simp [hb]), Nat.add_mul]; omega

/-- A set of fewer than k columns misses one. -/
theorem free_col {k t s : Nat} (hk : k ≤ 8) (hs : s ∈ setsL k t) (ht : t < k) : ∃ j, j < k ∧ s.testBit j = false := by
  refine Decidable.byContradiction fun hc => ?_
  have hall : ∀ j, j < k → s.testBit j = true := fun j hj => by
    cases h : s.testBit j with
    | true => rfl
    | false => exact absurd ⟨j, hj, h⟩ hc
  have h1 : (List.range k).length ≤ ((List.range 8).filter fun j => s.testBit j).length := nodup_sub List.nodup_range fun j hj => by
    have := List.mem_range.1 hj
    exact List.mem_filter.2 ⟨List.mem_range.2 (by omega), hall j this⟩
  have h2 : pop s = t := (setsL_pop hs).2
  rw [pop] at h2
  simp at h1; omega

theorem or_lt {k s j : Nat} (hs : s < 2 ^ k) (hj : j < k) : s ||| 2 ^ j < 2 ^ k := Nat.or_lt_two_pow hs (Nat.pow_lt_pow_right (by omega) hj)

theorem OA_down {S : Nat} {R : List (List Int)} {k t : Nat} (h : ArrOK S R k) (ht : t < k) (ho : OA S R k (t + 1)) : OA S R k t := by
  intro s hs p hp
  obtain ⟨j, hj, hsj⟩ := free_col h.k8 hs ht
  obtain ⟨h1, h2⟩ := setsL_pop hs
  have hs' : s ||| 2 ^ j ∈ setsL k (t + 1) := by
    simp only [setsL, List.mem_filter, List.mem_range]
    have := h.k8
    exact ⟨or_lt h1 hj, by rw [pop_add (by omega) hsj, h2]; simp⟩
  rw [split_col h hj hsj hp]
  have hd := OA_dvd h hs' ho
  obtain ⟨m, hm⟩ := hd
  have hp0 : 0 < S ^ (t + 1) := Nat.pow_pos (by have := h.s2; omega)
  rw [sum_const _ _ m, List.length_range]
  · rw [hm, Nat.pow_succ, Nat.mul_comm S m, Nat.mul_assoc, Nat.mul_comm m]; congr 1; exact Nat.mul_comm _ _
  · intro v hv
    have := ho _ hs' _ (set_good (j := j) hp (List.mem_range.1 hv))
    rw [hm, Nat.mul_comm] at this
    exact Nat.eq_of_mul_eq_mul_left hp0 this

theorem OA_le {S : Nat} {R : List (List Int)} {k t : Nat} (h : ArrOK S R k) (ht : t ≤ k) (ho : OA S R k t) : ∀ u, u ≤ t → OA S R k u := by
  induction t with
  | zero => intro u hu; have : u = 0 := by omega
            rw [this]; exact ho
  | succ t ih =>
    intro u hu
    by_cases hut : u = t + 1
    · rw [hut]; exact ho
    · exact ih (by omega) (OA_down h (by omega) ho) u (by omega)

theorem sets_ne {k t : Nat} (hk : k ≤ 8) (ht : t ≤ k) : ∃ s, s ∈ setsL k t := by
  have : ∀ k, k < 9 → ∀ t, t < k + 1 → setsL k t ≠ [] := by decide +kernel
  have h := this k (by omega) t (by omega)
  cases hl : setsL k t with
  | nil => exact absurd hl h
  | cons a l => exact ⟨a, by simp⟩

theorem setsL_count (k t : Nat) (hk : k ≤ 8) (ht : t ≤ k) : (setsL k t).length = binom k t := by
  have : ∀ k, k < 9 → ∀ t, t < k + 1 → (setsL k t).length = binom k t := by decide +kernel
  exact this k (by omega) t (by omega)

theorem index_iff {S : Nat} {R : List (List Int)} {k t : Nat} (h : ArrOK S R k) (ht : t ≤ k) : indexN S R k t ≠ 0 ↔ OA S R k t := by
  constructor
  · exact fun hi => (index_OA h hi).1
  · intro ho
    obtain ⟨s, hs⟩ := sets_ne h.k8 ht
    exact (OA_index h (OA_dvd h hs ho) ho).2

theorem strN_le {S : Nat} {R : List (List Int)} {k : Nat} : ∀ t, strN S R k t ≤ t
  | 0 => Nat.le_refl _
  | t + 1 => by rw [strN]; split; have := strN_le (S := S) (R := R) (k := k) t; omega; omega

theorem strN_OA {S : Nat} {R : List (List Int)} {k : Nat} (h : ArrOK S R k) : ∀ t, t ≤ k → ∀ u, u ≤ t → (1 ≤ u ∧ u ≤ strN S R k t ↔ 1 ≤ u ∧ OA S R k u)
  | 0, _, u, hu => by
    constructor
    · rintro ⟨h1, _⟩; omega
    · rintro ⟨h1, _⟩; omega
  | t + 1, ht, u, hu => by
    rw [strN]
    split
    · rename_i h0
      by_cases hut : u = t + 1
      · subst hut
        have := strN_le (S := S) (R := R) (k := k) t
        constructor
        · rintro ⟨_, h2⟩; omega
        · rintro ⟨_, h2⟩; exact absurd h0 ((index_iff h ht).2 h2)
      · exact strN_OA h t (by omega) u (by omega)
    · rename_i h0
      have := OA_le h ht ((index_iff h ht).1 h0) u hu
      exact ⟨fun ⟨h1, _⟩ => ⟨h1, this⟩, fun ⟨h1, _⟩ => ⟨h1, hu⟩⟩

/-- All combinations of t columns. -/
def allK (S k t : Nat) : List Key := (setsL k t).flatMap fun s => (WL S s 8).map (key s)

theorem mem_allK {S k t : Nat} {q : Key} : q ∈ allK S k t ↔ ∃ s ∈ setsL k t, ∃ p ∈ WL S s 8, q = key s p := by
  simp only [allK, List.mem_flatMap, List.mem_map]
  constructor
  · rintro ⟨s, hs, p, hp, rfl⟩; exact ⟨s, hs, p, hp, rfl⟩
  · rintro ⟨s, hs, p, hp, rfl⟩; exact ⟨s, hs, p, hp, rfl⟩

theorem len_allK (S k t : Nat) (hk : k ≤ 8) (ht : t ≤ k) : (allK S k t).length = binom k t * S ^ t := by
  rw [← setsL_count k t hk ht]
  have : ∀ l : List Nat, (∀ s ∈ l, pop s = t) → (l.flatMap fun s => (WL S s 8).map (key s)).length = l.length * S ^ t := by
    intro l
    induction l with
    | nil => simp
    | cons a l ih =>
      intro h
      have h1 : popi a 8 = t := h a (by simp)
      rw [List.flatMap_cons, List.length_append, ih fun s hs => h s (by simp [hs]), List.length_map, len_WL, h1, List.length_cons, Nat.add_mul]; omega
  exact this _ fun s hs => (setsL_pop hs).2

theorem tally_keys_iff {l : List Key} {q : Key} : q ∈ (tally l).map Prod.fst ↔ q ∈ l := by
  constructor
  · intro h
    obtain ⟨⟨k, v⟩, hm, rfl⟩ := List.mem_map.1 h
    obtain ⟨i, hi, hg⟩ := List.mem_iff_getElem.1 hm
    exact times_pos.1 (tally_get (i := i) (by rw [List.getElem?_eq_getElem hi, hg])).2
  · intro h
    obtain ⟨i, hi⟩ := tally_has h
    exact List.mem_map.2 ⟨_, List.mem_of_getElem? hi, rfl⟩

theorem mem_combs {R : List (List Int)} {l : List Nat} {s : Nat} {p : List Int} (hn : l.Nodup) : key s p ∈ combs R l ↔ s ∈ l ∧ 0 < cntR R s p := by
  rw [← times_pos, times_combs R s p l hn]
  split <;> simp [*]

theorem combs_allK {S : Nat} {R : List (List Int)} {k t : Nat} (h : ArrOK S R k) {q : Key} (hq : q ∈ combs R (setsL k t)) : q ∈ allK S k t := by
  obtain ⟨s, hs, r, hr, rfl⟩ := combs_mem hq
  exact mem_allK.2 ⟨s, hs, _, levs_WL (by have := h.s2; omega) (h.row r hr).2, rfl⟩

theorem tally_le_all {S : Nat} {R : List (List Int)} {k t : Nat} (h : ArrOK S R k) (ht : t ≤ k) : (tally (combs R (setsL k t))).length ≤ binom k t * S ^ t := by
  rw [← len_allK S k t h.k8 ht, ← List.length_map (f := Prod.fst)]
  exact nodup_sub (tally_nodup _) fun q hq => combs_allK h (tally_keys_iff.1 hq)

theorem miss_nonneg {S : Nat} {R : List (List Int)} {k t : Nat} (h : ArrOK S R k) (ht : t ≤ k) : 0 ≤ missN S R k t := by
  have := tally_le_all h ht
  simp only [missN]
  rw [← Int.natCast_mul]; omega

/-- All combinations of t columns occur. -/
def Full (S : Nat) (R : List (List Int)) (k t : Nat) : Prop := ∀ s ∈ setsL k t, ∀ p ∈ WL S s 8, 0 < cntR R s p

theorem miss_zero {S : Nat} {R : List (List Int)} {k t : Nat} (h : ArrOK S R k) (ht : t ≤ k) : missN S R k t = 0 ↔ Full S R k t := by
  have hle := tally_le_all h ht
  constructor
  · intro h0
    have h1 : binom k t * S ^ t ≤ (tally (combs R (setsL k t))).length := by
      simp only [missN] at h0
      rw [← Int.natCast_mul] at h0; omega
    rw [← len_allK S k t h.k8 ht, ← List.length_map (f := Prod.fst)] at h1
    intro s hs p hp
    have := nodup_full (tally_nodup _) (fun q hq => combs_allK h (tally_keys_iff.1 hq)) h1 (key s p) (mem_allK.2 ⟨s, hs, p, hp, rfl⟩)
    exact ((mem_combs (setsL_nodup k t)).1 (tally_keys_iff.1 this)).2
  · intro hf
    have hn : (allK S k t).Nodup := by
      rw [allK, List.Nodup, List.pairwise_flatMap]
      refine ⟨fun s _ => ?_, ?_⟩
      · rw [List.pairwise_map]
        exact List.Pairwise.imp (fun h he => h (key_inj.1 he).2) (WL_nodup S s 8)
      · refine List.Pairwise.imp (fun {a b} hab => ?_) (setsL_nodup k t)
        intro x hx y hy he
        obtain ⟨p, _, rfl⟩ := List.mem_map.1 hx
        obtain ⟨q, _, rfl⟩ := List.mem_map.1 hy
        exact hab (key_inj.1 he).1
    have : (allK S k t).length ≤ ((tally (combs R (setsL k t))).map Prod.fst).length := nodup_sub hn fun q hq => by
      obtain ⟨s, hs, p, hp, rfl⟩ := mem_allK.1 hq
      exact tally_keys_iff.2 ((mem_combs (setsL_nodup k t)).2 ⟨hs, hf s hs p hp⟩)
    rw [len_allK S k t h.k8 ht, List.length_map] at this
    simp only [missN]
    rw [← Int.natCast_mul]; omega

theorem OA_full {S : Nat} {R : List (List Int)} {k t : Nat} (h : ArrOK S R k) (ho : OA S R k t) : Full S R k t := by
  intro s hs p hp
  refine Nat.pos_of_ne_zero fun h0 => ?_
  have := ho s hs p hp
  rw [h0] at this
  have := h.r1
  simp at *; omega
end Go.VL
end

/- Columns that are chosen by the bits of a byte, and values for them. -/
section
set_option linter.unusedSimpArgs false
set_option linter.unusedVariables false
namespace Go.VL
open Go Go.Proofs

def bits (m i : Nat) : List Nat := (List.range i).filter fun j => m.testBit j
def colsI (m i : Nat) : List Int := (bits m i).map fun (j : Nat) => (j : Int)
def wantI (w : Nat → Nat) (m i : Nat) : List Int := (bits m i).map fun (j : Nat) => (w j : Int)

theorem bits_succ (m i : Nat) : bits m (i + 1) = bits m i ++ if m.testBit i then [i] else [] := by
  simp only [bits, List.range_succ, List.filter_append]
  congr 1
  by_cases h : m.testBit i = true <;> simp [h]

theorem colsI_take {m i : Nat} (h : m.testBit i = true) : colsI m (i + 1) = colsI m i ++ [(i : Int)] := by simp [colsI, bits_succ, h]
theorem wantI_take {w : Nat → Nat} {m i : Nat} (h : m.testBit i = true) : wantI w m (i + 1) = wantI w m i ++ [(w i : Int)] := by simp [wantI, bits_succ, h]
theorem colsI_skip {m i : Nat} (h : m.testBit i = false) : colsI m (i + 1) = colsI m i := by simp [colsI, bits_succ, h]
theorem wantI_skip {w : Nat → Nat} {m i : Nat} (h : m.testBit i = false) : wantI w m (i + 1) = wantI w m i := by simp [wantI, bits_succ, h]

theorem bits_len (m i : Nat) : (bits m i).length ≤ i := by
  have := List.length_filter_le (fun j => m.testBit j) (List.range i)
  simpa [bits] using this
theorem colsI_len (m i : Nat) : (colsI m i).length = (bits m i).length := by simp [colsI]
theorem wantI_len (w : Nat → Nat) (m i : Nat) : (wantI w m i).length = (bits m i).length := by simp [wantI]

theorem mod_bit (m k j : Nat) : (m % 2 ^ k).testBit j = (decide (j < k) && m.testBit j) := Nat.testBit_mod_two_pow ..

theorem bits_pop {m k : Nat} (hk : k ≤ 8) : pop (m % 2 ^ k) = (bits m k).length := by
  have : ∀ n, n ≤ 8 → popi (m % 2 ^ k) n = (bits m (min n k)).length := by
    intro n
    induction n with
    | zero => intro _; simp [popi, bits]
    | succ n ih =>
      intro hn
      have h1 : popi (m % 2 ^ k) (n + 1) = popi (m % 2 ^ k) n + if (m % 2 ^ k).testBit n then 1 else 0 := by
        simp only [popi, List.range_succ, List.filter_append, List.length_append]
        congr 1
        cases h : (m % 2 ^ k).testBit n <;> simp only [List.filter_cons, List.filter_nil, h] <;> rfl
      rw [h1, ih (by omega), mod_bit]
      by_cases hnk : n < k
      · rw [show min (n + 1) k = n + 1 by omega, show min n k = n by omega, bits_succ]
        by_cases hb : m.testBit n = true <;> simp [hnk, hb]
      · rw [show min (n + 1) k = k by omega, show min n k = k by omega]
        simp [hnk]
  have := this 8 (by omega)
  rwa [show min 8 k = k by omega] at this

theorem bits_sets {m k : Nat} (hk : k ≤ 8) : m % 2 ^ k ∈ setsL k (bits m k).length := by
  simp only [setsL, List.mem_filter, List.mem_range]
  exact ⟨Nat.mod_lt _ (Nat.pow_pos (by omega)), by rw [bits_pop hk]; simp⟩

def patt (w : Nat → Nat) (m k : Nat) : List Int := (List.range 8).map fun j => if j < k ∧ m.testBit j = true then (w j : Int) else 0

theorem patt_get (w : Nat → Nat) (m k j : Nat) (hj : j < 8) : (patt w m k)[j]? = some (if j < k ∧ m.testBit j = true then (w j : Int) else 0) := by simp [patt, hj]

theorem patt_WL {S : Nat} {w : Nat → Nat} {m k : Nat} (hw : ∀ j, w j < S) : patt w m k ∈ WL S (m % 2 ^ k) 8 := by
  refine mem_WL.2 ⟨by simp [patt], ?_⟩
  intro j x hx
  have hj : j < 8 := by have := (List.getElem?_eq_some_iff.1 hx).1; simpa [patt] using this
  rw [patt_get _ _ _ _ hj] at hx
  simp only [Option.some.injEq] at hx
  subst hx
  rw [mod_bit]
  have := hw j
  by_cases h : j < k ∧ m.testBit j = true
  · rw [if_pos h]; simp [h]; omega
  · rw [if_neg h]
    have : (decide (j < k) && m.testBit j) = false := by
      by_cases h1 : j < k
      · have : ¬ m.testBit j = true := fun h2 => h ⟨h1, h2⟩
        simp [h1, this]
      · simp [h1]
    simp [this]

theorem pick_iff {r : List Int} {w : Nat → Nat} {m k : Nat} (hk : k ≤ 8) : pick r (colsI m k) = wantI w m k ↔ levs r (m % 2 ^ k) 8 = patt w m k := by
  rw [levs_eq (by simp [patt])]
  have e : pick r (colsI m k) = (bits m k).map fun j => (r[j]?).getD 0 := by simp [pick, colsI, Function.comp_def]
  rw [e, wantI, List.map_inj_left]
  constructor
  · intro h j hj
    rw [patt_get _ _ _ _ hj]
    simp only [lev, mod_bit, Option.getD_some]
    by_cases hc : j < k ∧ m.testBit j = true
    · rw [if_pos hc]
      have := h j (List.mem_filter.2 ⟨List.mem_range.2 hc.1, hc.2⟩)
      simp [hc, this]
    · rw [if_neg hc]
      by_cases h1 : j < k
      · have : ¬ m.testBit j = true := fun h2 => hc ⟨h1, h2⟩
        simp [h1, this]
      · simp [h1]
  · intro h j hj
    obtain ⟨h1, h2⟩ := List.mem_filter.1 hj
    have h1 := List.mem_range.1 h1
    have := h j (by omega)
    rw [patt_get _ _ _ _ (by omega), if_pos ⟨h1, h2⟩] at this
    simpa [lev, mod_bit, h1, h2] using this

theorem count_cnt {R : List (List Int)} {w : Nat → Nat} {m k : Nat} (hk : k ≤ 8) : countN R (colsI m k) (wantI w m k) = cntR R (m % 2 ^ k) (patt w m k) := by
  simp only [countN, cntR]
  apply List.countP_congr
  intro r _
  simp only [decide_eq_true_eq]
  exact pick_iff hk

/-- As far as the strength reaches: what 'count' says is the index. -/
theorem count_index {S : Nat} {R : List (List Int)} {k : Nat} (h : ArrOK S R k) {w : Nat → Nat} {m : Nat} (hw : ∀ j, w j < S) (h1 : 1 ≤ (bits m k).length) (hT : (bits m k).length ≤ strN S R k k) :
    countN R (colsI m k) (wantI w m k) = indexN S R k (bits m k).length := by
  have hbk := bits_len m k
  have ho : OA S R k (bits m k).length := ((strN_OA h k (Nat.le_refl _) _ hbk).1 ⟨h1, hT⟩).2
  have h2 := ho _ (bits_sets h.k8) _ (patt_WL (m := m) (k := k) hw)
  have h3 := (index_OA h ((index_iff h hbk).2 ho)).2
  rw [count_cnt h.k8]
  have hp : 0 < S ^ (bits m k).length := Nat.pow_pos (by have := h.s2; omega)
  exact Nat.eq_of_mul_eq_mul_right hp (h2.trans h3.symm)

theorem count_full {S : Nat} {R : List (List Int)} {k : Nat} (h : ArrOK S R k) {w : Nat → Nat} {m : Nat} (hw : ∀ j, w j < S) (hm : missN S R k (bits m k).length = 0) :
    countN R (colsI m k) (wantI w m k) ≠ 0 := by
  have := (miss_zero h (bits_len m k)).1 hm _ (bits_sets h.k8) _ (patt_WL (m := m) (k := k) hw)
  rw [count_cnt h.k8]; omega

theorem bit8_at (m i : Nat) (hm : m < 256) (hi : i < 8) : decide (IntKind.u8.wrap ((BitVec.ofInt IntKind.u8.bits ((m : Int).fdiv (2 ^ min i IntKind.u8.bits)) &&& BitVec.ofInt IntKind.u8.bits 1).toNat : Int) = 1) = m.testBit i := by
  have : ∀ m : Nat, m < 256 → ∀ i : Nat, i < 8 → decide (IntKind.u8.wrap ((BitVec.ofInt IntKind.u8.bits ((m : Int).fdiv (2 ^ min i IntKind.u8.bits)) &&& BitVec.ofInt IntKind.u8.bits 1).toNat : Int) = 1) = m.testBit i := by decide +kernel
  exact this m hm i hi
end Go.VL
end

/- The array seat: the reference's arrays, any of them. -/
section
set_option linter.unusedSimpArgs false
set_option linter.unusedVariables false
set_option maxRecDepth 4000
namespace Go.VL
open Go Go.Proofs

def rawV (a0 a1 a2 a3 : Nat) (b : List Nat) : V := .agg [.int .u8 a0, .int .u8 a1, .int .u8 a2, .int .u8 a3, bytesV b]

def madeRow (s k : Nat) (b : List Nat) (i : Nat) : List Int := (List.range k).map fun j => ((atN b (i * k + j) % s : Nat) : Int)

theorem bdd_bytes (n : Nat) (b : List Nat) : bddL n (b.map fun (n : Nat) => V.int .u8 n) = true := by
  induction b with
  | nil => rfl
  | cons x l ih => simp only [List.map_cons, bddL, V.bdd, Bool.true_and]; exact ih

theorem at_spec0 (b : List Nat) (hb : ∀ n ∈ b, n < 256) (st : St) : VCall D 29 [bytesV b, .int .i64 0] st (fun r st' => r = .int .i64 (atN b 0) ∧ st' = st) := by
  have := at_spec b hb 0 (by omega) st
  simpa using this

theorem linear_any (S k free : Nat) (hS2 : 2 ≤ S) (hS4 : S ≤ 4) (hk1 : 1 ≤ k) (hk5 : k ≤ 5) (hf1 : 1 ≤ free) (hf3 : free ≤ 3) (h16 : S ^ free ≤ 16) (st : St) {K : V → St → Prop}
    (hK : ∀ (n : Nat) (RV : List (List Int)), RowsOK S RV k → RV.length = n → 1 ≤ n → n ≤ 16 → K (.slc st.length 0 0 n 1) (st ++ [.cells 0 (RV.map rowV)])) :
    VCall D 30 [.int .i64 S, .int .i64 k, .int .i64 free] st K :=
  linear_spec S k free hS2 hS4 hk1 hk5 hf1 hf3 st (hK _ _ (linRows_ok S k free (by omega) hf1).2 (linRows_ok S k free (by omega) hf1).1 (Nat.pow_pos (by omega)) h16)

theorem pow2_le {s : Nat} (h2 : 2 ≤ s) (h4 : s ≤ 4) : s ^ 2 ≤ 16 := by
  have : s = 2 ∨ s = 3 ∨ s = 4 := by omega
  rcases this with rfl | rfl | rfl <;> decide
theorem powm_le {s m : Nat} (h2 : 2 ≤ s) (h4 : s ≤ 4) (hm : m ≤ 2) : s ^ m ≤ 16 := Nat.le_trans (Nat.pow_le_pow_right (by omega) hm) (pow2_le h2 h4)

theorem ConvL.set {lo : Nat} {st : St} {v v' : V} (h : Conv lo st v v') : ∀ {cs cs' : List V} {i : Nat}, ConvL lo st cs cs' → ConvL lo st (cs.set i v) (cs'.set i v')
  | _, _, _, .nil => .nil
  | _, _, 0, .cons _ hs => .cons h hs
  | _, _, i + 1, .cons h1 hs => .cons h1 (ConvL.set h hs)

theorem Conv.rowsTake {lo : Nat} {st : St} {id ver k : Nat} {ob : Ob} {R : List (List Int)} (h0 : lo ≤ id) (h1 : st[id]? = some ob) (h2 : ob.read ver = some (R.map rowV)) (h3 : k ≤ R.length) : Conv lo st (.slc id ver 0 k 1) (.lst 1 ((R.take k).map rowV)) := by
  refine .slc h0 h1 h2 (by simp; omega) ?_
  have : ((R.map rowV).drop 0).take (k * 1) = (R.take k).map rowV := by simp [List.map_take]
  rw [this]
  exact ConvL.refl (bdd_rows _ _)

set_option maxHeartbeats 4000000 in
theorem Made_spec (a0 a1 a2 a3 : Nat) (b : List Nat) (h0 : a0 < 256) (h1 : a1 < 256) (h2 : a2 < 256) (h3 : a3 < 256) (hb : ∀ n ∈ b, n < 256) (st : St) :
    VCall D 10 [rawV a0 a1 a2 a3 b] st (fun r st' => (∃ (k : Nat) (R : List (List Int)), ArrOK (2 + a0 % 3) R k ∧ k ≤ 5 ∧ R.length ≤ 32 ∧ r = arrV (2 + a0 % 3 : Nat) R) ∧ st' = st) := by
  obtain ⟨s, hs⟩ : ∃ s, s = 2 + a0 % 3 := ⟨_, rfl⟩
  obtain ⟨k, hk⟩ : ∃ k, k = 1 + a1 % 5 := ⟨_, rfl⟩
  have e0 := wrapI (n := (a0 : Int)) (by omega) (by omega)
  have e1 : (a0 : Int).tmod 3 = (a0 % 3 : Nat) := tmodN a0 3
  have e2 : IntKind.i64.wrap (2 + ((a0 % 3 : Nat) : Int)) = (s : Int) := by rw [wrapI (by omega) (by omega)]; omega
  have e3 := wrapI (n := (a1 : Int)) (by omega) (by omega)
  have e4 : (a1 : Int).tmod 5 = (a1 % 5 : Nat) := tmodN a1 5
  have e5 : IntKind.i64.wrap (1 + ((a1 % 5 : Nat) : Int)) = (k : Int) := by rw [wrapI (by omega) (by omega)]; omega
  have e6 := wrapI (n := (a2 : Int)) (by omega) (by omega)
  have e7 : (a2 : Int).tmod 6 = (a2 % 6 : Nat) := tmodN a2 6
  have e8 := wrapI (n := (a3 : Int)) (by omega) (by omega)
  have e9 : (a3 : Int).tmod 20 = (a3 % 20 : Nat) := tmodN a3 20
  have hs2 : 2 ≤ s ∧ s ≤ 4 := by omega
  have hk2 : 1 ≤ k ∧ k ≤ 5 := by omega
  rw [← hs]
  refine VCall.clean ?_
  refine VCall.of_WPB (fn := Tryd.f10) (c := _) Tryd.func10 rfl (by decide +kernel) (Nat.le_of_ble_eq_true rfl) fun hB => ?_
  refine wpF_sound ?_
  simp -implicitDefEqProofs only [s_s, argEnv, PastOK, PendOK, sel, isE, isSp, baseOK, opR, opnd, opnds, opndL, ofConst, look, putE, dstOK, guardL, binR, intOp, loadR, bad, bound, lenV, srcV, Ob.read, V.plain, V.one, V.cells, fillV, setMany, zeros, TK.agg, Sub, cellRes, loadV, bindE, Nat.reduceAdd, Nat.reduceEqDiff, Nat.reduceLT, Nat.reduceLeDiff, Nat.reduceMul, Nat.reduceSub, Nat.reduceDiv, Nat.reduceMod, Nat.reduceBEq, Nat.reduceBNe, reduceIte, reduceCtorEq, Int.reduceToNat, Int.reduceLT, Int.reduceLE, Int.reduceAdd, Int.reduceSub, Int.reduceMul, Int.reduceNeg, Int.reduceEq, Int.reduceNe, D_G, D_P, List.lookup, tys, intsV_len, Tryd.ntmps10, Tryd.f10, rawV, e0, e1, e2, e3, e4, e5, e6, e7]
  repeat (refine And.intro (by first | omega | rfl | trivial | (simp; done) | (simp; omega)) ?_)
  refine Br.intro (fun h => ?_) (fun h => ?_)
  · have hk0 : a2 % 6 = 0 := by have := of_decide_eq_true h; omega
    simp -implicitDefEqProofs only [s_s, argEnv, PastOK, PendOK, sel, isE, isSp, baseOK, opR, opnd, opnds, opndL, ofConst, look, putE, dstOK, guardL, binR, intOp, loadR, bad, bound, lenV, srcV, Ob.read, V.plain, V.one, V.cells, fillV, setMany, zeros, TK.agg, Sub, cellRes, loadV, bindE, Nat.reduceAdd, Nat.reduceEqDiff, Nat.reduceLT, Nat.reduceLeDiff, Nat.reduceMul, Nat.reduceSub, Nat.reduceDiv, Nat.reduceMod, Nat.reduceBEq, Nat.reduceBNe, reduceIte, reduceCtorEq, Int.reduceToNat, Int.reduceLT, Int.reduceLE, Int.reduceAdd, Int.reduceSub, Int.reduceMul, Int.reduceNeg, Int.reduceEq, Int.reduceNe, D_G, D_P, List.lookup, tys, intsV_len]
    refine WP.seed 1 (st.length + 3) [(1, .ptr st.length 0 0), (2, .ptr (st.length + 1) 0 0), (3, .int .i64 s), (4, .int .i64 k), (6, .ptr (st.length + 2) 0 0), (7, .int .i64 0)] (st ++ [.cells 0 [.int .u8 a0, .int .u8 a1, .int .u8 a2, .int .u8 a3, bytesV b], .cells 0 [.int .i64 0, .e0], .cells 0 [.int .i64 s, .slc (st.length + 3) 0 0 0 1]]) (by simp) (by decide) (by simp [SeedE, SeedV, look]) (SeedS.app (.keep (.keep (.cells (.keep (.e0 .nil)) .nil)))) ?_
    simp -implicitDefEqProofs only [s_s, argEnv, PastOK, PendOK, sel, isE, isSp, baseOK, opR, opnd, opnds, opndL, ofConst, look, putE, dstOK, guardL, binR, intOp, loadR, bad, bound, lenV, srcV, Ob.read, V.plain, V.one, V.cells, fillV, setMany, zeros, TK.agg, Sub, cellRes, loadV, bindE, Nat.reduceAdd, Nat.reduceEqDiff, Nat.reduceLT, Nat.reduceLeDiff, Nat.reduceMul, Nat.reduceSub, Nat.reduceDiv, Nat.reduceMod, Nat.reduceBEq, Nat.reduceBNe, reduceIte, reduceCtorEq, Int.reduceToNat, Int.reduceLT, Int.reduceLE, Int.reduceAdd, Int.reduceSub, Int.reduceMul, Int.reduceNeg, Int.reduceEq, Int.reduceNe, D_G, D_P, List.lookup, tys, intsV_len]
    refine WP.loopC (ι := Nat) (fun i => [(1, .ptr st.length 0 0), (2, .ptr (st.length + 1) 0 0), (3, .int .i64 s), (4, .int .i64 k), (6, .ptr (st.length + 2) 0 0), (7, .int .i64 i)])
      (fun i => st ++ [.cells 0 [.int .u8 a0, .int .u8 a1, .int .u8 a2, .int .u8 a3, bytesV b], .cells 0 [.int .i64 0, .e0], .cells 0 [.int .i64 s, .slc (st.length + 3) i 0 i 1], .acc i (((List.range i).map (madeRow s k b)).map rowV)]) (fun i => i ≤ a3 % 20 + 1) (fun i => a3 % 20 + 1 - i) 0 (by omega) (by simp -implicitDefEqProofs only [s_s, argEnv, PastOK, PendOK, sel, isE, isSp, baseOK, opR, opnd, opnds, opndL, ofConst, look, putE, dstOK, guardL, binR, intOp, loadR, bad, bound, lenV, srcV, Ob.read, V.plain, V.one, V.cells, fillV, setMany, zeros, TK.agg, Sub, cellRes, loadV, bindE, Nat.reduceAdd, Nat.reduceEqDiff, Nat.reduceLT, Nat.reduceLeDiff, Nat.reduceMul, Nat.reduceSub, Nat.reduceDiv, Nat.reduceMod, Nat.reduceBEq, Nat.reduceBNe, reduceIte, reduceCtorEq, Int.reduceToNat, Int.reduceLT, Int.reduceLE, Int.reduceAdd, Int.reduceSub, Int.reduceMul, Int.reduceNeg, Int.reduceEq, Int.reduceNe, D_G, D_P, List.lookup, tys, intsV_len]; simp) (by simp) (fun p => by simp -implicitDefEqProofs only [s_s, argEnv, PastOK, PendOK, sel, isE, isSp, baseOK, opR, opnd, opnds, opndL, ofConst, look, putE, dstOK, guardL, binR, intOp, loadR, bad, bound, lenV, srcV, Ob.read, V.plain, V.one, V.cells, fillV, setMany, zeros, TK.agg, Sub, cellRes, loadV, bindE, Nat.reduceAdd, Nat.reduceEqDiff, Nat.reduceLT, Nat.reduceLeDiff, Nat.reduceMul, Nat.reduceSub, Nat.reduceDiv, Nat.reduceMod, Nat.reduceBEq, Nat.reduceBNe, reduceIte, reduceCtorEq, Int.reduceToNat, Int.reduceLT, Int.reduceLE, Int.reduceAdd, Int.reduceSub, Int.reduceMul, Int.reduceNeg, Int.reduceEq, Int.reduceNe, D_G, D_P, List.lookup, tys, intsV_len]) ?_
    intro i hi
    simp -implicitDefEqProofs only [s_s, argEnv, PastOK, PendOK, sel, isE, isSp, baseOK, opR, opnd, opnds, opndL, ofConst, look, putE, dstOK, guardL, binR, intOp, loadR, bad, bound, lenV, srcV, Ob.read, V.plain, V.one, V.cells, fillV, setMany, zeros, TK.agg, Sub, cellRes, loadV, bindE, Nat.reduceAdd, Nat.reduceEqDiff, Nat.reduceLT, Nat.reduceLeDiff, Nat.reduceMul, Nat.reduceSub, Nat.reduceDiv, Nat.reduceMod, Nat.reduceBEq, Nat.reduceBNe, reduceIte, reduceCtorEq, Int.reduceToNat, Int.reduceLT, Int.reduceLE, Int.reduceAdd, Int.reduceSub, Int.reduceMul, Int.reduceNeg, Int.reduceEq, Int.reduceNe, D_G, D_P, List.lookup, tys, intsV_len, e8, e9]
    refine Br.intro (fun h => ?_) (fun h => ?_)
    · have h' : i ≤ a3 % 20 := by have := of_decide_eq_true h; omega
      obtain ⟨RV, hRV⟩ : ∃ RV, RV = ((List.range i).map (madeRow s k b)).map rowV := ⟨_, rfl⟩
      have hRl : RV.length = i := by simp [hRV]
      have hRb : ∀ m, bddL m RV = true := fun m => by rw [hRV]; exact bdd_rows _ _
      rw [← hRV]
      simp -implicitDefEqProofs only [s_s, argEnv, PastOK, PendOK, sel, isE, isSp, baseOK, opR, opnd, opnds, opndL, ofConst, look, putE, dstOK, guardL, binR, intOp, loadR, bad, bound, lenV, srcV, Ob.read, V.plain, V.one, V.cells, fillV, setMany, zeros, TK.agg, Sub, cellRes, loadV, bindE, Nat.reduceAdd, Nat.reduceEqDiff, Nat.reduceLT, Nat.reduceLeDiff, Nat.reduceMul, Nat.reduceSub, Nat.reduceDiv, Nat.reduceMod, Nat.reduceBEq, Nat.reduceBNe, reduceIte, reduceCtorEq, Int.reduceToNat, Int.reduceLT, Int.reduceLE, Int.reduceAdd, Int.reduceSub, Int.reduceMul, Int.reduceNeg, Int.reduceEq, Int.reduceNe, D_G, D_P, List.lookup, tys, intsV_len]
      refine WP.seed 1 (st.length + 4) [(1, .ptr st.length 0 0), (2, .ptr (st.length + 1) 0 0), (3, .int .i64 s), (4, .int .i64 k), (6, .ptr (st.length + 2) 0 0), (7, .int .i64 i), (8, .slc (st.length + 4) 0 0 0 1), (9, .int .i64 0)] _ (by simp) (by decide) (by simp [SeedE, SeedV, look]) SeedS.refl ?_
      simp -implicitDefEqProofs only [s_s, argEnv, PastOK, PendOK, sel, isE, isSp, baseOK, opR, opnd, opnds, opndL, ofConst, look, putE, dstOK, guardL, binR, intOp, loadR, bad, bound, lenV, srcV, Ob.read, V.plain, V.one, V.cells, fillV, setMany, zeros, TK.agg, Sub, cellRes, loadV, bindE, Nat.reduceAdd, Nat.reduceEqDiff, Nat.reduceLT, Nat.reduceLeDiff, Nat.reduceMul, Nat.reduceSub, Nat.reduceDiv, Nat.reduceMod, Nat.reduceBEq, Nat.reduceBNe, reduceIte, reduceCtorEq, Int.reduceToNat, Int.reduceLT, Int.reduceLE, Int.reduceAdd, Int.reduceSub, Int.reduceMul, Int.reduceNeg, Int.reduceEq, Int.reduceNe, D_G, D_P, List.lookup, tys, intsV_len]
      refine WP.loopC (ι := Nat) (fun j => [(1, .ptr st.length 0 0), (2, .ptr (st.length + 1) 0 0), (3, .int .i64 s), (4, .int .i64 k), (6, .ptr (st.length + 2) 0 0), (7, .int .i64 i), (8, .slc (st.length + 4) j 0 j 1), (9, .int .i64 j)])
        (fun j => st ++ [.cells 0 [.int .u8 a0, .int .u8 a1, .int .u8 a2, .int .u8 a3, bytesV b], .cells 0 [.int .i64 0, .e0], .cells 0 [.int .i64 s, .slc (st.length + 3) i 0 i 1], .acc i RV, .acc j (intsV ((List.range j).map fun j => ((atN b (i * k + j) % s : Nat) : Int)))]) (fun j => j ≤ k) (fun j => k - j) 0 (by omega) (by simp -implicitDefEqProofs only [s_s, argEnv, PastOK, PendOK, sel, isE, isSp, baseOK, opR, opnd, opnds, opndL, ofConst, look, putE, dstOK, guardL, binR, intOp, loadR, bad, bound, lenV, srcV, Ob.read, V.plain, V.one, V.cells, fillV, setMany, zeros, TK.agg, Sub, cellRes, loadV, bindE, Nat.reduceAdd, Nat.reduceEqDiff, Nat.reduceLT, Nat.reduceLeDiff, Nat.reduceMul, Nat.reduceSub, Nat.reduceDiv, Nat.reduceMod, Nat.reduceBEq, Nat.reduceBNe, reduceIte, reduceCtorEq, Int.reduceToNat, Int.reduceLT, Int.reduceLE, Int.reduceAdd, Int.reduceSub, Int.reduceMul, Int.reduceNeg, Int.reduceEq, Int.reduceNe, D_G, D_P, List.lookup, tys, intsV_len]; simp) (by simp [intsV]) (fun p => by simp -implicitDefEqProofs only [s_s, argEnv, PastOK, PendOK, sel, isE, isSp, baseOK, opR, opnd, opnds, opndL, ofConst, look, putE, dstOK, guardL, binR, intOp, loadR, bad, bound, lenV, srcV, Ob.read, V.plain, V.one, V.cells, fillV, setMany, zeros, TK.agg, Sub, cellRes, loadV, bindE, Nat.reduceAdd, Nat.reduceEqDiff, Nat.reduceLT, Nat.reduceLeDiff, Nat.reduceMul, Nat.reduceSub, Nat.reduceDiv, Nat.reduceMod, Nat.reduceBEq, Nat.reduceBNe, reduceIte, reduceCtorEq, Int.reduceToNat, Int.reduceLT, Int.reduceLE, Int.reduceAdd, Int.reduceSub, Int.reduceMul, Int.reduceNeg, Int.reduceEq, Int.reduceNe, D_G, D_P, List.lookup, tys, intsV_len]) ?_
      intro j hj
      simp -implicitDefEqProofs only [s_s, argEnv, PastOK, PendOK, sel, isE, isSp, baseOK, opR, opnd, opnds, opndL, ofConst, look, putE, dstOK, guardL, binR, intOp, loadR, bad, bound, lenV, srcV, Ob.read, V.plain, V.one, V.cells, fillV, setMany, zeros, TK.agg, Sub, cellRes, loadV, bindE, Nat.reduceAdd, Nat.reduceEqDiff, Nat.reduceLT, Nat.reduceLeDiff, Nat.reduceMul, Nat.reduceSub, Nat.reduceDiv, Nat.reduceMod, Nat.reduceBEq, Nat.reduceBNe, reduceIte, reduceCtorEq, Int.reduceToNat, Int.reduceLT, Int.reduceLE, Int.reduceAdd, Int.reduceSub, Int.reduceMul, Int.reduceNeg, Int.reduceEq, Int.reduceNe, D_G, D_P, List.lookup, tys, intsV_len]
      refine Br.intro (fun h => ?_) (fun h => ?_)
      · have hjk : j < k := by have := of_decide_eq_true h; omega
        have hik : i * k ≤ 20 * 5 := Nat.mul_le_mul (by omega) (by omega)
        have v1 : IntKind.i64.wrap ((i : Int) * (k : Int)) = ((i * k : Nat) : Int) := by rw [← Int.natCast_mul]; exact wrapI (by omega) (by omega)
        have v2 : IntKind.i64.wrap (((i * k : Nat) : Int) + (j : Int)) = ((i * k + j : Nat) : Int) := by rw [← Int.natCast_add]; exact wrapI (by omega) (by omega)
        have v3 := wrapI (n := (j : Int) + 1) (by omega) (by omega)
        have v4 := tmodN (atN b (i * k + j)) s
        simp -implicitDefEqProofs only [s_s, argEnv, PastOK, PendOK, sel, isE, isSp, baseOK, opR, opnd, opnds, opndL, ofConst, look, putE, dstOK, guardL, binR, intOp, loadR, bad, bound, lenV, srcV, Ob.read, V.plain, V.one, V.cells, fillV, setMany, zeros, TK.agg, Sub, cellRes, loadV, bindE, Nat.reduceAdd, Nat.reduceEqDiff, Nat.reduceLT, Nat.reduceLeDiff, Nat.reduceMul, Nat.reduceSub, Nat.reduceDiv, Nat.reduceMod, Nat.reduceBEq, Nat.reduceBNe, reduceIte, reduceCtorEq, Int.reduceToNat, Int.reduceLT, Int.reduceLE, Int.reduceAdd, Int.reduceSub, Int.reduceMul, Int.reduceNeg, Int.reduceEq, Int.reduceNe, D_G, D_P, List.lookup, tys, intsV_len, v1, v2]
        refine Sp.call rfl rfl ?_
        refine (at_spec b hb (i * k + j) (by omega) _).mono ?_
        rintro r st' ⟨rfl, rfl⟩
        have hlen : (intsV ((List.range j).map fun j => ((atN b (i * k + j) % s : Nat) : Int))).length = j := by simp [intsV]
        simp -implicitDefEqProofs only [s_s, argEnv, PastOK, PendOK, sel, isE, isSp, baseOK, opR, opnd, opnds, opndL, ofConst, look, putE, dstOK, guardL, binR, intOp, loadR, bad, bound, lenV, srcV, Ob.read, V.plain, V.one, V.cells, fillV, setMany, zeros, TK.agg, Sub, cellRes, loadV, bindE, Nat.reduceAdd, Nat.reduceEqDiff, Nat.reduceLT, Nat.reduceLeDiff, Nat.reduceMul, Nat.reduceSub, Nat.reduceDiv, Nat.reduceMod, Nat.reduceBEq, Nat.reduceBNe, reduceIte, reduceCtorEq, Int.reduceToNat, Int.reduceLT, Int.reduceLE, Int.reduceAdd, Int.reduceSub, Int.reduceMul, Int.reduceNeg, Int.reduceEq, Int.reduceNe, D_G, D_P, List.lookup, tys, intsV_len, v3, v4, hlen]
        repeat (refine And.intro (by first | omega | rfl | trivial | (simp; done) | (simp; omega)) ?_)
        refine Kc.next (j + 1) (by omega) (by omega) (st ++ [.cells 0 [.int .u8 a0, .int .u8 a1, .int .u8 a2, .int .u8 a3, bytesV b], .cells 0 [.int .i64 0, .e0], .cells 0 [.int .i64 s, .slc (st.length + 3) i 0 i 1], .acc i RV, .acc (j + 1) (intsV ((List.range (j + 1)).map fun j => ((atN b (i * k + j) % s : Nat) : Int)))]) [.cells 0 [.int .i64 (atN b (i * k + j) % s : Nat)]] (by simp [intsV, List.range_succ]) (by simp) ?_ ?_
        · refine StConv.base hB (by simp) (.cons (.keep (by simp [Ob.bdd, bddL, V.bdd, bytesV, bdd_bytes])) (.cons (.keep rfl) (.cons (.keep (by simp [Ob.bdd, bddL, V.bdd])) (.cons (.keep (hRb _)) (.cons (.keep (bdd_ints _ _)) .nil)))))
        · refine EnvC.of_sub ?_ ?_
          · simp -implicitDefEqProofs only [s_s, argEnv, PastOK, PendOK, sel, isE, isSp, baseOK, opR, opnd, opnds, opndL, ofConst, look, putE, dstOK, guardL, binR, intOp, loadR, bad, bound, lenV, srcV, Ob.read, V.plain, V.one, V.cells, fillV, setMany, zeros, TK.agg, Sub, cellRes, loadV, bindE, Nat.reduceAdd, Nat.reduceEqDiff, Nat.reduceLT, Nat.reduceLeDiff, Nat.reduceMul, Nat.reduceSub, Nat.reduceDiv, Nat.reduceMod, Nat.reduceBEq, Nat.reduceBNe, reduceIte, reduceCtorEq, Int.reduceToNat, Int.reduceLT, Int.reduceLE, Int.reduceAdd, Int.reduceSub, Int.reduceMul, Int.reduceNeg, Int.reduceEq, Int.reduceNe, D_G, D_P, List.lookup, tys, intsV_len]
            try simp
          · simp [bddE, V.bdd]
      · have hjk : j = k := by have := of_decide_eq_false h; omega
        subst hjk
        have w2 := wrapI (n := (i : Int) + 1) (by omega) (by omega)
        have hrow : (List.range j).map (fun x => ((atN b (i * j + x) % s : Nat) : Int)) = madeRow s j b i := rfl
        rw [hrow]
        simp -implicitDefEqProofs only [s_s, argEnv, PastOK, PendOK, sel, isE, isSp, baseOK, opR, opnd, opnds, opndL, ofConst, look, putE, dstOK, guardL, binR, intOp, loadR, bad, bound, lenV, srcV, Ob.read, V.plain, V.one, V.cells, fillV, setMany, zeros, TK.agg, Sub, cellRes, loadV, bindE, Nat.reduceAdd, Nat.reduceEqDiff, Nat.reduceLT, Nat.reduceLeDiff, Nat.reduceMul, Nat.reduceSub, Nat.reduceDiv, Nat.reduceMod, Nat.reduceBEq, Nat.reduceBNe, reduceIte, reduceCtorEq, Int.reduceToNat, Int.reduceLT, Int.reduceLE, Int.reduceAdd, Int.reduceSub, Int.reduceMul, Int.reduceNeg, Int.reduceEq, Int.reduceNe, D_G, D_P, List.lookup, tys, intsV_len, w2, hRl]
        repeat (refine And.intro (by first | omega | rfl | trivial | (simp; done) | (simp; omega)) ?_)
        refine Kc.next (i + 1) (by omega) (by omega) (st ++ [.cells 0 [.int .u8 a0, .int .u8 a1, .int .u8 a2, .int .u8 a3, bytesV b], .cells 0 [.int .i64 0, .e0], .cells 0 [.int .i64 s, .slc (st.length + 3) (i + 1) 0 (i + 1) 1], .acc (i + 1) (RV ++ [.slc (st.length + 4) j 0 j 1])]) [.acc j (intsV (madeRow s j b i)), .cells 0 [.slc (st.length + 4) j 0 j 1]] (by simp) (by simp) ?_ ?_
        · simp only [List.range_succ, List.map_append, List.map_cons, List.map_nil, ← hRV]
          refine StConv.base hB (by simp) (.cons (.keep (by simp [Ob.bdd, bddL, V.bdd, bytesV, bdd_bytes])) (.cons (.keep rfl) (.cons (.keep (by simp [Ob.bdd, bddL, V.bdd])) (.cons (.acc (ConvL.snoc (hRb _) (Conv.row (by simp) (ob := .acc j (intsV (madeRow s j b i))) (by simp) (by simp [Ob.read]) (by simp [madeRow])))) .nil))))
        · refine EnvC.of_sub ?_ ?_
          · simp -implicitDefEqProofs only [s_s, argEnv, PastOK, PendOK, sel, isE, isSp, baseOK, opR, opnd, opnds, opndL, ofConst, look, putE, dstOK, guardL, binR, intOp, loadR, bad, bound, lenV, srcV, Ob.read, V.plain, V.one, V.cells, fillV, setMany, zeros, TK.agg, Sub, cellRes, loadV, bindE, Nat.reduceAdd, Nat.reduceEqDiff, Nat.reduceLT, Nat.reduceLeDiff, Nat.reduceMul, Nat.reduceSub, Nat.reduceDiv, Nat.reduceMod, Nat.reduceBEq, Nat.reduceBNe, reduceIte, reduceCtorEq, Int.reduceToNat, Int.reduceLT, Int.reduceLE, Int.reduceAdd, Int.reduceSub, Int.reduceMul, Int.reduceNeg, Int.reduceEq, Int.reduceNe, D_G, D_P, List.lookup, tys, intsV_len]
            try simp
          · simp [bddE, V.bdd]
    · have h' : i = a3 % 20 + 1 := by have := of_decide_eq_false h; omega
      simp -implicitDefEqProofs only [s_s, argEnv, PastOK, PendOK, sel, isE, isSp, baseOK, opR, opnd, opnds, opndL, ofConst, look, putE, dstOK, guardL, binR, intOp, loadR, bad, bound, lenV, srcV, Ob.read, V.plain, V.one, V.cells, fillV, setMany, zeros, TK.agg, Sub, cellRes, loadV, bindE, Nat.reduceAdd, Nat.reduceEqDiff, Nat.reduceLT, Nat.reduceLeDiff, Nat.reduceMul, Nat.reduceSub, Nat.reduceDiv, Nat.reduceMod, Nat.reduceBEq, Nat.reduceBNe, reduceIte, reduceCtorEq, Int.reduceToNat, Int.reduceLT, Int.reduceLE, Int.reduceAdd, Int.reduceSub, Int.reduceMul, Int.reduceNeg, Int.reduceEq, Int.reduceNe, D_G, D_P, List.lookup, tys, intsV_len]
      have hmr : ∀ r ∈ (List.range i).map (madeRow s k b), r.length = k ∧ ∀ x ∈ r, 0 ≤ x ∧ x < s := by
        intro r hr
        simp only [List.mem_map, List.mem_range] at hr
        obtain ⟨n, _, rfl⟩ := hr
        refine ⟨by simp [madeRow], fun x hx => ?_⟩
        simp only [madeRow, List.mem_map, List.mem_range] at hx
        obtain ⟨m, _, rfl⟩ := hx
        exact ⟨Int.natCast_nonneg _, Int.ofNat_lt.2 (Nat.mod_lt _ (by omega))⟩
      refine Post.rc (v := .agg [.int .i64 s, .slc (st.length + 3) i 0 i 1]) (by simp -implicitDefEqProofs only [s_s, argEnv, PastOK, PendOK, sel, isE, isSp, baseOK, opR, opnd, opnds, opndL, ofConst, look, putE, dstOK, guardL, binR, intOp, loadR, bad, bound, lenV, srcV, Ob.read, V.plain, V.one, V.cells, fillV, setMany, zeros, TK.agg, Sub, cellRes, loadV, bindE, Nat.reduceAdd, Nat.reduceEqDiff, Nat.reduceLT, Nat.reduceLeDiff, Nat.reduceMul, Nat.reduceSub, Nat.reduceDiv, Nat.reduceMod, Nat.reduceBEq, Nat.reduceBNe, reduceIte, reduceCtorEq, Int.reduceToNat, Int.reduceLT, Int.reduceLE, Int.reduceAdd, Int.reduceSub, Int.reduceMul, Int.reduceNeg, Int.reduceEq, Int.reduceNe, D_G, D_P, List.lookup, tys, intsV_len]) ⟨arrV s ((List.range i).map (madeRow s k b)), _, rfl, .agg (.cons (.keep rfl) (.cons (Conv.whole (by simp) (ob := .acc i (((List.range i).map (madeRow s k b)).map rowV)) (by simp) (by simp [Ob.read]) (by simp) (bdd_rows _ _)) .nil)), k, _, ⟨by omega, by omega, by omega, by omega, by simp; omega, by simp; omega, hmr⟩, by omega, by simp; omega, rfl⟩
  · have hk0 : ¬ a2 % 6 = 0 := by have := of_decide_eq_false h; omega
    have hq : ((a2 % 6 : Nat) : Int) = 1 ∨ ((a2 % 6 : Nat) : Int) = 2 ∨ ((a2 % 6 : Nat) : Int) = 3 ∨ ((a2 % 6 : Nat) : Int) = 4 ∨ ((a2 % 6 : Nat) : Int) = 5 := by omega
    have hsd : (decide ((s : Int) = 2) = true ∧ s = 2) ∨ decide ((s : Int) = 2) = false := by
      by_cases e : (s : Int) = 2
      · exact .inl ⟨by simp [e], by omega⟩
      · exact .inr (by simp [e])
    have hmin : (if (2 : Int) < (k : Int) then (2 : Int) else k) = ((min k 2 : Nat) : Int) := by split <;> omega
    rcases hq with hq | hq | hq | hq | hq
    · rcases hsd with ⟨hsd, hs2'⟩ | hsd
      all_goals
        simp -implicitDefEqProofs only [s_s, argEnv, PastOK, PendOK, sel, isE, isSp, baseOK, opR, opnd, opnds, opndL, ofConst, look, putE, dstOK, guardL, binR, intOp, loadR, bad, bound, lenV, srcV, Ob.read, V.plain, V.one, V.cells, fillV, setMany, zeros, TK.agg, Sub, cellRes, loadV, bindE, Nat.reduceAdd, Nat.reduceEqDiff, Nat.reduceLT, Nat.reduceLeDiff, Nat.reduceMul, Nat.reduceSub, Nat.reduceDiv, Nat.reduceMod, Nat.reduceBEq, Nat.reduceBNe, reduceIte, reduceCtorEq, Int.reduceToNat, Int.reduceLT, Int.reduceLE, Int.reduceAdd, Int.reduceSub, Int.reduceMul, Int.reduceNeg, Int.reduceEq, Int.reduceNe, D_G, D_P, List.lookup, tys, intsV_len, hq, hsd]
        refine Sp.call rfl rfl (linear_any s k 2 hs2.1 hs2.2 hk2.1 hk2.2 (by omega) (by omega) (pow2_le hs2.1 hs2.2) _ fun n RV a1 a2 a3 a4 => ?_)
        simp -implicitDefEqProofs only [s_s, argEnv, PastOK, PendOK, sel, isE, isSp, baseOK, opR, opnd, opnds, opndL, ofConst, look, putE, dstOK, guardL, binR, intOp, loadR, bad, bound, lenV, srcV, Ob.read, V.plain, V.one, V.cells, fillV, setMany, zeros, TK.agg, Sub, cellRes, loadV, bindE, Nat.reduceAdd, Nat.reduceEqDiff, Nat.reduceLT, Nat.reduceLeDiff, Nat.reduceMul, Nat.reduceSub, Nat.reduceDiv, Nat.reduceMod, Nat.reduceBEq, Nat.reduceBNe, reduceIte, reduceCtorEq, Int.reduceToNat, Int.reduceLT, Int.reduceLE, Int.reduceAdd, Int.reduceSub, Int.reduceMul, Int.reduceNeg, Int.reduceEq, Int.reduceNe, D_G, D_P, List.lookup, tys, intsV_len]
        simp -implicitDefEqProofs only [s_s, argEnv, PastOK, PendOK, sel, isE, isSp, baseOK, opR, opnd, opnds, opndL, ofConst, look, putE, dstOK, guardL, binR, intOp, loadR, bad, bound, lenV, srcV, Ob.read, V.plain, V.one, V.cells, fillV, setMany, zeros, TK.agg, Sub, cellRes, loadV, bindE, Nat.reduceAdd, Nat.reduceEqDiff, Nat.reduceLT, Nat.reduceLeDiff, Nat.reduceMul, Nat.reduceSub, Nat.reduceDiv, Nat.reduceMod, Nat.reduceBEq, Nat.reduceBNe, reduceIte, reduceCtorEq, Int.reduceToNat, Int.reduceLT, Int.reduceLE, Int.reduceAdd, Int.reduceSub, Int.reduceMul, Int.reduceNeg, Int.reduceEq, Int.reduceNe, D_G, D_P, List.lookup, tys, intsV_len, hmin]
        refine Sp.call rfl rfl (linear_any s (min k 2) (min k 2) hs2.1 hs2.2 (by omega) (by omega) (by omega) (by omega) (powm_le hs2.1 hs2.2 (by omega)) _ fun n RV a1 a2 a3 a4 => ?_)
        simp -implicitDefEqProofs only [s_s, argEnv, PastOK, PendOK, sel, isE, isSp, baseOK, opR, opnd, opnds, opndL, ofConst, look, putE, dstOK, guardL, binR, intOp, loadR, bad, bound, lenV, srcV, Ob.read, V.plain, V.one, V.cells, fillV, setMany, zeros, TK.agg, Sub, cellRes, loadV, bindE, Nat.reduceAdd, Nat.reduceEqDiff, Nat.reduceLT, Nat.reduceLeDiff, Nat.reduceMul, Nat.reduceSub, Nat.reduceDiv, Nat.reduceMod, Nat.reduceBEq, Nat.reduceBNe, reduceIte, reduceCtorEq, Int.reduceToNat, Int.reduceLT, Int.reduceLE, Int.reduceAdd, Int.reduceSub, Int.reduceMul, Int.reduceNeg, Int.reduceEq, Int.reduceNe, D_G, D_P, List.lookup, tys, intsV_len, hq]
        refine Post.rc (v := .agg [.int .i64 s, .slc (st.length + 4) 0 0 n 1]) (by simp -implicitDefEqProofs only [s_s, argEnv, PastOK, PendOK, sel, isE, isSp, baseOK, opR, opnd, opnds, opndL, ofConst, look, putE, dstOK, guardL, binR, intOp, loadR, bad, bound, lenV, srcV, Ob.read, V.plain, V.one, V.cells, fillV, setMany, zeros, TK.agg, Sub, cellRes, loadV, bindE, Nat.reduceAdd, Nat.reduceEqDiff, Nat.reduceLT, Nat.reduceLeDiff, Nat.reduceMul, Nat.reduceSub, Nat.reduceDiv, Nat.reduceMod, Nat.reduceBEq, Nat.reduceBNe, reduceIte, reduceCtorEq, Int.reduceToNat, Int.reduceLT, Int.reduceLE, Int.reduceAdd, Int.reduceSub, Int.reduceMul, Int.reduceNeg, Int.reduceEq, Int.reduceNe, D_G, D_P, List.lookup, tys, intsV_len]) ⟨arrV s RV, _, rfl, .agg (.cons (.keep rfl) (.cons (Conv.whole (by simp) (ob := .cells 0 (RV.map rowV)) (by simp) (by simp [Ob.read]) (by simp [a2]) (bdd_rows _ _)) .nil)), min k 2, _, ⟨by omega, by omega, by omega, by omega, by omega, by omega, a1⟩, by omega, by omega, rfl⟩
    · rcases hsd with ⟨hsd, hs2'⟩ | hsd
      · simp -implicitDefEqProofs only [s_s, argEnv, PastOK, PendOK, sel, isE, isSp, baseOK, opR, opnd, opnds, opndL, ofConst, look, putE, dstOK, guardL, binR, intOp, loadR, bad, bound, lenV, srcV, Ob.read, V.plain, V.one, V.cells, fillV, setMany, zeros, TK.agg, Sub, cellRes, loadV, bindE, Nat.reduceAdd, Nat.reduceEqDiff, Nat.reduceLT, Nat.reduceLeDiff, Nat.reduceMul, Nat.reduceSub, Nat.reduceDiv, Nat.reduceMod, Nat.reduceBEq, Nat.reduceBNe, reduceIte, reduceCtorEq, Int.reduceToNat, Int.reduceLT, Int.reduceLE, Int.reduceAdd, Int.reduceSub, Int.reduceMul, Int.reduceNeg, Int.reduceEq, Int.reduceNe, D_G, D_P, List.lookup, tys, intsV_len, hq, hsd]
        refine Sp.call rfl rfl (linear_any s k 3 hs2.1 hs2.2 hk2.1 hk2.2 (by omega) (by omega) (by rw [hs2']; decide) _ fun n RV a1 a2 a3' a4 => ?_)
        simp -implicitDefEqProofs only [s_s, argEnv, PastOK, PendOK, sel, isE, isSp, baseOK, opR, opnd, opnds, opndL, ofConst, look, putE, dstOK, guardL, binR, intOp, loadR, bad, bound, lenV, srcV, Ob.read, V.plain, V.one, V.cells, fillV, setMany, zeros, TK.agg, Sub, cellRes, loadV, bindE, Nat.reduceAdd, Nat.reduceEqDiff, Nat.reduceLT, Nat.reduceLeDiff, Nat.reduceMul, Nat.reduceSub, Nat.reduceDiv, Nat.reduceMod, Nat.reduceBEq, Nat.reduceBNe, reduceIte, reduceCtorEq, Int.reduceToNat, Int.reduceLT, Int.reduceLE, Int.reduceAdd, Int.reduceSub, Int.reduceMul, Int.reduceNeg, Int.reduceEq, Int.reduceNe, D_G, D_P, List.lookup, tys, intsV_len, hq]
        refine Post.rc (v := .agg [.int .i64 s, .slc (st.length + 3) 0 0 n 1]) (by simp -implicitDefEqProofs only [s_s, argEnv, PastOK, PendOK, sel, isE, isSp, baseOK, opR, opnd, opnds, opndL, ofConst, look, putE, dstOK, guardL, binR, intOp, loadR, bad, bound, lenV, srcV, Ob.read, V.plain, V.one, V.cells, fillV, setMany, zeros, TK.agg, Sub, cellRes, loadV, bindE, Nat.reduceAdd, Nat.reduceEqDiff, Nat.reduceLT, Nat.reduceLeDiff, Nat.reduceMul, Nat.reduceSub, Nat.reduceDiv, Nat.reduceMod, Nat.reduceBEq, Nat.reduceBNe, reduceIte, reduceCtorEq, Int.reduceToNat, Int.reduceLT, Int.reduceLE, Int.reduceAdd, Int.reduceSub, Int.reduceMul, Int.reduceNeg, Int.reduceEq, Int.reduceNe, D_G, D_P, List.lookup, tys, intsV_len]) ⟨arrV s RV, _, rfl, .agg (.cons (.keep rfl) (.cons (Conv.whole (by simp) (ob := .cells 0 (RV.map rowV)) (by simp) (by simp [Ob.read]) (by simp [a2]) (bdd_rows _ _)) .nil)), k, _, ⟨by omega, by omega, by omega, by omega, by omega, by omega, a1⟩, by omega, by omega, rfl⟩
      · simp -implicitDefEqProofs only [s_s, argEnv, PastOK, PendOK, sel, isE, isSp, baseOK, opR, opnd, opnds, opndL, ofConst, look, putE, dstOK, guardL, binR, intOp, loadR, bad, bound, lenV, srcV, Ob.read, V.plain, V.one, V.cells, fillV, setMany, zeros, TK.agg, Sub, cellRes, loadV, bindE, Nat.reduceAdd, Nat.reduceEqDiff, Nat.reduceLT, Nat.reduceLeDiff, Nat.reduceMul, Nat.reduceSub, Nat.reduceDiv, Nat.reduceMod, Nat.reduceBEq, Nat.reduceBNe, reduceIte, reduceCtorEq, Int.reduceToNat, Int.reduceLT, Int.reduceLE, Int.reduceAdd, Int.reduceSub, Int.reduceMul, Int.reduceNeg, Int.reduceEq, Int.reduceNe, D_G, D_P, List.lookup, tys, intsV_len, hq, hsd]
        refine Sp.call rfl rfl (linear_any s k 2 hs2.1 hs2.2 hk2.1 hk2.2 (by omega) (by omega) (pow2_le hs2.1 hs2.2) _ fun n RV a1 a2 a3' a4 => ?_)
        simp -implicitDefEqProofs only [s_s, argEnv, PastOK, PendOK, sel, isE, isSp, baseOK, opR, opnd, opnds, opndL, ofConst, look, putE, dstOK, guardL, binR, intOp, loadR, bad, bound, lenV, srcV, Ob.read, V.plain, V.one, V.cells, fillV, setMany, zeros, TK.agg, Sub, cellRes, loadV, bindE, Nat.reduceAdd, Nat.reduceEqDiff, Nat.reduceLT, Nat.reduceLeDiff, Nat.reduceMul, Nat.reduceSub, Nat.reduceDiv, Nat.reduceMod, Nat.reduceBEq, Nat.reduceBNe, reduceIte, reduceCtorEq, Int.reduceToNat, Int.reduceLT, Int.reduceLE, Int.reduceAdd, Int.reduceSub, Int.reduceMul, Int.reduceNeg, Int.reduceEq, Int.reduceNe, D_G, D_P, List.lookup, tys, intsV_len, hq]
        refine Post.rc (v := .agg [.int .i64 s, .slc (st.length + 3) 0 0 n 1]) (by simp -implicitDefEqProofs only [s_s, argEnv, PastOK, PendOK, sel, isE, isSp, baseOK, opR, opnd, opnds, opndL, ofConst, look, putE, dstOK, guardL, binR, intOp, loadR, bad, bound, lenV, srcV, Ob.read, V.plain, V.one, V.cells, fillV, setMany, zeros, TK.agg, Sub, cellRes, loadV, bindE, Nat.reduceAdd, Nat.reduceEqDiff, Nat.reduceLT, Nat.reduceLeDiff, Nat.reduceMul, Nat.reduceSub, Nat.reduceDiv, Nat.reduceMod, Nat.reduceBEq, Nat.reduceBNe, reduceIte, reduceCtorEq, Int.reduceToNat, Int.reduceLT, Int.reduceLE, Int.reduceAdd, Int.reduceSub, Int.reduceMul, Int.reduceNeg, Int.reduceEq, Int.reduceNe, D_G, D_P, List.lookup, tys, intsV_len]) ⟨arrV s RV, _, rfl, .agg (.cons (.keep rfl) (.cons (Conv.whole (by simp) (ob := .cells 0 (RV.map rowV)) (by simp) (by simp [Ob.read]) (by simp [a2]) (bdd_rows _ _)) .nil)), k, _, ⟨by omega, by omega, by omega, by omega, by omega, by omega, a1⟩, by omega, by omega, rfl⟩
    · rcases hsd with ⟨hsd, hs2'⟩ | hsd
      · simp -implicitDefEqProofs only [s_s, argEnv, PastOK, PendOK, sel, isE, isSp, baseOK, opR, opnd, opnds, opndL, ofConst, look, putE, dstOK, guardL, binR, intOp, loadR, bad, bound, lenV, srcV, Ob.read, V.plain, V.one, V.cells, fillV, setMany, zeros, TK.agg, Sub, cellRes, loadV, bindE, Nat.reduceAdd, Nat.reduceEqDiff, Nat.reduceLT, Nat.reduceLeDiff, Nat.reduceMul, Nat.reduceSub, Nat.reduceDiv, Nat.reduceMod, Nat.reduceBEq, Nat.reduceBNe, reduceIte, reduceCtorEq, Int.reduceToNat, Int.reduceLT, Int.reduceLE, Int.reduceAdd, Int.reduceSub, Int.reduceMul, Int.reduceNeg, Int.reduceEq, Int.reduceNe, D_G, D_P, List.lookup, tys, intsV_len, hq, hsd]
        refine Sp.call rfl rfl (linear_any s k 3 hs2.1 hs2.2 hk2.1 hk2.2 (by omega) (by omega) (by rw [hs2']; decide) _ fun n RV a1 a2 a3' a4 => ?_)
        simp -implicitDefEqProofs only [s_s, argEnv, PastOK, PendOK, sel, isE, isSp, baseOK, opR, opnd, opnds, opndL, ofConst, look, putE, dstOK, guardL, binR, intOp, loadR, bad, bound, lenV, srcV, Ob.read, V.plain, V.one, V.cells, fillV, setMany, zeros, TK.agg, Sub, cellRes, loadV, bindE, Nat.reduceAdd, Nat.reduceEqDiff, Nat.reduceLT, Nat.reduceLeDiff, Nat.reduceMul, Nat.reduceSub, Nat.reduceDiv, Nat.reduceMod, Nat.reduceBEq, Nat.reduceBNe, reduceIte, reduceCtorEq, Int.reduceToNat, Int.reduceLT, Int.reduceLE, Int.reduceAdd, Int.reduceSub, Int.reduceMul, Int.reduceNeg, Int.reduceEq, Int.reduceNe, D_G, D_P, List.lookup, tys, intsV_len, hq, e8]
        have hm1 : a3 % n < n := Nat.mod_lt _ (by omega)
        have hmd := tmodN a3 n
        obtain ⟨i, hi⟩ : ∃ i, i = a3 % n := ⟨_, rfl⟩
        rw [← hi] at hm1 hmd
        obtain ⟨r, hr⟩ : ∃ r, RV[i]? = some r := ⟨_, List.getElem?_eq_getElem (by omega)⟩
        have hrv : (RV.map rowV)[i]? = some (rowV r) := by simp [hr]
        obtain ⟨r1, r2⟩ := a1 r (List.mem_of_getElem? hr)
        obtain ⟨x0, hx0⟩ : ∃ x, r[0]? = some x := ⟨_, List.getElem?_eq_getElem (by omega)⟩
        have hset : ∀ v, ((RV.map rowV).set i v)[i]? = some v := fun v => List.getElem?_set_self (by simp; omega)
        have hil : (intsV r).length = k := by simp [intsV, r1]
        have hv4 := tmodN (atN b 0) s
        simp -implicitDefEqProofs only [s_s, argEnv, PastOK, PendOK, sel, isE, isSp, baseOK, opR, opnd, opnds, opndL, ofConst, look, putE, dstOK, guardL, binR, intOp, loadR, bad, bound, lenV, srcV, Ob.read, V.plain, V.one, V.cells, fillV, setMany, zeros, TK.agg, Sub, cellRes, loadV, bindE, Nat.reduceAdd, Nat.reduceEqDiff, Nat.reduceLT, Nat.reduceLeDiff, Nat.reduceMul, Nat.reduceSub, Nat.reduceDiv, Nat.reduceMod, Nat.reduceBEq, Nat.reduceBNe, reduceIte, reduceCtorEq, Int.reduceToNat, Int.reduceLT, Int.reduceLE, Int.reduceAdd, Int.reduceSub, Int.reduceMul, Int.reduceNeg, Int.reduceEq, Int.reduceNe, D_G, D_P, List.lookup, tys, intsV_len, hmd]
        repeat (refine And.intro (by first | omega | rfl | trivial | (simp; done) | (simp; omega)) ?_)
        refine WP.drawF [(0, 0, 2, [6]), (1, 0, 2, [97]), (0, 0, 2, [11]), (0, 0, 1, []), (0, 0, 1, [6]), (16, 0, 1, [101]), (0, 0, 1, [11]), (112, 0, 1, [102, 103]), (240, 0, 1, [104]), (504, 1, 2, [100, 105]), (1023, 2, 2, [98, 99]), (2047, 2, 3, [107, 106])] D_mixed (by decide +kernel) ?_
        simp -implicitDefEqProofs only [s_s, argEnv, PastOK, PendOK, sel, isE, isSp, baseOK, opR, opnd, opnds, opndL, ofConst, look, putE, dstOK, guardL, binR, intOp, loadR, bad, bound, lenV, srcV, Ob.read, V.plain, V.one, V.cells, fillV, setMany, zeros, TK.agg, Sub, cellRes, loadV, bindE, Nat.reduceAdd, Nat.reduceEqDiff, Nat.reduceLT, Nat.reduceLeDiff, Nat.reduceMul, Nat.reduceSub, Nat.reduceDiv, Nat.reduceMod, Nat.reduceBEq, Nat.reduceBNe, reduceIte, reduceCtorEq, Int.reduceToNat, Int.reduceLT, Int.reduceLE, Int.reduceAdd, Int.reduceSub, Int.reduceMul, Int.reduceNeg, Int.reduceEq, Int.reduceNe, D_G, D_P, List.lookup, tys, intsV_len, hrv, rowV, hil, intsV_len, r1]
        repeat (refine And.intro (by first | omega | rfl | trivial | (simp; done) | (simp; omega)) ?_)
        refine WP.drawF [(0, 0, 1, [6]), (1, 0, 1, [108]), (0, 0, 1, [11]), (7, 0, 1, [109, 110]), (15, 0, 1, [111]), (0, 0, 0, [1]), (32, 0, 0, [113]), (96, 0, 1, [114]), (0, 0, 1, [3]), (480, 1, 1, [115, 116]), (1023, 1, 1, [112]), (2047, 1, 2, [118, 117])] D_mixed (by decide +kernel) ?_
        simp -implicitDefEqProofs only [s_s, argEnv, PastOK, PendOK, sel, isE, isSp, baseOK, opR, opnd, opnds, opndL, ofConst, look, putE, dstOK, guardL, binR, intOp, loadR, bad, bound, lenV, srcV, Ob.read, V.plain, V.one, V.cells, fillV, setMany, zeros, TK.agg, Sub, cellRes, loadV, bindE, Nat.reduceAdd, Nat.reduceEqDiff, Nat.reduceLT, Nat.reduceLeDiff, Nat.reduceMul, Nat.reduceSub, Nat.reduceDiv, Nat.reduceMod, Nat.reduceBEq, Nat.reduceBNe, reduceIte, reduceCtorEq, Int.reduceToNat, Int.reduceLT, Int.reduceLE, Int.reduceAdd, Int.reduceSub, Int.reduceMul, Int.reduceNeg, Int.reduceEq, Int.reduceNe, D_G, D_P, List.lookup, tys, intsV_len, hset]
        repeat (refine And.intro (by first | omega | rfl | trivial | (simp; done) | (simp; omega)) ?_)
        refine SpD.call rfl rfl (at_spec0 b hb _) ?_
        simp -implicitDefEqProofs only [s_s, argEnv, PastOK, PendOK, sel, isE, isSp, baseOK, opR, opnd, opnds, opndL, ofConst, look, putE, dstOK, guardL, binR, intOp, loadR, bad, bound, lenV, srcV, Ob.read, V.plain, V.one, V.cells, fillV, setMany, zeros, TK.agg, Sub, cellRes, loadV, bindE, Nat.reduceAdd, Nat.reduceEqDiff, Nat.reduceLT, Nat.reduceLeDiff, Nat.reduceMul, Nat.reduceSub, Nat.reduceDiv, Nat.reduceMod, Nat.reduceBEq, Nat.reduceBNe, reduceIte, reduceCtorEq, Int.reduceToNat, Int.reduceLT, Int.reduceLE, Int.reduceAdd, Int.reduceSub, Int.reduceMul, Int.reduceNeg, Int.reduceEq, Int.reduceNe, D_G, D_P, List.lookup, tys, intsV_len, hv4, intsV_len, r1]
        refine And.intro ⟨⟨by simp; omega, by rw [hset]; rfl⟩, by omega, by omega⟩ ?_
        repeat (refine And.intro (by first | omega | rfl | trivial | (simp; done) | (simp; omega)) ?_)
        try simp -implicitDefEqProofs only [s_s, argEnv, PastOK, PendOK, sel, isE, isSp, baseOK, opR, opnd, opnds, opndL, ofConst, look, putE, dstOK, guardL, binR, intOp, loadR, bad, bound, lenV, srcV, Ob.read, V.plain, V.one, V.cells, fillV, setMany, zeros, TK.agg, Sub, cellRes, loadV, bindE, Nat.reduceAdd, Nat.reduceEqDiff, Nat.reduceLT, Nat.reduceLeDiff, Nat.reduceMul, Nat.reduceSub, Nat.reduceDiv, Nat.reduceMod, Nat.reduceBEq, Nat.reduceBNe, reduceIte, reduceCtorEq, Int.reduceToNat, Int.reduceLT, Int.reduceLE, Int.reduceAdd, Int.reduceSub, Int.reduceMul, Int.reduceNeg, Int.reduceEq, Int.reduceNe, D_G, D_P, List.lookup, tys, intsV_len, hq]
        refine Post.rc (v := .agg [.int .i64 s, .slc (st.length + 3) 0 0 n 1]) (by simp -implicitDefEqProofs only [s_s, argEnv, PastOK, PendOK, sel, isE, isSp, baseOK, opR, opnd, opnds, opndL, ofConst, look, putE, dstOK, guardL, binR, intOp, loadR, bad, bound, lenV, srcV, Ob.read, V.plain, V.one, V.cells, fillV, setMany, zeros, TK.agg, Sub, cellRes, loadV, bindE, Nat.reduceAdd, Nat.reduceEqDiff, Nat.reduceLT, Nat.reduceLeDiff, Nat.reduceMul, Nat.reduceSub, Nat.reduceDiv, Nat.reduceMod, Nat.reduceBEq, Nat.reduceBNe, reduceIte, reduceCtorEq, Int.reduceToNat, Int.reduceLT, Int.reduceLE, Int.reduceAdd, Int.reduceSub, Int.reduceMul, Int.reduceNeg, Int.reduceEq, Int.reduceNe, D_G, D_P, List.lookup, tys, intsV_len]) ⟨arrV s (RV.set i (r.set 0 (atN b 0 % s : Nat))), _, rfl, .agg (.cons (.keep rfl) (.cons (.slc (by simp) (ob := .cells 0 ((RV.map rowV).set i (.slc (st.length + 4) 0 0 k 1))) (by simp) (by simp [Ob.read]; rfl) (by simp [a2]) ?_) .nil)), k, _, ⟨by omega, by omega, by omega, by omega, by simp; omega, by simp; omega, ?_⟩, by omega, by simp; omega, rfl⟩
        · rw [List.drop_zero, List.take_of_length_le (by simp; omega), List.map_set]
          exact ConvL.set (Conv.row (by simp) (ob := .cells 0 (intsV (r.set 0 (atN b 0 % s : Nat)))) (by simp [intsV, List.map_set]) (by simp [Ob.read]) (by simp [r1])) (ConvL.refl (bdd_rows _ _))
        · intro q hq2
          rcases List.mem_or_eq_of_mem_set hq2 with hq2 | rfl
          · exact a1 q hq2
          · refine ⟨by simp [r1], fun x hx => ?_⟩
            rcases List.mem_or_eq_of_mem_set hx with hx | rfl
            · exact r2 x hx
            · exact ⟨Int.natCast_nonneg _, Int.ofNat_lt.2 (Nat.mod_lt _ (by omega))⟩
      · simp -implicitDefEqProofs only [s_s, argEnv, PastOK, PendOK, sel, isE, isSp, baseOK, opR, opnd, opnds, opndL, ofConst, look, putE, dstOK, guardL, binR, intOp, loadR, bad, bound, lenV, srcV, Ob.read, V.plain, V.one, V.cells, fillV, setMany, zeros, TK.agg, Sub, cellRes, loadV, bindE, Nat.reduceAdd, Nat.reduceEqDiff, Nat.reduceLT, Nat.reduceLeDiff, Nat.reduceMul, Nat.reduceSub, Nat.reduceDiv, Nat.reduceMod, Nat.reduceBEq, Nat.reduceBNe, reduceIte, reduceCtorEq, Int.reduceToNat, Int.reduceLT, Int.reduceLE, Int.reduceAdd, Int.reduceSub, Int.reduceMul, Int.reduceNeg, Int.reduceEq, Int.reduceNe, D_G, D_P, List.lookup, tys, intsV_len, hq, hsd]
        refine Sp.call rfl rfl (linear_any s k 2 hs2.1 hs2.2 hk2.1 hk2.2 (by omega) (by omega) (pow2_le hs2.1 hs2.2) _ fun n RV a1 a2 a3' a4 => ?_)
        simp -implicitDefEqProofs only [s_s, argEnv, PastOK, PendOK, sel, isE, isSp, baseOK, opR, opnd, opnds, opndL, ofConst, look, putE, dstOK, guardL, binR, intOp, loadR, bad, bound, lenV, srcV, Ob.read, V.plain, V.one, V.cells, fillV, setMany, zeros, TK.agg, Sub, cellRes, loadV, bindE, Nat.reduceAdd, Nat.reduceEqDiff, Nat.reduceLT, Nat.reduceLeDiff, Nat.reduceMul, Nat.reduceSub, Nat.reduceDiv, Nat.reduceMod, Nat.reduceBEq, Nat.reduceBNe, reduceIte, reduceCtorEq, Int.reduceToNat, Int.reduceLT, Int.reduceLE, Int.reduceAdd, Int.reduceSub, Int.reduceMul, Int.reduceNeg, Int.reduceEq, Int.reduceNe, D_G, D_P, List.lookup, tys, intsV_len, hq, e8]
        have hm1 : a3 % n < n := Nat.mod_lt _ (by omega)
        have hmd := tmodN a3 n
        obtain ⟨i, hi⟩ : ∃ i, i = a3 % n := ⟨_, rfl⟩
        rw [← hi] at hm1 hmd
        obtain ⟨r, hr⟩ : ∃ r, RV[i]? = some r := ⟨_, List.getElem?_eq_getElem (by omega)⟩
        have hrv : (RV.map rowV)[i]? = some (rowV r) := by simp [hr]
        obtain ⟨r1, r2⟩ := a1 r (List.mem_of_getElem? hr)
        obtain ⟨x0, hx0⟩ : ∃ x, r[0]? = some x := ⟨_, List.getElem?_eq_getElem (by omega)⟩
        have hset : ∀ v, ((RV.map rowV).set i v)[i]? = some v := fun v => List.getElem?_set_self (by simp; omega)
        have hil : (intsV r).length = k := by simp [intsV, r1]
        have hv4 := tmodN (atN b 0) s
        simp -implicitDefEqProofs only [s_s, argEnv, PastOK, PendOK, sel, isE, isSp, baseOK, opR, opnd, opnds, opndL, ofConst, look, putE, dstOK, guardL, binR, intOp, loadR, bad, bound, lenV, srcV, Ob.read, V.plain, V.one, V.cells, fillV, setMany, zeros, TK.agg, Sub, cellRes, loadV, bindE, Nat.reduceAdd, Nat.reduceEqDiff, Nat.reduceLT, Nat.reduceLeDiff, Nat.reduceMul, Nat.reduceSub, Nat.reduceDiv, Nat.reduceMod, Nat.reduceBEq, Nat.reduceBNe, reduceIte, reduceCtorEq, Int.reduceToNat, Int.reduceLT, Int.reduceLE, Int.reduceAdd, Int.reduceSub, Int.reduceMul, Int.reduceNeg, Int.reduceEq, Int.reduceNe, D_G, D_P, List.lookup, tys, intsV_len, hmd]
        repeat (refine And.intro (by first | omega | rfl | trivial | (simp; done) | (simp; omega)) ?_)
        refine WP.drawF [(0, 0, 2, [6]), (1, 0, 2, [97]), (0, 0, 2, [11]), (0, 0, 1, []), (0, 0, 1, [6]), (16, 0, 1, [101]), (0, 0, 1, [11]), (112, 0, 1, [102, 103]), (240, 0, 1, [104]), (504, 1, 2, [100, 105]), (1023, 2, 2, [98, 99]), (2047, 2, 3, [107, 106])] D_mixed (by decide +kernel) ?_
        simp -implicitDefEqProofs only [s_s, argEnv, PastOK, PendOK, sel, isE, isSp, baseOK, opR, opnd, opnds, opndL, ofConst, look, putE, dstOK, guardL, binR, intOp, loadR, bad, bound, lenV, srcV, Ob.read, V.plain, V.one, V.cells, fillV, setMany, zeros, TK.agg, Sub, cellRes, loadV, bindE, Nat.reduceAdd, Nat.reduceEqDiff, Nat.reduceLT, Nat.reduceLeDiff, Nat.reduceMul, Nat.reduceSub, Nat.reduceDiv, Nat.reduceMod, Nat.reduceBEq, Nat.reduceBNe, reduceIte, reduceCtorEq, Int.reduceToNat, Int.reduceLT, Int.reduceLE, Int.reduceAdd, Int.reduceSub, Int.reduceMul, Int.reduceNeg, Int.reduceEq, Int.reduceNe, D_G, D_P, List.lookup, tys, intsV_len, hrv, rowV, hil, intsV_len, r1]
        repeat (refine And.intro (by first | omega | rfl | trivial | (simp; done) | (simp; omega)) ?_)
        refine WP.drawF [(0, 0, 1, [6]), (1, 0, 1, [108]), (0, 0, 1, [11]), (7, 0, 1, [109, 110]), (15, 0, 1, [111]), (0, 0, 0, [1]), (32, 0, 0, [113]), (96, 0, 1, [114]), (0, 0, 1, [3]), (480, 1, 1, [115, 116]), (1023, 1, 1, [112]), (2047, 1, 2, [118, 117])] D_mixed (by decide +kernel) ?_
        simp -implicitDefEqProofs only [s_s, argEnv, PastOK, PendOK, sel, isE, isSp, baseOK, opR, opnd, opnds, opndL, ofConst, look, putE, dstOK, guardL, binR, intOp, loadR, bad, bound, lenV, srcV, Ob.read, V.plain, V.one, V.cells, fillV, setMany, zeros, TK.agg, Sub, cellRes, loadV, bindE, Nat.reduceAdd, Nat.reduceEqDiff, Nat.reduceLT, Nat.reduceLeDiff, Nat.reduceMul, Nat.reduceSub, Nat.reduceDiv, Nat.reduceMod, Nat.reduceBEq, Nat.reduceBNe, reduceIte, reduceCtorEq, Int.reduceToNat, Int.reduceLT, Int.reduceLE, Int.reduceAdd, Int.reduceSub, Int.reduceMul, Int.reduceNeg, Int.reduceEq, Int.reduceNe, D_G, D_P, List.lookup, tys, intsV_len, hset]
        repeat (refine And.intro (by first | omega | rfl | trivial | (simp; done) | (simp; omega)) ?_)
        refine SpD.call rfl rfl (at_spec0 b hb _) ?_
        simp -implicitDefEqProofs only [s_s, argEnv, PastOK, PendOK, sel, isE, isSp, baseOK, opR, opnd, opnds, opndL, ofConst, look, putE, dstOK, guardL, binR, intOp, loadR, bad, bound, lenV, srcV, Ob.read, V.plain, V.one, V.cells, fillV, setMany, zeros, TK.agg, Sub, cellRes, loadV, bindE, Nat.reduceAdd, Nat.reduceEqDiff, Nat.reduceLT, Nat.reduceLeDiff, Nat.reduceMul, Nat.reduceSub, Nat.reduceDiv, Nat.reduceMod, Nat.reduceBEq, Nat.reduceBNe, reduceIte, reduceCtorEq, Int.reduceToNat, Int.reduceLT, Int.reduceLE, Int.reduceAdd, Int.reduceSub, Int.reduceMul, Int.reduceNeg, Int.reduceEq, Int.reduceNe, D_G, D_P, List.lookup, tys, intsV_len, hv4, intsV_len, r1]
        refine And.intro ⟨⟨by simp; omega, by rw [hset]; rfl⟩, by omega, by omega⟩ ?_
        repeat (refine And.intro (by first | omega | rfl | trivial | (simp; done) | (simp; omega)) ?_)
        try simp -implicitDefEqProofs only [s_s, argEnv, PastOK, PendOK, sel, isE, isSp, baseOK, opR, opnd, opnds, opndL, ofConst, look, putE, dstOK, guardL, binR, intOp, loadR, bad, bound, lenV, srcV, Ob.read, V.plain, V.one, V.cells, fillV, setMany, zeros, TK.agg, Sub, cellRes, loadV, bindE, Nat.reduceAdd, Nat.reduceEqDiff, Nat.reduceLT, Nat.reduceLeDiff, Nat.reduceMul, Nat.reduceSub, Nat.reduceDiv, Nat.reduceMod, Nat.reduceBEq, Nat.reduceBNe, reduceIte, reduceCtorEq, Int.reduceToNat, Int.reduceLT, Int.reduceLE, Int.reduceAdd, Int.reduceSub, Int.reduceMul, Int.reduceNeg, Int.reduceEq, Int.reduceNe, D_G, D_P, List.lookup, tys, intsV_len, hq]
        refine Post.rc (v := .agg [.int .i64 s, .slc (st.length + 3) 0 0 n 1]) (by simp -implicitDefEqProofs only [s_s, argEnv, PastOK, PendOK, sel, isE, isSp, baseOK, opR, opnd, opnds, opndL, ofConst, look, putE, dstOK, guardL, binR, intOp, loadR, bad, bound, lenV, srcV, Ob.read, V.plain, V.one, V.cells, fillV, setMany, zeros, TK.agg, Sub, cellRes, loadV, bindE, Nat.reduceAdd, Nat.reduceEqDiff, Nat.reduceLT, Nat.reduceLeDiff, Nat.reduceMul, Nat.reduceSub, Nat.reduceDiv, Nat.reduceMod, Nat.reduceBEq, Nat.reduceBNe, reduceIte, reduceCtorEq, Int.reduceToNat, Int.reduceLT, Int.reduceLE, Int.reduceAdd, Int.reduceSub, Int.reduceMul, Int.reduceNeg, Int.reduceEq, Int.reduceNe, D_G, D_P, List.lookup, tys, intsV_len]) ⟨arrV s (RV.set i (r.set 0 (atN b 0 % s : Nat))), _, rfl, .agg (.cons (.keep rfl) (.cons (.slc (by simp) (ob := .cells 0 ((RV.map rowV).set i (.slc (st.length + 4) 0 0 k 1))) (by simp) (by simp [Ob.read]; rfl) (by simp [a2]) ?_) .nil)), k, _, ⟨by omega, by omega, by omega, by omega, by simp; omega, by simp; omega, ?_⟩, by omega, by simp; omega, rfl⟩
        · rw [List.drop_zero, List.take_of_length_le (by simp; omega), List.map_set]
          exact ConvL.set (Conv.row (by simp) (ob := .cells 0 (intsV (r.set 0 (atN b 0 % s : Nat)))) (by simp [intsV, List.map_set]) (by simp [Ob.read]) (by simp [r1])) (ConvL.refl (bdd_rows _ _))
        · intro q hq2
          rcases List.mem_or_eq_of_mem_set hq2 with hq2 | rfl
          · exact a1 q hq2
          · refine ⟨by simp [r1], fun x hx => ?_⟩
            rcases List.mem_or_eq_of_mem_set hx with hx | rfl
            · exact r2 x hx
            · exact ⟨Int.natCast_nonneg _, Int.ofNat_lt.2 (Nat.mod_lt _ (by omega))⟩
    · rcases hsd with ⟨hsd, hs2'⟩ | hsd
      all_goals
        simp -implicitDefEqProofs only [s_s, argEnv, PastOK, PendOK, sel, isE, isSp, baseOK, opR, opnd, opnds, opndL, ofConst, look, putE, dstOK, guardL, binR, intOp, loadR, bad, bound, lenV, srcV, Ob.read, V.plain, V.one, V.cells, fillV, setMany, zeros, TK.agg, Sub, cellRes, loadV, bindE, Nat.reduceAdd, Nat.reduceEqDiff, Nat.reduceLT, Nat.reduceLeDiff, Nat.reduceMul, Nat.reduceSub, Nat.reduceDiv, Nat.reduceMod, Nat.reduceBEq, Nat.reduceBNe, reduceIte, reduceCtorEq, Int.reduceToNat, Int.reduceLT, Int.reduceLE, Int.reduceAdd, Int.reduceSub, Int.reduceMul, Int.reduceNeg, Int.reduceEq, Int.reduceNe, D_G, D_P, List.lookup, tys, intsV_len, hq, hsd]
        refine Sp.call rfl rfl (linear_any s k 2 hs2.1 hs2.2 hk2.1 hk2.2 (by omega) (by omega) (pow2_le hs2.1 hs2.2) _ fun n RV a1 a2 a3' a4 => ?_)
        simp -implicitDefEqProofs only [s_s, argEnv, PastOK, PendOK, sel, isE, isSp, baseOK, opR, opnd, opnds, opndL, ofConst, look, putE, dstOK, guardL, binR, intOp, loadR, bad, bound, lenV, srcV, Ob.read, V.plain, V.one, V.cells, fillV, setMany, zeros, TK.agg, Sub, cellRes, loadV, bindE, Nat.reduceAdd, Nat.reduceEqDiff, Nat.reduceLT, Nat.reduceLeDiff, Nat.reduceMul, Nat.reduceSub, Nat.reduceDiv, Nat.reduceMod, Nat.reduceBEq, Nat.reduceBNe, reduceIte, reduceCtorEq, Int.reduceToNat, Int.reduceLT, Int.reduceLE, Int.reduceAdd, Int.reduceSub, Int.reduceMul, Int.reduceNeg, Int.reduceEq, Int.reduceNe, D_G, D_P, List.lookup, tys, intsV_len, hq, e8]
        refine WP.drawF [(0, 0, 1, [6]), (1, 0, 1, [121]), (0, 0, 0, [3]), (0, 0, 0, [4]), (0, 0, 0, [10]), (28, 0, 1, [123, 124, 125]), (63, 1, 2, [122, 126]), (127, 2, 2, [6]), (255, 2, 3, [128, 127])] D_mixed (by decide +kernel) ?_
        simp -implicitDefEqProofs only [s_s, argEnv, PastOK, PendOK, sel, isE, isSp, baseOK, opR, opnd, opnds, opndL, ofConst, look, putE, dstOK, guardL, binR, intOp, loadR, bad, bound, lenV, srcV, Ob.read, V.plain, V.one, V.cells, fillV, setMany, zeros, TK.agg, Sub, cellRes, loadV, bindE, Nat.reduceAdd, Nat.reduceEqDiff, Nat.reduceLT, Nat.reduceLeDiff, Nat.reduceMul, Nat.reduceSub, Nat.reduceDiv, Nat.reduceMod, Nat.reduceBEq, Nat.reduceBNe, reduceIte, reduceCtorEq, Int.reduceToNat, Int.reduceLT, Int.reduceLE, Int.reduceAdd, Int.reduceSub, Int.reduceMul, Int.reduceNeg, Int.reduceEq, Int.reduceNe, D_G, D_P, List.lookup, tys, intsV_len]
        refine SpD.call rfl rfl (linear_spec s k 2 hs2.1 hs2.2 hk2.1 hk2.2 (by omega) (by omega) _ ⟨rfl, rfl⟩) ?_
        obtain ⟨l1, l2⟩ := linRows_ok s k 2 (by omega) (by omega)
        have l3 : s ^ 2 ≤ 16 := pow2_le hs2.1 hs2.2
        have l4 : 0 < s ^ 2 := Nat.pow_pos (by omega)
        obtain ⟨m, hm⟩ : ∃ m, m = s ^ 2 := ⟨_, rfl⟩
        obtain ⟨RW, hRW⟩ : ∃ RW, RW = linRows s k 2 := ⟨_, rfl⟩
        rw [← hm, ← hRW] at l1
        rw [← hRW] at l2
        rw [← hm] at l3 l4
        rw [← hm, ← hRW]
        have htake : (RW.map rowV).take m = RW.map rowV := List.take_of_length_le (by simp; omega)
        simp -implicitDefEqProofs only [s_s, argEnv, PastOK, PendOK, sel, isE, isSp, baseOK, opR, opnd, opnds, opndL, ofConst, look, putE, dstOK, guardL, binR, intOp, loadR, bad, bound, lenV, srcV, Ob.read, V.plain, V.one, V.cells, fillV, setMany, zeros, TK.agg, Sub, cellRes, loadV, bindE, Nat.reduceAdd, Nat.reduceEqDiff, Nat.reduceLT, Nat.reduceLeDiff, Nat.reduceMul, Nat.reduceSub, Nat.reduceDiv, Nat.reduceMod, Nat.reduceBEq, Nat.reduceBNe, reduceIte, reduceCtorEq, Int.reduceToNat, Int.reduceLT, Int.reduceLE, Int.reduceAdd, Int.reduceSub, Int.reduceMul, Int.reduceNeg, Int.reduceEq, Int.reduceNe, D_G, D_P, List.lookup, tys, intsV_len, l1, a2, htake]
        repeat (refine And.intro (by first | omega | rfl | trivial | (simp; done) | (simp; omega)) ?_)
        try simp -implicitDefEqProofs only [s_s, argEnv, PastOK, PendOK, sel, isE, isSp, baseOK, opR, opnd, opnds, opndL, ofConst, look, putE, dstOK, guardL, binR, intOp, loadR, bad, bound, lenV, srcV, Ob.read, V.plain, V.one, V.cells, fillV, setMany, zeros, TK.agg, Sub, cellRes, loadV, bindE, Nat.reduceAdd, Nat.reduceEqDiff, Nat.reduceLT, Nat.reduceLeDiff, Nat.reduceMul, Nat.reduceSub, Nat.reduceDiv, Nat.reduceMod, Nat.reduceBEq, Nat.reduceBNe, reduceIte, reduceCtorEq, Int.reduceToNat, Int.reduceLT, Int.reduceLE, Int.reduceAdd, Int.reduceSub, Int.reduceMul, Int.reduceNeg, Int.reduceEq, Int.reduceNe, D_G, D_P, List.lookup, tys, intsV_len, hq]
        refine Post.rc (v := .agg [.int .i64 s, .slc (st.length + 3) 1 0 (n + m) 1]) (by simp -implicitDefEqProofs only [s_s, argEnv, PastOK, PendOK, sel, isE, isSp, baseOK, opR, opnd, opnds, opndL, ofConst, look, putE, dstOK, guardL, binR, intOp, loadR, bad, bound, lenV, srcV, Ob.read, V.plain, V.one, V.cells, fillV, setMany, zeros, TK.agg, Sub, cellRes, loadV, bindE, Nat.reduceAdd, Nat.reduceEqDiff, Nat.reduceLT, Nat.reduceLeDiff, Nat.reduceMul, Nat.reduceSub, Nat.reduceDiv, Nat.reduceMod, Nat.reduceBEq, Nat.reduceBNe, reduceIte, reduceCtorEq, Int.reduceToNat, Int.reduceLT, Int.reduceLE, Int.reduceAdd, Int.reduceSub, Int.reduceMul, Int.reduceNeg, Int.reduceEq, Int.reduceNe, D_G, D_P, List.lookup, tys, intsV_len]) ⟨arrV s (RV ++ RW), _, rfl, .agg (.cons (.keep rfl) (.cons (Conv.whole (by simp) (ob := .cells 1 ((RV ++ RW).map rowV)) (by simp) (by simp [Ob.read]) (by simp [a2, l1]) (bdd_rows _ _)) .nil)), k, _, ⟨by omega, by omega, by omega, by omega, by simp; omega, by simp; omega, fun q hq2 => ?_⟩, by omega, by simp; omega, rfl⟩
        rcases List.mem_append.1 hq2 with hq2 | hq2
        · exact a1 q hq2
        · exact l2 q hq2
    · rcases hsd with ⟨hsd, hs2'⟩ | hsd
      all_goals
        simp -implicitDefEqProofs only [s_s, argEnv, PastOK, PendOK, sel, isE, isSp, baseOK, opR, opnd, opnds, opndL, ofConst, look, putE, dstOK, guardL, binR, intOp, loadR, bad, bound, lenV, srcV, Ob.read, V.plain, V.one, V.cells, fillV, setMany, zeros, TK.agg, Sub, cellRes, loadV, bindE, Nat.reduceAdd, Nat.reduceEqDiff, Nat.reduceLT, Nat.reduceLeDiff, Nat.reduceMul, Nat.reduceSub, Nat.reduceDiv, Nat.reduceMod, Nat.reduceBEq, Nat.reduceBNe, reduceIte, reduceCtorEq, Int.reduceToNat, Int.reduceLT, Int.reduceLE, Int.reduceAdd, Int.reduceSub, Int.reduceMul, Int.reduceNeg, Int.reduceEq, Int.reduceNe, D_G, D_P, List.lookup, tys, intsV_len, hq, hsd]
        refine Sp.call rfl rfl (linear_any s k 2 hs2.1 hs2.2 hk2.1 hk2.2 (by omega) (by omega) (pow2_le hs2.1 hs2.2) _ fun n RV a1 a2 a3' a4 => ?_)
        simp -implicitDefEqProofs only [s_s, argEnv, PastOK, PendOK, sel, isE, isSp, baseOK, opR, opnd, opnds, opndL, ofConst, look, putE, dstOK, guardL, binR, intOp, loadR, bad, bound, lenV, srcV, Ob.read, V.plain, V.one, V.cells, fillV, setMany, zeros, TK.agg, Sub, cellRes, loadV, bindE, Nat.reduceAdd, Nat.reduceEqDiff, Nat.reduceLT, Nat.reduceLeDiff, Nat.reduceMul, Nat.reduceSub, Nat.reduceDiv, Nat.reduceMod, Nat.reduceBEq, Nat.reduceBNe, reduceIte, reduceCtorEq, Int.reduceToNat, Int.reduceLT, Int.reduceLE, Int.reduceAdd, Int.reduceSub, Int.reduceMul, Int.reduceNeg, Int.reduceEq, Int.reduceNe, D_G, D_P, List.lookup, tys, intsV_len, hq, e8]
        refine WP.drawF [(0, 0, 0, [6]), (1, 0, 0, [131]), (0, 0, 0, [1]), (4, 0, 0, [133]), (12, 0, 0, [134]), (0, 0, 0, [6]), (32, 0, 0, [136]), (96, 0, 0, [137]), (252, 0, 0, [135, 138]), (508, 0, 0, [139]), (1023, 0, 0, [132, 140]), (2047, 0, 0, [6]), (4095, 0, 1, [142, 141])] D_mixed (by decide +kernel) ?_
        have hm1 : a3 % n < n := Nat.mod_lt _ (by omega)
        have hmd := tmodN a3 n
        have hw : IntKind.i64.wrap (1 + ((a3 % n : Nat) : Int)) = ((1 + a3 % n : Nat) : Int) := by rw [wrapI (by omega) (by omega)]; omega
        simp -implicitDefEqProofs only [s_s, argEnv, PastOK, PendOK, sel, isE, isSp, baseOK, opR, opnd, opnds, opndL, ofConst, look, putE, dstOK, guardL, binR, intOp, loadR, bad, bound, lenV, srcV, Ob.read, V.plain, V.one, V.cells, fillV, setMany, zeros, TK.agg, Sub, cellRes, loadV, bindE, Nat.reduceAdd, Nat.reduceEqDiff, Nat.reduceLT, Nat.reduceLeDiff, Nat.reduceMul, Nat.reduceSub, Nat.reduceDiv, Nat.reduceMod, Nat.reduceBEq, Nat.reduceBNe, reduceIte, reduceCtorEq, Int.reduceToNat, Int.reduceLT, Int.reduceLE, Int.reduceAdd, Int.reduceSub, Int.reduceMul, Int.reduceNeg, Int.reduceEq, Int.reduceNe, D_G, D_P, List.lookup, tys, intsV_len, hmd, hw, e8]
        repeat (refine And.intro (by first | omega | rfl | trivial | (simp; done) | (simp; omega)) ?_)
        try simp -implicitDefEqProofs only [s_s, argEnv, PastOK, PendOK, sel, isE, isSp, baseOK, opR, opnd, opnds, opndL, ofConst, look, putE, dstOK, guardL, binR, intOp, loadR, bad, bound, lenV, srcV, Ob.read, V.plain, V.one, V.cells, fillV, setMany, zeros, TK.agg, Sub, cellRes, loadV, bindE, Nat.reduceAdd, Nat.reduceEqDiff, Nat.reduceLT, Nat.reduceLeDiff, Nat.reduceMul, Nat.reduceSub, Nat.reduceDiv, Nat.reduceMod, Nat.reduceBEq, Nat.reduceBNe, reduceIte, reduceCtorEq, Int.reduceToNat, Int.reduceLT, Int.reduceLE, Int.reduceAdd, Int.reduceSub, Int.reduceMul, Int.reduceNeg, Int.reduceEq, Int.reduceNe, D_G, D_P, List.lookup, tys, intsV_len, hq]
        refine Post.rc (v := .agg [.int .i64 s, .slc (st.length + 3) 0 0 (1 + a3 % n) 1]) (by simp -implicitDefEqProofs only [s_s, argEnv, PastOK, PendOK, sel, isE, isSp, baseOK, opR, opnd, opnds, opndL, ofConst, look, putE, dstOK, guardL, binR, intOp, loadR, bad, bound, lenV, srcV, Ob.read, V.plain, V.one, V.cells, fillV, setMany, zeros, TK.agg, Sub, cellRes, loadV, bindE, Nat.reduceAdd, Nat.reduceEqDiff, Nat.reduceLT, Nat.reduceLeDiff, Nat.reduceMul, Nat.reduceSub, Nat.reduceDiv, Nat.reduceMod, Nat.reduceBEq, Nat.reduceBNe, reduceIte, reduceCtorEq, Int.reduceToNat, Int.reduceLT, Int.reduceLE, Int.reduceAdd, Int.reduceSub, Int.reduceMul, Int.reduceNeg, Int.reduceEq, Int.reduceNe, D_G, D_P, List.lookup, tys, intsV_len]) ⟨arrV s (RV.take (1 + a3 % n)), _, rfl, .agg (.cons (.keep rfl) (.cons (Conv.rowsTake (by simp) (ob := .cells 0 (RV.map rowV)) (by simp) (by simp [Ob.read]) (by omega)) .nil)), k, _, ⟨by omega, by omega, by omega, by omega, by simp; omega, by simp; omega, fun q hq2 => a1 q (List.mem_of_mem_take hq2)⟩, by omega, by simp; omega, rfl⟩
end Go.VL
end

/- The array seat: ArrayStrengths. -/
section
set_option linter.unusedSimpArgs false
set_option linter.unusedVariables false
set_option maxRecDepth 100000
namespace Go.VL
open Go Go.Proofs

set_option maxHeartbeats 4000000 in
theorem Strengths_spec (a0 a1 a2 a3 : Nat) (b : List Nat) (h0 : a0 < 256) (h1 : a1 < 256) (h2 : a2 < 256) (h3 : a3 < 256) (hb : ∀ n ∈ b, n < 256) (m : Nat) (hm : m < 256) (c : List Nat) (hc5 : c.length = 5) (hcb : ∀ n ∈ c, n < 256) (st : St) :
    VCall D 3 [rawV a0 a1 a2 a3 b, .int .u8 m, .agg (c.map fun (n : Nat) => V.int .u8 n)] st (fun r st' => r = .bool true ∧ st' = st) := by
  refine VCall.clean ?_
  refine VCall.of_WPB (fn := Tryd.f3) (c := _) Tryd.func3 rfl (by decide +kernel) (Nat.le_of_ble_eq_true rfl) fun hB => ?_
  refine wpN_sound (n := 12) ?_
  simp -implicitDefEqProofs only [s_s, argEnv, PastOK, PendOK, sel, isE, isSp, baseOK, opR, opnd, opnds, opndL, ofConst, look, putE, dstOK, guardL, binR, intOp, loadR, bad, bound, lenV, srcV, Ob.read, V.plain, V.one, V.cells, fillV, setMany, zeros, TK.agg, Sub, cellRes, loadV, bindE, Nat.reduceAdd, Nat.reduceEqDiff, Nat.reduceLT, Nat.reduceLeDiff, Nat.reduceMul, Nat.reduceSub, Nat.reduceDiv, Nat.reduceMod, Nat.reduceBEq, Nat.reduceBNe, reduceIte, reduceCtorEq, Int.reduceToNat, Int.reduceLT, Int.reduceLE, Int.reduceAdd, Int.reduceSub, Int.reduceMul, Int.reduceNeg, Int.reduceEq, Int.reduceNe, D_G, D_P, List.lookup, tys, intsV_len, wpN_seq, wpN_zero, Kn_normal, Kn_exit, Kn_goto, Kn_ret, Tryd.ntmps3, Tryd.f3, rawV]
  refine Sp.call rfl rfl ?_
  refine (examples_spec _).mono ?_
  rintro v st' ⟨rfl, rfl⟩
  simp -implicitDefEqProofs only [s_s, argEnv, PastOK, PendOK, sel, isE, isSp, baseOK, opR, opnd, opnds, opndL, ofConst, look, putE, dstOK, guardL, binR, intOp, loadR, bad, bound, lenV, srcV, Ob.read, V.plain, V.one, V.cells, fillV, setMany, zeros, TK.agg, Sub, cellRes, loadV, bindE, Nat.reduceAdd, Nat.reduceEqDiff, Nat.reduceLT, Nat.reduceLeDiff, Nat.reduceMul, Nat.reduceSub, Nat.reduceDiv, Nat.reduceMod, Nat.reduceBEq, Nat.reduceBNe, reduceIte, reduceCtorEq, Int.reduceToNat, Int.reduceLT, Int.reduceLE, Int.reduceAdd, Int.reduceSub, Int.reduceMul, Int.reduceNeg, Int.reduceEq, Int.reduceNe, D_G, D_P, List.lookup, tys, intsV_len, wpN_seq, wpN_zero, Kn_normal, Kn_exit, Kn_goto, Kn_ret]
  refine Sp.call rfl rfl ?_
  refine (Made_spec a0 a1 a2 a3 b h0 h1 h2 h3 hb _).mono ?_
  rintro v st' ⟨⟨k, R, hR, hk5, hR32, rfl⟩, rfl⟩
  obtain ⟨S, hS⟩ : ∃ S, S = 2 + a0 % 3 := ⟨_, rfl⟩
  rw [← hS] at hR ⊢
  obtain ⟨r0, hr0⟩ : ∃ r0, R[0]? = some r0 := ⟨_, List.getElem?_eq_getElem hR.r1⟩
  have hk0 : r0.length = k := (hR.row r0 (List.mem_of_getElem? hr0)).1
  have hv0 : (R.map rowV)[0]? = some (rowV r0) := by simp [hr0]
  simp -implicitDefEqProofs only [s_s, argEnv, PastOK, PendOK, sel, isE, isSp, baseOK, opR, opnd, opnds, opndL, ofConst, look, putE, dstOK, guardL, binR, intOp, loadR, bad, bound, lenV, srcV, Ob.read, V.plain, V.one, V.cells, fillV, setMany, zeros, TK.agg, Sub, cellRes, loadV, bindE, Nat.reduceAdd, Nat.reduceEqDiff, Nat.reduceLT, Nat.reduceLeDiff, Nat.reduceMul, Nat.reduceSub, Nat.reduceDiv, Nat.reduceMod, Nat.reduceBEq, Nat.reduceBNe, reduceIte, reduceCtorEq, Int.reduceToNat, Int.reduceLT, Int.reduceLE, Int.reduceAdd, Int.reduceSub, Int.reduceMul, Int.reduceNeg, Int.reduceEq, Int.reduceNe, D_G, D_P, List.lookup, tys, intsV_len, wpN_seq, wpN_zero, Kn_normal, Kn_exit, Kn_goto, Kn_ret, arrV, hv0, rowV, hk0]
  have hr1 := hR.r1
  refine ⟨by omega, ?_⟩
  refine Sp.call rfl rfl ?_
  refine (Strength_spec S R k hR _).mono ?_
  rintro v st' ⟨rfl, rfl⟩
  have hTk := strN_le (S := S) (R := R) (k := k) k
  obtain ⟨T, hT⟩ : ∃ T, T = strN S R k k := ⟨_, rfl⟩
  rw [← hT] at hTk ⊢
  have d1 : decide ((T : Int) < 0) = false := decide_eq_false (by omega)
  have d2 : decide ((k : Int) < T) = false := decide_eq_false (by omega)
  simp -implicitDefEqProofs only [s_s, argEnv, PastOK, PendOK, sel, isE, isSp, baseOK, opR, opnd, opnds, opndL, ofConst, look, putE, dstOK, guardL, binR, intOp, loadR, bad, bound, lenV, srcV, Ob.read, V.plain, V.one, V.cells, fillV, setMany, zeros, TK.agg, Sub, cellRes, loadV, bindE, Nat.reduceAdd, Nat.reduceEqDiff, Nat.reduceLT, Nat.reduceLeDiff, Nat.reduceMul, Nat.reduceSub, Nat.reduceDiv, Nat.reduceMod, Nat.reduceBEq, Nat.reduceBNe, reduceIte, reduceCtorEq, Int.reduceToNat, Int.reduceLT, Int.reduceLE, Int.reduceAdd, Int.reduceSub, Int.reduceMul, Int.reduceNeg, Int.reduceEq, Int.reduceNe, D_G, D_P, List.lookup, tys, intsV_len, wpN_seq, wpN_zero, Kn_normal, Kn_exit, Kn_goto, Kn_ret, d1, d2]
  have hk8 := hR.k8
  have hk1 := hR.k1
  have hs2 := hR.s2
  have hs8 := hR.s8
  refine WP.loopF (ι := Nat) (fun t => [(1, .int .u8 m), (3, .ptr st.length 0 0), (5, .ptr (st.length + 1) 0 0), (7, .bool true), (8, .ptr (st.length + 2) 0 0), (9, .int .i64 k), (10, .int .i64 T), (11, .int .i64 (S ^ t : Nat)), (12, .int .i64 (t + 1 : Nat))])
    (fun _ => st ++ [.cells 0 [.int .u8 a0, .int .u8 a1, .int .u8 a2, .int .u8 a3, bytesV b], .cells 0 (c.map fun (n : Nat) => V.int .u8 n), .cells 0 [.int .i64 S, .lst 1 (R.map rowV)]]) (fun t => t ≤ k) (fun t => k + 1 - t) 0 (Nat.zero_le _) (by simp -implicitDefEqProofs only [s_s, argEnv, PastOK, PendOK, sel, isE, isSp, baseOK, opR, opnd, opnds, opndL, ofConst, look, putE, dstOK, guardL, binR, intOp, loadR, bad, bound, lenV, srcV, Ob.read, V.plain, V.one, V.cells, fillV, setMany, zeros, TK.agg, Sub, cellRes, loadV, bindE, Nat.reduceAdd, Nat.reduceEqDiff, Nat.reduceLT, Nat.reduceLeDiff, Nat.reduceMul, Nat.reduceSub, Nat.reduceDiv, Nat.reduceMod, Nat.reduceBEq, Nat.reduceBNe, reduceIte, reduceCtorEq, Int.reduceToNat, Int.reduceLT, Int.reduceLE, Int.reduceAdd, Int.reduceSub, Int.reduceMul, Int.reduceNeg, Int.reduceEq, Int.reduceNe, D_G, D_P, List.lookup, tys, intsV_len, wpN_seq, wpN_zero, Kn_normal, Kn_exit, Kn_goto, Kn_ret]; refine ⟨?_, ?_⟩ <;> simp) rfl ?_
  rintro t htk
  obtain ⟨p1, p2⟩ := pow_bound hs2 hs8 (show t ≤ 8 by omega)
  have e1 : IntKind.i64.wrap (((S ^ t : Nat) : Int) * (S : Int)) = ((S ^ (t + 1) : Nat) : Int) := by
    have p5 : S ^ (t + 1) ≤ 16777216 * 8 := by rw [Nat.pow_succ]; exact Nat.mul_le_mul p2 hs8
    rw [← Int.natCast_mul, ← Nat.pow_succ]
    generalize S ^ (t + 1) = q at p5
    exact wrapI (by omega) (by omega)
  have e9 : IntKind.i64.wrap (((t + 1 : Nat) : Int) + 1) = ((t + 1 + 1 : Nat) : Int) := by rw [wrapI (by omega) (by omega)]; omega
  simp -implicitDefEqProofs only [s_s, argEnv, PastOK, PendOK, sel, isE, isSp, baseOK, opR, opnd, opnds, opndL, ofConst, look, putE, dstOK, guardL, binR, intOp, loadR, bad, bound, lenV, srcV, Ob.read, V.plain, V.one, V.cells, fillV, setMany, zeros, TK.agg, Sub, cellRes, loadV, bindE, Nat.reduceAdd, Nat.reduceEqDiff, Nat.reduceLT, Nat.reduceLeDiff, Nat.reduceMul, Nat.reduceSub, Nat.reduceDiv, Nat.reduceMod, Nat.reduceBEq, Nat.reduceBNe, reduceIte, reduceCtorEq, Int.reduceToNat, Int.reduceLT, Int.reduceLE, Int.reduceAdd, Int.reduceSub, Int.reduceMul, Int.reduceNeg, Int.reduceEq, Int.reduceNe, D_G, D_P, List.lookup, tys, intsV_len, wpN_seq, wpN_zero, Kn_normal, Kn_exit, Kn_goto, Kn_ret]
  refine Br.intro (fun h => ?_) (fun h => ?_)
  · have htk' : t + 1 ≤ k := by have := of_decide_eq_true h; omega
    simp -implicitDefEqProofs only [s_s, argEnv, PastOK, PendOK, sel, isE, isSp, baseOK, opR, opnd, opnds, opndL, ofConst, look, putE, dstOK, guardL, binR, intOp, loadR, bad, bound, lenV, srcV, Ob.read, V.plain, V.one, V.cells, fillV, setMany, zeros, TK.agg, Sub, cellRes, loadV, bindE, Nat.reduceAdd, Nat.reduceEqDiff, Nat.reduceLT, Nat.reduceLeDiff, Nat.reduceMul, Nat.reduceSub, Nat.reduceDiv, Nat.reduceMod, Nat.reduceBEq, Nat.reduceBNe, reduceIte, reduceCtorEq, Int.reduceToNat, Int.reduceLT, Int.reduceLE, Int.reduceAdd, Int.reduceSub, Int.reduceMul, Int.reduceNeg, Int.reduceEq, Int.reduceNe, D_G, D_P, List.lookup, tys, intsV_len, wpN_seq, wpN_zero, Kn_normal, Kn_exit, Kn_goto, Kn_ret, e1]
    refine Sp.call rfl rfl ?_
    refine (Index_full S R k hR (t + 1 : Nat) _).mono ?_
    rintro v st' ⟨rfl, rfl⟩
    have hc : (1 : Int) ≤ (t + 1 : Nat) ∧ ((t + 1 : Nat) : Int) ≤ k := ⟨by omega, by omega⟩
    have hm0 := miss_nonneg hR htk'
    rw [if_pos hc, Int.toNat_natCast]
    simp -implicitDefEqProofs only [s_s, argEnv, PastOK, PendOK, sel, isE, isSp, baseOK, opR, opnd, opnds, opndL, ofConst, look, putE, dstOK, guardL, binR, intOp, loadR, bad, bound, lenV, srcV, Ob.read, V.plain, V.one, V.cells, fillV, setMany, zeros, TK.agg, Sub, cellRes, loadV, bindE, Nat.reduceAdd, Nat.reduceEqDiff, Nat.reduceLT, Nat.reduceLeDiff, Nat.reduceMul, Nat.reduceSub, Nat.reduceDiv, Nat.reduceMod, Nat.reduceBEq, Nat.reduceBNe, reduceIte, reduceCtorEq, Int.reduceToNat, Int.reduceLT, Int.reduceLE, Int.reduceAdd, Int.reduceSub, Int.reduceMul, Int.reduceNeg, Int.reduceEq, Int.reduceNe, D_G, D_P, List.lookup, tys, intsV_len, wpN_seq, wpN_zero, Kn_normal, Kn_exit, Kn_goto, Kn_ret]
    refine WP.drawF [(0, 0, 0, [12]), (0, 0, 0, [10]), (3, 0, 0, [50, 51]), (7, 0, 0, [52]), (15, 0, 0, [13, 53]), (15, 0, 0, [11, 53]), (63, 0, 0, [54, 55, 53]), (15, 0, 0, [8, 53]), (143, 0, 0, [57, 53]), (399, 0, 0, [58, 53]), (1023, 0, 0, [56, 59, 53]), (2047, 0, 0, [53, 60]), (4095, 0, 0, [61]), (8191, 0, 0, [12, 62]), (8191, 0, 0, [10, 62]), (32767, 0, 0, [63, 64, 62]), (65535, 0, 0, [65, 62]), (131071, 0, 0, [13, 66]), (262143, 0, 0, [67, 66]), (524287, 0, 0, [66, 68, 62]), (1048575, 0, 0, [62, 69]), (2097151, 0, 0, [70]), (4194303, 0, 0, [12, 71]), (4194303, 0, 0, [10, 71]), (16777215, 0, 0, [72, 73, 71]), (33554431, 0, 0, [74, 71]), (67108863, 0, 0, [8, 75]), (67108863, 0, 0, [12, 75]), (268435455, 0, 1, [76, 77, 75]), (536870911, 1, 1, [78, 75]), (1073741823, 1, 1, [75, 79, 71]), (2147483647, 1, 1, [71, 80]), (4294967295, 1, 1, [81]), (8589934591, 1, 1, [8, 82]), (8589934591, 1, 1, [12, 82]), (34359738367, 1, 2, [83, 84, 82]), (8589934591, 1, 2, [8, 82]), (8589934591, 1, 2, [12, 82]), (274877906943, 2, 3, [86, 87, 82]), (549755813887, 3, 3, [88, 82]), (1099511627775, 3, 3, [85, 89, 82]), (2199023255551, 3, 3, [82, 90]), (4398046511103, 3, 3, [91]), (8796093022207, 3, 3, [8, 92]), (8796093022207, 3, 3, [12, 92]), (35184372088831, 3, 4, [93, 94, 92]), (70368744177663, 4, 4, [95, 92]), (140737488355327, 4, 4, [92, 96])] D_mixed (by decide +kernel) ?_
    simp -implicitDefEqProofs only [s_s, argEnv, PastOK, PendOK, sel, isE, isSp, baseOK, opR, opnd, opnds, opndL, ofConst, look, putE, dstOK, guardL, binR, intOp, loadR, bad, bound, lenV, srcV, Ob.read, V.plain, V.one, V.cells, fillV, setMany, zeros, TK.agg, Sub, cellRes, loadV, bindE, Nat.reduceAdd, Nat.reduceEqDiff, Nat.reduceLT, Nat.reduceLeDiff, Nat.reduceMul, Nat.reduceSub, Nat.reduceDiv, Nat.reduceMod, Nat.reduceBEq, Nat.reduceBNe, reduceIte, reduceCtorEq, Int.reduceToNat, Int.reduceLT, Int.reduceLE, Int.reduceAdd, Int.reduceSub, Int.reduceMul, Int.reduceNeg, Int.reduceEq, Int.reduceNe, D_G, D_P, List.lookup, tys, intsV_len, wpN_seq, wpN_zero, Kn_normal, Kn_exit, Kn_goto, Kn_ret]
    have hso := strN_OA hR k (Nat.le_refl _) (t + 1) (by omega)
    rw [← hT] at hso
    have hCov : ∀ st, VCall D 13 [arrV S R, .int .i64 (t + 1 : Nat)] st (fun r st' => r = .bool (missN S R k (t + 1) == 0) ∧ st' = st) := fun st => (Covers_full S R k hR (t + 1 : Nat) st).mono fun r st' ⟨h1, h2⟩ => ⟨by rw [h1, Int.toNat_natCast, decide_eq_true hc, Bool.true_and], h2⟩
    have hMis : ∀ st, VCall D 14 [arrV S R, .int .i64 (t + 1 : Nat)] st (fun r st' => r = .int .i64 (missN S R k (t + 1)) ∧ st' = st) := fun st => (Missing_spec S R k hR (t + 1 : Nat) st).mono fun r st' ⟨h1, h2⟩ => ⟨by rw [h1, if_pos hc, Int.toNat_natCast], h2⟩
    have c4 : decide (missN S R k (t + 1) < 0) = false := decide_eq_false (by omega)
    have c5 : (missN S R k (t + 1) == 0) = decide (missN S R k (t + 1) = 0) := rfl
    rcases Nat.lt_or_ge T (t + 1) with hlt | hge
    · have c1 : decide (((t + 1 : Nat) : Int) ≤ (T : Int)) = false := decide_eq_false (by omega)
      have c2 : decide ((T : Int) < ((t + 1 : Nat) : Int)) = true := decide_eq_true (by omega)
      have hi0 : indexN S R k (t + 1) = 0 := by
        refine Decidable.byContradiction fun hne => ?_
        have := hso.2 ⟨by omega, (index_iff hR htk').1 hne⟩
        omega
      simp -implicitDefEqProofs only [s_s, argEnv, PastOK, PendOK, sel, isE, isSp, baseOK, opR, opnd, opnds, opndL, ofConst, look, putE, dstOK, guardL, binR, intOp, loadR, bad, bound, lenV, srcV, Ob.read, V.plain, V.one, V.cells, fillV, setMany, zeros, TK.agg, Sub, cellRes, loadV, bindE, Nat.reduceAdd, Nat.reduceEqDiff, Nat.reduceLT, Nat.reduceLeDiff, Nat.reduceMul, Nat.reduceSub, Nat.reduceDiv, Nat.reduceMod, Nat.reduceBEq, Nat.reduceBNe, reduceIte, reduceCtorEq, Int.reduceToNat, Int.reduceLT, Int.reduceLE, Int.reduceAdd, Int.reduceSub, Int.reduceMul, Int.reduceNeg, Int.reduceEq, Int.reduceNe, D_G, D_P, List.lookup, tys, intsV_len, wpN_seq, wpN_zero, Kn_normal, Kn_exit, Kn_goto, Kn_ret, c1, c2, hi0, Int.natCast_zero]
      refine SpD.call rfl rfl (hCov _) ?_
      simp -implicitDefEqProofs only [s_s, argEnv, PastOK, PendOK, sel, isE, isSp, baseOK, opR, opnd, opnds, opndL, ofConst, look, putE, dstOK, guardL, binR, intOp, loadR, bad, bound, lenV, srcV, Ob.read, V.plain, V.one, V.cells, fillV, setMany, zeros, TK.agg, Sub, cellRes, loadV, bindE, Nat.reduceAdd, Nat.reduceEqDiff, Nat.reduceLT, Nat.reduceLeDiff, Nat.reduceMul, Nat.reduceSub, Nat.reduceDiv, Nat.reduceMod, Nat.reduceBEq, Nat.reduceBNe, reduceIte, reduceCtorEq, Int.reduceToNat, Int.reduceLT, Int.reduceLE, Int.reduceAdd, Int.reduceSub, Int.reduceMul, Int.reduceNeg, Int.reduceEq, Int.reduceNe, D_G, D_P, List.lookup, tys, intsV_len, wpN_seq, wpN_zero, Kn_normal, Kn_exit, Kn_goto, Kn_ret, c5]
      refine SpD.call rfl rfl (hMis _) ?_
      simp -implicitDefEqProofs only [s_s, argEnv, PastOK, PendOK, sel, isE, isSp, baseOK, opR, opnd, opnds, opndL, ofConst, look, putE, dstOK, guardL, binR, intOp, loadR, bad, bound, lenV, srcV, Ob.read, V.plain, V.one, V.cells, fillV, setMany, zeros, TK.agg, Sub, cellRes, loadV, bindE, Nat.reduceAdd, Nat.reduceEqDiff, Nat.reduceLT, Nat.reduceLeDiff, Nat.reduceMul, Nat.reduceSub, Nat.reduceDiv, Nat.reduceMod, Nat.reduceBEq, Nat.reduceBNe, reduceIte, reduceCtorEq, Int.reduceToNat, Int.reduceLT, Int.reduceLE, Int.reduceAdd, Int.reduceSub, Int.reduceMul, Int.reduceNeg, Int.reduceEq, Int.reduceNe, D_G, D_P, List.lookup, tys, intsV_len, wpN_seq, wpN_zero, Kn_normal, Kn_exit, Kn_goto, Kn_ret, c5]
      refine SpD.call rfl rfl (hMis _) ?_
      simp -implicitDefEqProofs only [s_s, argEnv, PastOK, PendOK, sel, isE, isSp, baseOK, opR, opnd, opnds, opndL, ofConst, look, putE, dstOK, guardL, binR, intOp, loadR, bad, bound, lenV, srcV, Ob.read, V.plain, V.one, V.cells, fillV, setMany, zeros, TK.agg, Sub, cellRes, loadV, bindE, Nat.reduceAdd, Nat.reduceEqDiff, Nat.reduceLT, Nat.reduceLeDiff, Nat.reduceMul, Nat.reduceSub, Nat.reduceDiv, Nat.reduceMod, Nat.reduceBEq, Nat.reduceBNe, reduceIte, reduceCtorEq, Int.reduceToNat, Int.reduceLT, Int.reduceLE, Int.reduceAdd, Int.reduceSub, Int.reduceMul, Int.reduceNeg, Int.reduceEq, Int.reduceNe, D_G, D_P, List.lookup, tys, intsV_len, wpN_seq, wpN_zero, Kn_normal, Kn_exit, Kn_goto, Kn_ret, c4]
      refine Kl.next (t + 1) htk' (by omega) ?_ rfl
      simp -implicitDefEqProofs only [s_s, argEnv, PastOK, PendOK, sel, isE, isSp, baseOK, opR, opnd, opnds, opndL, ofConst, look, putE, dstOK, guardL, binR, intOp, loadR, bad, bound, lenV, srcV, Ob.read, V.plain, V.one, V.cells, fillV, setMany, zeros, TK.agg, Sub, cellRes, loadV, bindE, Nat.reduceAdd, Nat.reduceEqDiff, Nat.reduceLT, Nat.reduceLeDiff, Nat.reduceMul, Nat.reduceSub, Nat.reduceDiv, Nat.reduceMod, Nat.reduceBEq, Nat.reduceBNe, reduceIte, reduceCtorEq, Int.reduceToNat, Int.reduceLT, Int.reduceLE, Int.reduceAdd, Int.reduceSub, Int.reduceMul, Int.reduceNeg, Int.reduceEq, Int.reduceNe, D_G, D_P, List.lookup, tys, intsV_len, wpN_seq, wpN_zero, Kn_normal, Kn_exit, Kn_goto, Kn_ret, e9]
    · have c1 : decide (((t + 1 : Nat) : Int) ≤ (T : Int)) = true := decide_eq_true (by omega)
      have c2 : decide ((T : Int) < ((t + 1 : Nat) : Int)) = false := decide_eq_false (by omega)
      have ho := (hso.1 ⟨by omega, hge⟩).2
      have hie := (index_OA hR ((index_iff hR htk').2 ho)).2
      have hm := (miss_zero hR htk').2 (OA_full hR ho)
      have c3 : IntKind.i64.wrap ((indexN S R k (t + 1) : Int) * ((S ^ (t + 1) : Nat) : Int)) = (R.length : Int) := by
        rw [← Int.natCast_mul, hie]
        exact wrapI (by omega) (by omega)
      simp -implicitDefEqProofs only [s_s, argEnv, PastOK, PendOK, sel, isE, isSp, baseOK, opR, opnd, opnds, opndL, ofConst, look, putE, dstOK, guardL, binR, intOp, loadR, bad, bound, lenV, srcV, Ob.read, V.plain, V.one, V.cells, fillV, setMany, zeros, TK.agg, Sub, cellRes, loadV, bindE, Nat.reduceAdd, Nat.reduceEqDiff, Nat.reduceLT, Nat.reduceLeDiff, Nat.reduceMul, Nat.reduceSub, Nat.reduceDiv, Nat.reduceMod, Nat.reduceBEq, Nat.reduceBNe, reduceIte, reduceCtorEq, Int.reduceToNat, Int.reduceLT, Int.reduceLE, Int.reduceAdd, Int.reduceSub, Int.reduceMul, Int.reduceNeg, Int.reduceEq, Int.reduceNe, D_G, D_P, List.lookup, tys, intsV_len, wpN_seq, wpN_zero, Kn_normal, Kn_exit, Kn_goto, Kn_ret, c1, c2, c3]
      refine SpD.call rfl rfl (hCov _) ?_
      simp -implicitDefEqProofs only [s_s, argEnv, PastOK, PendOK, sel, isE, isSp, baseOK, opR, opnd, opnds, opndL, ofConst, look, putE, dstOK, guardL, binR, intOp, loadR, bad, bound, lenV, srcV, Ob.read, V.plain, V.one, V.cells, fillV, setMany, zeros, TK.agg, Sub, cellRes, loadV, bindE, Nat.reduceAdd, Nat.reduceEqDiff, Nat.reduceLT, Nat.reduceLeDiff, Nat.reduceMul, Nat.reduceSub, Nat.reduceDiv, Nat.reduceMod, Nat.reduceBEq, Nat.reduceBNe, reduceIte, reduceCtorEq, Int.reduceToNat, Int.reduceLT, Int.reduceLE, Int.reduceAdd, Int.reduceSub, Int.reduceMul, Int.reduceNeg, Int.reduceEq, Int.reduceNe, D_G, D_P, List.lookup, tys, intsV_len, wpN_seq, wpN_zero, Kn_normal, Kn_exit, Kn_goto, Kn_ret, hm]
      refine SpD.call rfl rfl (hCov _) ?_
      simp -implicitDefEqProofs only [s_s, argEnv, PastOK, PendOK, sel, isE, isSp, baseOK, opR, opnd, opnds, opndL, ofConst, look, putE, dstOK, guardL, binR, intOp, loadR, bad, bound, lenV, srcV, Ob.read, V.plain, V.one, V.cells, fillV, setMany, zeros, TK.agg, Sub, cellRes, loadV, bindE, Nat.reduceAdd, Nat.reduceEqDiff, Nat.reduceLT, Nat.reduceLeDiff, Nat.reduceMul, Nat.reduceSub, Nat.reduceDiv, Nat.reduceMod, Nat.reduceBEq, Nat.reduceBNe, reduceIte, reduceCtorEq, Int.reduceToNat, Int.reduceLT, Int.reduceLE, Int.reduceAdd, Int.reduceSub, Int.reduceMul, Int.reduceNeg, Int.reduceEq, Int.reduceNe, D_G, D_P, List.lookup, tys, intsV_len, wpN_seq, wpN_zero, Kn_normal, Kn_exit, Kn_goto, Kn_ret]
      refine SpD.call rfl rfl (hMis _) ?_
      simp -implicitDefEqProofs only [s_s, argEnv, PastOK, PendOK, sel, isE, isSp, baseOK, opR, opnd, opnds, opndL, ofConst, look, putE, dstOK, guardL, binR, intOp, loadR, bad, bound, lenV, srcV, Ob.read, V.plain, V.one, V.cells, fillV, setMany, zeros, TK.agg, Sub, cellRes, loadV, bindE, Nat.reduceAdd, Nat.reduceEqDiff, Nat.reduceLT, Nat.reduceLeDiff, Nat.reduceMul, Nat.reduceSub, Nat.reduceDiv, Nat.reduceMod, Nat.reduceBEq, Nat.reduceBNe, reduceIte, reduceCtorEq, Int.reduceToNat, Int.reduceLT, Int.reduceLE, Int.reduceAdd, Int.reduceSub, Int.reduceMul, Int.reduceNeg, Int.reduceEq, Int.reduceNe, D_G, D_P, List.lookup, tys, intsV_len, wpN_seq, wpN_zero, Kn_normal, Kn_exit, Kn_goto, Kn_ret, hm]
      refine SpD.call rfl rfl (hMis _) ?_
      simp -implicitDefEqProofs only [s_s, argEnv, PastOK, PendOK, sel, isE, isSp, baseOK, opR, opnd, opnds, opndL, ofConst, look, putE, dstOK, guardL, binR, intOp, loadR, bad, bound, lenV, srcV, Ob.read, V.plain, V.one, V.cells, fillV, setMany, zeros, TK.agg, Sub, cellRes, loadV, bindE, Nat.reduceAdd, Nat.reduceEqDiff, Nat.reduceLT, Nat.reduceLeDiff, Nat.reduceMul, Nat.reduceSub, Nat.reduceDiv, Nat.reduceMod, Nat.reduceBEq, Nat.reduceBNe, reduceIte, reduceCtorEq, Int.reduceToNat, Int.reduceLT, Int.reduceLE, Int.reduceAdd, Int.reduceSub, Int.reduceMul, Int.reduceNeg, Int.reduceEq, Int.reduceNe, D_G, D_P, List.lookup, tys, intsV_len, wpN_seq, wpN_zero, Kn_normal, Kn_exit, Kn_goto, Kn_ret, hm]
      refine Kl.next (t + 1) htk' (by omega) ?_ rfl
      simp -implicitDefEqProofs only [s_s, argEnv, PastOK, PendOK, sel, isE, isSp, baseOK, opR, opnd, opnds, opndL, ofConst, look, putE, dstOK, guardL, binR, intOp, loadR, bad, bound, lenV, srcV, Ob.read, V.plain, V.one, V.cells, fillV, setMany, zeros, TK.agg, Sub, cellRes, loadV, bindE, Nat.reduceAdd, Nat.reduceEqDiff, Nat.reduceLT, Nat.reduceLeDiff, Nat.reduceMul, Nat.reduceSub, Nat.reduceDiv, Nat.reduceMod, Nat.reduceBEq, Nat.reduceBNe, reduceIte, reduceCtorEq, Int.reduceToNat, Int.reduceLT, Int.reduceLE, Int.reduceAdd, Int.reduceSub, Int.reduceMul, Int.reduceNeg, Int.reduceEq, Int.reduceNe, D_G, D_P, List.lookup, tys, intsV_len, wpN_seq, wpN_zero, Kn_normal, Kn_exit, Kn_goto, Kn_ret, e9]
  · skip
    simp -implicitDefEqProofs only [s_s, argEnv, PastOK, PendOK, sel, isE, isSp, baseOK, opR, opnd, opnds, opndL, ofConst, look, putE, dstOK, guardL, binR, intOp, loadR, bad, bound, lenV, srcV, Ob.read, V.plain, V.one, V.cells, fillV, setMany, zeros, TK.agg, Sub, cellRes, loadV, bindE, Nat.reduceAdd, Nat.reduceEqDiff, Nat.reduceLT, Nat.reduceLeDiff, Nat.reduceMul, Nat.reduceSub, Nat.reduceDiv, Nat.reduceMod, Nat.reduceBEq, Nat.reduceBNe, reduceIte, reduceCtorEq, Int.reduceToNat, Int.reduceLT, Int.reduceLE, Int.reduceAdd, Int.reduceSub, Int.reduceMul, Int.reduceNeg, Int.reduceEq, Int.reduceNe, D_G, D_P, List.lookup, tys, intsV_len, wpN_seq, wpN_zero, Kn_normal, Kn_exit, Kn_goto, Kn_ret]
    refine WP.seed 1 (st.length + 3) [(1, .int .u8 m), (3, .ptr st.length 0 0), (5, .ptr (st.length + 1) 0 0), (7, .bool true), (8, .ptr (st.length + 2) 0 0), (9, .int .i64 k), (10, .int .i64 T), (14, .slc (st.length + 3) 0 0 0 1), (15, .e0), (16, .int .i64 0)] (st ++ [.cells 0 [.int .u8 a0, .int .u8 a1, .int .u8 a2, .int .u8 a3, bytesV b], .cells 0 (c.map fun (n : Nat) => V.int .u8 n), .cells 0 [.int .i64 S, .lst 1 (R.map rowV)]]) (by simp) (by decide) (by simp [SeedE, SeedV, look]) SeedS.refl ?_
    refine WP.seed 1 (st.length + 4) [(1, .int .u8 m), (3, .ptr st.length 0 0), (5, .ptr (st.length + 1) 0 0), (7, .bool true), (8, .ptr (st.length + 2) 0 0), (9, .int .i64 k), (10, .int .i64 T), (14, .slc (st.length + 3) 0 0 0 1), (15, .slc (st.length + 4) 0 0 0 1), (16, .int .i64 0)] _ (by simp) (by decide) (by simp [SeedE, SeedV, look]) SeedS.refl ?_
    refine WP.loopC (ι := Nat) (fun i => [(1, .int .u8 m), (3, .ptr st.length 0 0), (5, .ptr (st.length + 1) 0 0), (7, .bool true), (8, .ptr (st.length + 2) 0 0), (9, .int .i64 k), (10, .int .i64 T), (14, .slc (st.length + 3) (bits m i).length 0 (bits m i).length 1), (15, .slc (st.length + 4) (bits m i).length 0 (bits m i).length 1), (16, .int .i64 i)])
      (fun i => st ++ [.cells 0 [.int .u8 a0, .int .u8 a1, .int .u8 a2, .int .u8 a3, bytesV b], .cells 0 (c.map fun (n : Nat) => V.int .u8 n), .cells 0 [.int .i64 S, .lst 1 (R.map rowV)], .acc (bits m i).length (intsV (colsI m i)), .acc (bits m i).length (intsV (wantI (fun j => (c[j]?).getD 0 % S) m i))]) (fun i => i ≤ k) (fun i => k - i) 0 (Nat.zero_le _) (by simp -implicitDefEqProofs only [s_s, argEnv, PastOK, PendOK, sel, isE, isSp, baseOK, opR, opnd, opnds, opndL, ofConst, look, putE, dstOK, guardL, binR, intOp, loadR, bad, bound, lenV, srcV, Ob.read, V.plain, V.one, V.cells, fillV, setMany, zeros, TK.agg, Sub, cellRes, loadV, bindE, Nat.reduceAdd, Nat.reduceEqDiff, Nat.reduceLT, Nat.reduceLeDiff, Nat.reduceMul, Nat.reduceSub, Nat.reduceDiv, Nat.reduceMod, Nat.reduceBEq, Nat.reduceBNe, reduceIte, reduceCtorEq, Int.reduceToNat, Int.reduceLT, Int.reduceLE, Int.reduceAdd, Int.reduceSub, Int.reduceMul, Int.reduceNeg, Int.reduceEq, Int.reduceNe, D_G, D_P, List.lookup, tys, intsV_len, wpN_seq, wpN_zero, Kn_normal, Kn_exit, Kn_goto, Kn_ret]; simp [bits]) (by simp [intsV, colsI, wantI, bits]) (fun p => by simp -implicitDefEqProofs only [s_s, argEnv, PastOK, PendOK, sel, isE, isSp, baseOK, opR, opnd, opnds, opndL, ofConst, look, putE, dstOK, guardL, binR, intOp, loadR, bad, bound, lenV, srcV, Ob.read, V.plain, V.one, V.cells, fillV, setMany, zeros, TK.agg, Sub, cellRes, loadV, bindE, Nat.reduceAdd, Nat.reduceEqDiff, Nat.reduceLT, Nat.reduceLeDiff, Nat.reduceMul, Nat.reduceSub, Nat.reduceDiv, Nat.reduceMod, Nat.reduceBEq, Nat.reduceBNe, reduceIte, reduceCtorEq, Int.reduceToNat, Int.reduceLT, Int.reduceLE, Int.reduceAdd, Int.reduceSub, Int.reduceMul, Int.reduceNeg, Int.reduceEq, Int.reduceNe, D_G, D_P, List.lookup, tys, intsV_len, wpN_seq, wpN_zero, Kn_normal, Kn_exit, Kn_goto, Kn_ret]) ?_
    rintro i hik
    simp -implicitDefEqProofs only [s_s, argEnv, PastOK, PendOK, sel, isE, isSp, baseOK, opR, opnd, opnds, opndL, ofConst, look, putE, dstOK, guardL, binR, intOp, loadR, bad, bound, lenV, srcV, Ob.read, V.plain, V.one, V.cells, fillV, setMany, zeros, TK.agg, Sub, cellRes, loadV, bindE, Nat.reduceAdd, Nat.reduceEqDiff, Nat.reduceLT, Nat.reduceLeDiff, Nat.reduceMul, Nat.reduceSub, Nat.reduceDiv, Nat.reduceMod, Nat.reduceBEq, Nat.reduceBNe, reduceIte, reduceCtorEq, Int.reduceToNat, Int.reduceLT, Int.reduceLE, Int.reduceAdd, Int.reduceSub, Int.reduceMul, Int.reduceNeg, Int.reduceEq, Int.reduceNe, D_G, D_P, List.lookup, tys, intsV_len, wpN_seq, wpN_zero, Kn_normal, Kn_exit, Kn_goto, Kn_ret]
    refine Br.intro (fun h => ?_) (fun h => ?_)
    · have hik' : i < k := by have := of_decide_eq_true h; omega
      have f1 : IntKind.u64.wrap (i : Int) = (i : Int) := wrapU (by omega) (by omega)
      simp -implicitDefEqProofs only [s_s, argEnv, PastOK, PendOK, sel, isE, isSp, baseOK, opR, opnd, opnds, opndL, ofConst, look, putE, dstOK, guardL, binR, intOp, loadR, bad, bound, lenV, srcV, Ob.read, V.plain, V.one, V.cells, fillV, setMany, zeros, TK.agg, Sub, cellRes, loadV, bindE, Nat.reduceAdd, Nat.reduceEqDiff, Nat.reduceLT, Nat.reduceLeDiff, Nat.reduceMul, Nat.reduceSub, Nat.reduceDiv, Nat.reduceMod, Nat.reduceBEq, Nat.reduceBNe, reduceIte, reduceCtorEq, Int.reduceToNat, Int.reduceLT, Int.reduceLE, Int.reduceAdd, Int.reduceSub, Int.reduceMul, Int.reduceNeg, Int.reduceEq, Int.reduceNe, D_G, D_P, List.lookup, tys, intsV_len, wpN_seq, wpN_zero, Kn_normal, Kn_exit, Kn_goto, Kn_ret, f1]
      refine ⟨by omega, ?_⟩
      rw [bit8_at m i hm (by omega)]
      have hbl := bits_len m i
      have f2 : IntKind.i64.wrap ((i : Int) + 1) = ((i + 1 : Nat) : Int) := by rw [wrapI (by omega) (by omega)]; omega
      refine Br.intro (fun hb1 => ?_) (fun hb1 => ?_)
      · obtain ⟨x, hx⟩ : ∃ x, c[i]? = some x := ⟨_, List.getElem?_eq_getElem (by omega)⟩
        have hx256 := hcb x (List.mem_of_getElem? hx)
        have hcv : (c.map fun (n : Nat) => V.int .u8 n)[i]? = some (.int .u8 x) := by simp [hx]
        have g1 : IntKind.i64.wrap (x : Int) = x := wrapI (by omega) (by omega)
        have g2 : (x : Int).tmod S = (x % S : Nat) := tmodN x S
        have g3 : (c[i]?).getD 0 % S = x % S := by rw [hx]; rfl
        simp -implicitDefEqProofs only [s_s, argEnv, PastOK, PendOK, sel, isE, isSp, baseOK, opR, opnd, opnds, opndL, ofConst, look, putE, dstOK, guardL, binR, intOp, loadR, bad, bound, lenV, srcV, Ob.read, V.plain, V.one, V.cells, fillV, setMany, zeros, TK.agg, Sub, cellRes, loadV, bindE, Nat.reduceAdd, Nat.reduceEqDiff, Nat.reduceLT, Nat.reduceLeDiff, Nat.reduceMul, Nat.reduceSub, Nat.reduceDiv, Nat.reduceMod, Nat.reduceBEq, Nat.reduceBNe, reduceIte, reduceCtorEq, Int.reduceToNat, Int.reduceLT, Int.reduceLE, Int.reduceAdd, Int.reduceSub, Int.reduceMul, Int.reduceNeg, Int.reduceEq, Int.reduceNe, D_G, D_P, List.lookup, tys, intsV_len, wpN_seq, wpN_zero, Kn_normal, Kn_exit, Kn_goto, Kn_ret, colsI_len]
        refine ⟨by omega, ?_⟩
        refine WP.drawF [(0, 0, 1, [15]), (0, 0, 0, [16]), (2, 0, 0, [5, 116]), (6, 0, 0, [117]), (14, 0, 0, [118]), (0, 0, 0, [8]), (32, 0, 0, [120]), (126, 0, 0, [119, 121]), (254, 0, 1, [122]), (511, 1, 2, [115, 123]), (1023, 2, 2, [124])] D_mixed (by decide +kernel) ?_
        simp -implicitDefEqProofs only [s_s, argEnv, PastOK, PendOK, sel, isE, isSp, baseOK, opR, opnd, opnds, opndL, ofConst, look, putE, dstOK, guardL, binR, intOp, loadR, bad, bound, lenV, srcV, Ob.read, V.plain, V.one, V.cells, fillV, setMany, zeros, TK.agg, Sub, cellRes, loadV, bindE, Nat.reduceAdd, Nat.reduceEqDiff, Nat.reduceLT, Nat.reduceLeDiff, Nat.reduceMul, Nat.reduceSub, Nat.reduceDiv, Nat.reduceMod, Nat.reduceBEq, Nat.reduceBNe, reduceIte, reduceCtorEq, Int.reduceToNat, Int.reduceLT, Int.reduceLE, Int.reduceAdd, Int.reduceSub, Int.reduceMul, Int.reduceNeg, Int.reduceEq, Int.reduceNe, D_G, D_P, List.lookup, tys, intsV_len, wpN_seq, wpN_zero, Kn_normal, Kn_exit, Kn_goto, Kn_ret, hcv, g1, g2, wantI_len]
        refine ⟨by omega, by omega, by omega, by omega, ?_⟩
        simp -implicitDefEqProofs only [s_s, argEnv, PastOK, PendOK, sel, isE, isSp, baseOK, opR, opnd, opnds, opndL, ofConst, look, putE, dstOK, guardL, binR, intOp, loadR, bad, bound, lenV, srcV, Ob.read, V.plain, V.one, V.cells, fillV, setMany, zeros, TK.agg, Sub, cellRes, loadV, bindE, Nat.reduceAdd, Nat.reduceEqDiff, Nat.reduceLT, Nat.reduceLeDiff, Nat.reduceMul, Nat.reduceSub, Nat.reduceDiv, Nat.reduceMod, Nat.reduceBEq, Nat.reduceBNe, reduceIte, reduceCtorEq, Int.reduceToNat, Int.reduceLT, Int.reduceLE, Int.reduceAdd, Int.reduceSub, Int.reduceMul, Int.reduceNeg, Int.reduceEq, Int.reduceNe, D_G, D_P, List.lookup, tys, intsV_len, wpN_seq, wpN_zero, Kn_normal, Kn_exit, Kn_goto, Kn_ret, f2]
        refine Kc.next (i + 1) hik' (by omega) (st ++ [.cells 0 [.int .u8 a0, .int .u8 a1, .int .u8 a2, .int .u8 a3, bytesV b], .cells 0 (c.map fun (n : Nat) => V.int .u8 n), .cells 0 [.int .i64 S, .lst 1 (R.map rowV)], .acc ((bits m i).length + 1) (intsV (colsI m (i + 1))), .acc ((bits m i).length + 1) (intsV (wantI (fun j => (c[j]?).getD 0 % S) m (i + 1)))]) [.cells 0 [.int .i64 i], .cells 0 [.int .i64 (x % S : Nat)]] (by rw [colsI_take hb1, wantI_take hb1, g3]; simp [intsV]) (by simp) ?_ ?_
        · rw [bits_succ, hb1]
          simp only [if_true, List.length_append, List.length_singleton]
          exact StConv.base hB (by simp) (.cons (.keep (by simp [Ob.bdd, bddL, V.bdd, bytesV, bdd_bytes])) (.cons (.keep (bdd_bytes _ _)) (.cons (.keep (by simp [Ob.bdd, bddL, V.bdd, bdd_rows])) (.cons (.keep (bdd_ints _ _)) (.cons (.keep (bdd_ints _ _)) .nil)))))
        · refine EnvC.of_sub ?_ ?_
          · rw [bits_succ, hb1]
            simp -implicitDefEqProofs only [s_s, argEnv, PastOK, PendOK, sel, isE, isSp, baseOK, opR, opnd, opnds, opndL, ofConst, look, putE, dstOK, guardL, binR, intOp, loadR, bad, bound, lenV, srcV, Ob.read, V.plain, V.one, V.cells, fillV, setMany, zeros, TK.agg, Sub, cellRes, loadV, bindE, Nat.reduceAdd, Nat.reduceEqDiff, Nat.reduceLT, Nat.reduceLeDiff, Nat.reduceMul, Nat.reduceSub, Nat.reduceDiv, Nat.reduceMod, Nat.reduceBEq, Nat.reduceBNe, reduceIte, reduceCtorEq, Int.reduceToNat, Int.reduceLT, Int.reduceLE, Int.reduceAdd, Int.reduceSub, Int.reduceMul, Int.reduceNeg, Int.reduceEq, Int.reduceNe, D_G, D_P, List.lookup, tys, intsV_len, wpN_seq, wpN_zero, Kn_normal, Kn_exit, Kn_goto, Kn_ret]
            try simp
          · simp [bddE, V.bdd]
      · simp -implicitDefEqProofs only [s_s, argEnv, PastOK, PendOK, sel, isE, isSp, baseOK, opR, opnd, opnds, opndL, ofConst, look, putE, dstOK, guardL, binR, intOp, loadR, bad, bound, lenV, srcV, Ob.read, V.plain, V.one, V.cells, fillV, setMany, zeros, TK.agg, Sub, cellRes, loadV, bindE, Nat.reduceAdd, Nat.reduceEqDiff, Nat.reduceLT, Nat.reduceLeDiff, Nat.reduceMul, Nat.reduceSub, Nat.reduceDiv, Nat.reduceMod, Nat.reduceBEq, Nat.reduceBNe, reduceIte, reduceCtorEq, Int.reduceToNat, Int.reduceLT, Int.reduceLE, Int.reduceAdd, Int.reduceSub, Int.reduceMul, Int.reduceNeg, Int.reduceEq, Int.reduceNe, D_G, D_P, List.lookup, tys, intsV_len, wpN_seq, wpN_zero, Kn_normal, Kn_exit, Kn_goto, Kn_ret, f2]
        refine Kc.next (i + 1) hik' (by omega) (st ++ [.cells 0 [.int .u8 a0, .int .u8 a1, .int .u8 a2, .int .u8 a3, bytesV b], .cells 0 (c.map fun (n : Nat) => V.int .u8 n), .cells 0 [.int .i64 S, .lst 1 (R.map rowV)], .acc (bits m i).length (intsV (colsI m i)), .acc (bits m i).length (intsV (wantI (fun j => (c[j]?).getD 0 % S) m i))]) [] (by simp) (by simp) ?_ ?_
        · rw [colsI_skip hb1, wantI_skip hb1, bits_succ, hb1]
          simp only [Bool.false_eq_true, if_false, List.append_nil]
          exact StConv.base hB (by simp) (.cons (.keep (by simp [Ob.bdd, bddL, V.bdd, bytesV, bdd_bytes])) (.cons (.keep (bdd_bytes _ _)) (.cons (.keep (by simp [Ob.bdd, bddL, V.bdd, bdd_rows])) (.cons (.keep (bdd_ints _ _)) (.cons (.keep (bdd_ints _ _)) .nil)))))
        · refine EnvC.of_sub ?_ ?_
          · rw [bits_succ, hb1]
            simp -implicitDefEqProofs only [s_s, argEnv, PastOK, PendOK, sel, isE, isSp, baseOK, opR, opnd, opnds, opndL, ofConst, look, putE, dstOK, guardL, binR, intOp, loadR, bad, bound, lenV, srcV, Ob.read, V.plain, V.one, V.cells, fillV, setMany, zeros, TK.agg, Sub, cellRes, loadV, bindE, Nat.reduceAdd, Nat.reduceEqDiff, Nat.reduceLT, Nat.reduceLeDiff, Nat.reduceMul, Nat.reduceSub, Nat.reduceDiv, Nat.reduceMod, Nat.reduceBEq, Nat.reduceBNe, reduceIte, reduceCtorEq, Int.reduceToNat, Int.reduceLT, Int.reduceLE, Int.reduceAdd, Int.reduceSub, Int.reduceMul, Int.reduceNeg, Int.reduceEq, Int.reduceNe, D_G, D_P, List.lookup, tys, intsV_len, wpN_seq, wpN_zero, Kn_normal, Kn_exit, Kn_goto, Kn_ret]
            try simp
          · simp [bddE, V.bdd]
    · have hik' : i = k := by have := of_decide_eq_false h; omega
      subst hik'
      simp -implicitDefEqProofs only [s_s, argEnv, PastOK, PendOK, sel, isE, isSp, baseOK, opR, opnd, opnds, opndL, ofConst, look, putE, dstOK, guardL, binR, intOp, loadR, bad, bound, lenV, srcV, Ob.read, V.plain, V.one, V.cells, fillV, setMany, zeros, TK.agg, Sub, cellRes, loadV, bindE, Nat.reduceAdd, Nat.reduceEqDiff, Nat.reduceLT, Nat.reduceLeDiff, Nat.reduceMul, Nat.reduceSub, Nat.reduceDiv, Nat.reduceMod, Nat.reduceBEq, Nat.reduceBNe, reduceIte, reduceCtorEq, Int.reduceToNat, Int.reduceLT, Int.reduceLE, Int.reduceAdd, Int.reduceSub, Int.reduceMul, Int.reduceNeg, Int.reduceEq, Int.reduceNe, D_G, D_P, List.lookup, tys, intsV_len, wpN_seq, wpN_zero, Kn_normal, Kn_exit, Kn_goto, Kn_ret]
      have hwS : ∀ j : Nat, (c[j]?).getD 0 % S < S := fun j => Nat.mod_lt _ (by omega)
      obtain ⟨L, hL⟩ : ∃ L, L = (bits m i).length := ⟨_, rfl⟩
      rw [← hL]
      have hLi : L ≤ i := by rw [hL]; exact bits_len m i
      obtain ⟨w, hw⟩ : ∃ w : Nat → Nat, w = fun j => (c[j]?).getD 0 % S := ⟨_, rfl⟩
      rw [← hw]
      have hwS' : ∀ j, w j < S := fun j => by rw [hw]; exact hwS j
      have hXB : StB (st ++ [.cells 0 [.int .u8 a0, .int .u8 a1, .int .u8 a2, .int .u8 a3, bytesV b], .cells 0 (c.map fun (n : Nat) => V.int .u8 n), .cells 0 [.int .i64 S, .lst 1 (R.map rowV)]]) := by
        refine StB.app hB ?_
        simp only [List.mem_cons, List.not_mem_nil, or_false]
        rintro ob (rfl | rfl | rfl)
        · simp [Ob.bdd, bddL, V.bdd, bytesV, bdd_bytes]
        · exact bdd_bytes _ _
        · simp [Ob.bdd, bddL, V.bdd, bdd_rows]
      have h14 : (rowV (colsI m i)) = .lst 1 (intsV (colsI m i)) := rfl
      refine WP.cut (env' := [(7, .bool true), (8, .ptr (st.length + 2) 0 0), (9, .int .i64 i), (10, .int .i64 T), (14, rowV (colsI m i)), (15, rowV (wantI w m i))]) (st1 := st ++ [.cells 0 [.int .u8 a0, .int .u8 a1, .int .u8 a2, .int .u8 a3, bytesV b], .cells 0 (c.map fun (n : Nat) => V.int .u8 n), .cells 0 [.int .i64 S, .lst 1 (R.map rowV)]]) (st1' := st ++ [.cells 0 [.int .u8 a0, .int .u8 a1, .int .u8 a2, .int .u8 a3, bytesV b], .cells 0 (c.map fun (n : Nat) => V.int .u8 n), .cells 0 [.int .i64 S, .lst 1 (R.map rowV)]]) (new := [.acc L (intsV (colsI m i)), .acc L (intsV (wantI w m i))]) (by simp) (by simp) (StConv.refl_of hXB) ?_ ?_
      · exact ⟨⟨_, rfl, .keep rfl⟩, ⟨_, rfl, .keep (by simp [V.bdd])⟩, ⟨_, rfl, .keep rfl⟩, ⟨_, rfl, .keep rfl⟩,
          ⟨_, rfl, Conv.row (by simp) (ob := .acc L (intsV (colsI m i))) (by simp) (by simp [Ob.read]) (by rw [colsI_len, hL])⟩,
          ⟨_, rfl, Conv.row (by simp) (ob := .acc L (intsV (wantI w m i))) (by simp) (by simp [Ob.read]) (by rw [wantI_len, hL])⟩, trivial⟩
      refine wpF_sound ?_
      have hcl : (colsI m i).length = L := by rw [colsI_len, hL]
      simp -implicitDefEqProofs only [s_s, argEnv, PastOK, PendOK, sel, isE, isSp, baseOK, opR, opnd, opnds, opndL, ofConst, look, putE, dstOK, guardL, binR, intOp, loadR, bad, bound, lenV, srcV, Ob.read, V.plain, V.one, V.cells, fillV, setMany, zeros, TK.agg, Sub, cellRes, loadV, bindE, Nat.reduceAdd, Nat.reduceEqDiff, Nat.reduceLT, Nat.reduceLeDiff, Nat.reduceMul, Nat.reduceSub, Nat.reduceDiv, Nat.reduceMod, Nat.reduceBEq, Nat.reduceBNe, reduceIte, reduceCtorEq, Int.reduceToNat, Int.reduceLT, Int.reduceLE, Int.reduceAdd, Int.reduceSub, Int.reduceMul, Int.reduceNeg, Int.reduceEq, Int.reduceNe, D_G, D_P, List.lookup, tys, intsV_len, wpN_seq, wpN_zero, Kn_normal, Kn_exit, Kn_goto, Kn_ret, rowV, hcl]
      refine Br.intro (fun h => ?_) (fun h => ?_)
      · simp -implicitDefEqProofs only [s_s, argEnv, PastOK, PendOK, sel, isE, isSp, baseOK, opR, opnd, opnds, opndL, ofConst, look, putE, dstOK, guardL, binR, intOp, loadR, bad, bound, lenV, srcV, Ob.read, V.plain, V.one, V.cells, fillV, setMany, zeros, TK.agg, Sub, cellRes, loadV, bindE, Nat.reduceAdd, Nat.reduceEqDiff, Nat.reduceLT, Nat.reduceLeDiff, Nat.reduceMul, Nat.reduceSub, Nat.reduceDiv, Nat.reduceMod, Nat.reduceBEq, Nat.reduceBNe, reduceIte, reduceCtorEq, Int.reduceToNat, Int.reduceLT, Int.reduceLE, Int.reduceAdd, Int.reduceSub, Int.reduceMul, Int.reduceNeg, Int.reduceEq, Int.reduceNe, D_G, D_P, List.lookup, tys, intsV_len, wpN_seq, wpN_zero, Kn_normal, Kn_exit, Kn_goto, Kn_ret]
        exact Post.r1 rfl ⟨_, _, rfl, .keep rfl, rfl⟩
      · have hL0 : 1 ≤ L := by have := of_decide_eq_false h; omega
        simp -implicitDefEqProofs only [s_s, argEnv, PastOK, PendOK, sel, isE, isSp, baseOK, opR, opnd, opnds, opndL, ofConst, look, putE, dstOK, guardL, binR, intOp, loadR, bad, bound, lenV, srcV, Ob.read, V.plain, V.one, V.cells, fillV, setMany, zeros, TK.agg, Sub, cellRes, loadV, bindE, Nat.reduceAdd, Nat.reduceEqDiff, Nat.reduceLT, Nat.reduceLeDiff, Nat.reduceMul, Nat.reduceSub, Nat.reduceDiv, Nat.reduceMod, Nat.reduceBEq, Nat.reduceBNe, reduceIte, reduceCtorEq, Int.reduceToNat, Int.reduceLT, Int.reduceLE, Int.reduceAdd, Int.reduceSub, Int.reduceMul, Int.reduceNeg, Int.reduceEq, Int.reduceNe, D_G, D_P, List.lookup, tys, intsV_len, wpN_seq, wpN_zero, Kn_normal, Kn_exit, Kn_goto, Kn_ret]
        refine Sp.call rfl rfl ?_
        refine (count_spec S R (colsI m i) (wantI w m i) (by omega) (by rw [colsI_len, wantI_len]) (by omega) (by
              intro r hr x hx
              obtain ⟨j, hj, rfl⟩ := List.mem_map.1 hx
              have := List.mem_range.1 (List.mem_filter.1 hj).1
              have := (hR.row r hr).1
              omega) _).mono ?_
        rintro v st' ⟨rfl, rfl⟩
        have hLk : 1 ≤ (L : Int) ∧ (L : Int) ≤ i := ⟨by omega, by omega⟩
        have hIdx : ∀ st, VCall D 12 [arrV S R, .int .i64 L] st (fun r st' => r = .int .i64 (indexN S R i L) ∧ st' = st) := fun st => (Index_full S R i hR (L : Nat) st).mono fun r st' ⟨h1, h2⟩ => ⟨by rw [h1, if_pos hLk, Int.toNat_natCast], h2⟩
        have hCov : ∀ st, VCall D 13 [arrV S R, .int .i64 L] st (fun r st' => r = .bool (missN S R i L == 0) ∧ st' = st) := fun st => (Covers_full S R i hR (L : Nat) st).mono fun r st' ⟨h1, h2⟩ => ⟨by rw [h1, Int.toNat_natCast, decide_eq_true hLk, Bool.true_and], h2⟩
        have hcf : missN S R i L = 0 → decide ((countN R (colsI m i) (wantI w m i) : Int) = 0) = false := fun h => decide_eq_false (by have := count_full (m := m) hR hwS' (by rw [← hL]; exact h); omega)
        have hI0 : ∀ t : Int, ¬ (1 ≤ t ∧ t ≤ i) → ∀ st, VCall D 12 [arrV S R, .int .i64 t] st (fun r st' => r = .int .i64 0 ∧ st' = st) := fun t ht st => (Index_full S R i hR t st).mono fun r st' ⟨h1, h2⟩ => ⟨by rw [h1, if_neg ht], h2⟩
        have hC0 : ∀ t : Int, ¬ (1 ≤ t ∧ t ≤ i) → ∀ st, VCall D 13 [arrV S R, .int .i64 t] st (fun r st' => r = .bool false ∧ st' = st) := fun t ht st => (Covers_full S R i hR t st).mono fun r st' ⟨h1, h2⟩ => ⟨by rw [h1, decide_eq_false ht, Bool.false_and], h2⟩
        have hM0 : ∀ t : Int, ¬ (1 ≤ t ∧ t ≤ i) → ∀ st, VCall D 14 [arrV S R, .int .i64 t] st (fun r st' => r = .int .i64 0 ∧ st' = st) := fun t ht st => (Missing_spec S R i hR t st).mono fun r st' ⟨h1, h2⟩ => ⟨by rw [h1, if_neg ht], h2⟩
        have n0 : ¬ ((1 : Int) ≤ 0 ∧ (0 : Int) ≤ i) := by omega
        have n1 : ¬ ((1 : Int) ≤ (i + 1 : Nat) ∧ ((i + 1 : Nat) : Int) ≤ i) := by omega
        have f2 : IntKind.i64.wrap ((i : Int) + 1) = ((i + 1 : Nat) : Int) := by rw [wrapI (by omega) (by omega)]; omega
        rcases Nat.lt_or_ge T L with hlt | hge
        · have c1 : decide ((L : Int) ≤ (T : Int)) = false := decide_eq_false (by omega)
          simp -implicitDefEqProofs only [s_s, argEnv, PastOK, PendOK, sel, isE, isSp, baseOK, opR, opnd, opnds, opndL, ofConst, look, putE, dstOK, guardL, binR, intOp, loadR, bad, bound, lenV, srcV, Ob.read, V.plain, V.one, V.cells, fillV, setMany, zeros, TK.agg, Sub, cellRes, loadV, bindE, Nat.reduceAdd, Nat.reduceEqDiff, Nat.reduceLT, Nat.reduceLeDiff, Nat.reduceMul, Nat.reduceSub, Nat.reduceDiv, Nat.reduceMod, Nat.reduceBEq, Nat.reduceBNe, reduceIte, reduceCtorEq, Int.reduceToNat, Int.reduceLT, Int.reduceLE, Int.reduceAdd, Int.reduceSub, Int.reduceMul, Int.reduceNeg, Int.reduceEq, Int.reduceNe, D_G, D_P, List.lookup, tys, intsV_len, wpN_seq, wpN_zero, Kn_normal, Kn_exit, Kn_goto, Kn_ret, c1, hcl]
          refine Sp.call rfl rfl ?_
          refine (hCov _).mono ?_
          rintro v st' ⟨rfl, rfl⟩
          by_cases hm0 : missN S R i L = 0
          · have c2 := hcf hm0
            have c3 : (missN S R i L == 0) = true := beq_iff_eq.2 hm0
            simp -implicitDefEqProofs only [s_s, argEnv, PastOK, PendOK, sel, isE, isSp, baseOK, opR, opnd, opnds, opndL, ofConst, look, putE, dstOK, guardL, binR, intOp, loadR, bad, bound, lenV, srcV, Ob.read, V.plain, V.one, V.cells, fillV, setMany, zeros, TK.agg, Sub, cellRes, loadV, bindE, Nat.reduceAdd, Nat.reduceEqDiff, Nat.reduceLT, Nat.reduceLeDiff, Nat.reduceMul, Nat.reduceSub, Nat.reduceDiv, Nat.reduceMod, Nat.reduceBEq, Nat.reduceBNe, reduceIte, reduceCtorEq, Int.reduceToNat, Int.reduceLT, Int.reduceLE, Int.reduceAdd, Int.reduceSub, Int.reduceMul, Int.reduceNeg, Int.reduceEq, Int.reduceNe, D_G, D_P, List.lookup, tys, intsV_len, wpN_seq, wpN_zero, Kn_normal, Kn_exit, Kn_goto, Kn_ret, c2, c3]
            refine Sp.call rfl rfl ((hI0 0 n0 _).mono ?_)
            rintro v st' ⟨rfl, rfl⟩
            simp -implicitDefEqProofs only [s_s, argEnv, PastOK, PendOK, sel, isE, isSp, baseOK, opR, opnd, opnds, opndL, ofConst, look, putE, dstOK, guardL, binR, intOp, loadR, bad, bound, lenV, srcV, Ob.read, V.plain, V.one, V.cells, fillV, setMany, zeros, TK.agg, Sub, cellRes, loadV, bindE, Nat.reduceAdd, Nat.reduceEqDiff, Nat.reduceLT, Nat.reduceLeDiff, Nat.reduceMul, Nat.reduceSub, Nat.reduceDiv, Nat.reduceMod, Nat.reduceBEq, Nat.reduceBNe, reduceIte, reduceCtorEq, Int.reduceToNat, Int.reduceLT, Int.reduceLE, Int.reduceAdd, Int.reduceSub, Int.reduceMul, Int.reduceNeg, Int.reduceEq, Int.reduceNe, D_G, D_P, List.lookup, tys, intsV_len, wpN_seq, wpN_zero, Kn_normal, Kn_exit, Kn_goto, Kn_ret, f2]
            refine Sp.call rfl rfl ((hI0 _ n1 _).mono ?_)
            rintro v st' ⟨rfl, rfl⟩
            simp -implicitDefEqProofs only [s_s, argEnv, PastOK, PendOK, sel, isE, isSp, baseOK, opR, opnd, opnds, opndL, ofConst, look, putE, dstOK, guardL, binR, intOp, loadR, bad, bound, lenV, srcV, Ob.read, V.plain, V.one, V.cells, fillV, setMany, zeros, TK.agg, Sub, cellRes, loadV, bindE, Nat.reduceAdd, Nat.reduceEqDiff, Nat.reduceLT, Nat.reduceLeDiff, Nat.reduceMul, Nat.reduceSub, Nat.reduceDiv, Nat.reduceMod, Nat.reduceBEq, Nat.reduceBNe, reduceIte, reduceCtorEq, Int.reduceToNat, Int.reduceLT, Int.reduceLE, Int.reduceAdd, Int.reduceSub, Int.reduceMul, Int.reduceNeg, Int.reduceEq, Int.reduceNe, D_G, D_P, List.lookup, tys, intsV_len, wpN_seq, wpN_zero, Kn_normal, Kn_exit, Kn_goto, Kn_ret]
            refine Sp.call rfl rfl ((hC0 0 n0 _).mono ?_)
            rintro v st' ⟨rfl, rfl⟩
            simp -implicitDefEqProofs only [s_s, argEnv, PastOK, PendOK, sel, isE, isSp, baseOK, opR, opnd, opnds, opndL, ofConst, look, putE, dstOK, guardL, binR, intOp, loadR, bad, bound, lenV, srcV, Ob.read, V.plain, V.one, V.cells, fillV, setMany, zeros, TK.agg, Sub, cellRes, loadV, bindE, Nat.reduceAdd, Nat.reduceEqDiff, Nat.reduceLT, Nat.reduceLeDiff, Nat.reduceMul, Nat.reduceSub, Nat.reduceDiv, Nat.reduceMod, Nat.reduceBEq, Nat.reduceBNe, reduceIte, reduceCtorEq, Int.reduceToNat, Int.reduceLT, Int.reduceLE, Int.reduceAdd, Int.reduceSub, Int.reduceMul, Int.reduceNeg, Int.reduceEq, Int.reduceNe, D_G, D_P, List.lookup, tys, intsV_len, wpN_seq, wpN_zero, Kn_normal, Kn_exit, Kn_goto, Kn_ret, f2]
            refine Sp.call rfl rfl ((hC0 _ n1 _).mono ?_)
            rintro v st' ⟨rfl, rfl⟩
            simp -implicitDefEqProofs only [s_s, argEnv, PastOK, PendOK, sel, isE, isSp, baseOK, opR, opnd, opnds, opndL, ofConst, look, putE, dstOK, guardL, binR, intOp, loadR, bad, bound, lenV, srcV, Ob.read, V.plain, V.one, V.cells, fillV, setMany, zeros, TK.agg, Sub, cellRes, loadV, bindE, Nat.reduceAdd, Nat.reduceEqDiff, Nat.reduceLT, Nat.reduceLeDiff, Nat.reduceMul, Nat.reduceSub, Nat.reduceDiv, Nat.reduceMod, Nat.reduceBEq, Nat.reduceBNe, reduceIte, reduceCtorEq, Int.reduceToNat, Int.reduceLT, Int.reduceLE, Int.reduceAdd, Int.reduceSub, Int.reduceMul, Int.reduceNeg, Int.reduceEq, Int.reduceNe, D_G, D_P, List.lookup, tys, intsV_len, wpN_seq, wpN_zero, Kn_normal, Kn_exit, Kn_goto, Kn_ret]
            refine Sp.call rfl rfl ((hM0 0 n0 _).mono ?_)
            rintro v st' ⟨rfl, rfl⟩
            simp -implicitDefEqProofs only [s_s, argEnv, PastOK, PendOK, sel, isE, isSp, baseOK, opR, opnd, opnds, opndL, ofConst, look, putE, dstOK, guardL, binR, intOp, loadR, bad, bound, lenV, srcV, Ob.read, V.plain, V.one, V.cells, fillV, setMany, zeros, TK.agg, Sub, cellRes, loadV, bindE, Nat.reduceAdd, Nat.reduceEqDiff, Nat.reduceLT, Nat.reduceLeDiff, Nat.reduceMul, Nat.reduceSub, Nat.reduceDiv, Nat.reduceMod, Nat.reduceBEq, Nat.reduceBNe, reduceIte, reduceCtorEq, Int.reduceToNat, Int.reduceLT, Int.reduceLE, Int.reduceAdd, Int.reduceSub, Int.reduceMul, Int.reduceNeg, Int.reduceEq, Int.reduceNe, D_G, D_P, List.lookup, tys, intsV_len, wpN_seq, wpN_zero, Kn_normal, Kn_exit, Kn_goto, Kn_ret]
            exact Post.r1 rfl ⟨_, _, rfl, .keep rfl, rfl⟩
          · have c3 : (missN S R i L == 0) = false := beq_eq_false_iff_ne.2 hm0
            simp -implicitDefEqProofs only [s_s, argEnv, PastOK, PendOK, sel, isE, isSp, baseOK, opR, opnd, opnds, opndL, ofConst, look, putE, dstOK, guardL, binR, intOp, loadR, bad, bound, lenV, srcV, Ob.read, V.plain, V.one, V.cells, fillV, setMany, zeros, TK.agg, Sub, cellRes, loadV, bindE, Nat.reduceAdd, Nat.reduceEqDiff, Nat.reduceLT, Nat.reduceLeDiff, Nat.reduceMul, Nat.reduceSub, Nat.reduceDiv, Nat.reduceMod, Nat.reduceBEq, Nat.reduceBNe, reduceIte, reduceCtorEq, Int.reduceToNat, Int.reduceLT, Int.reduceLE, Int.reduceAdd, Int.reduceSub, Int.reduceMul, Int.reduceNeg, Int.reduceEq, Int.reduceNe, D_G, D_P, List.lookup, tys, intsV_len, wpN_seq, wpN_zero, Kn_normal, Kn_exit, Kn_goto, Kn_ret, c3]
            refine Sp.call rfl rfl ((hI0 0 n0 _).mono ?_)
            rintro v st' ⟨rfl, rfl⟩
            simp -implicitDefEqProofs only [s_s, argEnv, PastOK, PendOK, sel, isE, isSp, baseOK, opR, opnd, opnds, opndL, ofConst, look, putE, dstOK, guardL, binR, intOp, loadR, bad, bound, lenV, srcV, Ob.read, V.plain, V.one, V.cells, fillV, setMany, zeros, TK.agg, Sub, cellRes, loadV, bindE, Nat.reduceAdd, Nat.reduceEqDiff, Nat.reduceLT, Nat.reduceLeDiff, Nat.reduceMul, Nat.reduceSub, Nat.reduceDiv, Nat.reduceMod, Nat.reduceBEq, Nat.reduceBNe, reduceIte, reduceCtorEq, Int.reduceToNat, Int.reduceLT, Int.reduceLE, Int.reduceAdd, Int.reduceSub, Int.reduceMul, Int.reduceNeg, Int.reduceEq, Int.reduceNe, D_G, D_P, List.lookup, tys, intsV_len, wpN_seq, wpN_zero, Kn_normal, Kn_exit, Kn_goto, Kn_ret, f2]
            refine Sp.call rfl rfl ((hI0 _ n1 _).mono ?_)
            rintro v st' ⟨rfl, rfl⟩
            simp -implicitDefEqProofs only [s_s, argEnv, PastOK, PendOK, sel, isE, isSp, baseOK, opR, opnd, opnds, opndL, ofConst, look, putE, dstOK, guardL, binR, intOp, loadR, bad, bound, lenV, srcV, Ob.read, V.plain, V.one, V.cells, fillV, setMany, zeros, TK.agg, Sub, cellRes, loadV, bindE, Nat.reduceAdd, Nat.reduceEqDiff, Nat.reduceLT, Nat.reduceLeDiff, Nat.reduceMul, Nat.reduceSub, Nat.reduceDiv, Nat.reduceMod, Nat.reduceBEq, Nat.reduceBNe, reduceIte, reduceCtorEq, Int.reduceToNat, Int.reduceLT, Int.reduceLE, Int.reduceAdd, Int.reduceSub, Int.reduceMul, Int.reduceNeg, Int.reduceEq, Int.reduceNe, D_G, D_P, List.lookup, tys, intsV_len, wpN_seq, wpN_zero, Kn_normal, Kn_exit, Kn_goto, Kn_ret]
            refine Sp.call rfl rfl ((hC0 0 n0 _).mono ?_)
            rintro v st' ⟨rfl, rfl⟩
            simp -implicitDefEqProofs only [s_s, argEnv, PastOK, PendOK, sel, isE, isSp, baseOK, opR, opnd, opnds, opndL, ofConst, look, putE, dstOK, guardL, binR, intOp, loadR, bad, bound, lenV, srcV, Ob.read, V.plain, V.one, V.cells, fillV, setMany, zeros, TK.agg, Sub, cellRes, loadV, bindE, Nat.reduceAdd, Nat.reduceEqDiff, Nat.reduceLT, Nat.reduceLeDiff, Nat.reduceMul, Nat.reduceSub, Nat.reduceDiv, Nat.reduceMod, Nat.reduceBEq, Nat.reduceBNe, reduceIte, reduceCtorEq, Int.reduceToNat, Int.reduceLT, Int.reduceLE, Int.reduceAdd, Int.reduceSub, Int.reduceMul, Int.reduceNeg, Int.reduceEq, Int.reduceNe, D_G, D_P, List.lookup, tys, intsV_len, wpN_seq, wpN_zero, Kn_normal, Kn_exit, Kn_goto, Kn_ret, f2]
            refine Sp.call rfl rfl ((hC0 _ n1 _).mono ?_)
            rintro v st' ⟨rfl, rfl⟩
            simp -implicitDefEqProofs only [s_s, argEnv, PastOK, PendOK, sel, isE, isSp, baseOK, opR, opnd, opnds, opndL, ofConst, look, putE, dstOK, guardL, binR, intOp, loadR, bad, bound, lenV, srcV, Ob.read, V.plain, V.one, V.cells, fillV, setMany, zeros, TK.agg, Sub, cellRes, loadV, bindE, Nat.reduceAdd, Nat.reduceEqDiff, Nat.reduceLT, Nat.reduceLeDiff, Nat.reduceMul, Nat.reduceSub, Nat.reduceDiv, Nat.reduceMod, Nat.reduceBEq, Nat.reduceBNe, reduceIte, reduceCtorEq, Int.reduceToNat, Int.reduceLT, Int.reduceLE, Int.reduceAdd, Int.reduceSub, Int.reduceMul, Int.reduceNeg, Int.reduceEq, Int.reduceNe, D_G, D_P, List.lookup, tys, intsV_len, wpN_seq, wpN_zero, Kn_normal, Kn_exit, Kn_goto, Kn_ret]
            refine Sp.call rfl rfl ((hM0 0 n0 _).mono ?_)
            rintro v st' ⟨rfl, rfl⟩
            simp -implicitDefEqProofs only [s_s, argEnv, PastOK, PendOK, sel, isE, isSp, baseOK, opR, opnd, opnds, opndL, ofConst, look, putE, dstOK, guardL, binR, intOp, loadR, bad, bound, lenV, srcV, Ob.read, V.plain, V.one, V.cells, fillV, setMany, zeros, TK.agg, Sub, cellRes, loadV, bindE, Nat.reduceAdd, Nat.reduceEqDiff, Nat.reduceLT, Nat.reduceLeDiff, Nat.reduceMul, Nat.reduceSub, Nat.reduceDiv, Nat.reduceMod, Nat.reduceBEq, Nat.reduceBNe, reduceIte, reduceCtorEq, Int.reduceToNat, Int.reduceLT, Int.reduceLE, Int.reduceAdd, Int.reduceSub, Int.reduceMul, Int.reduceNeg, Int.reduceEq, Int.reduceNe, D_G, D_P, List.lookup, tys, intsV_len, wpN_seq, wpN_zero, Kn_normal, Kn_exit, Kn_goto, Kn_ret]
            exact Post.r1 rfl ⟨_, _, rfl, .keep rfl, rfl⟩
        · have c1 : decide ((L : Int) ≤ (T : Int)) = true := decide_eq_true (by omega)
          have hci : countN R (colsI m i) (wantI w m i) = indexN S R i L := by
            rw [hL]; exact count_index hR hwS' (by omega) (by omega)
          simp -implicitDefEqProofs only [s_s, argEnv, PastOK, PendOK, sel, isE, isSp, baseOK, opR, opnd, opnds, opndL, ofConst, look, putE, dstOK, guardL, binR, intOp, loadR, bad, bound, lenV, srcV, Ob.read, V.plain, V.one, V.cells, fillV, setMany, zeros, TK.agg, Sub, cellRes, loadV, bindE, Nat.reduceAdd, Nat.reduceEqDiff, Nat.reduceLT, Nat.reduceLeDiff, Nat.reduceMul, Nat.reduceSub, Nat.reduceDiv, Nat.reduceMod, Nat.reduceBEq, Nat.reduceBNe, reduceIte, reduceCtorEq, Int.reduceToNat, Int.reduceLT, Int.reduceLE, Int.reduceAdd, Int.reduceSub, Int.reduceMul, Int.reduceNeg, Int.reduceEq, Int.reduceNe, D_G, D_P, List.lookup, tys, intsV_len, wpN_seq, wpN_zero, Kn_normal, Kn_exit, Kn_goto, Kn_ret, c1, hcl]
          refine Sp.call rfl rfl ((hIdx _).mono ?_)
          rintro v st' ⟨rfl, rfl⟩
          rw [← hci]
          simp -implicitDefEqProofs only [s_s, argEnv, PastOK, PendOK, sel, isE, isSp, baseOK, opR, opnd, opnds, opndL, ofConst, look, putE, dstOK, guardL, binR, intOp, loadR, bad, bound, lenV, srcV, Ob.read, V.plain, V.one, V.cells, fillV, setMany, zeros, TK.agg, Sub, cellRes, loadV, bindE, Nat.reduceAdd, Nat.reduceEqDiff, Nat.reduceLT, Nat.reduceLeDiff, Nat.reduceMul, Nat.reduceSub, Nat.reduceDiv, Nat.reduceMod, Nat.reduceBEq, Nat.reduceBNe, reduceIte, reduceCtorEq, Int.reduceToNat, Int.reduceLT, Int.reduceLE, Int.reduceAdd, Int.reduceSub, Int.reduceMul, Int.reduceNeg, Int.reduceEq, Int.reduceNe, D_G, D_P, List.lookup, tys, intsV_len, wpN_seq, wpN_zero, Kn_normal, Kn_exit, Kn_goto, Kn_ret]
          refine Sp.call rfl rfl ?_
          refine (hCov _).mono ?_
          rintro v st' ⟨rfl, rfl⟩
          by_cases hm0 : missN S R i L = 0
          · have c2 := hcf hm0
            have c3 : (missN S R i L == 0) = true := beq_iff_eq.2 hm0
            simp -implicitDefEqProofs only [s_s, argEnv, PastOK, PendOK, sel, isE, isSp, baseOK, opR, opnd, opnds, opndL, ofConst, look, putE, dstOK, guardL, binR, intOp, loadR, bad, bound, lenV, srcV, Ob.read, V.plain, V.one, V.cells, fillV, setMany, zeros, TK.agg, Sub, cellRes, loadV, bindE, Nat.reduceAdd, Nat.reduceEqDiff, Nat.reduceLT, Nat.reduceLeDiff, Nat.reduceMul, Nat.reduceSub, Nat.reduceDiv, Nat.reduceMod, Nat.reduceBEq, Nat.reduceBNe, reduceIte, reduceCtorEq, Int.reduceToNat, Int.reduceLT, Int.reduceLE, Int.reduceAdd, Int.reduceSub, Int.reduceMul, Int.reduceNeg, Int.reduceEq, Int.reduceNe, D_G, D_P, List.lookup, tys, intsV_len, wpN_seq, wpN_zero, Kn_normal, Kn_exit, Kn_goto, Kn_ret, c2, c3]
            refine Sp.call rfl rfl ((hI0 0 n0 _).mono ?_)
            rintro v st' ⟨rfl, rfl⟩
            simp -implicitDefEqProofs only [s_s, argEnv, PastOK, PendOK, sel, isE, isSp, baseOK, opR, opnd, opnds, opndL, ofConst, look, putE, dstOK, guardL, binR, intOp, loadR, bad, bound, lenV, srcV, Ob.read, V.plain, V.one, V.cells, fillV, setMany, zeros, TK.agg, Sub, cellRes, loadV, bindE, Nat.reduceAdd, Nat.reduceEqDiff, Nat.reduceLT, Nat.reduceLeDiff, Nat.reduceMul, Nat.reduceSub, Nat.reduceDiv, Nat.reduceMod, Nat.reduceBEq, Nat.reduceBNe, reduceIte, reduceCtorEq, Int.reduceToNat, Int.reduceLT, Int.reduceLE, Int.reduceAdd, Int.reduceSub, Int.reduceMul, Int.reduceNeg, Int.reduceEq, Int.reduceNe, D_G, D_P, List.lookup, tys, intsV_len, wpN_seq, wpN_zero, Kn_normal, Kn_exit, Kn_goto, Kn_ret, f2]
            refine Sp.call rfl rfl ((hI0 _ n1 _).mono ?_)
            rintro v st' ⟨rfl, rfl⟩
            simp -implicitDefEqProofs only [s_s, argEnv, PastOK, PendOK, sel, isE, isSp, baseOK, opR, opnd, opnds, opndL, ofConst, look, putE, dstOK, guardL, binR, intOp, loadR, bad, bound, lenV, srcV, Ob.read, V.plain, V.one, V.cells, fillV, setMany, zeros, TK.agg, Sub, cellRes, loadV, bindE, Nat.reduceAdd, Nat.reduceEqDiff, Nat.reduceLT, Nat.reduceLeDiff, Nat.reduceMul, Nat.reduceSub, Nat.reduceDiv, Nat.reduceMod, Nat.reduceBEq, Nat.reduceBNe, reduceIte, reduceCtorEq, Int.reduceToNat, Int.reduceLT, Int.reduceLE, Int.reduceAdd, Int.reduceSub, Int.reduceMul, Int.reduceNeg, Int.reduceEq, Int.reduceNe, D_G, D_P, List.lookup, tys, intsV_len, wpN_seq, wpN_zero, Kn_normal, Kn_exit, Kn_goto, Kn_ret]
            refine Sp.call rfl rfl ((hC0 0 n0 _).mono ?_)
            rintro v st' ⟨rfl, rfl⟩
            simp -implicitDefEqProofs only [s_s, argEnv, PastOK, PendOK, sel, isE, isSp, baseOK, opR, opnd, opnds, opndL, ofConst, look, putE, dstOK, guardL, binR, intOp, loadR, bad, bound, lenV, srcV, Ob.read, V.plain, V.one, V.cells, fillV, setMany, zeros, TK.agg, Sub, cellRes, loadV, bindE, Nat.reduceAdd, Nat.reduceEqDiff, Nat.reduceLT, Nat.reduceLeDiff, Nat.reduceMul, Nat.reduceSub, Nat.reduceDiv, Nat.reduceMod, Nat.reduceBEq, Nat.reduceBNe, reduceIte, reduceCtorEq, Int.reduceToNat, Int.reduceLT, Int.reduceLE, Int.reduceAdd, Int.reduceSub, Int.reduceMul, Int.reduceNeg, Int.reduceEq, Int.reduceNe, D_G, D_P, List.lookup, tys, intsV_len, wpN_seq, wpN_zero, Kn_normal, Kn_exit, Kn_goto, Kn_ret, f2]
            refine Sp.call rfl rfl ((hC0 _ n1 _).mono ?_)
            rintro v st' ⟨rfl, rfl⟩
            simp -implicitDefEqProofs only [s_s, argEnv, PastOK, PendOK, sel, isE, isSp, baseOK, opR, opnd, opnds, opndL, ofConst, look, putE, dstOK, guardL, binR, intOp, loadR, bad, bound, lenV, srcV, Ob.read, V.plain, V.one, V.cells, fillV, setMany, zeros, TK.agg, Sub, cellRes, loadV, bindE, Nat.reduceAdd, Nat.reduceEqDiff, Nat.reduceLT, Nat.reduceLeDiff, Nat.reduceMul, Nat.reduceSub, Nat.reduceDiv, Nat.reduceMod, Nat.reduceBEq, Nat.reduceBNe, reduceIte, reduceCtorEq, Int.reduceToNat, Int.reduceLT, Int.reduceLE, Int.reduceAdd, Int.reduceSub, Int.reduceMul, Int.reduceNeg, Int.reduceEq, Int.reduceNe, D_G, D_P, List.lookup, tys, intsV_len, wpN_seq, wpN_zero, Kn_normal, Kn_exit, Kn_goto, Kn_ret]
            refine Sp.call rfl rfl ((hM0 0 n0 _).mono ?_)
            rintro v st' ⟨rfl, rfl⟩
            simp -implicitDefEqProofs only [s_s, argEnv, PastOK, PendOK, sel, isE, isSp, baseOK, opR, opnd, opnds, opndL, ofConst, look, putE, dstOK, guardL, binR, intOp, loadR, bad, bound, lenV, srcV, Ob.read, V.plain, V.one, V.cells, fillV, setMany, zeros, TK.agg, Sub, cellRes, loadV, bindE, Nat.reduceAdd, Nat.reduceEqDiff, Nat.reduceLT, Nat.reduceLeDiff, Nat.reduceMul, Nat.reduceSub, Nat.reduceDiv, Nat.reduceMod, Nat.reduceBEq, Nat.reduceBNe, reduceIte, reduceCtorEq, Int.reduceToNat, Int.reduceLT, Int.reduceLE, Int.reduceAdd, Int.reduceSub, Int.reduceMul, Int.reduceNeg, Int.reduceEq, Int.reduceNe, D_G, D_P, List.lookup, tys, intsV_len, wpN_seq, wpN_zero, Kn_normal, Kn_exit, Kn_goto, Kn_ret]
            exact Post.r1 rfl ⟨_, _, rfl, .keep rfl, rfl⟩
          · have c3 : (missN S R i L == 0) = false := beq_eq_false_iff_ne.2 hm0
            simp -implicitDefEqProofs only [s_s, argEnv, PastOK, PendOK, sel, isE, isSp, baseOK, opR, opnd, opnds, opndL, ofConst, look, putE, dstOK, guardL, binR, intOp, loadR, bad, bound, lenV, srcV, Ob.read, V.plain, V.one, V.cells, fillV, setMany, zeros, TK.agg, Sub, cellRes, loadV, bindE, Nat.reduceAdd, Nat.reduceEqDiff, Nat.reduceLT, Nat.reduceLeDiff, Nat.reduceMul, Nat.reduceSub, Nat.reduceDiv, Nat.reduceMod, Nat.reduceBEq, Nat.reduceBNe, reduceIte, reduceCtorEq, Int.reduceToNat, Int.reduceLT, Int.reduceLE, Int.reduceAdd, Int.reduceSub, Int.reduceMul, Int.reduceNeg, Int.reduceEq, Int.reduceNe, D_G, D_P, List.lookup, tys, intsV_len, wpN_seq, wpN_zero, Kn_normal, Kn_exit, Kn_goto, Kn_ret, c3]
            refine Sp.call rfl rfl ((hI0 0 n0 _).mono ?_)
            rintro v st' ⟨rfl, rfl⟩
            simp -implicitDefEqProofs only [s_s, argEnv, PastOK, PendOK, sel, isE, isSp, baseOK, opR, opnd, opnds, opndL, ofConst, look, putE, dstOK, guardL, binR, intOp, loadR, bad, bound, lenV, srcV, Ob.read, V.plain, V.one, V.cells, fillV, setMany, zeros, TK.agg, Sub, cellRes, loadV, bindE, Nat.reduceAdd, Nat.reduceEqDiff, Nat.reduceLT, Nat.reduceLeDiff, Nat.reduceMul, Nat.reduceSub, Nat.reduceDiv, Nat.reduceMod, Nat.reduceBEq, Nat.reduceBNe, reduceIte, reduceCtorEq, Int.reduceToNat, Int.reduceLT, Int.reduceLE, Int.reduceAdd, Int.reduceSub, Int.reduceMul, Int.reduceNeg, Int.reduceEq, Int.reduceNe, D_G, D_P, List.lookup, tys, intsV_len, wpN_seq, wpN_zero, Kn_normal, Kn_exit, Kn_goto, Kn_ret, f2]
            refine Sp.call rfl rfl ((hI0 _ n1 _).mono ?_)
            rintro v st' ⟨rfl, rfl⟩
            simp -implicitDefEqProofs only [s_s, argEnv, PastOK, PendOK, sel, isE, isSp, baseOK, opR, opnd, opnds, opndL, ofConst, look, putE, dstOK, guardL, binR, intOp, loadR, bad, bound, lenV, srcV, Ob.read, V.plain, V.one, V.cells, fillV, setMany, zeros, TK.agg, Sub, cellRes, loadV, bindE, Nat.reduceAdd, Nat.reduceEqDiff, Nat.reduceLT, Nat.reduceLeDiff, Nat.reduceMul, Nat.reduceSub, Nat.reduceDiv, Nat.reduceMod, Nat.reduceBEq, Nat.reduceBNe, reduceIte, reduceCtorEq, Int.reduceToNat, Int.reduceLT, Int.reduceLE, Int.reduceAdd, Int.reduceSub, Int.reduceMul, Int.reduceNeg, Int.reduceEq, Int.reduceNe, D_G, D_P, List.lookup, tys, intsV_len, wpN_seq, wpN_zero, Kn_normal, Kn_exit, Kn_goto, Kn_ret]
            refine Sp.call rfl rfl ((hC0 0 n0 _).mono ?_)
            rintro v st' ⟨rfl, rfl⟩
            simp -implicitDefEqProofs only [s_s, argEnv, PastOK, PendOK, sel, isE, isSp, baseOK, opR, opnd, opnds, opndL, ofConst, look, putE, dstOK, guardL, binR, intOp, loadR, bad, bound, lenV, srcV, Ob.read, V.plain, V.one, V.cells, fillV, setMany, zeros, TK.agg, Sub, cellRes, loadV, bindE, Nat.reduceAdd, Nat.reduceEqDiff, Nat.reduceLT, Nat.reduceLeDiff, Nat.reduceMul, Nat.reduceSub, Nat.reduceDiv, Nat.reduceMod, Nat.reduceBEq, Nat.reduceBNe, reduceIte, reduceCtorEq, Int.reduceToNat, Int.reduceLT, Int.reduceLE, Int.reduceAdd, Int.reduceSub, Int.reduceMul, Int.reduceNeg, Int.reduceEq, Int.reduceNe, D_G, D_P, List.lookup, tys, intsV_len, wpN_seq, wpN_zero, Kn_normal, Kn_exit, Kn_goto, Kn_ret, f2]
            refine Sp.call rfl rfl ((hC0 _ n1 _).mono ?_)
            rintro v st' ⟨rfl, rfl⟩
            simp -implicitDefEqProofs only [s_s, argEnv, PastOK, PendOK, sel, isE, isSp, baseOK, opR, opnd, opnds, opndL, ofConst, look, putE, dstOK, guardL, binR, intOp, loadR, bad, bound, lenV, srcV, Ob.read, V.plain, V.one, V.cells, fillV, setMany, zeros, TK.agg, Sub, cellRes, loadV, bindE, Nat.reduceAdd, Nat.reduceEqDiff, Nat.reduceLT, Nat.reduceLeDiff, Nat.reduceMul, Nat.reduceSub, Nat.reduceDiv, Nat.reduceMod, Nat.reduceBEq, Nat.reduceBNe, reduceIte, reduceCtorEq, Int.reduceToNat, Int.reduceLT, Int.reduceLE, Int.reduceAdd, Int.reduceSub, Int.reduceMul, Int.reduceNeg, Int.reduceEq, Int.reduceNe, D_G, D_P, List.lookup, tys, intsV_len, wpN_seq, wpN_zero, Kn_normal, Kn_exit, Kn_goto, Kn_ret]
            refine Sp.call rfl rfl ((hM0 0 n0 _).mono ?_)
            rintro v st' ⟨rfl, rfl⟩
            simp -implicitDefEqProofs only [s_s, argEnv, PastOK, PendOK, sel, isE, isSp, baseOK, opR, opnd, opnds, opndL, ofConst, look, putE, dstOK, guardL, binR, intOp, loadR, bad, bound, lenV, srcV, Ob.read, V.plain, V.one, V.cells, fillV, setMany, zeros, TK.agg, Sub, cellRes, loadV, bindE, Nat.reduceAdd, Nat.reduceEqDiff, Nat.reduceLT, Nat.reduceLeDiff, Nat.reduceMul, Nat.reduceSub, Nat.reduceDiv, Nat.reduceMod, Nat.reduceBEq, Nat.reduceBNe, reduceIte, reduceCtorEq, Int.reduceToNat, Int.reduceLT, Int.reduceLE, Int.reduceAdd, Int.reduceSub, Int.reduceMul, Int.reduceNeg, Int.reduceEq, Int.reduceNe, D_G, D_P, List.lookup, tys, intsV_len, wpN_seq, wpN_zero, Kn_normal, Kn_exit, Kn_goto, Kn_ret]
            exact Post.r1 rfl ⟨_, _, rfl, .keep rfl, rfl⟩
end Go.VL
end

/- The array seat: from a contract to a row: what the arguments and the listed tables give. -/
section
set_option linter.unusedSimpArgs false
set_option linter.unusedVariables false
set_option maxRecDepth 100000
namespace Go.VL
open Go Go.Proofs
open Go.Proofs.YteicmeojabemhaaDoor
open Go.ChangeShapes Go.WideShapes Go.ChangeAt Go.RowKit

theorem own : ownKnob Tryd.prog.godebug = none := by kernel_rfl
theorem laidOut : laidOutB Tryd.prog = true := by kernel_rfl
theorem g32 : Tryd.prog.globalNamed "math/bits.deBruijn32tab" = some 0 := by kernel_rfl
theorem g64 : Tryd.prog.globalNamed "math/bits.deBruijn64tab" = some 1 := by kernel_rfl
theorem gt0 : (Tryd.prog.globals[0]?).map (·.type) = some 119 := by kernel_rfl
theorem gt1 : (Tryd.prog.globals[1]?).map (·.type) = some 120 := by kernel_rfl
theorem cof5 : Tryd.prog.cellsOf 5 = 1 := by kernel_rfl

theorem wf_u8 {n : Int} (h : (Lit.int .u8 n).wf = true) : 0 ≤ n ∧ n < 256 := by
  simp [Lit.wf, IntKind.has, IntKind.min, IntKind.max, IntKind.bits, IntKind.signed] at h
  omega

section
variable {H : Type} {enc : TypeId × Value → H} {W : World} {base fuel : Nat} {spare : Nat → Bool} {held : Bool}

theorem open_u8 {cs : List Value} {x : DataW H × List MemPlace} (h : DataW.trod enc Tryd.prog W base spare held fuel 5 cs = some x) : ∃ n : Nat, n < 256 ∧ cs = [.int .u8 n] ∧ x = (.lit (.int .u8 n), []) := by
  obtain ⟨n, h1, h2, h3⟩ := DataW.trod_int Tryd.underlying5 h
  obtain ⟨a, b⟩ := wf_u8 h3
  obtain ⟨m, rfl⟩ := Int.eq_ofNat_of_zero_le a
  exact ⟨m, by omega, h1, h2⟩

theorem open_arr {t n : Nat} {cs : List Value} {x : DataW H × List MemPlace} (ht : Tryd.prog.underlying t = some (.array n 5)) (hn : Tryd.prog.cellsOf t = n) (h : DataW.trod enc Tryd.prog W base spare held fuel t cs = some x) :
    ∃ c : List Nat, c.length = n ∧ (∀ x ∈ c, x < 256) ∧ cs = c.map (fun (k : Nat) => Value.int .u8 k) ∧ x.1 = .agg (c.map fun (k : Nat) => .lit (.int .u8 k)) := by
  obtain ⟨xs, m, rfl, rfl, hl, hx, hel⟩ := DataW.trod_array ht h
  rw [hn] at hl
  have each : ∀ i, i < n → ∃ k : Nat, k < 256 ∧ cs[i]? = some (.int .u8 k) ∧ xs[i]? = some (.lit (.int .u8 k), []) := by
    intro i hi
    have h1 := hel i hi
    rw [List.getElem?_eq_getElem (show i < xs.length by omega)] at h1
    obtain ⟨k, hk, e1, e2⟩ := open_u8 h1
    refine ⟨k, hk, ?_, ?_⟩
    · rw [cof5, Nat.mul_one] at e1
      have : ((cs.drop i).take 1)[0]? = some (.int .u8 (k : Int)) := by rw [e1]; rfl
      simpa using this
    · rw [List.getElem?_eq_getElem (show i < xs.length by omega), e2]
  let f : Value → Nat := fun v => match v with | .int _ k => k.toNat | _ => 0
  refine ⟨cs.map f, by simp [hl], ?_, ?_, ?_⟩
  · intro y hy
    obtain ⟨v, hv, rfl⟩ := List.mem_map.1 hy
    obtain ⟨i, hi, rfl⟩ := List.mem_iff_getElem.1 hv
    obtain ⟨k, hk, e1, _⟩ := each i (by omega)
    rw [List.getElem?_eq_getElem hi] at e1
    simp only [Option.some.injEq] at e1
    rw [e1]; simpa [f] using hk
  · apply List.ext_getElem?
    intro i
    by_cases hi : i < n
    · obtain ⟨k, hk, e1, _⟩ := each i hi
      rw [List.map_map, List.getElem?_map, e1]; simp [f]
    · rw [List.getElem?_eq_none (by omega), List.getElem?_eq_none (by simp; omega)]
  · simp only [DataW.agg.injEq]
    apply List.ext_getElem?
    intro i
    by_cases hi : i < n
    · obtain ⟨k, hk, e1, e2⟩ := each i hi
      rw [List.map_map, List.getElem?_map, List.getElem?_map, e1, e2]; simp [f]
    · rw [List.getElem?_eq_none (by simp; omega), List.getElem?_eq_none (by simp; omega)]

theorem rep_u8s {S : Nat → Prop} {σ : List Slot} : ∀ (c : List Nat), RepAll S σ W (c.map fun (k : Nat) => V.int .u8 k) (c.map fun (k : Nat) => Value.int .u8 k)
  | [] => rfl
  | k :: c => ⟨_, _, rfl, rfl, rep_u8s c⟩

theorem cells_u8s {S : Nat → Prop} {σ : List Slot} {b : Nat} : ∀ (c : List Nat) (o : Nat), (∀ (i k : Nat), c[i]? = some k → W.cell? ⟨b, o + i, none⟩ = some (.int .u8 k)) → RepCells S σ W b o (c.map fun (k : Nat) => V.int .u8 k)
  | [], _, _ => trivial
  | k :: c, o, h => ⟨⟨rfl, .int .u8 k, h 0 k rfl, rfl⟩, cells_u8s c (o + 1) fun i k hk => by
      have := h (i + 1) k (by simpa using hk)
      rwa [show o + (i + 1) = o + 1 + i by omega] at this⟩

theorem cell_lt {a : Addr} {v : Value} (h : W.cell? a = some v) : a.block < W.heap.size ∧ a.spot = none := by
  unfold World.cell? at h
  split at h
  · rename_i hb
    refine ⟨(Array.getElem?_eq_some_iff.1 hb).1, ?_⟩
    split at h
    · cases h
    · rename_i hs
      cases ha : a.spot with
      | none => rfl
      | some x => rw [ha] at hs; simp at hs
  · cases h

theorem open_bytes {cs : List Value} {x : DataW H × List MemPlace} (h : DataW.trod enc Tryd.prog W base spare held fuel 22 cs = some x) :
    ∃ (v : Value) (b : List Nat), cs = [v] ∧ (∀ n ∈ b, n < 256) ∧ Rep (fun k => k < W.heap.size) [] W (bytesV b) v := by
  rcases open_ints Tryd.underlying22 Tryd.underlying5 cof5 h with ⟨rfl, _⟩ | ⟨a, len, cap, zs, rfl, _, hl, hm, hz, _, hcell, hwz⟩
  · exact ⟨_, [], rfl, by simp, by simp only [bytesV, Rep]; exact ⟨_, _, _, rfl, Nat.le_refl _, rfl, by omega, fun h => absurd h (by omega)⟩⟩
  · have hlz : len ≤ zs.length := by rw [hz]; split <;> omega
    have hn : ∀ (i : Nat) (z : Int), (zs.take len)[i]? = some z → ∃ k : Nat, z = k ∧ k < 256 := by
      intro i z hzi
      obtain ⟨h0, h1⟩ := wf_u8 (hwz z (List.mem_of_mem_take (List.mem_of_getElem? hzi)))
      obtain ⟨k, rfl⟩ := Int.eq_ofNat_of_zero_le h0
      exact ⟨k, rfl, by omega⟩
    refine ⟨_, (zs.take len).map Int.toNat, rfl, ?_, ?_⟩
    · intro n hn'
      obtain ⟨z, hz', rfl⟩ := List.mem_map.1 hn'
      obtain ⟨i, hi⟩ := List.mem_iff_getElem?.1 hz'
      obtain ⟨k, rfl, hk⟩ := hn i z hi
      simpa using hk
    · simp only [bytesV, Rep]
      refine ⟨some a, len, cap, rfl, hl, by simp; omega, by omega, fun h0 => ?_⟩
      have h1 := hcell 0 (by omega)
      obtain ⟨hb, hs⟩ := cell_lt h1
      obtain ⟨ab, ao, asp⟩ := a
      simp only [Addr.add] at hs hb
      subst hs
      refine ⟨ab, ao, rfl, hb, cells_u8s _ _ ?_⟩
      intro i k hk
      rw [List.getElem?_map] at hk
      cases hzi : (zs.take len)[i]? with
      | none => rw [hzi] at hk; cases hk
      | some z =>
        rw [hzi] at hk
        simp only [Option.map_some, Option.some.injEq] at hk
        obtain ⟨k', rfl, _⟩ := hn i z hzi
        simp only [Int.toNat_natCast] at hk
        subst hk
        have hi : i < len := by have := (List.getElem?_eq_some_iff.1 hzi).1; simp at this; omega
        have := hcell i (by omega)
        rw [List.getElem?_take_of_lt hi] at hzi
        rw [List.getD_eq_getElem?_getD, hzi] at this
        have e : (⟨ab, ao, none⟩ : Addr).add i = ⟨ab, ao + i, none⟩ := by
          unfold Addr.add
          split
          · rename_i h0; rw [h0]; rfl
          · rfl
        rw [e] at this
        exact this
end

abbrev laidT : List (String × DataW Unit) := [("math/bits.deBruijn32tab", Rows.laid_math_bits_deBruijn32tab), ("math/bits.deBruijn64tab", Rows.laid_math_bits_deBruijn64tab)]

theorem data64 {H : Type} : (Rows.laid_math_bits_deBruijn64tab : DataW H) = .agg (tabN.map fun (k : Nat) => .lit (.int .u8 k)) := rfl

theorem lits_inj {H : Type} : ∀ {c d : List Nat}, (c.map fun (k : Nat) => (DataW.lit (.int .u8 k) : DataW H)) = (d.map fun (k : Nat) => .lit (.int .u8 k)) → c = d
  | [], [], _ => rfl
  | [], _ :: _, h => by simp at h
  | _ :: _, [], h => by simp at h
  | a :: c, b :: d, h => by
    simp only [List.map_cons, List.cons.injEq, DataW.lit.injEq, Lit.int.injEq, true_and] at h
    rw [lits_inj h.2, show a = b by omega]

/-- What the listed table gives: the global's cells. -/
theorem of_laid {W : World} (h : laidMetH Tryd.prog laidT W) : SB D (fun b => b < W.heap.size) W := by
  rw [MakeChecks.laidMetH_plain _ _ _ (by kernel_rfl)] at h
  obtain ⟨ps, ⟨g0, t0, cs0, f0, p0, q0, hg0, ht0, hv0, hd0, ⟨g1, t1, cs1, f1, p1, q1, hg1, ht1, hv1, hd1, _, _⟩, _⟩, _, _⟩ := h
  obtain rfl := Option.some.inj (g64.symm.trans hg1)
  obtain rfl := Option.some.inj (gt1.symm.trans ht1)
  obtain ⟨c, hc, hcb, hcs, hx⟩ := open_arr Tryd.underlying120 (by kernel_rfl) hd1
  have hct : c = tabN := by
    have h2 : (Rows.laid_math_bits_deBruijn64tab : DataW Unit) = .agg (c.map fun (k : Nat) => .lit (.int .u8 k)) := hx
    rw [data64] at h2
    simp only [DataW.agg.injEq] at h2
    exact (lits_inj h2).symm
  subst hct
  have hcell : ∀ (i k : Nat), tabN[i]? = some k → W.cell? ⟨1, 0 + i, none⟩ = some (.int .u8 k) := by
    intro i k hk
    have := World.var?_cell hg1 hv1 i
    rw [Nat.zero_add, this, ← Array.getElem?_toList, hcs, List.getElem?_map, hk]; rfl
  refine ⟨fun _ h => h, ?_⟩
  intro g cs hg
  rw [D_G] at hg
  simp only [List.mem_singleton, Prod.mk.injEq] at hg
  obtain ⟨rfl, rfl⟩ := hg
  exact ⟨(cell_lt (hcell 0 0 rfl)).1, cells_u8s _ _ hcell⟩

/-- The bridge: a contract that answers 'true', at the values that came in. -/
theorem bridge {f : FuncId} {args : List V} (h : VCall D f args [] (fun r st' => r = .bool true ∧ st' = [])) {W : World} (hL : laidMetH Tryd.prog laidT W) {vals : List Value} (hr : RepAll (fun b => b < W.heap.size) [] W args vals) :
    Calls Tryd.prog f vals.toArray W fun e W' => e = .returned (.bool true) ∧ Below W.heap.size W W' := by
  have hst : StRep (fun b => b < W.heap.size) [] [] W := ⟨rfl, fun id s h => by simp at h, fun id ob s h => by simp at h, fun id ob s h => by simp at h, fun id id' ob ob' s s' h => by simp at h⟩
  refine (h.2 _ [] W vals hr hst (of_laid hL)).mono ?_
  rintro e W' ⟨v, r, st', S', σ', he, ⟨rfl, rfl⟩, hv, _, _, ev⟩
  refine ⟨by rw [he]; simp only [Rep] at hv; rw [hv], ev.os, ev.tape, ev.output, ev.size, fun k hk => ev.keep k hk ?_⟩
  rintro ⟨id, ob, s, h1, _⟩
  simp at h1
end Go.VL
end

/- The array seat: the arguments of the laws. -/
section
set_option linter.unusedSimpArgs false
set_option linter.unusedVariables false
set_option maxRecDepth 100000
namespace Go.VL
open Go Go.Proofs
open Go.Proofs.YteicmeojabemhaaDoor
open Go.ChangeShapes Go.WideShapes Go.ChangeAt Go.RowKit

section
variable {H : Type} {enc : TypeId × Value → H} {W : World} {base b0 fuel : Nat} {spare : Nat → Bool} {held : Bool} {r : Reach}

theorem cof22 : Tryd.prog.cellsOf 22 = 1 := by kernel_rfl
theorem cof24 : Tryd.prog.cellsOf 24 = 5 := by kernel_rfl

/-- A struct of four bytes and a list of bytes. -/
theorem open_raw {v : Value} {d : DataW H} {ps : List MemPlace} (hval : Value.okWide Tryd.prog W r b0 24 v) (hd : DataW.Trod enc Tryd.prog W base spare held 24 v d ps) :
    ∃ (a0 a1 a2 a3 : Nat) (b : List Nat), a0 < 256 ∧ a1 < 256 ∧ a2 < 256 ∧ a3 < 256 ∧ (∀ n ∈ b, n < 256) ∧ Rep (fun k => k < W.heap.size) [] W (rawV a0 a1 a2 a3 b) v := by
  obtain ⟨⟨cs⟩, rfl, _⟩ := okWide_struct Tryd.underlying24 hval
  obtain ⟨fuel, hf⟩ := hd
  simp only [Value.cells] at hf
  obtain ⟨xs, n, rfl, hx, hl, hlen, hfs⟩ := DataW.trod_struct Tryd.underlying24 hf
  rw [cof24] at hl
  match cs, hl, hfs with
  | [c0, c1, c2, c3, c4], _, hfs =>
    have hl5 : xs.length = 5 := hlen
    match xs, hl5, hfs with
    | [y0, y1, y2, y3, y4], _, hfs =>
      have k0 : DataW.trod enc Tryd.prog W base spare held n 5 (([c0, c1, c2, c3, c4].drop 0).take (Tryd.prog.cellsOf 5)) = some y0 := hfs 0 _ rfl
      have k1 : DataW.trod enc Tryd.prog W base spare held n 5 (([c0, c1, c2, c3, c4].drop 1).take (Tryd.prog.cellsOf 5)) = some y1 := hfs 1 _ rfl
      have k2 : DataW.trod enc Tryd.prog W base spare held n 5 (([c0, c1, c2, c3, c4].drop 2).take (Tryd.prog.cellsOf 5)) = some y2 := hfs 2 _ rfl
      have k3 : DataW.trod enc Tryd.prog W base spare held n 5 (([c0, c1, c2, c3, c4].drop 3).take (Tryd.prog.cellsOf 5)) = some y3 := hfs 3 _ rfl
      have k4 : DataW.trod enc Tryd.prog W base spare held n 22 (([c0, c1, c2, c3, c4].drop 4).take (Tryd.prog.cellsOf 22)) = some y4 := hfs 4 _ rfl
      rw [cof5] at k0 k1 k2 k3
      rw [cof22] at k4
      simp only [List.drop, List.take] at k0 k1 k2 k3 k4
      obtain ⟨a0, h0, e0, _⟩ := open_u8 k0
      obtain ⟨a1, h1, e1, _⟩ := open_u8 k1
      obtain ⟨a2, h2, e2, _⟩ := open_u8 k2
      obtain ⟨a3, h3, e3, _⟩ := open_u8 k3
      obtain ⟨v4, b, e4, hb, hr⟩ := open_bytes k4
      simp only [List.cons.injEq, and_true] at e0 e1 e2 e3 e4
      subst e0 e1 e2 e3 e4
      refine ⟨a0, a1, a2, a3, b, h0, h1, h2, h3, hb, ?_⟩
      simp only [rawV, Rep]
      refine ⟨_, rfl, rfl, _, _, rfl, rfl, _, _, rfl, rfl, _, _, rfl, rfl, _, _, rfl, rfl, _, _, rfl, hr, rfl⟩

theorem open_byte {v : Value} {d : DataW H} {ps : List MemPlace} (hval : Value.okWide Tryd.prog W r b0 5 v) (hd : DataW.Trod enc Tryd.prog W base spare held 5 v d ps) :
    ∃ n : Nat, n < 256 ∧ v = .int .u8 n ∧ Rep (fun k => k < W.heap.size) [] W (.int .u8 n) v := by
  obtain ⟨n, rfl, _, _, hw⟩ := open_int Tryd.underlying5 hval hd
  obtain ⟨a, b⟩ := wf_u8 hw
  obtain ⟨m, rfl⟩ := Int.eq_ofNat_of_zero_le a
  exact ⟨m, by omega, rfl, by simp only [Rep]⟩

theorem okWide_array {t n e : TypeId} {v : Value} (ht : Tryd.prog.underlying t = some (.array n e)) (h : Value.okWide Tryd.prog W r b0 t v) : ∃ cs, v = .agg cs := by
  simp only [Value.okWide, ht] at h
  obtain ⟨cs, h1, _⟩ := h
  exact ⟨cs, h1⟩

theorem open_u8s {t n : TypeId} {v : Value} {d : DataW H} {ps : List MemPlace} (ht : Tryd.prog.underlying t = some (.array n 5)) (hn : Tryd.prog.cellsOf t = n) (hval : Value.okWide Tryd.prog W r b0 t v) (hd : DataW.Trod enc Tryd.prog W base spare held t v d ps) :
    ∃ c : List Nat, c.length = n ∧ (∀ x ∈ c, x < 256) ∧ Rep (fun k => k < W.heap.size) [] W (.agg (c.map fun (k : Nat) => V.int .u8 k)) v := by
  obtain ⟨⟨cs⟩, rfl⟩ := okWide_array ht hval
  obtain ⟨fuel, hf⟩ := hd
  simp only [Value.cells] at hf
  obtain ⟨c, h1, h2, rfl, _⟩ := open_arr ht hn hf
  refine ⟨c, h1, h2, ?_⟩
  simp only [Rep]
  refine ⟨_, rfl, ?_, rep_u8s c⟩
  rw [List.all_eq_true]
  intro x hx
  obtain ⟨k, _, rfl⟩ := List.mem_map.1 hx
  rfl
end

theorem door_met (os : Os) (args : Array Value) : laidMetH Tryd.prog laidT ((World.doorLaid Tryd.prog 400 os).forCall (fun _ _ => 0) ⟨#[], args, []⟩).memory :=
  laidMetH_of_parts3 (fuel := 8) (laidMet_of_run' 8 (by kernel_rfl) (by kernel_rfl)) (by kernel_rfl) (by kernel_rfl)

theorem trod_lt' {H : Type} {enc : TypeId × Value → H} {W : World} {spare : Nat → Bool} {held : Bool} {t : TypeId} {v : Value} {d : DataW H} {ps : List MemPlace} (h : DataW.Trod enc Tryd.prog W 0 spare held t v d ps) : ∀ x ∈ ps, x.block < W.heap.size := by
  obtain ⟨m, hm⟩ := h
  exact DataW.trod_lt m _ _ _ hm
end Go.VL
end

