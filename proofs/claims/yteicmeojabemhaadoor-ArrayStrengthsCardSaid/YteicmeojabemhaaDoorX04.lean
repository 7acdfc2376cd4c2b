/- Joined by program (merge.py): the parts C5, B3, B1, B4, B5, VL26, C6. -/
import Derived.Test.YteicmeojabemhaaDoorX03
/- The array seat: covering arrays. -/
section
set_option linter.unusedSimpArgs false
set_option linter.unusedVariables false
set_option maxRecDepth 4000
namespace Go.VL
open Go Go.Proofs

theorem setMany_app : ∀ (vs cs pre : List V), cs.length = vs.length → setMany (pre ++ cs) pre.length vs = pre ++ vs
  | [], cs, pre, h => by have : cs = [] := List.length_eq_zero_iff.1 h; subst this; rfl
  | v :: vs, [], pre, h => by simp at h
  | v :: vs, c :: cs, pre, h => by
    have e : (pre ++ c :: cs).set pre.length v = (pre ++ [v]) ++ cs := by simp
    have := setMany_app vs cs (pre ++ [v]) (by simpa using h)
    simp only [List.length_append, List.length_singleton] at this
    simp only [setMany, e, this]
    simp
theorem setMany_all (vs cs : List V) (h : cs.length = vs.length) : setMany cs 0 vs = vs := by
  have := setMany_app vs cs [] h
  simpa using this

def zeroC : List V := [.int .u64 0, .int .i8 0, .int .i8 0, .int .i8 0, .int .i8 0, .int .i8 0, .int .i8 0, .int .i8 0, .int .i8 0]
/-- The cells of what 'first' found. -/
def foundC (s t : Nat) : Option (Nat × Nat) → List V
  | none => zeroC
  | some (set, n) => .int .u64 set :: (digL (colsOf set) s t n t).1.map (V.int .i8)
theorem firstV_eq (s t : Nat) (f : Option (Nat × Nat)) : firstV s t f = .tup [.agg (foundC s t f), .bool f.isSome] := by
  cases f with
  | none => rfl
  | some p => obtain ⟨set, n⟩ := p; simp [firstV, foundC, cellsI, combN, cellK]

/-- The level that gains most among the first x. -/
def bestF (r : List Int) (t j set : Nat) (ks : List Key) : Nat → Int × Nat
  | 0 => (-1, 0)
  | x + 1 => if (bestF r t j set ks x).1 < (gainN (r.set j x) t j set ks : Int) then ((gainN (r.set j x) t j set ks : Int), x) else bestF r t j set ks x
def stepJ (s t : Nat) (ks : List Key) (p : List Int × Nat) (j : Nat) : List Int × Nat :=
  if p.2.testBit j then p else (p.1.set j ((bestF p.1 t j p.2 ks s).2 : Nat), p.2 ||| 2 ^ j)
def fillF (s t : Nat) (ks : List Key) (p : List Int × Nat) : Nat → List Int × Nat
  | 0 => p
  | j + 1 => stepJ s t ks (fillF s t ks p j) j
/-- The row that begins with what was found. -/
def newRow (k s t : Nat) (ks : List Key) (set n : Nat) : List Int := (fillF s t ks ((digL (colsOf set) s t n t).1.take k, set) k).1
def runF (k s t : Nat) (srt : List Nat) : Nat → List (List Int) → List Key → Option (List (List Int))
  | f, R, ks => match firstF k s t srt ks with
    | none => some R
    | some (set, n) => match f with
      | 0 => none
      | f + 1 => runF k s t srt f (R ++ [newRow k s t ks set n]) (ks ++ (setsL k t).map (comb (newRow k s t ks set n)))
def covOK (k s t : Int) : Prop := 1 ≤ k ∧ k ≤ 8 ∧ 2 ≤ s ∧ s ≤ 8 ∧ 1 ≤ t ∧ t ≤ 3 ∧ t ≤ k
instance (k s t : Int) : Decidable (covOK k s t) := inferInstanceAs (Decidable (_ ∧ _))

theorem foundC_len (s t : Nat) (hs : 0 < s) (h8 : s ≤ 8) (f : Option (Nat × Nat)) : (foundC s t f).length = 9 := by
  cases f with
  | none => rfl
  | some p => obtain ⟨set, n⟩ := p; simp [foundC, (digL_ok (colsOf set) s t n hs h8 t).1]
theorem foundC_bdd (s t : Nat) (f : Option (Nat × Nat)) (m : Nat) : bddL m (foundC s t f) = true := by
  cases f with
  | none => rfl
  | some p =>
    obtain ⟨set, n⟩ := p
    rw [bddL_iff]; intro c hc
    simp only [foundC, List.mem_cons, List.mem_map] at hc
    rcases hc with rfl | ⟨x, _, rfl⟩ <;> rfl

theorem Cover_bad (k s t : Int) (h : ¬ covOK k s t) (st : St) : VCall D 41 [.int .i64 k, .int .i64 s, .int .i64 t] st (fun r st' => r = selV 0 [] 1 ∧ st' = st) := by
  refine VCall.clean ?_
  refine VCall.of_WP (fn := Tryd.f41) (c := _) Tryd.func41 rfl (by decide +kernel) (Nat.le_of_ble_eq_true rfl) ?_
  refine wpF_sound ?_
  by_cases c1 : k < 1
  · have d1 : decide (k < 1) = true := by simp [c1]
    simp -implicitDefEqProofs only [s_s, argEnv, PastOK, PendOK, sel, isE, isSp, baseOK, opR, opnd, opnds, opndL, ofConst, look, putE, dstOK, guardL, binR, intOp, loadR, bad, bound, lenV, srcV, Ob.read, V.plain, V.one, V.cells, fillV, setMany, zeros, TK.agg, Sub, cellRes, loadV, bindE, Nat.reduceAdd, Nat.reduceEqDiff, Nat.reduceLT, Nat.reduceLeDiff, Nat.reduceMul, Nat.reduceSub, Nat.reduceDiv, Nat.reduceMod, Nat.reduceBEq, Nat.reduceBNe, reduceIte, reduceCtorEq, Int.reduceToNat, Int.reduceLT, Int.reduceLE, Int.reduceAdd, Int.reduceSub, Int.reduceMul, Int.reduceNeg, Int.reduceEq, Int.reduceNe, D_G, D_P, List.lookup, tys, intsV_len, Tryd.ntmps41, Tryd.f41, d1]
    exact Post.rct (v := .agg [.int .i64 0, .e0]) (x := .int .i64 1) (by simp -implicitDefEqProofs only [s_s, argEnv, PastOK, PendOK, sel, isE, isSp, baseOK, opR, opnd, opnds, opndL, ofConst, look, putE, dstOK, guardL, binR, intOp, loadR, bad, bound, lenV, srcV, Ob.read, V.plain, V.one, V.cells, fillV, setMany, zeros, TK.agg, Sub, cellRes, loadV, bindE, Nat.reduceAdd, Nat.reduceEqDiff, Nat.reduceLT, Nat.reduceLeDiff, Nat.reduceMul, Nat.reduceSub, Nat.reduceDiv, Nat.reduceMod, Nat.reduceBEq, Nat.reduceBNe, reduceIte, reduceCtorEq, Int.reduceToNat, Int.reduceLT, Int.reduceLE, Int.reduceAdd, Int.reduceSub, Int.reduceMul, Int.reduceNeg, Int.reduceEq, Int.reduceNe, D_G, D_P, List.lookup, tys, intsV_len]) (by simp -implicitDefEqProofs only [s_s, argEnv, PastOK, PendOK, sel, isE, isSp, baseOK, opR, opnd, opnds, opndL, ofConst, look, putE, dstOK, guardL, binR, intOp, loadR, bad, bound, lenV, srcV, Ob.read, V.plain, V.one, V.cells, fillV, setMany, zeros, TK.agg, Sub, cellRes, loadV, bindE, Nat.reduceAdd, Nat.reduceEqDiff, Nat.reduceLT, Nat.reduceLeDiff, Nat.reduceMul, Nat.reduceSub, Nat.reduceDiv, Nat.reduceMod, Nat.reduceBEq, Nat.reduceBNe, reduceIte, reduceCtorEq, Int.reduceToNat, Int.reduceLT, Int.reduceLE, Int.reduceAdd, Int.reduceSub, Int.reduceMul, Int.reduceNeg, Int.reduceEq, Int.reduceNe, D_G, D_P, List.lookup, tys, intsV_len]) ⟨selV 0 [] 1, _, rfl, .tup (.cons (.agg (.cons (.keep rfl) (.cons .e0 .nil))) (.cons (.keep rfl) .nil)), rfl⟩
  have d1 : decide (k < 1) = false := by simp; omega
  by_cases c2 : 8 < k
  · have d2 : decide (8 < k) = true := by simp [c2]
    simp -implicitDefEqProofs only [s_s, argEnv, PastOK, PendOK, sel, isE, isSp, baseOK, opR, opnd, opnds, opndL, ofConst, look, putE, dstOK, guardL, binR, intOp, loadR, bad, bound, lenV, srcV, Ob.read, V.plain, V.one, V.cells, fillV, setMany, zeros, TK.agg, Sub, cellRes, loadV, bindE, Nat.reduceAdd, Nat.reduceEqDiff, Nat.reduceLT, Nat.reduceLeDiff, Nat.reduceMul, Nat.reduceSub, Nat.reduceDiv, Nat.reduceMod, Nat.reduceBEq, Nat.reduceBNe, reduceIte, reduceCtorEq, Int.reduceToNat, Int.reduceLT, Int.reduceLE, Int.reduceAdd, Int.reduceSub, Int.reduceMul, Int.reduceNeg, Int.reduceEq, Int.reduceNe, D_G, D_P, List.lookup, tys, intsV_len, Tryd.ntmps41, Tryd.f41, d1, d2]
    exact Post.rct (v := .agg [.int .i64 0, .e0]) (x := .int .i64 1) (by simp -implicitDefEqProofs only [s_s, argEnv, PastOK, PendOK, sel, isE, isSp, baseOK, opR, opnd, opnds, opndL, ofConst, look, putE, dstOK, guardL, binR, intOp, loadR, bad, bound, lenV, srcV, Ob.read, V.plain, V.one, V.cells, fillV, setMany, zeros, TK.agg, Sub, cellRes, loadV, bindE, Nat.reduceAdd, Nat.reduceEqDiff, Nat.reduceLT, Nat.reduceLeDiff, Nat.reduceMul, Nat.reduceSub, Nat.reduceDiv, Nat.reduceMod, Nat.reduceBEq, Nat.reduceBNe, reduceIte, reduceCtorEq, Int.reduceToNat, Int.reduceLT, Int.reduceLE, Int.reduceAdd, Int.reduceSub, Int.reduceMul, Int.reduceNeg, Int.reduceEq, Int.reduceNe, D_G, D_P, List.lookup, tys, intsV_len]) (by simp -implicitDefEqProofs only [s_s, argEnv, PastOK, PendOK, sel, isE, isSp, baseOK, opR, opnd, opnds, opndL, ofConst, look, putE, dstOK, guardL, binR, intOp, loadR, bad, bound, lenV, srcV, Ob.read, V.plain, V.one, V.cells, fillV, setMany, zeros, TK.agg, Sub, cellRes, loadV, bindE, Nat.reduceAdd, Nat.reduceEqDiff, Nat.reduceLT, Nat.reduceLeDiff, Nat.reduceMul, Nat.reduceSub, Nat.reduceDiv, Nat.reduceMod, Nat.reduceBEq, Nat.reduceBNe, reduceIte, reduceCtorEq, Int.reduceToNat, Int.reduceLT, Int.reduceLE, Int.reduceAdd, Int.reduceSub, Int.reduceMul, Int.reduceNeg, Int.reduceEq, Int.reduceNe, D_G, D_P, List.lookup, tys, intsV_len]) ⟨selV 0 [] 1, _, rfl, .tup (.cons (.agg (.cons (.keep rfl) (.cons .e0 .nil))) (.cons (.keep rfl) .nil)), rfl⟩
  have d2 : decide (8 < k) = false := by simp; omega
  by_cases c3 : s < 2
  · have d3 : decide (s < 2) = true := by simp [c3]
    simp -implicitDefEqProofs only [s_s, argEnv, PastOK, PendOK, sel, isE, isSp, baseOK, opR, opnd, opnds, opndL, ofConst, look, putE, dstOK, guardL, binR, intOp, loadR, bad, bound, lenV, srcV, Ob.read, V.plain, V.one, V.cells, fillV, setMany, zeros, TK.agg, Sub, cellRes, loadV, bindE, Nat.reduceAdd, Nat.reduceEqDiff, Nat.reduceLT, Nat.reduceLeDiff, Nat.reduceMul, Nat.reduceSub, Nat.reduceDiv, Nat.reduceMod, Nat.reduceBEq, Nat.reduceBNe, reduceIte, reduceCtorEq, Int.reduceToNat, Int.reduceLT, Int.reduceLE, Int.reduceAdd, Int.reduceSub, Int.reduceMul, Int.reduceNeg, Int.reduceEq, Int.reduceNe, D_G, D_P, List.lookup, tys, intsV_len, Tryd.ntmps41, Tryd.f41, d1, d2, d3]
    exact Post.rct (v := .agg [.int .i64 0, .e0]) (x := .int .i64 1) (by simp -implicitDefEqProofs only [s_s, argEnv, PastOK, PendOK, sel, isE, isSp, baseOK, opR, opnd, opnds, opndL, ofConst, look, putE, dstOK, guardL, binR, intOp, loadR, bad, bound, lenV, srcV, Ob.read, V.plain, V.one, V.cells, fillV, setMany, zeros, TK.agg, Sub, cellRes, loadV, bindE, Nat.reduceAdd, Nat.reduceEqDiff, Nat.reduceLT, Nat.reduceLeDiff, Nat.reduceMul, Nat.reduceSub, Nat.reduceDiv, Nat.reduceMod, Nat.reduceBEq, Nat.reduceBNe, reduceIte, reduceCtorEq, Int.reduceToNat, Int.reduceLT, Int.reduceLE, Int.reduceAdd, Int.reduceSub, Int.reduceMul, Int.reduceNeg, Int.reduceEq, Int.reduceNe, D_G, D_P, List.lookup, tys, intsV_len]) (by simp -implicitDefEqProofs only [s_s, argEnv, PastOK, PendOK, sel, isE, isSp, baseOK, opR, opnd, opnds, opndL, ofConst, look, putE, dstOK, guardL, binR, intOp, loadR, bad, bound, lenV, srcV, Ob.read, V.plain, V.one, V.cells, fillV, setMany, zeros, TK.agg, Sub, cellRes, loadV, bindE, Nat.reduceAdd, Nat.reduceEqDiff, Nat.reduceLT, Nat.reduceLeDiff, Nat.reduceMul, Nat.reduceSub, Nat.reduceDiv, Nat.reduceMod, Nat.reduceBEq, Nat.reduceBNe, reduceIte, reduceCtorEq, Int.reduceToNat, Int.reduceLT, Int.reduceLE, Int.reduceAdd, Int.reduceSub, Int.reduceMul, Int.reduceNeg, Int.reduceEq, Int.reduceNe, D_G, D_P, List.lookup, tys, intsV_len]) ⟨selV 0 [] 1, _, rfl, .tup (.cons (.agg (.cons (.keep rfl) (.cons .e0 .nil))) (.cons (.keep rfl) .nil)), rfl⟩
  have d3 : decide (s < 2) = false := by simp; omega
  by_cases c4 : 8 < s
  · have d4 : decide (8 < s) = true := by simp [c4]
    simp -implicitDefEqProofs only [s_s, argEnv, PastOK, PendOK, sel, isE, isSp, baseOK, opR, opnd, opnds, opndL, ofConst, look, putE, dstOK, guardL, binR, intOp, loadR, bad, bound, lenV, srcV, Ob.read, V.plain, V.one, V.cells, fillV, setMany, zeros, TK.agg, Sub, cellRes, loadV, bindE, Nat.reduceAdd, Nat.reduceEqDiff, Nat.reduceLT, Nat.reduceLeDiff, Nat.reduceMul, Nat.reduceSub, Nat.reduceDiv, Nat.reduceMod, Nat.reduceBEq, Nat.reduceBNe, reduceIte, reduceCtorEq, Int.reduceToNat, Int.reduceLT, Int.reduceLE, Int.reduceAdd, Int.reduceSub, Int.reduceMul, Int.reduceNeg, Int.reduceEq, Int.reduceNe, D_G, D_P, List.lookup, tys, intsV_len, Tryd.ntmps41, Tryd.f41, d1, d2, d3, d4]
    exact Post.rct (v := .agg [.int .i64 0, .e0]) (x := .int .i64 1) (by simp -implicitDefEqProofs only [s_s, argEnv, PastOK, PendOK, sel, isE, isSp, baseOK, opR, opnd, opnds, opndL, ofConst, look, putE, dstOK, guardL, binR, intOp, loadR, bad, bound, lenV, srcV, Ob.read, V.plain, V.one, V.cells, fillV, setMany, zeros, TK.agg, Sub, cellRes, loadV, bindE, Nat.reduceAdd, Nat.reduceEqDiff, Nat.reduceLT, Nat.reduceLeDiff, Nat.reduceMul, Nat.reduceSub, Nat.reduceDiv, Nat.reduceMod, Nat.reduceBEq, Nat.reduceBNe, reduceIte, reduceCtorEq, Int.reduceToNat, Int.reduceLT, Int.reduceLE, Int.reduceAdd, Int.reduceSub, Int.reduceMul, Int.reduceNeg, Int.reduceEq, Int.reduceNe, D_G, D_P, List.lookup, tys, intsV_len]) (by simp -implicitDefEqProofs only [s_s, argEnv, PastOK, PendOK, sel, isE, isSp, baseOK, opR, opnd, opnds, opndL, ofConst, look, putE, dstOK, guardL, binR, intOp, loadR, bad, bound, lenV, srcV, Ob.read, V.plain, V.one, V.cells, fillV, setMany, zeros, TK.agg, Sub, cellRes, loadV, bindE, Nat.reduceAdd, Nat.reduceEqDiff, Nat.reduceLT, Nat.reduceLeDiff, Nat.reduceMul, Nat.reduceSub, Nat.reduceDiv, Nat.reduceMod, Nat.reduceBEq, Nat.reduceBNe, reduceIte, reduceCtorEq, Int.reduceToNat, Int.reduceLT, Int.reduceLE, Int.reduceAdd, Int.reduceSub, Int.reduceMul, Int.reduceNeg, Int.reduceEq, Int.reduceNe, D_G, D_P, List.lookup, tys, intsV_len]) ⟨selV 0 [] 1, _, rfl, .tup (.cons (.agg (.cons (.keep rfl) (.cons .e0 .nil))) (.cons (.keep rfl) .nil)), rfl⟩
  have d4 : decide (8 < s) = false := by simp; omega
  by_cases c5 : t < 1
  · have d5 : decide (t < 1) = true := by simp [c5]
    simp -implicitDefEqProofs only [s_s, argEnv, PastOK, PendOK, sel, isE, isSp, baseOK, opR, opnd, opnds, opndL, ofConst, look, putE, dstOK, guardL, binR, intOp, loadR, bad, bound, lenV, srcV, Ob.read, V.plain, V.one, V.cells, fillV, setMany, zeros, TK.agg, Sub, cellRes, loadV, bindE, Nat.reduceAdd, Nat.reduceEqDiff, Nat.reduceLT, Nat.reduceLeDiff, Nat.reduceMul, Nat.reduceSub, Nat.reduceDiv, Nat.reduceMod, Nat.reduceBEq, Nat.reduceBNe, reduceIte, reduceCtorEq, Int.reduceToNat, Int.reduceLT, Int.reduceLE, Int.reduceAdd, Int.reduceSub, Int.reduceMul, Int.reduceNeg, Int.reduceEq, Int.reduceNe, D_G, D_P, List.lookup, tys, intsV_len, Tryd.ntmps41, Tryd.f41, d1, d2, d3, d4, d5]
    exact Post.rct (v := .agg [.int .i64 0, .e0]) (x := .int .i64 1) (by simp -implicitDefEqProofs only [s_s, argEnv, PastOK, PendOK, sel, isE, isSp, baseOK, opR, opnd, opnds, opndL, ofConst, look, putE, dstOK, guardL, binR, intOp, loadR, bad, bound, lenV, srcV, Ob.read, V.plain, V.one, V.cells, fillV, setMany, zeros, TK.agg, Sub, cellRes, loadV, bindE, Nat.reduceAdd, Nat.reduceEqDiff, Nat.reduceLT, Nat.reduceLeDiff, Nat.reduceMul, Nat.reduceSub, Nat.reduceDiv, Nat.reduceMod, Nat.reduceBEq, Nat.reduceBNe, reduceIte, reduceCtorEq, Int.reduceToNat, Int.reduceLT, Int.reduceLE, Int.reduceAdd, Int.reduceSub, Int.reduceMul, Int.reduceNeg, Int.reduceEq, Int.reduceNe, D_G, D_P, List.lookup, tys, intsV_len]) (by simp -implicitDefEqProofs only [s_s, argEnv, PastOK, PendOK, sel, isE, isSp, baseOK, opR, opnd, opnds, opndL, ofConst, look, putE, dstOK, guardL, binR, intOp, loadR, bad, bound, lenV, srcV, Ob.read, V.plain, V.one, V.cells, fillV, setMany, zeros, TK.agg, Sub, cellRes, loadV, bindE, Nat.reduceAdd, Nat.reduceEqDiff, Nat.reduceLT, Nat.reduceLeDiff, Nat.reduceMul, Nat.reduceSub, Nat.reduceDiv, Nat.reduceMod, Nat.reduceBEq, Nat.reduceBNe, reduceIte, reduceCtorEq, Int.reduceToNat, Int.reduceLT, Int.reduceLE, Int.reduceAdd, Int.reduceSub, Int.reduceMul, Int.reduceNeg, Int.reduceEq, Int.reduceNe, D_G, D_P, List.lookup, tys, intsV_len]) ⟨selV 0 [] 1, _, rfl, .tup (.cons (.agg (.cons (.keep rfl) (.cons .e0 .nil))) (.cons (.keep rfl) .nil)), rfl⟩
  have d5 : decide (t < 1) = false := by simp; omega
  have c6 : (if k < 3 then k else 3) < t := by
    by_cases e : k < 3
    · rw [if_pos e]
      rcases (by omega : k < t ∨ t ≤ k) with h1 | h1
      · exact h1
      · exact absurd ⟨by omega, by omega, by omega, by omega, by omega, by omega, by omega⟩ h
    · rw [if_neg e]
      rcases (by omega : 3 < t ∨ t ≤ 3) with h1 | h1
      · exact h1
      · exact absurd ⟨by omega, by omega, by omega, by omega, by omega, by omega, by omega⟩ h
  have d6 : decide ((if k < 3 then k else 3) < t) = true := by simp only [c6, decide_true]
  simp -implicitDefEqProofs only [s_s, argEnv, PastOK, PendOK, sel, isE, isSp, baseOK, opR, opnd, opnds, opndL, ofConst, look, putE, dstOK, guardL, binR, intOp, loadR, bad, bound, lenV, srcV, Ob.read, V.plain, V.one, V.cells, fillV, setMany, zeros, TK.agg, Sub, cellRes, loadV, bindE, Nat.reduceAdd, Nat.reduceEqDiff, Nat.reduceLT, Nat.reduceLeDiff, Nat.reduceMul, Nat.reduceSub, Nat.reduceDiv, Nat.reduceMod, Nat.reduceBEq, Nat.reduceBNe, reduceIte, reduceCtorEq, Int.reduceToNat, Int.reduceLT, Int.reduceLE, Int.reduceAdd, Int.reduceSub, Int.reduceMul, Int.reduceNeg, Int.reduceEq, Int.reduceNe, D_G, D_P, List.lookup, tys, intsV_len, Tryd.ntmps41, Tryd.f41, d1, d2, d3, d4, d5, d6]
  exact Post.rct (v := .agg [.int .i64 0, .e0]) (x := .int .i64 1) (by simp -implicitDefEqProofs only [s_s, argEnv, PastOK, PendOK, sel, isE, isSp, baseOK, opR, opnd, opnds, opndL, ofConst, look, putE, dstOK, guardL, binR, intOp, loadR, bad, bound, lenV, srcV, Ob.read, V.plain, V.one, V.cells, fillV, setMany, zeros, TK.agg, Sub, cellRes, loadV, bindE, Nat.reduceAdd, Nat.reduceEqDiff, Nat.reduceLT, Nat.reduceLeDiff, Nat.reduceMul, Nat.reduceSub, Nat.reduceDiv, Nat.reduceMod, Nat.reduceBEq, Nat.reduceBNe, reduceIte, reduceCtorEq, Int.reduceToNat, Int.reduceLT, Int.reduceLE, Int.reduceAdd, Int.reduceSub, Int.reduceMul, Int.reduceNeg, Int.reduceEq, Int.reduceNe, D_G, D_P, List.lookup, tys, intsV_len]) (by simp -implicitDefEqProofs only [s_s, argEnv, PastOK, PendOK, sel, isE, isSp, baseOK, opR, opnd, opnds, opndL, ofConst, look, putE, dstOK, guardL, binR, intOp, loadR, bad, bound, lenV, srcV, Ob.read, V.plain, V.one, V.cells, fillV, setMany, zeros, TK.agg, Sub, cellRes, loadV, bindE, Nat.reduceAdd, Nat.reduceEqDiff, Nat.reduceLT, Nat.reduceLeDiff, Nat.reduceMul, Nat.reduceSub, Nat.reduceDiv, Nat.reduceMod, Nat.reduceBEq, Nat.reduceBNe, reduceIte, reduceCtorEq, Int.reduceToNat, Int.reduceLT, Int.reduceLE, Int.reduceAdd, Int.reduceSub, Int.reduceMul, Int.reduceNeg, Int.reduceEq, Int.reduceNe, D_G, D_P, List.lookup, tys, intsV_len]) ⟨selV 0 [] 1, _, rfl, .tup (.cons (.agg (.cons (.keep rfl) (.cons .e0 .nil))) (.cons (.keep rfl) .nil)), rfl⟩

theorem firstF_mem {k s t : Nat} {srt : List Nat} {ks : List Key} {set n : Nat} (h : firstF k s t srt ks = some (set, n)) : set ∈ srt := by
  unfold firstF at h
  split at h
  · cases h
  · obtain ⟨x, hx, hf⟩ := List.exists_of_findSome?_eq_some h
    simp only [foundF, Option.map_eq_some_iff] at hf
    obtain ⟨m, _, e⟩ := hf
    cases e; exact hx

def rowJ (lv : List Int) (k j : Nat) : List Int := lv.take j ++ List.replicate (k - j) 0
theorem rowJ_len {lv : List Int} {k j : Nat} (hl : k ≤ lv.length) (hj : j ≤ k) : (rowJ lv k j).length = k := by simp [rowJ]; omega
theorem rowJ_zero (lv : List Int) (k : Nat) : (List.replicate k [V.int .i64 0]).flatten = intsV (rowJ lv k 0) := by
  simp only [rowJ, List.take_zero, List.nil_append, Nat.sub_zero, intsV]
  induction k with
  | zero => rfl
  | succ k ih => simp only [List.replicate_succ, List.flatten_cons, ih]; rfl
theorem rowJ_full {lv : List Int} {k : Nat} : rowJ lv k k = lv.take k := by simp [rowJ]
theorem rowJ_set {lv : List Int} {k j : Nat} {x : Int} (hj : j < k) (hx : lv[j]? = some x) : (rowJ lv k j).set j x = rowJ lv k (j + 1) := by
  have hlt := (List.getElem?_eq_some_iff.1 hx).1
  have e : List.replicate (k - j) (0 : Int) = 0 :: List.replicate (k - (j + 1)) 0 := by rw [show k - j = k - (j + 1) + 1 by omega, List.replicate_succ]
  simp only [rowJ, e, List.take_add_one, hx, Option.toList_some]
  have hl : (lv.take j).length = j := by simp; omega
  rw [List.set_append_right _ _ (by omega), hl, Nat.sub_self, List.set_cons_zero]
  simp

theorem bestF_ok (r : List Int) (t j set : Nat) (ks : List Key) (s : Nat) (hs : 0 < s) : ∀ x, x ≤ s → (bestF r t j set ks x).2 < s ∧ -1 ≤ (bestF r t j set ks x).1
  | 0, _ => ⟨hs, by simp [bestF]⟩
  | x + 1, hx => by
    have := bestF_ok r t j set ks s hs x (by omega)
    simp only [bestF]; split
    · exact ⟨by simp only; omega, by simp only; omega⟩
    · exact this

theorem set_ok {r : List Int} {j : Nat} {v m : Int} (h : ∀ x ∈ r, 0 ≤ x ∧ x < m) (hv : 0 ≤ v ∧ v < m) : ∀ x ∈ r.set j v, 0 ≤ x ∧ x < m := by
  intro x hx
  rcases List.mem_or_eq_of_mem_set hx with hx | rfl
  · exact h x hx
  · exact hv

theorem fillF_ok (s t : Nat) (ks : List Key) (p : List Int × Nat) (k : Nat) (m : Int) (hs : 0 < s) (hsm : (s : Int) ≤ m) (hk : k ≤ 8) (h1 : p.1.length = k) (h2 : ∀ x ∈ p.1, 0 ≤ x ∧ x < m) (h3 : p.2 < 256) :
    ∀ j, j ≤ k → (fillF s t ks p j).1.length = k ∧ (∀ x ∈ (fillF s t ks p j).1, 0 ≤ x ∧ x < m) ∧ (fillF s t ks p j).2 < 256
  | 0, _ => ⟨h1, h2, h3⟩
  | j + 1, hj => by
    obtain ⟨a1, a2, a3⟩ := fillF_ok s t ks p k m hs hsm hk h1 h2 h3 j (by omega)
    simp only [fillF, stepJ]
    split
    · exact ⟨a1, a2, a3⟩
    · refine ⟨by simp [a1], set_ok a2 ?_, (or_at _ _ a3 ?_).2⟩
      · have := (bestF_ok (fillF s t ks p j).1 t j (fillF s t ks p j).2 ks s hs s (Nat.le_refl _)).1
        omega
      · have : ∀ j, j < 8 → 2 ^ j < 256 := by decide
        exact this j (by omega)

def rowX (r : List Int) (j : Nat) : Nat → List Int
  | 0 => r
  | x + 1 => r.set j x
theorem rowX_set (r : List Int) (j x : Nat) (v : Int) : (rowX r j x).set j v = r.set j v := by
  cases x with
  | zero => rfl
  | succ x => simp [rowX]
theorem rowX_len (r : List Int) (j x : Nat) : (rowX r j x).length = r.length := by cases x <;> simp [rowX]

set_option maxHeartbeats 4000000 in
theorem Cover_spec (k s t : Nat) (srt : List Nat) (h : covOK k s t) (hsrt : ∀ st, VCall D 59 [setsV k t, .fn (.func 60) []] st (fun r st' => r = .lst 1 (natsV srt) ∧ st' = st)) (hsl : srt.length < 1000) (hse : ∀ x ∈ srt, x < 256 ∧ pop x = t) (st : St) :
    VCall D 41 [.int .i64 k, .int .i64 s, .int .i64 t] st (fun r st' => r = (match runF k s t srt 64 [] [] with | some R => selV s R 0 | none => selV 0 [] 2) ∧ st' = st) := by
  obtain ⟨h1, h2, h3, h4, h5, h6, h7⟩ := h
  have d1 : decide ((k : Int) < 1) = false := by simp; omega
  have d2 : decide ((8 : Int) < k) = false := by simp; omega
  have d3 : decide ((s : Int) < 2) = false := by simp; omega
  have d4 : decide ((8 : Int) < s) = false := by simp; omega
  have d5 : decide ((t : Int) < 1) = false := by simp; omega
  have d6 : decide ((if (k : Int) < 3 then (k : Int) else 3) < t) = false := by
    simp only [decide_eq_false_iff_not]; split <;> omega
  refine VCall.clean ?_
  refine VCall.of_WPB (fn := Tryd.f41) (c := _) Tryd.func41 rfl (by decide +kernel) (Nat.le_of_ble_eq_true rfl) fun hB => ?_
  refine wpF_sound ?_
  simp -implicitDefEqProofs only [s_s, argEnv, PastOK, PendOK, sel, isE, isSp, baseOK, opR, opnd, opnds, opndL, ofConst, look, putE, dstOK, guardL, binR, intOp, loadR, bad, bound, lenV, srcV, Ob.read, V.plain, V.one, V.cells, fillV, setMany, zeros, TK.agg, Sub, cellRes, loadV, bindE, Nat.reduceAdd, Nat.reduceEqDiff, Nat.reduceLT, Nat.reduceLeDiff, Nat.reduceMul, Nat.reduceSub, Nat.reduceDiv, Nat.reduceMod, Nat.reduceBEq, Nat.reduceBNe, reduceIte, reduceCtorEq, Int.reduceToNat, Int.reduceLT, Int.reduceLE, Int.reduceAdd, Int.reduceSub, Int.reduceMul, Int.reduceNeg, Int.reduceEq, Int.reduceNe, D_G, D_P, List.lookup, tys, intsV_len, Tryd.ntmps41, Tryd.f41, d1, d2, d3, d4, d5, d6]
  refine Sp.call rfl rfl ((first_spec k s t srt [] (st.length + 2) (by omega) (by omega) (by omega) (by omega) (by omega) (by simp) hsrt hsl hse _ (by simp [doneE])).mono ?_)
  rintro v st' ⟨rfl, rfl⟩
  have hfl : ∀ f, (foundC s t f).length = 9 := foundC_len s t (by omega) (by omega)
  have hset : ∀ f, setMany [V.int .u64 0, .int .i8 0, .int .i8 0, .int .i8 0, .int .i8 0, .int .i8 0, .int .i8 0, .int .i8 0, .int .i8 0] 0 (foundC s t f) = foundC s t f := fun f => setMany_all _ _ (by rw [hfl]; rfl)
  simp -implicitDefEqProofs only [s_s, argEnv, PastOK, PendOK, sel, isE, isSp, baseOK, opR, opnd, opnds, opndL, ofConst, look, putE, dstOK, guardL, binR, intOp, loadR, bad, bound, lenV, srcV, Ob.read, V.plain, V.one, V.cells, fillV, setMany, zeros, TK.agg, Sub, cellRes, loadV, bindE, Nat.reduceAdd, Nat.reduceEqDiff, Nat.reduceLT, Nat.reduceLeDiff, Nat.reduceMul, Nat.reduceSub, Nat.reduceDiv, Nat.reduceMod, Nat.reduceBEq, Nat.reduceBNe, reduceIte, reduceCtorEq, Int.reduceToNat, Int.reduceLT, Int.reduceLE, Int.reduceAdd, Int.reduceSub, Int.reduceMul, Int.reduceNeg, Int.reduceEq, Int.reduceNe, D_G, D_P, List.lookup, tys, intsV_len, firstV_eq, hfl, hset]
  refine WP.cut (env' := [(0, .int .i64 k), (1, .int .i64 s), (2, .int .i64 t), (6, .ptr st.length 0 0), (8, .ptr (st.length + 1) 0 0), (9, .ptr (st.length + 3) 0 0), (10, .pptr (foundC s t (firstF k s t srt [])) 0), (11, .bool (firstF k s t srt []).isSome)]) (st1 := st ++ [.cells 0 [.int .i64 0, .e0], .cells 0 [.int .i64 s, .e0], .map [], .cells 0 [.map (st.length + 2)]]) (st1' := st ++ [.cells 0 [.int .i64 0, .e0], .cells 0 [.int .i64 s, .e0], .map [], .cells 0 [.map (st.length + 2)]]) (new := [.cells 0 (foundC s t (firstF k s t srt []))]) (by simp) (by simp) ?_ ?_ ?_
  · exact StConv.base hB (by simp) (.cons (.keep rfl) (.cons (.keep rfl) (.cons (.keep rfl) (.cons (.keep (by simp [Ob.bdd, bddL, V.bdd])) .nil))))
  · refine ⟨⟨_, rfl, .keep rfl⟩, ⟨_, rfl, .keep rfl⟩, ⟨_, rfl, .keep rfl⟩, ⟨_, rfl, .keep (by simp [V.bdd])⟩, ⟨_, rfl, .keep (by simp [V.bdd])⟩, ⟨_, rfl, .keep (by simp [V.bdd])⟩, ⟨_, rfl, .ptr (by simp) (ob := .cells 0 (foundC s t (firstF k s t srt []))) (by simp) (by simp [Ob.read]) rfl (ConvL.refl (foundC_bdd _ _ _ _))⟩, ⟨_, rfl, .keep rfl⟩, trivial⟩
  refine WP.seed 1 (st.length + 4) [(0, .int .i64 k), (1, .int .i64 s), (2, .int .i64 t), (6, .ptr st.length 0 0), (8, .ptr (st.length + 1) 0 0), (9, .ptr (st.length + 3) 0 0), (10, .pptr (foundC s t (firstF k s t srt [])) 0), (11, .bool (firstF k s t srt []).isSome)] (st ++ [.cells 0 [.int .i64 0, .e0], .cells 0 [.int .i64 s, .slc (st.length + 4) 0 0 0 1], .map [], .cells 0 [.map (st.length + 2)]]) (by simp) (by decide) (by simp [SeedE, SeedV, look]) (SeedS.app (.keep (.cells (.keep (.e0 .nil)) SeedS.refl))) ?_
  simp -implicitDefEqProofs only [s_s, argEnv, PastOK, PendOK, sel, isE, isSp, baseOK, opR, opnd, opnds, opndL, ofConst, look, putE, dstOK, guardL, binR, intOp, loadR, bad, bound, lenV, srcV, Ob.read, V.plain, V.one, V.cells, fillV, setMany, zeros, TK.agg, Sub, cellRes, loadV, bindE, Nat.reduceAdd, Nat.reduceEqDiff, Nat.reduceLT, Nat.reduceLeDiff, Nat.reduceMul, Nat.reduceSub, Nat.reduceDiv, Nat.reduceMod, Nat.reduceBEq, Nat.reduceBNe, reduceIte, reduceCtorEq, Int.reduceToNat, Int.reduceLT, Int.reduceLE, Int.reduceAdd, Int.reduceSub, Int.reduceMul, Int.reduceNeg, Int.reduceEq, Int.reduceNe, D_G, D_P, List.lookup, tys, intsV_len]
  refine WP.loopC (ι := List (List Int) × List Key) (fun p => [(0, .int .i64 k), (1, .int .i64 s), (2, .int .i64 t), (6, .ptr st.length 0 0), (8, .ptr (st.length + 1) 0 0), (9, .ptr (st.length + 3) 0 0), (10, .pptr (foundC s t (firstF k s t srt p.2)) 0), (11, .bool (firstF k s t srt p.2).isSome)])
    (fun p => st ++ [.cells 0 [.int .i64 0, .e0], .cells 0 [.int .i64 s, .slc (st.length + 4) p.1.length 0 p.1.length 1], .map (doneE p.2), .cells 0 [.map (st.length + 2)], .acc p.1.length (p.1.map rowV)]) (fun p => p.1.length ≤ 64 ∧ (∀ q ∈ p.2, okKey Tryd.prog 77 q) ∧ runF k s t srt (64 - p.1.length) p.1 p.2 = runF k s t srt 64 [] []) (fun p => 65 - p.1.length) ([], []) ⟨by simp, by simp, rfl⟩ (by simp -implicitDefEqProofs only [s_s, argEnv, PastOK, PendOK, sel, isE, isSp, baseOK, opR, opnd, opnds, opndL, ofConst, look, putE, dstOK, guardL, binR, intOp, loadR, bad, bound, lenV, srcV, Ob.read, V.plain, V.one, V.cells, fillV, setMany, zeros, TK.agg, Sub, cellRes, loadV, bindE, Nat.reduceAdd, Nat.reduceEqDiff, Nat.reduceLT, Nat.reduceLeDiff, Nat.reduceMul, Nat.reduceSub, Nat.reduceDiv, Nat.reduceMod, Nat.reduceBEq, Nat.reduceBNe, reduceIte, reduceCtorEq, Int.reduceToNat, Int.reduceLT, Int.reduceLE, Int.reduceAdd, Int.reduceSub, Int.reduceMul, Int.reduceNeg, Int.reduceEq, Int.reduceNe, D_G, D_P, List.lookup, tys, intsV_len]) (by simp [doneE]) (fun p => by simp -implicitDefEqProofs only [s_s, argEnv, PastOK, PendOK, sel, isE, isSp, baseOK, opR, opnd, opnds, opndL, ofConst, look, putE, dstOK, guardL, binR, intOp, loadR, bad, bound, lenV, srcV, Ob.read, V.plain, V.one, V.cells, fillV, setMany, zeros, TK.agg, Sub, cellRes, loadV, bindE, Nat.reduceAdd, Nat.reduceEqDiff, Nat.reduceLT, Nat.reduceLeDiff, Nat.reduceMul, Nat.reduceSub, Nat.reduceDiv, Nat.reduceMod, Nat.reduceBEq, Nat.reduceBNe, reduceIte, reduceCtorEq, Int.reduceToNat, Int.reduceLT, Int.reduceLE, Int.reduceAdd, Int.reduceSub, Int.reduceMul, Int.reduceNeg, Int.reduceEq, Int.reduceNe, D_G, D_P, List.lookup, tys, intsV_len]) ?_
  rintro ⟨R, ks⟩ ⟨hR, hks, hrun⟩
  simp only at hR hks hrun
  simp -implicitDefEqProofs only [s_s, argEnv, PastOK, PendOK, sel, isE, isSp, baseOK, opR, opnd, opnds, opndL, ofConst, look, putE, dstOK, guardL, binR, intOp, loadR, bad, bound, lenV, srcV, Ob.read, V.plain, V.one, V.cells, fillV, setMany, zeros, TK.agg, Sub, cellRes, loadV, bindE, Nat.reduceAdd, Nat.reduceEqDiff, Nat.reduceLT, Nat.reduceLeDiff, Nat.reduceMul, Nat.reduceSub, Nat.reduceDiv, Nat.reduceMod, Nat.reduceBEq, Nat.reduceBNe, reduceIte, reduceCtorEq, Int.reduceToNat, Int.reduceLT, Int.reduceLE, Int.reduceAdd, Int.reduceSub, Int.reduceMul, Int.reduceNeg, Int.reduceEq, Int.reduceNe, D_G, D_P, List.lookup, tys, intsV_len]
  refine Br.intro (fun hb => ?_) (fun hb => ?_)
  · obtain ⟨⟨set, n⟩, hf⟩ := Option.isSome_iff_exists.1 hb
    have hrun' := hrun
    rw [runF, hf] at hrun
    simp only at hrun
    simp -implicitDefEqProofs only [s_s, argEnv, PastOK, PendOK, sel, isE, isSp, baseOK, opR, opnd, opnds, opndL, ofConst, look, putE, dstOK, guardL, binR, intOp, loadR, bad, bound, lenV, srcV, Ob.read, V.plain, V.one, V.cells, fillV, setMany, zeros, TK.agg, Sub, cellRes, loadV, bindE, Nat.reduceAdd, Nat.reduceEqDiff, Nat.reduceLT, Nat.reduceLeDiff, Nat.reduceMul, Nat.reduceSub, Nat.reduceDiv, Nat.reduceMod, Nat.reduceBEq, Nat.reduceBNe, reduceIte, reduceCtorEq, Int.reduceToNat, Int.reduceLT, Int.reduceLE, Int.reduceAdd, Int.reduceSub, Int.reduceMul, Int.reduceNeg, Int.reduceEq, Int.reduceNe, D_G, D_P, List.lookup, tys, intsV_len]
    by_cases h64 : R.length = 64
    · have d7 : decide ((R.length : Int) = 64) = true := by simp; omega
      rw [show 64 - R.length = 0 by omega] at hrun
      simp only at hrun
      rw [← hrun]
      simp -implicitDefEqProofs only [s_s, argEnv, PastOK, PendOK, sel, isE, isSp, baseOK, opR, opnd, opnds, opndL, ofConst, look, putE, dstOK, guardL, binR, intOp, loadR, bad, bound, lenV, srcV, Ob.read, V.plain, V.one, V.cells, fillV, setMany, zeros, TK.agg, Sub, cellRes, loadV, bindE, Nat.reduceAdd, Nat.reduceEqDiff, Nat.reduceLT, Nat.reduceLeDiff, Nat.reduceMul, Nat.reduceSub, Nat.reduceDiv, Nat.reduceMod, Nat.reduceBEq, Nat.reduceBNe, reduceIte, reduceCtorEq, Int.reduceToNat, Int.reduceLT, Int.reduceLE, Int.reduceAdd, Int.reduceSub, Int.reduceMul, Int.reduceNeg, Int.reduceEq, Int.reduceNe, D_G, D_P, List.lookup, tys, intsV_len, d7]
      exact Post.rct (v := .agg [.int .i64 0, .e0]) (x := .int .i64 2) (by simp -implicitDefEqProofs only [s_s, argEnv, PastOK, PendOK, sel, isE, isSp, baseOK, opR, opnd, opnds, opndL, ofConst, look, putE, dstOK, guardL, binR, intOp, loadR, bad, bound, lenV, srcV, Ob.read, V.plain, V.one, V.cells, fillV, setMany, zeros, TK.agg, Sub, cellRes, loadV, bindE, Nat.reduceAdd, Nat.reduceEqDiff, Nat.reduceLT, Nat.reduceLeDiff, Nat.reduceMul, Nat.reduceSub, Nat.reduceDiv, Nat.reduceMod, Nat.reduceBEq, Nat.reduceBNe, reduceIte, reduceCtorEq, Int.reduceToNat, Int.reduceLT, Int.reduceLE, Int.reduceAdd, Int.reduceSub, Int.reduceMul, Int.reduceNeg, Int.reduceEq, Int.reduceNe, D_G, D_P, List.lookup, tys, intsV_len]) (by simp -implicitDefEqProofs only [s_s, argEnv, PastOK, PendOK, sel, isE, isSp, baseOK, opR, opnd, opnds, opndL, ofConst, look, putE, dstOK, guardL, binR, intOp, loadR, bad, bound, lenV, srcV, Ob.read, V.plain, V.one, V.cells, fillV, setMany, zeros, TK.agg, Sub, cellRes, loadV, bindE, Nat.reduceAdd, Nat.reduceEqDiff, Nat.reduceLT, Nat.reduceLeDiff, Nat.reduceMul, Nat.reduceSub, Nat.reduceDiv, Nat.reduceMod, Nat.reduceBEq, Nat.reduceBNe, reduceIte, reduceCtorEq, Int.reduceToNat, Int.reduceLT, Int.reduceLE, Int.reduceAdd, Int.reduceSub, Int.reduceMul, Int.reduceNeg, Int.reduceEq, Int.reduceNe, D_G, D_P, List.lookup, tys, intsV_len]) ⟨selV 0 [] 2, _, rfl, .tup (.cons (.agg (.cons (.keep rfl) (.cons .e0 .nil))) (.cons (.keep rfl) .nil)), rfl⟩
    · have d7 : decide ((R.length : Int) = 64) = false := by simp; omega
      rw [show 64 - R.length = 64 - (R.length + 1) + 1 by omega] at hrun
      simp only at hrun
      simp -implicitDefEqProofs only [s_s, argEnv, PastOK, PendOK, sel, isE, isSp, baseOK, opR, opnd, opnds, opndL, ofConst, look, putE, dstOK, guardL, binR, intOp, loadR, bad, bound, lenV, srcV, Ob.read, V.plain, V.one, V.cells, fillV, setMany, zeros, TK.agg, Sub, cellRes, loadV, bindE, Nat.reduceAdd, Nat.reduceEqDiff, Nat.reduceLT, Nat.reduceLeDiff, Nat.reduceMul, Nat.reduceSub, Nat.reduceDiv, Nat.reduceMod, Nat.reduceBEq, Nat.reduceBNe, reduceIte, reduceCtorEq, Int.reduceToNat, Int.reduceLT, Int.reduceLE, Int.reduceAdd, Int.reduceSub, Int.reduceMul, Int.reduceNeg, Int.reduceEq, Int.reduceNe, D_G, D_P, List.lookup, tys, intsV_len, d7]
      obtain ⟨hset1, hset2⟩ := hse set (firstF_mem hf)
      obtain ⟨g1, g2, g3⟩ := digL_ok (colsOf set) s t n (by omega) (by omega) t
      obtain ⟨lv, hlv⟩ : ∃ lv, lv = (digL (colsOf set) s t n t).1 := ⟨_, rfl⟩
      have hfc : foundC s t (some (set, n)) = .int .u64 set :: lv.map (V.int .i8) := by rw [hlv]; rfl
      have hnew : newRow k s t ks set n = (fillF s t ks (lv.take k, set) k).1 := by rw [hlv]; rfl
      rw [← hlv] at g1 g2
      have hRb : ∀ m, bddL m (R.map rowV) = true := fun m => bdd_rows _ _
      obtain ⟨RV, hRV⟩ : ∃ RV, RV = R.map rowV := ⟨_, rfl⟩
      rw [← hRV] at hRb
      have hRl : RV.length = R.length := by rw [hRV]; simp
      rw [hf, hfc, rowJ_zero lv k, ← hRV]
      refine And.intro ⟨by omega, by omega⟩ ?_
      refine WP.loopF (ι := Nat) (fun j => [(0, .int .i64 k), (1, .int .i64 s), (2, .int .i64 t), (6, .ptr st.length 0 0), (8, .ptr (st.length + 1) 0 0), (9, .ptr (st.length + 3) 0 0), (10, .pptr (.int .u64 set :: lv.map (V.int .i8)) 0), (11, .bool true), (12, .ptr (st.length + 6) 0 0), (73, .slc (st.length + 5) 0 0 k 1), (74, .int .i64 k), (75, .int .i64 j)])
        (fun j => st ++ [.cells 0 [.int .i64 0, .e0], .cells 0 [.int .i64 s, .slc (st.length + 4) R.length 0 R.length 1], .map (doneE ks), .cells 0 [.map (st.length + 2)], .acc R.length RV, .cells 0 (intsV (rowJ lv k j)), .cells 0 [.slc (st.length + 5) 0 0 k 1]]) (fun j => j ≤ k) (fun j => k - j) 0 (by omega) (by simp -implicitDefEqProofs only [s_s, argEnv, PastOK, PendOK, sel, isE, isSp, baseOK, opR, opnd, opnds, opndL, ofConst, look, putE, dstOK, guardL, binR, intOp, loadR, bad, bound, lenV, srcV, Ob.read, V.plain, V.one, V.cells, fillV, setMany, zeros, TK.agg, Sub, cellRes, loadV, bindE, Nat.reduceAdd, Nat.reduceEqDiff, Nat.reduceLT, Nat.reduceLeDiff, Nat.reduceMul, Nat.reduceSub, Nat.reduceDiv, Nat.reduceMod, Nat.reduceBEq, Nat.reduceBNe, reduceIte, reduceCtorEq, Int.reduceToNat, Int.reduceLT, Int.reduceLE, Int.reduceAdd, Int.reduceSub, Int.reduceMul, Int.reduceNeg, Int.reduceEq, Int.reduceNe, D_G, D_P, List.lookup, tys, intsV_len]; try simp) rfl ?_
      intro j hj
      have hjl : (intsV (rowJ lv k j)).length = k := by rw [intsV_len, rowJ_len (by omega) hj]
      simp -implicitDefEqProofs only [s_s, argEnv, PastOK, PendOK, sel, isE, isSp, baseOK, opR, opnd, opnds, opndL, ofConst, look, putE, dstOK, guardL, binR, intOp, loadR, bad, bound, lenV, srcV, Ob.read, V.plain, V.one, V.cells, fillV, setMany, zeros, TK.agg, Sub, cellRes, loadV, bindE, Nat.reduceAdd, Nat.reduceEqDiff, Nat.reduceLT, Nat.reduceLeDiff, Nat.reduceMul, Nat.reduceSub, Nat.reduceDiv, Nat.reduceMod, Nat.reduceBEq, Nat.reduceBNe, reduceIte, reduceCtorEq, Int.reduceToNat, Int.reduceLT, Int.reduceLE, Int.reduceAdd, Int.reduceSub, Int.reduceMul, Int.reduceNeg, Int.reduceEq, Int.reduceNe, D_G, D_P, List.lookup, tys, intsV_len]
      refine Br.intro (fun hb => ?_) (fun hb => ?_)
      · have hjk : j < k := by have := of_decide_eq_true hb; omega
        obtain ⟨x, hx⟩ : ∃ x, lv[j]? = some x := ⟨_, List.getElem?_eq_getElem (by omega)⟩
        have hx8 := g2 x (List.mem_of_getElem? hx)
        have hc : (V.int .u64 (set : Int) :: lv.map (V.int .i8))[1 + j]? = some (.int .i8 x) := by rw [Nat.add_comm, List.getElem?_cons_succ]; simp [hx]
        have wx := wrapI (n := x) (by omega) (by omega)
        have wj := wrapI (n := (j : Int) + 1) (by omega) (by omega)
        have hst : (intsV (rowJ lv k j)).set j (.int .i64 x) = intsV (rowJ lv k (j + 1)) := by rw [← rowJ_set hjk hx]; simp [intsV, List.map_set]
        simp -implicitDefEqProofs only [s_s, argEnv, PastOK, PendOK, sel, isE, isSp, baseOK, opR, opnd, opnds, opndL, ofConst, look, putE, dstOK, guardL, binR, intOp, loadR, bad, bound, lenV, srcV, Ob.read, V.plain, V.one, V.cells, fillV, setMany, zeros, TK.agg, Sub, cellRes, loadV, bindE, Nat.reduceAdd, Nat.reduceEqDiff, Nat.reduceLT, Nat.reduceLeDiff, Nat.reduceMul, Nat.reduceSub, Nat.reduceDiv, Nat.reduceMod, Nat.reduceBEq, Nat.reduceBNe, reduceIte, reduceCtorEq, Int.reduceToNat, Int.reduceLT, Int.reduceLE, Int.reduceAdd, Int.reduceSub, Int.reduceMul, Int.reduceNeg, Int.reduceEq, Int.reduceNe, D_G, D_P, List.lookup, tys, intsV_len]
        refine WP.drawF [(0, 0, 0, [12]), (0, 0, 0, [13]), (0, 0, 0, [13]), (0, 0, 0, [10]), (12, 0, 0, [81, 80]), (28, 0, 0, [82]), (60, 0, 0, [83]), (127, 0, 0, [78, 79]), (255, 0, 1, [85, 84])] D_mixed (by decide +kernel) ?_
        simp -implicitDefEqProofs only [s_s, argEnv, PastOK, PendOK, sel, isE, isSp, baseOK, opR, opnd, opnds, opndL, ofConst, look, putE, dstOK, guardL, binR, intOp, loadR, bad, bound, lenV, srcV, Ob.read, V.plain, V.one, V.cells, fillV, setMany, zeros, TK.agg, Sub, cellRes, loadV, bindE, Nat.reduceAdd, Nat.reduceEqDiff, Nat.reduceLT, Nat.reduceLeDiff, Nat.reduceMul, Nat.reduceSub, Nat.reduceDiv, Nat.reduceMod, Nat.reduceBEq, Nat.reduceBNe, reduceIte, reduceCtorEq, Int.reduceToNat, Int.reduceLT, Int.reduceLE, Int.reduceAdd, Int.reduceSub, Int.reduceMul, Int.reduceNeg, Int.reduceEq, Int.reduceNe, D_G, D_P, List.lookup, tys, intsV_len, hc, wx, wj, hjl, hst]
        refine And.intro ⟨by omega, by omega⟩ (And.intro (by omega) (And.intro ⟨by omega, by omega⟩ (And.intro (by omega) ?_)))
        exact Kl.next (j + 1) (by omega) (by omega) (by simp -implicitDefEqProofs only [s_s, argEnv, PastOK, PendOK, sel, isE, isSp, baseOK, opR, opnd, opnds, opndL, ofConst, look, putE, dstOK, guardL, binR, intOp, loadR, bad, bound, lenV, srcV, Ob.read, V.plain, V.one, V.cells, fillV, setMany, zeros, TK.agg, Sub, cellRes, loadV, bindE, Nat.reduceAdd, Nat.reduceEqDiff, Nat.reduceLT, Nat.reduceLeDiff, Nat.reduceMul, Nat.reduceSub, Nat.reduceDiv, Nat.reduceMod, Nat.reduceBEq, Nat.reduceBNe, reduceIte, reduceCtorEq, Int.reduceToNat, Int.reduceLT, Int.reduceLE, Int.reduceAdd, Int.reduceSub, Int.reduceMul, Int.reduceNeg, Int.reduceEq, Int.reduceNe, D_G, D_P, List.lookup, tys, intsV_len]; try simp) rfl
      · have hjk : j = k := by have := of_decide_eq_false hb; omega
        subst hjk
        rw [rowJ_full] at hjl ⊢
        obtain ⟨P, hP⟩ : ∃ P, P = (lv.take j, set) := ⟨_, rfl⟩
        have hF := fillF_ok s t ks P j 8 (by omega) (by omega) (by omega) (by rw [hP]; simp; omega) (by rw [hP]; exact fun x hx => g2 x (List.mem_of_mem_take hx)) (by rw [hP]; exact hset1)
        rw [← hP] at hnew
        have hP1 : lv.take j = (fillF s t ks P 0).1 := by rw [hP]; rfl
        have hP2 : set = (fillF s t ks P 0).2 := by rw [hP]; rfl
        simp -implicitDefEqProofs only [s_s, argEnv, PastOK, PendOK, sel, isE, isSp, baseOK, opR, opnd, opnds, opndL, ofConst, look, putE, dstOK, guardL, binR, intOp, loadR, bad, bound, lenV, srcV, Ob.read, V.plain, V.one, V.cells, fillV, setMany, zeros, TK.agg, Sub, cellRes, loadV, bindE, Nat.reduceAdd, Nat.reduceEqDiff, Nat.reduceLT, Nat.reduceLeDiff, Nat.reduceMul, Nat.reduceSub, Nat.reduceDiv, Nat.reduceMod, Nat.reduceBEq, Nat.reduceBNe, reduceIte, reduceCtorEq, Int.reduceToNat, Int.reduceLT, Int.reduceLE, Int.reduceAdd, Int.reduceSub, Int.reduceMul, Int.reduceNeg, Int.reduceEq, Int.reduceNe, D_G, D_P, List.lookup, tys, intsV_len, hjl]
        repeat (refine And.intro (by first | omega | rfl | trivial | (simp; done) | (simp; omega)) ?_)
        refine WP.loopF (ι := Nat) (fun i => [(0, .int .i64 j), (1, .int .i64 s), (2, .int .i64 t), (6, .ptr st.length 0 0), (8, .ptr (st.length + 1) 0 0), (9, .ptr (st.length + 3) 0 0), (10, .pptr (.int .u64 set :: lv.map (V.int .i8)) 0), (11, .bool true), (12, .ptr (st.length + 6) 0 0), (14, .int .u64 (fillF s t ks P i).2), (89, .slc (st.length + 5) 0 0 j 1), (90, .int .i64 j), (91, .int .i64 i)]) (fun i => st ++ [.cells 0 [.int .i64 0, .e0], .cells 0 [.int .i64 s, .slc (st.length + 4) R.length 0 R.length 1], .map (doneE ks), .cells 0 [.map (st.length + 2)], .acc R.length RV, .cells 0 (intsV (fillF s t ks P i).1), .cells 0 [.slc (st.length + 5) 0 0 j 1]]) (fun i => i ≤ j) (fun i => j - i) 0 (by omega) (by simp -implicitDefEqProofs only [s_s, argEnv, PastOK, PendOK, sel, isE, isSp, baseOK, opR, opnd, opnds, opndL, ofConst, look, putE, dstOK, guardL, binR, intOp, loadR, bad, bound, lenV, srcV, Ob.read, V.plain, V.one, V.cells, fillV, setMany, zeros, TK.agg, Sub, cellRes, loadV, bindE, Nat.reduceAdd, Nat.reduceEqDiff, Nat.reduceLT, Nat.reduceLeDiff, Nat.reduceMul, Nat.reduceSub, Nat.reduceDiv, Nat.reduceMod, Nat.reduceBEq, Nat.reduceBNe, reduceIte, reduceCtorEq, Int.reduceToNat, Int.reduceLT, Int.reduceLE, Int.reduceAdd, Int.reduceSub, Int.reduceMul, Int.reduceNeg, Int.reduceEq, Int.reduceNe, D_G, D_P, List.lookup, tys, intsV_len, ← hP2]; try simp) (by rw [hP1]) ?_
        intro i hi
        obtain ⟨f1, f2, f3⟩ := hF i hi
        have hFs : fillF s t ks P (i + 1) = stepJ s t ks (fillF s t ks P i) i := rfl
        obtain ⟨⟨r, u⟩, hru⟩ : ∃ ru, ru = fillF s t ks P i := ⟨_, rfl⟩
        rw [← hru] at f1 f2 f3 hFs ⊢
        simp only at f1 f2 f3 ⊢
        have wi := wrapI (n := (i : Int) + 1) (by omega) (by omega)
        simp -implicitDefEqProofs only [s_s, argEnv, PastOK, PendOK, sel, isE, isSp, baseOK, opR, opnd, opnds, opndL, ofConst, look, putE, dstOK, guardL, binR, intOp, loadR, bad, bound, lenV, srcV, Ob.read, V.plain, V.one, V.cells, fillV, setMany, zeros, TK.agg, Sub, cellRes, loadV, bindE, Nat.reduceAdd, Nat.reduceEqDiff, Nat.reduceLT, Nat.reduceLeDiff, Nat.reduceMul, Nat.reduceSub, Nat.reduceDiv, Nat.reduceMod, Nat.reduceBEq, Nat.reduceBNe, reduceIte, reduceCtorEq, Int.reduceToNat, Int.reduceLT, Int.reduceLE, Int.reduceAdd, Int.reduceSub, Int.reduceMul, Int.reduceNeg, Int.reduceEq, Int.reduceNe, D_G, D_P, List.lookup, tys, intsV_len]
        refine Br.intro (fun hb => ?_) (fun hb => ?_)
        · have hij : i < j := by have := of_decide_eq_true hb; omega
          have b1 := bit_at u i f3 (by omega)
          simp -implicitDefEqProofs only [s_s, argEnv, PastOK, PendOK, sel, isE, isSp, baseOK, opR, opnd, opnds, opndL, ofConst, look, putE, dstOK, guardL, binR, intOp, loadR, bad, bound, lenV, srcV, Ob.read, V.plain, V.one, V.cells, fillV, setMany, zeros, TK.agg, Sub, cellRes, loadV, bindE, Nat.reduceAdd, Nat.reduceEqDiff, Nat.reduceLT, Nat.reduceLeDiff, Nat.reduceMul, Nat.reduceSub, Nat.reduceDiv, Nat.reduceMod, Nat.reduceBEq, Nat.reduceBNe, reduceIte, reduceCtorEq, Int.reduceToNat, Int.reduceLT, Int.reduceLE, Int.reduceAdd, Int.reduceSub, Int.reduceMul, Int.reduceNeg, Int.reduceEq, Int.reduceNe, D_G, D_P, List.lookup, tys, intsV_len, b1]
          refine And.intro (by omega) ?_
          refine Br.intro (fun hb => ?_) (fun hb => ?_)
          · have hst : stepJ s t ks (r, u) i = (r, u) := by simp [stepJ, hb]
            simp -implicitDefEqProofs only [s_s, argEnv, PastOK, PendOK, sel, isE, isSp, baseOK, opR, opnd, opnds, opndL, ofConst, look, putE, dstOK, guardL, binR, intOp, loadR, bad, bound, lenV, srcV, Ob.read, V.plain, V.one, V.cells, fillV, setMany, zeros, TK.agg, Sub, cellRes, loadV, bindE, Nat.reduceAdd, Nat.reduceEqDiff, Nat.reduceLT, Nat.reduceLeDiff, Nat.reduceMul, Nat.reduceSub, Nat.reduceDiv, Nat.reduceMod, Nat.reduceBEq, Nat.reduceBNe, reduceIte, reduceCtorEq, Int.reduceToNat, Int.reduceLT, Int.reduceLE, Int.reduceAdd, Int.reduceSub, Int.reduceMul, Int.reduceNeg, Int.reduceEq, Int.reduceNe, D_G, D_P, List.lookup, tys, intsV_len, wi]
            exact Kl.next (i + 1) (by omega) (by omega) (by simp -implicitDefEqProofs only [s_s, argEnv, PastOK, PendOK, sel, isE, isSp, baseOK, opR, opnd, opnds, opndL, ofConst, look, putE, dstOK, guardL, binR, intOp, loadR, bad, bound, lenV, srcV, Ob.read, V.plain, V.one, V.cells, fillV, setMany, zeros, TK.agg, Sub, cellRes, loadV, bindE, Nat.reduceAdd, Nat.reduceEqDiff, Nat.reduceLT, Nat.reduceLeDiff, Nat.reduceMul, Nat.reduceSub, Nat.reduceDiv, Nat.reduceMod, Nat.reduceBEq, Nat.reduceBNe, reduceIte, reduceCtorEq, Int.reduceToNat, Int.reduceLT, Int.reduceLE, Int.reduceAdd, Int.reduceSub, Int.reduceMul, Int.reduceNeg, Int.reduceEq, Int.reduceNe, D_G, D_P, List.lookup, tys, intsV_len, hFs, hst]; try simp) (by rw [hFs, hst])
          · have hst : stepJ s t ks (r, u) i = (r.set i ((bestF r t i u ks s).2 : Nat), u ||| 2 ^ i) := by simp [stepJ, hb]
            have p8 : 2 ^ i < 256 := by
              have : ∀ j, j < 8 → 2 ^ j < 256 := by decide
              exact this i (by omega)
            obtain ⟨o1, o2⟩ := or_at u (2 ^ i) f3 p8
            have s1 := shl_at i (by omega)
            simp -implicitDefEqProofs only [s_s, argEnv, PastOK, PendOK, sel, isE, isSp, baseOK, opR, opnd, opnds, opndL, ofConst, look, putE, dstOK, guardL, binR, intOp, loadR, bad, bound, lenV, srcV, Ob.read, V.plain, V.one, V.cells, fillV, setMany, zeros, TK.agg, Sub, cellRes, loadV, bindE, Nat.reduceAdd, Nat.reduceEqDiff, Nat.reduceLT, Nat.reduceLeDiff, Nat.reduceMul, Nat.reduceSub, Nat.reduceDiv, Nat.reduceMod, Nat.reduceBEq, Nat.reduceBNe, reduceIte, reduceCtorEq, Int.reduceToNat, Int.reduceLT, Int.reduceLE, Int.reduceAdd, Int.reduceSub, Int.reduceMul, Int.reduceNeg, Int.reduceEq, Int.reduceNe, D_G, D_P, List.lookup, tys, intsV_len]
            refine WP.loopF (ι := Nat) (fun x => [(0, .int .i64 j), (1, .int .i64 s), (2, .int .i64 t), (6, .ptr st.length 0 0), (8, .ptr (st.length + 1) 0 0), (9, .ptr (st.length + 3) 0 0), (10, .pptr (.int .u64 set :: lv.map (V.int .i8)) 0), (11, .bool true), (12, .ptr (st.length + 6) 0 0), (14, .int .u64 u), (89, .slc (st.length + 5) 0 0 j 1), (90, .int .i64 j), (91, .int .i64 i), (15, .int .i64 i), (16, .int .i64 (bestF r t i u ks x).1), (17, .int .i64 ((bestF r t i u ks x).2 : Nat)), (99, .int .i64 s), (100, .int .i64 x)]) (fun x => st ++ [.cells 0 [.int .i64 0, .e0], .cells 0 [.int .i64 s, .slc (st.length + 4) R.length 0 R.length 1], .map (doneE ks), .cells 0 [.map (st.length + 2)], .acc R.length RV, .cells 0 (intsV (rowX r i x)), .cells 0 [.slc (st.length + 5) 0 0 j 1]]) (fun x => x ≤ s) (fun x => s - x) 0 (by omega) (by simp -implicitDefEqProofs only [s_s, argEnv, PastOK, PendOK, sel, isE, isSp, baseOK, opR, opnd, opnds, opndL, ofConst, look, putE, dstOK, guardL, binR, intOp, loadR, bad, bound, lenV, srcV, Ob.read, V.plain, V.one, V.cells, fillV, setMany, zeros, TK.agg, Sub, cellRes, loadV, bindE, Nat.reduceAdd, Nat.reduceEqDiff, Nat.reduceLT, Nat.reduceLeDiff, Nat.reduceMul, Nat.reduceSub, Nat.reduceDiv, Nat.reduceMod, Nat.reduceBEq, Nat.reduceBNe, reduceIte, reduceCtorEq, Int.reduceToNat, Int.reduceLT, Int.reduceLE, Int.reduceAdd, Int.reduceSub, Int.reduceMul, Int.reduceNeg, Int.reduceEq, Int.reduceNe, D_G, D_P, List.lookup, tys, intsV_len, bestF]; try simp) rfl ?_
            intro x hx
            obtain ⟨q1, q2⟩ := bestF_ok r t i u ks s (by omega) x hx
            have hbs : bestF r t i u ks (x + 1) = if (bestF r t i u ks x).1 < (gainN (r.set i x) t i u ks : Int) then ((gainN (r.set i x) t i u ks : Int), x) else bestF r t i u ks x := rfl
            obtain ⟨⟨be, le⟩, hbl⟩ : ∃ bl, bl = bestF r t i u ks x := ⟨_, rfl⟩
            rw [← hbl] at q1 q2 hbs ⊢
            simp only at q1 q2 hbs ⊢
            have hxl : (intsV (rowX r i x)).length = j := by rw [intsV_len, rowX_len, f1]
            have wx := wrapI (n := (x : Int) + 1) (by omega) (by omega)
            simp -implicitDefEqProofs only [s_s, argEnv, PastOK, PendOK, sel, isE, isSp, baseOK, opR, opnd, opnds, opndL, ofConst, look, putE, dstOK, guardL, binR, intOp, loadR, bad, bound, lenV, srcV, Ob.read, V.plain, V.one, V.cells, fillV, setMany, zeros, TK.agg, Sub, cellRes, loadV, bindE, Nat.reduceAdd, Nat.reduceEqDiff, Nat.reduceLT, Nat.reduceLeDiff, Nat.reduceMul, Nat.reduceSub, Nat.reduceDiv, Nat.reduceMod, Nat.reduceBEq, Nat.reduceBNe, reduceIte, reduceCtorEq, Int.reduceToNat, Int.reduceLT, Int.reduceLE, Int.reduceAdd, Int.reduceSub, Int.reduceMul, Int.reduceNeg, Int.reduceEq, Int.reduceNe, D_G, D_P, List.lookup, tys, intsV_len]
            refine Br.intro (fun hb => ?_) (fun hb => ?_)
            · have hxs : x < s := by have := of_decide_eq_true hb; omega
              have hset2 : (intsV (rowX r i x)).set i (.int .i64 x) = intsV (r.set i x) := by
                have := rowX_set r i x x
                rw [← this]; simp [intsV, List.map_set]
              have hg := gain_spec (r.set i x) t i u ks (st.length + 2) (st.length + 5) 0 (by simp; omega) (set_ok f2 ⟨by omega, by omega⟩) (by simp; omega) f3 (st ++ [.cells 0 [.int .i64 0, .e0], .cells 0 [.int .i64 s, .slc (st.length + 4) R.length 0 R.length 1], .map (doneE ks), .cells 0 [.map (st.length + 2)], .acc R.length RV, .cells 0 (intsV (r.set i x)), .cells 0 [.slc (st.length + 5) 0 0 j 1]]) (by simp) (by simp) hks
              rw [List.length_set, f1] at hg
              simp -implicitDefEqProofs only [s_s, argEnv, PastOK, PendOK, sel, isE, isSp, baseOK, opR, opnd, opnds, opndL, ofConst, look, putE, dstOK, guardL, binR, intOp, loadR, bad, bound, lenV, srcV, Ob.read, V.plain, V.one, V.cells, fillV, setMany, zeros, TK.agg, Sub, cellRes, loadV, bindE, Nat.reduceAdd, Nat.reduceEqDiff, Nat.reduceLT, Nat.reduceLeDiff, Nat.reduceMul, Nat.reduceSub, Nat.reduceDiv, Nat.reduceMod, Nat.reduceBEq, Nat.reduceBNe, reduceIte, reduceCtorEq, Int.reduceToNat, Int.reduceLT, Int.reduceLE, Int.reduceAdd, Int.reduceSub, Int.reduceMul, Int.reduceNeg, Int.reduceEq, Int.reduceNe, D_G, D_P, List.lookup, tys, intsV_len, hxl, hset2]
              refine And.intro ⟨by omega, by omega⟩ (And.intro (by omega) ?_)
              refine Sp.call rfl rfl (hg.mono ?_)
              rintro v st' ⟨rfl, rfl⟩
              simp -implicitDefEqProofs only [s_s, argEnv, PastOK, PendOK, sel, isE, isSp, baseOK, opR, opnd, opnds, opndL, ofConst, look, putE, dstOK, guardL, binR, intOp, loadR, bad, bound, lenV, srcV, Ob.read, V.plain, V.one, V.cells, fillV, setMany, zeros, TK.agg, Sub, cellRes, loadV, bindE, Nat.reduceAdd, Nat.reduceEqDiff, Nat.reduceLT, Nat.reduceLeDiff, Nat.reduceMul, Nat.reduceSub, Nat.reduceDiv, Nat.reduceMod, Nat.reduceBEq, Nat.reduceBNe, reduceIte, reduceCtorEq, Int.reduceToNat, Int.reduceLT, Int.reduceLE, Int.reduceAdd, Int.reduceSub, Int.reduceMul, Int.reduceNeg, Int.reduceEq, Int.reduceNe, D_G, D_P, List.lookup, tys, intsV_len]
              refine Br.intro (fun hb => ?_) (fun hb => ?_)
              · have hlt : be < (gainN (r.set i x) t i u ks : Int) := of_decide_eq_true hb
                rw [if_pos hlt] at hbs
                simp -implicitDefEqProofs only [s_s, argEnv, PastOK, PendOK, sel, isE, isSp, baseOK, opR, opnd, opnds, opndL, ofConst, look, putE, dstOK, guardL, binR, intOp, loadR, bad, bound, lenV, srcV, Ob.read, V.plain, V.one, V.cells, fillV, setMany, zeros, TK.agg, Sub, cellRes, loadV, bindE, Nat.reduceAdd, Nat.reduceEqDiff, Nat.reduceLT, Nat.reduceLeDiff, Nat.reduceMul, Nat.reduceSub, Nat.reduceDiv, Nat.reduceMod, Nat.reduceBEq, Nat.reduceBNe, reduceIte, reduceCtorEq, Int.reduceToNat, Int.reduceLT, Int.reduceLE, Int.reduceAdd, Int.reduceSub, Int.reduceMul, Int.reduceNeg, Int.reduceEq, Int.reduceNe, D_G, D_P, List.lookup, tys, intsV_len, wx]
                exact Kl.next (x + 1) (by omega) (by omega) (by simp -implicitDefEqProofs only [s_s, argEnv, PastOK, PendOK, sel, isE, isSp, baseOK, opR, opnd, opnds, opndL, ofConst, look, putE, dstOK, guardL, binR, intOp, loadR, bad, bound, lenV, srcV, Ob.read, V.plain, V.one, V.cells, fillV, setMany, zeros, TK.agg, Sub, cellRes, loadV, bindE, Nat.reduceAdd, Nat.reduceEqDiff, Nat.reduceLT, Nat.reduceLeDiff, Nat.reduceMul, Nat.reduceSub, Nat.reduceDiv, Nat.reduceMod, Nat.reduceBEq, Nat.reduceBNe, reduceIte, reduceCtorEq, Int.reduceToNat, Int.reduceLT, Int.reduceLE, Int.reduceAdd, Int.reduceSub, Int.reduceMul, Int.reduceNeg, Int.reduceEq, Int.reduceNe, D_G, D_P, List.lookup, tys, intsV_len, hbs]; try simp) rfl
              · have hlt : ¬ be < (gainN (r.set i x) t i u ks : Int) := of_decide_eq_false hb
                rw [if_neg hlt] at hbs
                simp -implicitDefEqProofs only [s_s, argEnv, PastOK, PendOK, sel, isE, isSp, baseOK, opR, opnd, opnds, opndL, ofConst, look, putE, dstOK, guardL, binR, intOp, loadR, bad, bound, lenV, srcV, Ob.read, V.plain, V.one, V.cells, fillV, setMany, zeros, TK.agg, Sub, cellRes, loadV, bindE, Nat.reduceAdd, Nat.reduceEqDiff, Nat.reduceLT, Nat.reduceLeDiff, Nat.reduceMul, Nat.reduceSub, Nat.reduceDiv, Nat.reduceMod, Nat.reduceBEq, Nat.reduceBNe, reduceIte, reduceCtorEq, Int.reduceToNat, Int.reduceLT, Int.reduceLE, Int.reduceAdd, Int.reduceSub, Int.reduceMul, Int.reduceNeg, Int.reduceEq, Int.reduceNe, D_G, D_P, List.lookup, tys, intsV_len, wx]
                exact Kl.next (x + 1) (by omega) (by omega) (by simp -implicitDefEqProofs only [s_s, argEnv, PastOK, PendOK, sel, isE, isSp, baseOK, opR, opnd, opnds, opndL, ofConst, look, putE, dstOK, guardL, binR, intOp, loadR, bad, bound, lenV, srcV, Ob.read, V.plain, V.one, V.cells, fillV, setMany, zeros, TK.agg, Sub, cellRes, loadV, bindE, Nat.reduceAdd, Nat.reduceEqDiff, Nat.reduceLT, Nat.reduceLeDiff, Nat.reduceMul, Nat.reduceSub, Nat.reduceDiv, Nat.reduceMod, Nat.reduceBEq, Nat.reduceBNe, reduceIte, reduceCtorEq, Int.reduceToNat, Int.reduceLT, Int.reduceLE, Int.reduceAdd, Int.reduceSub, Int.reduceMul, Int.reduceNeg, Int.reduceEq, Int.reduceNe, D_G, D_P, List.lookup, tys, intsV_len, hbs]; try simp) rfl
            · have hxs : x = s := by have := of_decide_eq_false hb; omega
              subst hxs
              rw [← hbl] at hst
              have hset3 : (intsV (rowX r i x)).set i (.int .i64 le) = intsV (r.set i le) := by
                have := rowX_set r i x le
                rw [← this]; simp [intsV, List.map_set]
              simp -implicitDefEqProofs only [s_s, argEnv, PastOK, PendOK, sel, isE, isSp, baseOK, opR, opnd, opnds, opndL, ofConst, look, putE, dstOK, guardL, binR, intOp, loadR, bad, bound, lenV, srcV, Ob.read, V.plain, V.one, V.cells, fillV, setMany, zeros, TK.agg, Sub, cellRes, loadV, bindE, Nat.reduceAdd, Nat.reduceEqDiff, Nat.reduceLT, Nat.reduceLeDiff, Nat.reduceMul, Nat.reduceSub, Nat.reduceDiv, Nat.reduceMod, Nat.reduceBEq, Nat.reduceBNe, reduceIte, reduceCtorEq, Int.reduceToNat, Int.reduceLT, Int.reduceLE, Int.reduceAdd, Int.reduceSub, Int.reduceMul, Int.reduceNeg, Int.reduceEq, Int.reduceNe, D_G, D_P, List.lookup, tys, intsV_len, hxl, hset3, s1, o1, wi]
              refine And.intro ⟨by omega, by omega⟩ (And.intro (by omega) (And.intro (by omega) ?_))
              exact Kl.next (i + 1) (by omega) (by omega) (by simp -implicitDefEqProofs only [s_s, argEnv, PastOK, PendOK, sel, isE, isSp, baseOK, opR, opnd, opnds, opndL, ofConst, look, putE, dstOK, guardL, binR, intOp, loadR, bad, bound, lenV, srcV, Ob.read, V.plain, V.one, V.cells, fillV, setMany, zeros, TK.agg, Sub, cellRes, loadV, bindE, Nat.reduceAdd, Nat.reduceEqDiff, Nat.reduceLT, Nat.reduceLeDiff, Nat.reduceMul, Nat.reduceSub, Nat.reduceDiv, Nat.reduceMod, Nat.reduceBEq, Nat.reduceBNe, reduceIte, reduceCtorEq, Int.reduceToNat, Int.reduceLT, Int.reduceLE, Int.reduceAdd, Int.reduceSub, Int.reduceMul, Int.reduceNeg, Int.reduceEq, Int.reduceNe, D_G, D_P, List.lookup, tys, intsV_len, hFs, hst]; try simp) (by rw [hFs, hst])
        · have hij : i = j := by have := of_decide_eq_false hb; omega
          subst hij
          have hnr : newRow i s t ks set n = r := by rw [hnew, ← hru]
          rw [hnr] at hrun
          obtain ⟨ks', hks'⟩ : ∃ ks', ks' = ks ++ (setsL i t).map (comb r) := ⟨_, rfl⟩
          rw [← hks'] at hrun
          have hsub : ∀ q, ∀ x ∈ ks ++ ((setsL i t).take q).map (comb r), okKey Tryd.prog 77 x := by
            intro q x hx
            rcases List.mem_append.1 hx with hx | hx
            · exact hks x hx
            · obtain ⟨y, hy, rfl⟩ := List.mem_map.1 hx
              exact comb_ok r y f2 (setsL_mem (by omega) (List.mem_of_mem_take hy))
          have hok' : ∀ x ∈ ks', okKey Tryd.prog 77 x := by
            have := hsub (setsL i t).length
            rwa [List.take_length, ← hks'] at this
          simp -implicitDefEqProofs only [s_s, argEnv, PastOK, PendOK, sel, isE, isSp, baseOK, opR, opnd, opnds, opndL, ofConst, look, putE, dstOK, guardL, binR, intOp, loadR, bad, bound, lenV, srcV, Ob.read, V.plain, V.one, V.cells, fillV, setMany, zeros, TK.agg, Sub, cellRes, loadV, bindE, Nat.reduceAdd, Nat.reduceEqDiff, Nat.reduceLT, Nat.reduceLeDiff, Nat.reduceMul, Nat.reduceSub, Nat.reduceDiv, Nat.reduceMod, Nat.reduceBEq, Nat.reduceBNe, reduceIte, reduceCtorEq, Int.reduceToNat, Int.reduceLT, Int.reduceLE, Int.reduceAdd, Int.reduceSub, Int.reduceMul, Int.reduceNeg, Int.reduceEq, Int.reduceNe, D_G, D_P, List.lookup, tys, intsV_len]
          refine Sp.call rfl rfl ((sets_spec _ _ _).mono ?_)
          rintro v st' ⟨rfl, rfl⟩
          simp -implicitDefEqProofs only [s_s, argEnv, PastOK, PendOK, sel, isE, isSp, baseOK, opR, opnd, opnds, opndL, ofConst, look, putE, dstOK, guardL, binR, intOp, loadR, bad, bound, lenV, srcV, Ob.read, V.plain, V.one, V.cells, fillV, setMany, zeros, TK.agg, Sub, cellRes, loadV, bindE, Nat.reduceAdd, Nat.reduceEqDiff, Nat.reduceLT, Nat.reduceLeDiff, Nat.reduceMul, Nat.reduceSub, Nat.reduceDiv, Nat.reduceMod, Nat.reduceBEq, Nat.reduceBNe, reduceIte, reduceCtorEq, Int.reduceToNat, Int.reduceLT, Int.reduceLE, Int.reduceAdd, Int.reduceSub, Int.reduceMul, Int.reduceNeg, Int.reduceEq, Int.reduceNe, D_G, D_P, List.lookup, tys, intsV_len, setsV]
          refine WP.rangeIter ((setsL i t).map fun s : Nat => V.int .u64 s) (fun q lb => st ++ [.cells 0 [.int .i64 0, .e0], .cells 0 [.int .i64 s, .slc (st.length + 4) R.length 0 R.length 1], .map (doneE (ks ++ ((setsL i t).take q).map (comb r))), .cells 0 [.map (st.length + 2)], .acc R.length RV, .cells 0 (intsV r), .cells 0 [.slc (st.length + 5) 0 0 i 1], lb]) rfl (iter_sets i t (by omega)) (by decide) (fun ob => by simp) (fun q ob => by simp) (fun q ob ob' => by simp) ?_ ?_
          · intro q x lr lb hx
            obtain ⟨y, hy, rfl⟩ : ∃ y, (setsL i t)[q]? = some y ∧ x = .int .u64 (y : Nat) := by
              simp only [List.getElem?_map, Option.map_eq_some_iff] at hx
              obtain ⟨y, h1, h2⟩ := hx
              exact ⟨y, h1, h2.symm⟩
            have hy256 : y < 256 := setsL_lt (by omega) hy
            have hstep : doneE (ks ++ ((setsL i t).take (q + 1)).map (comb r)) = putK (doneE (ks ++ ((setsL i t).take q).map (comb r))) (comb r y) (.bool true) := by
              rw [List.take_add_one, hy, ← doneE_snoc]; simp
            have hck := comb_ok r y f2 hy256
            have hkk := doneE_keys (hsub q)
            have hof := of_slc r y (st.length + 5) 0 (by omega) f2 hy256 (st ++ [.cells 0 [.int .i64 0, .e0], .cells 0 [.int .i64 s, .slc (st.length + 4) R.length 0 R.length 1], .map (doneE (ks ++ ((setsL i t).take q).map (comb r))), .cells 0 [.map (st.length + 2)], .acc R.length RV, .cells 0 (intsV r), .cells 0 [.slc (st.length + 5) 0 0 i 1], lb]) (by simp)
            rw [f1] at hof
            rw [hstep]
            refine wpF_sound ?_
            simp -implicitDefEqProofs only [s_s, argEnv, PastOK, PendOK, sel, isE, isSp, baseOK, opR, opnd, opnds, opndL, ofConst, look, putE, dstOK, guardL, binR, intOp, loadR, bad, bound, lenV, srcV, Ob.read, V.plain, V.one, V.cells, fillV, setMany, zeros, TK.agg, Sub, cellRes, loadV, bindE, Nat.reduceAdd, Nat.reduceEqDiff, Nat.reduceLT, Nat.reduceLeDiff, Nat.reduceMul, Nat.reduceSub, Nat.reduceDiv, Nat.reduceMod, Nat.reduceBEq, Nat.reduceBNe, reduceIte, reduceCtorEq, Int.reduceToNat, Int.reduceLT, Int.reduceLE, Int.reduceAdd, Int.reduceSub, Int.reduceMul, Int.reduceNeg, Int.reduceEq, Int.reduceNe, D_G, D_P, List.lookup, tys, intsV_len]
            refine ⟨rfl, rfl, wpF_sound ?_⟩
            simp -implicitDefEqProofs only [s_s, argEnv, PastOK, PendOK, sel, isE, isSp, baseOK, opR, opnd, opnds, opndL, ofConst, look, putE, dstOK, guardL, binR, intOp, loadR, bad, bound, lenV, srcV, Ob.read, V.plain, V.one, V.cells, fillV, setMany, zeros, TK.agg, Sub, cellRes, loadV, bindE, Nat.reduceAdd, Nat.reduceEqDiff, Nat.reduceLT, Nat.reduceLeDiff, Nat.reduceMul, Nat.reduceSub, Nat.reduceDiv, Nat.reduceMod, Nat.reduceBEq, Nat.reduceBNe, reduceIte, reduceCtorEq, Int.reduceToNat, Int.reduceLT, Int.reduceLE, Int.reduceAdd, Int.reduceSub, Int.reduceMul, Int.reduceNeg, Int.reduceEq, Int.reduceNe, D_G, D_P, List.lookup, tys, intsV_len]
            refine WP.drawF [(0, 0, 1, [9]), (0, 0, 0, [12]), (0, 0, 0, [20]), (6, 0, 1, [133, 134]), (15, 1, 2, [132, 135])] D_mixed (by decide +kernel) ?_
            simp -implicitDefEqProofs only [s_s, argEnv, PastOK, PendOK, sel, isE, isSp, baseOK, opR, opnd, opnds, opndL, ofConst, look, putE, dstOK, guardL, binR, intOp, loadR, bad, bound, lenV, srcV, Ob.read, V.plain, V.one, V.cells, fillV, setMany, zeros, TK.agg, Sub, cellRes, loadV, bindE, Nat.reduceAdd, Nat.reduceEqDiff, Nat.reduceLT, Nat.reduceLeDiff, Nat.reduceMul, Nat.reduceSub, Nat.reduceDiv, Nat.reduceMod, Nat.reduceBEq, Nat.reduceBNe, reduceIte, reduceCtorEq, Int.reduceToNat, Int.reduceLT, Int.reduceLE, Int.reduceAdd, Int.reduceSub, Int.reduceMul, Int.reduceNeg, Int.reduceEq, Int.reduceNe, D_G, D_P, List.lookup, tys, intsV_len]
            refine SpD.call rfl rfl hof ?_
            simp -implicitDefEqProofs only [s_s, argEnv, PastOK, PendOK, sel, isE, isSp, baseOK, opR, opnd, opnds, opndL, ofConst, look, putE, dstOK, guardL, binR, intOp, loadR, bad, bound, lenV, srcV, Ob.read, V.plain, V.one, V.cells, fillV, setMany, zeros, TK.agg, Sub, cellRes, loadV, bindE, Nat.reduceAdd, Nat.reduceEqDiff, Nat.reduceLT, Nat.reduceLeDiff, Nat.reduceMul, Nat.reduceSub, Nat.reduceDiv, Nat.reduceMod, Nat.reduceBEq, Nat.reduceBNe, reduceIte, reduceCtorEq, Int.reduceToNat, Int.reduceLT, Int.reduceLE, Int.reduceAdd, Int.reduceSub, Int.reduceMul, Int.reduceNeg, Int.reduceEq, Int.reduceNe, D_G, D_P, List.lookup, tys, intsV_len, keyV_comb, kg77]
            refine And.intro ⟨hkk, hck⟩ ?_
            exact ⟨rfl, rfl⟩
          · rw [List.length_map, List.take_length, ← hks']
            have h9 : (lv.map (V.int .i8)).take 8 = lv.map (V.int .i8) := List.take_of_length_le (by simp; omega)
            have hset4 : setMany [V.int .u64 (set : Int), .int .i8 0, .int .i8 0, .int .i8 0, .int .i8 0, .int .i8 0, .int .i8 0, .int .i8 0, .int .i8 0] 1 (lv.map (V.int .i8)) = .int .u64 set :: lv.map (V.int .i8) :=
              setMany_app (lv.map (V.int .i8)) [.int .i8 0, .int .i8 0, .int .i8 0, .int .i8 0, .int .i8 0, .int .i8 0, .int .i8 0, .int .i8 0] [.int .u64 set] (by simp; omega)
            simp -implicitDefEqProofs only [s_s, argEnv, PastOK, PendOK, sel, isE, isSp, baseOK, opR, opnd, opnds, opndL, ofConst, look, putE, dstOK, guardL, binR, intOp, loadR, bad, bound, lenV, srcV, Ob.read, V.plain, V.one, V.cells, fillV, setMany, zeros, TK.agg, Sub, cellRes, loadV, bindE, Nat.reduceAdd, Nat.reduceEqDiff, Nat.reduceLT, Nat.reduceLeDiff, Nat.reduceMul, Nat.reduceSub, Nat.reduceDiv, Nat.reduceMod, Nat.reduceBEq, Nat.reduceBNe, reduceIte, reduceCtorEq, Int.reduceToNat, Int.reduceLT, Int.reduceLE, Int.reduceAdd, Int.reduceSub, Int.reduceMul, Int.reduceNeg, Int.reduceEq, Int.reduceNe, D_G, D_P, List.lookup, tys, intsV_len, hRl, h9, g1, hset4]
            refine And.intro (by omega) ?_
            refine Sp.call rfl rfl ((first_spec i s t srt ks' (st.length + 2) (by omega) (by omega) (by omega) (by omega) (by omega) hok' hsrt hsl hse _ (by simp)).mono ?_)
            rintro v st' ⟨rfl, rfl⟩
            obtain ⟨f', hf'⟩ : ∃ f', f' = firstF i s t srt ks' := ⟨_, rfl⟩
            have hset5 : setMany (.int .u64 set :: lv.map (V.int .i8)) 0 (foundC s t f') = foundC s t f' := setMany_all _ _ (by rw [hfl]; simp; omega)
            rw [← hf']
            simp -implicitDefEqProofs only [s_s, argEnv, PastOK, PendOK, sel, isE, isSp, baseOK, opR, opnd, opnds, opndL, ofConst, look, putE, dstOK, guardL, binR, intOp, loadR, bad, bound, lenV, srcV, Ob.read, V.plain, V.one, V.cells, fillV, setMany, zeros, TK.agg, Sub, cellRes, loadV, bindE, Nat.reduceAdd, Nat.reduceEqDiff, Nat.reduceLT, Nat.reduceLeDiff, Nat.reduceMul, Nat.reduceSub, Nat.reduceDiv, Nat.reduceMod, Nat.reduceBEq, Nat.reduceBNe, reduceIte, reduceCtorEq, Int.reduceToNat, Int.reduceLT, Int.reduceLE, Int.reduceAdd, Int.reduceSub, Int.reduceMul, Int.reduceNeg, Int.reduceEq, Int.reduceNe, D_G, D_P, List.lookup, tys, intsV_len, firstV_eq, hfl, hset5, g1]
            refine Kc.next (R ++ [r], ks') ⟨by simp; omega, hok', by simpa using hrun⟩ (by simp; omega) (st ++ [.cells 0 [.int .i64 0, .e0], .cells 0 [.int .i64 s, .slc (st.length + 4) (R.length + 1) 0 (R.length + 1) 1], .map (doneE ks'), .cells 0 [.map (st.length + 2)], .acc (R.length + 1) (RV ++ [.slc (st.length + 5) 0 0 i 1])]) [.cells 0 (intsV r), .cells 0 [.slc (st.length + 5) 0 0 i 1], .dead, .cells 0 [.slc (st.length + 5) 0 0 i 1], .cells 0 (foundC s t f')] (by simp) (by simp) ?_ ?_
            · simp only [List.length_append, List.length_singleton, List.map_append, List.map_cons, List.map_nil, ← hRV]
              exact StConv.base hB (by simp) (.cons (.keep rfl) (.cons (.keep (by simp [Ob.bdd, bddL, V.bdd])) (.cons (.keep (doneE_bdd _ _)) (.cons (.keep (by simp [Ob.bdd, bddL, V.bdd])) (.cons (.acc (ConvL.snoc (hRb _) (Conv.row (by simp) (ob := .cells 0 (intsV r)) (by simp) (by simp [Ob.read]) f1.symm))) .nil)))))
            · simp only [← hf']
              exact ⟨⟨_, rfl, .keep rfl⟩, ⟨_, rfl, .keep rfl⟩, ⟨_, rfl, .keep rfl⟩, ⟨_, rfl, .keep (by simp [V.bdd])⟩, ⟨_, rfl, .keep (by simp [V.bdd])⟩, ⟨_, rfl, .keep (by simp [V.bdd])⟩, ⟨_, rfl, .ptr (by simp) (ob := .cells 0 (foundC s t f')) (by simp) (by simp [Ob.read]) rfl (ConvL.refl (foundC_bdd _ _ _ _))⟩, ⟨_, rfl, .keep rfl⟩, trivial⟩
  · have hf : firstF k s t srt ks = none := by simpa using hb
    rw [runF, hf] at hrun
    simp only at hrun
    rw [← hrun]
    simp -implicitDefEqProofs only [s_s, argEnv, PastOK, PendOK, sel, isE, isSp, baseOK, opR, opnd, opnds, opndL, ofConst, look, putE, dstOK, guardL, binR, intOp, loadR, bad, bound, lenV, srcV, Ob.read, V.plain, V.one, V.cells, fillV, setMany, zeros, TK.agg, Sub, cellRes, loadV, bindE, Nat.reduceAdd, Nat.reduceEqDiff, Nat.reduceLT, Nat.reduceLeDiff, Nat.reduceMul, Nat.reduceSub, Nat.reduceDiv, Nat.reduceMod, Nat.reduceBEq, Nat.reduceBNe, reduceIte, reduceCtorEq, Int.reduceToNat, Int.reduceLT, Int.reduceLE, Int.reduceAdd, Int.reduceSub, Int.reduceMul, Int.reduceNeg, Int.reduceEq, Int.reduceNe, D_G, D_P, List.lookup, tys, intsV_len]
    refine Post.rct (v := .agg [.int .i64 s, .slc (st.length + 4) R.length 0 R.length 1]) (x := .int .i64 0) (by simp -implicitDefEqProofs only [s_s, argEnv, PastOK, PendOK, sel, isE, isSp, baseOK, opR, opnd, opnds, opndL, ofConst, look, putE, dstOK, guardL, binR, intOp, loadR, bad, bound, lenV, srcV, Ob.read, V.plain, V.one, V.cells, fillV, setMany, zeros, TK.agg, Sub, cellRes, loadV, bindE, Nat.reduceAdd, Nat.reduceEqDiff, Nat.reduceLT, Nat.reduceLeDiff, Nat.reduceMul, Nat.reduceSub, Nat.reduceDiv, Nat.reduceMod, Nat.reduceBEq, Nat.reduceBNe, reduceIte, reduceCtorEq, Int.reduceToNat, Int.reduceLT, Int.reduceLE, Int.reduceAdd, Int.reduceSub, Int.reduceMul, Int.reduceNeg, Int.reduceEq, Int.reduceNe, D_G, D_P, List.lookup, tys, intsV_len]) (by simp -implicitDefEqProofs only [s_s, argEnv, PastOK, PendOK, sel, isE, isSp, baseOK, opR, opnd, opnds, opndL, ofConst, look, putE, dstOK, guardL, binR, intOp, loadR, bad, bound, lenV, srcV, Ob.read, V.plain, V.one, V.cells, fillV, setMany, zeros, TK.agg, Sub, cellRes, loadV, bindE, Nat.reduceAdd, Nat.reduceEqDiff, Nat.reduceLT, Nat.reduceLeDiff, Nat.reduceMul, Nat.reduceSub, Nat.reduceDiv, Nat.reduceMod, Nat.reduceBEq, Nat.reduceBNe, reduceIte, reduceCtorEq, Int.reduceToNat, Int.reduceLT, Int.reduceLE, Int.reduceAdd, Int.reduceSub, Int.reduceMul, Int.reduceNeg, Int.reduceEq, Int.reduceNe, D_G, D_P, List.lookup, tys, intsV_len]) ⟨selV s R 0, _, rfl, ?_, rfl⟩
    exact .tup (.cons (.agg (.cons (.keep rfl) (.cons (Conv.whole (by simp) (ob := .acc R.length (R.map rowV)) (by simp) (by simp [Ob.read]) (by simp) (bdd_rows _ _)) .nil))) (.cons (.keep rfl) .nil))

theorem cover_spec (k s t : Nat) (srt : List Nat) (h : covOK k s t) (hsrt : ∀ st, VCall D 59 [setsV k t, .fn (.func 60) []] st (fun r st' => r = .lst 1 (natsV srt) ∧ st' = st)) (hsl : srt.length < 1000) (hse : ∀ x ∈ srt, x < 256 ∧ pop x = t) (st : St) :
    VCall D 24 [.int .i64 k, .int .i64 s, .int .i64 t] st (fun r st' => r = (match runF k s t srt 64 [] [] with | some R => gotV s R 0 | none => gotV 0 [] 2) ∧ st' = st) := by
  refine VCall.clean ?_
  refine VCall.of_WP (fn := Tryd.f24) (c := _) Tryd.func24 rfl (by decide +kernel) (Nat.le_of_ble_eq_true rfl) ?_
  refine wpF_sound ?_
  simp -implicitDefEqProofs only [s_s, argEnv, PastOK, PendOK, sel, isE, isSp, baseOK, opR, opnd, opnds, opndL, ofConst, look, putE, dstOK, guardL, binR, intOp, loadR, bad, bound, lenV, srcV, Ob.read, V.plain, V.one, V.cells, fillV, setMany, zeros, TK.agg, Sub, cellRes, loadV, bindE, Nat.reduceAdd, Nat.reduceEqDiff, Nat.reduceLT, Nat.reduceLeDiff, Nat.reduceMul, Nat.reduceSub, Nat.reduceDiv, Nat.reduceMod, Nat.reduceBEq, Nat.reduceBNe, reduceIte, reduceCtorEq, Int.reduceToNat, Int.reduceLT, Int.reduceLE, Int.reduceAdd, Int.reduceSub, Int.reduceMul, Int.reduceNeg, Int.reduceEq, Int.reduceNe, D_G, D_P, List.lookup, tys, intsV_len, Tryd.ntmps24, Tryd.f24]
  have hsel := Cover_spec k s t srt h hsrt hsl hse (st ++ [.cells 0 [.int .i64 0, .e0, .int .i64 0]])
  cases hrun : runF k s t srt 64 [] [] with
  | some R =>
    rw [hrun] at hsel
    refine Sp.call rfl rfl (hsel.mono ?_)
    rintro r st' ⟨rfl, rfl⟩
    simp -implicitDefEqProofs only [s_s, argEnv, PastOK, PendOK, sel, isE, isSp, baseOK, opR, opnd, opnds, opndL, ofConst, look, putE, dstOK, guardL, binR, intOp, loadR, bad, bound, lenV, srcV, Ob.read, V.plain, V.one, V.cells, fillV, setMany, zeros, TK.agg, Sub, cellRes, loadV, bindE, Nat.reduceAdd, Nat.reduceEqDiff, Nat.reduceLT, Nat.reduceLeDiff, Nat.reduceMul, Nat.reduceSub, Nat.reduceDiv, Nat.reduceMod, Nat.reduceBEq, Nat.reduceBNe, reduceIte, reduceCtorEq, Int.reduceToNat, Int.reduceLT, Int.reduceLE, Int.reduceAdd, Int.reduceSub, Int.reduceMul, Int.reduceNeg, Int.reduceEq, Int.reduceNe, D_G, D_P, List.lookup, tys, intsV_len, selV, gotV, arrV]
    refine Post.rc (v := gotV s R 0) (by simp -implicitDefEqProofs only [s_s, argEnv, PastOK, PendOK, sel, isE, isSp, baseOK, opR, opnd, opnds, opndL, ofConst, look, putE, dstOK, guardL, binR, intOp, loadR, bad, bound, lenV, srcV, Ob.read, V.plain, V.one, V.cells, fillV, setMany, zeros, TK.agg, Sub, cellRes, loadV, bindE, Nat.reduceAdd, Nat.reduceEqDiff, Nat.reduceLT, Nat.reduceLeDiff, Nat.reduceMul, Nat.reduceSub, Nat.reduceDiv, Nat.reduceMod, Nat.reduceBEq, Nat.reduceBNe, reduceIte, reduceCtorEq, Int.reduceToNat, Int.reduceLT, Int.reduceLE, Int.reduceAdd, Int.reduceSub, Int.reduceMul, Int.reduceNeg, Int.reduceEq, Int.reduceNe, D_G, D_P, List.lookup, tys, intsV_len, gotV]) ⟨gotV s R 0, _, rfl, .keep (by simp only [gotV, V.bdd, bddL, bdd_rows, Bool.true_and, Bool.and_self]), rfl⟩
  | none =>
    rw [hrun] at hsel
    refine Sp.call rfl rfl (hsel.mono ?_)
    rintro r st' ⟨rfl, rfl⟩
    simp -implicitDefEqProofs only [s_s, argEnv, PastOK, PendOK, sel, isE, isSp, baseOK, opR, opnd, opnds, opndL, ofConst, look, putE, dstOK, guardL, binR, intOp, loadR, bad, bound, lenV, srcV, Ob.read, V.plain, V.one, V.cells, fillV, setMany, zeros, TK.agg, Sub, cellRes, loadV, bindE, Nat.reduceAdd, Nat.reduceEqDiff, Nat.reduceLT, Nat.reduceLeDiff, Nat.reduceMul, Nat.reduceSub, Nat.reduceDiv, Nat.reduceMod, Nat.reduceBEq, Nat.reduceBNe, reduceIte, reduceCtorEq, Int.reduceToNat, Int.reduceLT, Int.reduceLE, Int.reduceAdd, Int.reduceSub, Int.reduceMul, Int.reduceNeg, Int.reduceEq, Int.reduceNe, D_G, D_P, List.lookup, tys, intsV_len, selV, gotV, arrV]
    exact Post.rc (v := gotV 0 [] 2) (by simp -implicitDefEqProofs only [s_s, argEnv, PastOK, PendOK, sel, isE, isSp, baseOK, opR, opnd, opnds, opndL, ofConst, look, putE, dstOK, guardL, binR, intOp, loadR, bad, bound, lenV, srcV, Ob.read, V.plain, V.one, V.cells, fillV, setMany, zeros, TK.agg, Sub, cellRes, loadV, bindE, Nat.reduceAdd, Nat.reduceEqDiff, Nat.reduceLT, Nat.reduceLeDiff, Nat.reduceMul, Nat.reduceSub, Nat.reduceDiv, Nat.reduceMod, Nat.reduceBEq, Nat.reduceBNe, reduceIte, reduceCtorEq, Int.reduceToNat, Int.reduceLT, Int.reduceLE, Int.reduceAdd, Int.reduceSub, Int.reduceMul, Int.reduceNeg, Int.reduceEq, Int.reduceNe, D_G, D_P, List.lookup, tys, intsV_len, gotV]) ⟨gotV 0 [] 2, _, rfl, .keep rfl, rfl⟩

theorem cover_bad (k s t : Int) (h : ¬ covOK k s t) (st : St) : VCall D 24 [.int .i64 k, .int .i64 s, .int .i64 t] st (fun r st' => r = gotV 0 [] 1 ∧ st' = st) := by
  refine VCall.clean ?_
  refine VCall.of_WP (fn := Tryd.f24) (c := _) Tryd.func24 rfl (by decide +kernel) (Nat.le_of_ble_eq_true rfl) ?_
  refine wpF_sound ?_
  simp -implicitDefEqProofs only [s_s, argEnv, PastOK, PendOK, sel, isE, isSp, baseOK, opR, opnd, opnds, opndL, ofConst, look, putE, dstOK, guardL, binR, intOp, loadR, bad, bound, lenV, srcV, Ob.read, V.plain, V.one, V.cells, fillV, setMany, zeros, TK.agg, Sub, cellRes, loadV, bindE, Nat.reduceAdd, Nat.reduceEqDiff, Nat.reduceLT, Nat.reduceLeDiff, Nat.reduceMul, Nat.reduceSub, Nat.reduceDiv, Nat.reduceMod, Nat.reduceBEq, Nat.reduceBNe, reduceIte, reduceCtorEq, Int.reduceToNat, Int.reduceLT, Int.reduceLE, Int.reduceAdd, Int.reduceSub, Int.reduceMul, Int.reduceNeg, Int.reduceEq, Int.reduceNe, D_G, D_P, List.lookup, tys, intsV_len, Tryd.ntmps24, Tryd.f24]
  refine Sp.call rfl rfl ((Cover_bad k s t h _).mono ?_)
  rintro r st' ⟨rfl, rfl⟩
  simp -implicitDefEqProofs only [s_s, argEnv, PastOK, PendOK, sel, isE, isSp, baseOK, opR, opnd, opnds, opndL, ofConst, look, putE, dstOK, guardL, binR, intOp, loadR, bad, bound, lenV, srcV, Ob.read, V.plain, V.one, V.cells, fillV, setMany, zeros, TK.agg, Sub, cellRes, loadV, bindE, Nat.reduceAdd, Nat.reduceEqDiff, Nat.reduceLT, Nat.reduceLeDiff, Nat.reduceMul, Nat.reduceSub, Nat.reduceDiv, Nat.reduceMod, Nat.reduceBEq, Nat.reduceBNe, reduceIte, reduceCtorEq, Int.reduceToNat, Int.reduceLT, Int.reduceLE, Int.reduceAdd, Int.reduceSub, Int.reduceMul, Int.reduceNeg, Int.reduceEq, Int.reduceNe, D_G, D_P, List.lookup, tys, intsV_len, selV, gotV, arrV]
  exact Post.rc (v := gotV 0 [] 1) (by simp -implicitDefEqProofs only [s_s, argEnv, PastOK, PendOK, sel, isE, isSp, baseOK, opR, opnd, opnds, opndL, ofConst, look, putE, dstOK, guardL, binR, intOp, loadR, bad, bound, lenV, srcV, Ob.read, V.plain, V.one, V.cells, fillV, setMany, zeros, TK.agg, Sub, cellRes, loadV, bindE, Nat.reduceAdd, Nat.reduceEqDiff, Nat.reduceLT, Nat.reduceLeDiff, Nat.reduceMul, Nat.reduceSub, Nat.reduceDiv, Nat.reduceMod, Nat.reduceBEq, Nat.reduceBNe, reduceIte, reduceCtorEq, Int.reduceToNat, Int.reduceLT, Int.reduceLE, Int.reduceAdd, Int.reduceSub, Int.reduceMul, Int.reduceNeg, Int.reduceEq, Int.reduceNe, D_G, D_P, List.lookup, tys, intsV_len, gotV]) ⟨gotV 0 [] 1, _, rfl, .keep rfl, rfl⟩
end Go.VL
end

/- The array seat: arrays that do not fit. -/
section
set_option linter.unusedSimpArgs false
set_option linter.unusedVariables false
set_option maxRecDepth 4000
namespace Go.VL
open Go Go.Proofs

theorem Stack_err (S S' : Int) (r0 r0' : List Int) (R R' : List (List Int)) (hl : r0.length < 1000) (hl' : r0'.length < 1000) (hne : S ≠ S' ∨ r0.length ≠ r0'.length) (st : St) :
    VCall D 37 [arrV S (r0 :: R), arrV S' (r0' :: R')] st (fun r st' => r = selV 0 [] 1 ∧ st' = st) := by
  refine VCall.clean ?_
  refine VCall.of_WP (fn := Tryd.f37) (c := _) Tryd.func37 rfl (by decide +kernel) (Nat.le_of_ble_eq_true rfl) ?_
  refine wpF_sound ?_
  simp -implicitDefEqProofs only [s_s, argEnv, PastOK, PendOK, sel, isE, isSp, baseOK, opR, opnd, opnds, opndL, ofConst, look, putE, dstOK, guardL, binR, intOp, loadR, bad, bound, lenV, srcV, Ob.read, V.plain, V.one, V.cells, fillV, setMany, zeros, TK.agg, Sub, cellRes, loadV, bindE, Nat.reduceAdd, Nat.reduceEqDiff, Nat.reduceLT, Nat.reduceLeDiff, Nat.reduceMul, Nat.reduceSub, Nat.reduceDiv, Nat.reduceMod, Nat.reduceBEq, Nat.reduceBNe, reduceIte, reduceCtorEq, Int.reduceToNat, Int.reduceLT, Int.reduceLE, Int.reduceAdd, Int.reduceSub, Int.reduceMul, Int.reduceNeg, Int.reduceEq, Int.reduceNe, D_G, D_P, List.lookup, tys, intsV_len, Tryd.ntmps37, Tryd.f37, arrV, rowV]
  refine WP.drawF [(0, 0, 0, [2]), (1, 0, 0, [10]), (0, 0, 0, [3]), (4, 0, 0, [12]), (15, 0, 0, [11, 13]), (31, 0, 0, [14]), (63, 0, 0, [2, 15]), (127, 0, 0, [16, 15]), (255, 0, 0, [17, 15]), (511, 0, 0, [18, 15]), (1023, 0, 0, [19, 15]), (63, 0, 0, [3, 15]), (2111, 0, 0, [21, 15]), (6207, 0, 0, [22, 15]), (14399, 0, 0, [23, 15]), (30783, 0, 0, [24, 15]), (65535, 0, 0, [20, 25, 15]), (131071, 0, 0, [15, 26]), (262143, 0, 0, [27])] D_mixed (by decide +kernel) ?_
  by_cases hS : S = S'
  · have d1 : (!decide (S = S')) = false := by simp [hS]
    have d2 : (!decide ((r0.length : Int) = r0'.length)) = true := by simp; omega
    simp -implicitDefEqProofs only [s_s, argEnv, PastOK, PendOK, sel, isE, isSp, baseOK, opR, opnd, opnds, opndL, ofConst, look, putE, dstOK, guardL, binR, intOp, loadR, bad, bound, lenV, srcV, Ob.read, V.plain, V.one, V.cells, fillV, setMany, zeros, TK.agg, Sub, cellRes, loadV, bindE, Nat.reduceAdd, Nat.reduceEqDiff, Nat.reduceLT, Nat.reduceLeDiff, Nat.reduceMul, Nat.reduceSub, Nat.reduceDiv, Nat.reduceMod, Nat.reduceBEq, Nat.reduceBNe, reduceIte, reduceCtorEq, Int.reduceToNat, Int.reduceLT, Int.reduceLE, Int.reduceAdd, Int.reduceSub, Int.reduceMul, Int.reduceNeg, Int.reduceEq, Int.reduceNe, D_G, D_P, List.lookup, tys, intsV_len, d1, d2, rowV]
    repeat (refine And.intro (by first | omega | rfl | trivial | (simp; done) | (simp; omega)) ?_)
    exact Post.rct (v := .agg [.int .i64 0, .e0]) (x := .int .i64 1) (by simp -implicitDefEqProofs only [s_s, argEnv, PastOK, PendOK, sel, isE, isSp, baseOK, opR, opnd, opnds, opndL, ofConst, look, putE, dstOK, guardL, binR, intOp, loadR, bad, bound, lenV, srcV, Ob.read, V.plain, V.one, V.cells, fillV, setMany, zeros, TK.agg, Sub, cellRes, loadV, bindE, Nat.reduceAdd, Nat.reduceEqDiff, Nat.reduceLT, Nat.reduceLeDiff, Nat.reduceMul, Nat.reduceSub, Nat.reduceDiv, Nat.reduceMod, Nat.reduceBEq, Nat.reduceBNe, reduceIte, reduceCtorEq, Int.reduceToNat, Int.reduceLT, Int.reduceLE, Int.reduceAdd, Int.reduceSub, Int.reduceMul, Int.reduceNeg, Int.reduceEq, Int.reduceNe, D_G, D_P, List.lookup, tys, intsV_len]) (by simp -implicitDefEqProofs only [s_s, argEnv, PastOK, PendOK, sel, isE, isSp, baseOK, opR, opnd, opnds, opndL, ofConst, look, putE, dstOK, guardL, binR, intOp, loadR, bad, bound, lenV, srcV, Ob.read, V.plain, V.one, V.cells, fillV, setMany, zeros, TK.agg, Sub, cellRes, loadV, bindE, Nat.reduceAdd, Nat.reduceEqDiff, Nat.reduceLT, Nat.reduceLeDiff, Nat.reduceMul, Nat.reduceSub, Nat.reduceDiv, Nat.reduceMod, Nat.reduceBEq, Nat.reduceBNe, reduceIte, reduceCtorEq, Int.reduceToNat, Int.reduceLT, Int.reduceLE, Int.reduceAdd, Int.reduceSub, Int.reduceMul, Int.reduceNeg, Int.reduceEq, Int.reduceNe, D_G, D_P, List.lookup, tys, intsV_len]) ⟨selV 0 [] 1, _, rfl, .tup (.cons (.agg (.cons (.keep rfl) (.cons .e0 .nil))) (.cons (.keep rfl) .nil)), rfl⟩
  · have d1 : (!decide (S = S')) = true := by simp [hS]
    simp -implicitDefEqProofs only [s_s, argEnv, PastOK, PendOK, sel, isE, isSp, baseOK, opR, opnd, opnds, opndL, ofConst, look, putE, dstOK, guardL, binR, intOp, loadR, bad, bound, lenV, srcV, Ob.read, V.plain, V.one, V.cells, fillV, setMany, zeros, TK.agg, Sub, cellRes, loadV, bindE, Nat.reduceAdd, Nat.reduceEqDiff, Nat.reduceLT, Nat.reduceLeDiff, Nat.reduceMul, Nat.reduceSub, Nat.reduceDiv, Nat.reduceMod, Nat.reduceBEq, Nat.reduceBNe, reduceIte, reduceCtorEq, Int.reduceToNat, Int.reduceLT, Int.reduceLE, Int.reduceAdd, Int.reduceSub, Int.reduceMul, Int.reduceNeg, Int.reduceEq, Int.reduceNe, D_G, D_P, List.lookup, tys, intsV_len, d1, rowV]
    repeat (refine And.intro (by first | omega | rfl | trivial | (simp; done) | (simp; omega)) ?_)
    exact Post.rct (v := .agg [.int .i64 0, .e0]) (x := .int .i64 1) (by simp -implicitDefEqProofs only [s_s, argEnv, PastOK, PendOK, sel, isE, isSp, baseOK, opR, opnd, opnds, opndL, ofConst, look, putE, dstOK, guardL, binR, intOp, loadR, bad, bound, lenV, srcV, Ob.read, V.plain, V.one, V.cells, fillV, setMany, zeros, TK.agg, Sub, cellRes, loadV, bindE, Nat.reduceAdd, Nat.reduceEqDiff, Nat.reduceLT, Nat.reduceLeDiff, Nat.reduceMul, Nat.reduceSub, Nat.reduceDiv, Nat.reduceMod, Nat.reduceBEq, Nat.reduceBNe, reduceIte, reduceCtorEq, Int.reduceToNat, Int.reduceLT, Int.reduceLE, Int.reduceAdd, Int.reduceSub, Int.reduceMul, Int.reduceNeg, Int.reduceEq, Int.reduceNe, D_G, D_P, List.lookup, tys, intsV_len]) (by simp -implicitDefEqProofs only [s_s, argEnv, PastOK, PendOK, sel, isE, isSp, baseOK, opR, opnd, opnds, opndL, ofConst, look, putE, dstOK, guardL, binR, intOp, loadR, bad, bound, lenV, srcV, Ob.read, V.plain, V.one, V.cells, fillV, setMany, zeros, TK.agg, Sub, cellRes, loadV, bindE, Nat.reduceAdd, Nat.reduceEqDiff, Nat.reduceLT, Nat.reduceLeDiff, Nat.reduceMul, Nat.reduceSub, Nat.reduceDiv, Nat.reduceMod, Nat.reduceBEq, Nat.reduceBNe, reduceIte, reduceCtorEq, Int.reduceToNat, Int.reduceLT, Int.reduceLE, Int.reduceAdd, Int.reduceSub, Int.reduceMul, Int.reduceNeg, Int.reduceEq, Int.reduceNe, D_G, D_P, List.lookup, tys, intsV_len]) ⟨selV 0 [] 1, _, rfl, .tup (.cons (.agg (.cons (.keep rfl) (.cons .e0 .nil))) (.cons (.keep rfl) .nil)), rfl⟩

theorem stacked_err (S S' : Int) (r0 r0' : List Int) (R R' : List (List Int)) (hl : r0.length < 1000) (hl' : r0'.length < 1000) (hne : S ≠ S' ∨ r0.length ≠ r0'.length) (st : St) :
    VCall D 18 [arrV S (r0 :: R), arrV S' (r0' :: R')] st (fun r st' => r = gotV 0 [] 1 ∧ st' = st) := by
  refine VCall.clean ?_
  refine VCall.of_WP (fn := Tryd.f18) (c := _) Tryd.func18 rfl (by decide +kernel) (Nat.le_of_ble_eq_true rfl) ?_
  refine wpF_sound ?_
  simp -implicitDefEqProofs only [s_s, argEnv, PastOK, PendOK, sel, isE, isSp, baseOK, opR, opnd, opnds, opndL, ofConst, look, putE, dstOK, guardL, binR, intOp, loadR, bad, bound, lenV, srcV, Ob.read, V.plain, V.one, V.cells, fillV, setMany, zeros, TK.agg, Sub, cellRes, loadV, bindE, Nat.reduceAdd, Nat.reduceEqDiff, Nat.reduceLT, Nat.reduceLeDiff, Nat.reduceMul, Nat.reduceSub, Nat.reduceDiv, Nat.reduceMod, Nat.reduceBEq, Nat.reduceBNe, reduceIte, reduceCtorEq, Int.reduceToNat, Int.reduceLT, Int.reduceLE, Int.reduceAdd, Int.reduceSub, Int.reduceMul, Int.reduceNeg, Int.reduceEq, Int.reduceNe, D_G, D_P, List.lookup, tys, intsV_len, Tryd.ntmps18, Tryd.f18, arrV]
  refine Sp.call rfl rfl ((Stack_err S S' r0 r0' R R' hl hl' hne _).mono ?_)
  rintro r st' ⟨rfl, rfl⟩
  simp -implicitDefEqProofs only [s_s, argEnv, PastOK, PendOK, sel, isE, isSp, baseOK, opR, opnd, opnds, opndL, ofConst, look, putE, dstOK, guardL, binR, intOp, loadR, bad, bound, lenV, srcV, Ob.read, V.plain, V.one, V.cells, fillV, setMany, zeros, TK.agg, Sub, cellRes, loadV, bindE, Nat.reduceAdd, Nat.reduceEqDiff, Nat.reduceLT, Nat.reduceLeDiff, Nat.reduceMul, Nat.reduceSub, Nat.reduceDiv, Nat.reduceMod, Nat.reduceBEq, Nat.reduceBNe, reduceIte, reduceCtorEq, Int.reduceToNat, Int.reduceLT, Int.reduceLE, Int.reduceAdd, Int.reduceSub, Int.reduceMul, Int.reduceNeg, Int.reduceEq, Int.reduceNe, D_G, D_P, List.lookup, tys, intsV_len, selV, gotV, arrV]
  exact Post.rc (v := gotV 0 [] 1) (by simp -implicitDefEqProofs only [s_s, argEnv, PastOK, PendOK, sel, isE, isSp, baseOK, opR, opnd, opnds, opndL, ofConst, look, putE, dstOK, guardL, binR, intOp, loadR, bad, bound, lenV, srcV, Ob.read, V.plain, V.one, V.cells, fillV, setMany, zeros, TK.agg, Sub, cellRes, loadV, bindE, Nat.reduceAdd, Nat.reduceEqDiff, Nat.reduceLT, Nat.reduceLeDiff, Nat.reduceMul, Nat.reduceSub, Nat.reduceDiv, Nat.reduceMod, Nat.reduceBEq, Nat.reduceBNe, reduceIte, reduceCtorEq, Int.reduceToNat, Int.reduceLT, Int.reduceLE, Int.reduceAdd, Int.reduceSub, Int.reduceMul, Int.reduceNeg, Int.reduceEq, Int.reduceNe, D_G, D_P, List.lookup, tys, intsV_len, gotV]) ⟨gotV 0 [] 1, _, rfl, .keep rfl, rfl⟩
end Go.VL
end

/- The array seat: the reference's Latin squares. -/
section
set_option linter.unusedSimpArgs false
set_option linter.unusedVariables false
set_option maxRecDepth 4000
namespace Go.VL
open Go Go.Proofs

theorem gcd_spec (a b : Nat) (ha : a < 1000) (hb : b < 1000) (st : St) : VCall D 39 [.int .i64 a, .int .i64 b] st (fun r st' => r = .int .i64 (Nat.gcd a b) ∧ st' = st) := by
  refine VCall.of_WP (fn := Tryd.f39) (c := _) Tryd.func39 rfl (by decide +kernel) (Nat.le_of_ble_eq_true rfl) ?_
  refine wpF_sound ?_
  simp -implicitDefEqProofs only [s_s, argEnv, PastOK, PendOK, sel, isE, isSp, baseOK, opR, opnd, opnds, opndL, ofConst, look, putE, dstOK, guardL, binR, intOp, loadR, bad, bound, lenV, srcV, Ob.read, V.plain, V.one, V.cells, fillV, setMany, zeros, TK.agg, Sub, cellRes, loadV, bindE, Nat.reduceAdd, Nat.reduceEqDiff, Nat.reduceLT, Nat.reduceLeDiff, Nat.reduceMul, Nat.reduceSub, Nat.reduceDiv, Nat.reduceMod, Nat.reduceBEq, Nat.reduceBNe, reduceIte, reduceCtorEq, Int.reduceToNat, Int.reduceLT, Int.reduceLE, Int.reduceAdd, Int.reduceSub, Int.reduceMul, Int.reduceNeg, Int.reduceEq, Int.reduceNe, D_G, D_P, List.lookup, tys, intsV_len, Tryd.ntmps39, Tryd.f39]
  refine WP.loopF (ι := Nat × Nat) (fun p => [(0, .int .i64 p.1), (1, .int .i64 p.2)]) (fun _ => st) (fun p => p.1 < 1000 ∧ p.2 < 1000 ∧ Nat.gcd p.1 p.2 = Nat.gcd a b) (fun p => p.2) (a, b) ⟨ha, hb, rfl⟩ (by simp -implicitDefEqProofs only [s_s, argEnv, PastOK, PendOK, sel, isE, isSp, baseOK, opR, opnd, opnds, opndL, ofConst, look, putE, dstOK, guardL, binR, intOp, loadR, bad, bound, lenV, srcV, Ob.read, V.plain, V.one, V.cells, fillV, setMany, zeros, TK.agg, Sub, cellRes, loadV, bindE, Nat.reduceAdd, Nat.reduceEqDiff, Nat.reduceLT, Nat.reduceLeDiff, Nat.reduceMul, Nat.reduceSub, Nat.reduceDiv, Nat.reduceMod, Nat.reduceBEq, Nat.reduceBNe, reduceIte, reduceCtorEq, Int.reduceToNat, Int.reduceLT, Int.reduceLE, Int.reduceAdd, Int.reduceSub, Int.reduceMul, Int.reduceNeg, Int.reduceEq, Int.reduceNe, D_G, D_P, List.lookup, tys, intsV_len]) rfl ?_
  rintro ⟨x, y⟩ ⟨h1, h2, h3⟩
  simp only at h1 h2 h3
  simp -implicitDefEqProofs only [s_s, argEnv, PastOK, PendOK, sel, isE, isSp, baseOK, opR, opnd, opnds, opndL, ofConst, look, putE, dstOK, guardL, binR, intOp, loadR, bad, bound, lenV, srcV, Ob.read, V.plain, V.one, V.cells, fillV, setMany, zeros, TK.agg, Sub, cellRes, loadV, bindE, Nat.reduceAdd, Nat.reduceEqDiff, Nat.reduceLT, Nat.reduceLeDiff, Nat.reduceMul, Nat.reduceSub, Nat.reduceDiv, Nat.reduceMod, Nat.reduceBEq, Nat.reduceBNe, reduceIte, reduceCtorEq, Int.reduceToNat, Int.reduceLT, Int.reduceLE, Int.reduceAdd, Int.reduceSub, Int.reduceMul, Int.reduceNeg, Int.reduceEq, Int.reduceNe, D_G, D_P, List.lookup, tys, intsV_len]
  refine Br.intro (fun h => ?_) (fun h => ?_)
  · have h' : 0 < y := by have := of_decide_eq_true h; omega
    have e1 := tmodN x y
    have hm := Nat.mod_lt x h'
    simp -implicitDefEqProofs only [s_s, argEnv, PastOK, PendOK, sel, isE, isSp, baseOK, opR, opnd, opnds, opndL, ofConst, look, putE, dstOK, guardL, binR, intOp, loadR, bad, bound, lenV, srcV, Ob.read, V.plain, V.one, V.cells, fillV, setMany, zeros, TK.agg, Sub, cellRes, loadV, bindE, Nat.reduceAdd, Nat.reduceEqDiff, Nat.reduceLT, Nat.reduceLeDiff, Nat.reduceMul, Nat.reduceSub, Nat.reduceDiv, Nat.reduceMod, Nat.reduceBEq, Nat.reduceBNe, reduceIte, reduceCtorEq, Int.reduceToNat, Int.reduceLT, Int.reduceLE, Int.reduceAdd, Int.reduceSub, Int.reduceMul, Int.reduceNeg, Int.reduceEq, Int.reduceNe, D_G, D_P, List.lookup, tys, intsV_len, e1]
    repeat (refine And.intro (by first | omega | rfl | trivial | (simp; done) | (simp; omega)) ?_)
    refine Kl.next (y, x % y) ⟨h2, by omega, ?_⟩ hm (by simp -implicitDefEqProofs only [s_s, argEnv, PastOK, PendOK, sel, isE, isSp, baseOK, opR, opnd, opnds, opndL, ofConst, look, putE, dstOK, guardL, binR, intOp, loadR, bad, bound, lenV, srcV, Ob.read, V.plain, V.one, V.cells, fillV, setMany, zeros, TK.agg, Sub, cellRes, loadV, bindE, Nat.reduceAdd, Nat.reduceEqDiff, Nat.reduceLT, Nat.reduceLeDiff, Nat.reduceMul, Nat.reduceSub, Nat.reduceDiv, Nat.reduceMod, Nat.reduceBEq, Nat.reduceBNe, reduceIte, reduceCtorEq, Int.reduceToNat, Int.reduceLT, Int.reduceLE, Int.reduceAdd, Int.reduceSub, Int.reduceMul, Int.reduceNeg, Int.reduceEq, Int.reduceNe, D_G, D_P, List.lookup, tys, intsV_len]) rfl
    rw [← h3, Nat.gcd_comm x y, Nat.gcd_rec y x, Nat.gcd_comm]
  · have h' : y = 0 := by have := of_decide_eq_false h; omega
    subst h'
    simp -implicitDefEqProofs only [s_s, argEnv, PastOK, PendOK, sel, isE, isSp, baseOK, opR, opnd, opnds, opndL, ofConst, look, putE, dstOK, guardL, binR, intOp, loadR, bad, bound, lenV, srcV, Ob.read, V.plain, V.one, V.cells, fillV, setMany, zeros, TK.agg, Sub, cellRes, loadV, bindE, Nat.reduceAdd, Nat.reduceEqDiff, Nat.reduceLT, Nat.reduceLeDiff, Nat.reduceMul, Nat.reduceSub, Nat.reduceDiv, Nat.reduceMod, Nat.reduceBEq, Nat.reduceBNe, reduceIte, reduceCtorEq, Int.reduceToNat, Int.reduceLT, Int.reduceLE, Int.reduceAdd, Int.reduceSub, Int.reduceMul, Int.reduceNeg, Int.reduceEq, Int.reduceNe, D_G, D_P, List.lookup, tys, intsV_len]
    exact Post.r1 rfl ⟨by rw [← h3]; simp, rfl⟩

/-- The first number from f on that has no common divisor with n. -/
def cop (n : Nat) : Nat → Nat → Nat
  | 0, f => f
  | k + 1, f => if 1 < Nat.gcd f n then cop n k (f + 1) else f
def sqF (n m : Nat) : Nat := cop n (n + 1 - (1 + m % n)) (1 + m % n)
def sqC (n f z i j : Nat) : Nat :=
  if z % 3 = 1 then (n - (f * i + j) % n) % n else if z % 3 = 2 ∧ (f * i + j) % n < 2 then 1 - (f * i + j) % n else (f * i + j) % n
def sqRow (n f z i : Nat) : List Int := (List.range n).map fun j => (sqC n f z i j : Int)
def sqL (n m z : Nat) : List (List Int) := (List.range n).map (sqRow n (sqF n m) z)
def sqV (L : List (List Int)) : V := .lst 1 (L.map rowV)

theorem Square_spec (n m z : Nat) (hn2 : 2 ≤ n) (hn8 : n ≤ 8) (hm : m < 256) (hz : z < 256) (st : St) : VCall D 20 [.int .i64 n, .int .u8 m, .int .u8 z] st (fun r st' => r = sqV (sqL n m z) ∧ st' = st) := by
  have e0 := wrapI (n := (m : Int)) (by omega) (by omega)
  have e1 := tmodN m n
  have hmn := Nat.mod_lt m (show 0 < n by omega)
  have e2 : IntKind.i64.wrap (1 + ((m % n : Nat) : Int)) = ((1 + m % n : Nat) : Int) := by rw [wrapI (by omega) (by omega)]; omega
  have e3 := wrapI (n := (z : Int)) (by omega) (by omega)
  have e4 : (z : Int).tmod 3 = (z % 3 : Nat) := tmodN z 3
  refine VCall.clean ?_
  refine VCall.of_WPB (fn := Tryd.f20) (c := _) Tryd.func20 rfl (by decide +kernel) (Nat.le_of_ble_eq_true rfl) fun hB => ?_
  refine wpF_sound ?_
  simp -implicitDefEqProofs only [s_s, argEnv, PastOK, PendOK, sel, isE, isSp, baseOK, opR, opnd, opnds, opndL, ofConst, look, putE, dstOK, guardL, binR, intOp, loadR, bad, bound, lenV, srcV, Ob.read, V.plain, V.one, V.cells, fillV, setMany, zeros, TK.agg, Sub, cellRes, loadV, bindE, Nat.reduceAdd, Nat.reduceEqDiff, Nat.reduceLT, Nat.reduceLeDiff, Nat.reduceMul, Nat.reduceSub, Nat.reduceDiv, Nat.reduceMod, Nat.reduceBEq, Nat.reduceBNe, reduceIte, reduceCtorEq, Int.reduceToNat, Int.reduceLT, Int.reduceLE, Int.reduceAdd, Int.reduceSub, Int.reduceMul, Int.reduceNeg, Int.reduceEq, Int.reduceNe, D_G, D_P, List.lookup, tys, intsV_len, Tryd.ntmps20, Tryd.f20, e0, e1, e2]
  repeat (refine And.intro (by first | omega | rfl | trivial | (simp; done) | (simp; omega)) ?_)
  refine WP.loopF (ι := Nat) (fun f => [(0, .int .i64 n), (2, .int .u8 z), (7, .int .i64 f)]) (fun _ => st) (fun f => f ≤ n + 1 ∧ cop n (n + 1 - f) f = sqF n m) (fun f => n + 1 - f) (1 + m % n) ⟨by omega, rfl⟩ (by simp -implicitDefEqProofs only [s_s, argEnv, PastOK, PendOK, sel, isE, isSp, baseOK, opR, opnd, opnds, opndL, ofConst, look, putE, dstOK, guardL, binR, intOp, loadR, bad, bound, lenV, srcV, Ob.read, V.plain, V.one, V.cells, fillV, setMany, zeros, TK.agg, Sub, cellRes, loadV, bindE, Nat.reduceAdd, Nat.reduceEqDiff, Nat.reduceLT, Nat.reduceLeDiff, Nat.reduceMul, Nat.reduceSub, Nat.reduceDiv, Nat.reduceMod, Nat.reduceBEq, Nat.reduceBNe, reduceIte, reduceCtorEq, Int.reduceToNat, Int.reduceLT, Int.reduceLE, Int.reduceAdd, Int.reduceSub, Int.reduceMul, Int.reduceNeg, Int.reduceEq, Int.reduceNe, D_G, D_P, List.lookup, tys, intsV_len]) rfl ?_
  rintro f ⟨h1, h2⟩
  simp -implicitDefEqProofs only [s_s, argEnv, PastOK, PendOK, sel, isE, isSp, baseOK, opR, opnd, opnds, opndL, ofConst, look, putE, dstOK, guardL, binR, intOp, loadR, bad, bound, lenV, srcV, Ob.read, V.plain, V.one, V.cells, fillV, setMany, zeros, TK.agg, Sub, cellRes, loadV, bindE, Nat.reduceAdd, Nat.reduceEqDiff, Nat.reduceLT, Nat.reduceLeDiff, Nat.reduceMul, Nat.reduceSub, Nat.reduceDiv, Nat.reduceMod, Nat.reduceBEq, Nat.reduceBNe, reduceIte, reduceCtorEq, Int.reduceToNat, Int.reduceLT, Int.reduceLE, Int.reduceAdd, Int.reduceSub, Int.reduceMul, Int.reduceNeg, Int.reduceEq, Int.reduceNe, D_G, D_P, List.lookup, tys, intsV_len]
  refine Sp.call rfl rfl ((gcd_spec f n (by omega) (by omega) _).mono ?_)
  rintro r st' ⟨rfl, rfl⟩
  simp -implicitDefEqProofs only [s_s, argEnv, PastOK, PendOK, sel, isE, isSp, baseOK, opR, opnd, opnds, opndL, ofConst, look, putE, dstOK, guardL, binR, intOp, loadR, bad, bound, lenV, srcV, Ob.read, V.plain, V.one, V.cells, fillV, setMany, zeros, TK.agg, Sub, cellRes, loadV, bindE, Nat.reduceAdd, Nat.reduceEqDiff, Nat.reduceLT, Nat.reduceLeDiff, Nat.reduceMul, Nat.reduceSub, Nat.reduceDiv, Nat.reduceMod, Nat.reduceBEq, Nat.reduceBNe, reduceIte, reduceCtorEq, Int.reduceToNat, Int.reduceLT, Int.reduceLE, Int.reduceAdd, Int.reduceSub, Int.reduceMul, Int.reduceNeg, Int.reduceEq, Int.reduceNe, D_G, D_P, List.lookup, tys, intsV_len]
  refine Br.intro (fun h => ?_) (fun h => ?_)
  · have h' : 1 < Nat.gcd f n := by have := of_decide_eq_true h; omega
    have hne : f ≠ n + 1 := by
      rintro rfl
      have : Nat.gcd (n + 1) n = 1 := by
        have : ∀ n, n ≤ 8 → Nat.gcd (n + 1) n = 1 := by decide +kernel
        exact this n hn8
      omega
    have w1 : IntKind.i64.wrap ((f : Int) + 1) = ((f + 1 : Nat) : Int) := by rw [wrapI (by omega) (by omega)]; omega
    simp -implicitDefEqProofs only [s_s, argEnv, PastOK, PendOK, sel, isE, isSp, baseOK, opR, opnd, opnds, opndL, ofConst, look, putE, dstOK, guardL, binR, intOp, loadR, bad, bound, lenV, srcV, Ob.read, V.plain, V.one, V.cells, fillV, setMany, zeros, TK.agg, Sub, cellRes, loadV, bindE, Nat.reduceAdd, Nat.reduceEqDiff, Nat.reduceLT, Nat.reduceLeDiff, Nat.reduceMul, Nat.reduceSub, Nat.reduceDiv, Nat.reduceMod, Nat.reduceBEq, Nat.reduceBNe, reduceIte, reduceCtorEq, Int.reduceToNat, Int.reduceLT, Int.reduceLE, Int.reduceAdd, Int.reduceSub, Int.reduceMul, Int.reduceNeg, Int.reduceEq, Int.reduceNe, D_G, D_P, List.lookup, tys, intsV_len, w1]
    refine Kl.next (f + 1) ⟨by omega, ?_⟩ (by omega) (by simp -implicitDefEqProofs only [s_s, argEnv, PastOK, PendOK, sel, isE, isSp, baseOK, opR, opnd, opnds, opndL, ofConst, look, putE, dstOK, guardL, binR, intOp, loadR, bad, bound, lenV, srcV, Ob.read, V.plain, V.one, V.cells, fillV, setMany, zeros, TK.agg, Sub, cellRes, loadV, bindE, Nat.reduceAdd, Nat.reduceEqDiff, Nat.reduceLT, Nat.reduceLeDiff, Nat.reduceMul, Nat.reduceSub, Nat.reduceDiv, Nat.reduceMod, Nat.reduceBEq, Nat.reduceBNe, reduceIte, reduceCtorEq, Int.reduceToNat, Int.reduceLT, Int.reduceLE, Int.reduceAdd, Int.reduceSub, Int.reduceMul, Int.reduceNeg, Int.reduceEq, Int.reduceNe, D_G, D_P, List.lookup, tys, intsV_len]) rfl
    rw [← h2, show n + 1 - f = (n + 1 - (f + 1)) + 1 by omega]
    simp only [cop, h', if_true]
  · have h' : ¬ 1 < Nat.gcd f n := by have := of_decide_eq_false h; omega
    have hF : f = sqF n m := by
      rw [← h2]
      cases n + 1 - f with
      | zero => rfl
      | succ k => simp only [cop, h', if_false]
    have hf : f ≤ 9 := by omega
    simp -implicitDefEqProofs only [s_s, argEnv, PastOK, PendOK, sel, isE, isSp, baseOK, opR, opnd, opnds, opndL, ofConst, look, putE, dstOK, guardL, binR, intOp, loadR, bad, bound, lenV, srcV, Ob.read, V.plain, V.one, V.cells, fillV, setMany, zeros, TK.agg, Sub, cellRes, loadV, bindE, Nat.reduceAdd, Nat.reduceEqDiff, Nat.reduceLT, Nat.reduceLeDiff, Nat.reduceMul, Nat.reduceSub, Nat.reduceDiv, Nat.reduceMod, Nat.reduceBEq, Nat.reduceBNe, reduceIte, reduceCtorEq, Int.reduceToNat, Int.reduceLT, Int.reduceLE, Int.reduceAdd, Int.reduceSub, Int.reduceMul, Int.reduceNeg, Int.reduceEq, Int.reduceNe, D_G, D_P, List.lookup, tys, intsV_len]
    refine WP.seed 1 st'.length [(0, .int .i64 n), (2, .int .u8 z), (7, .int .i64 f), (8, .slc st'.length 0 0 0 1), (9, .int .i64 0)] _ (by simp) (by decide) (by simp [SeedE, SeedV, look]) SeedS.refl ?_
    refine WP.loopC (ι := Nat) (fun i => [(0, .int .i64 n), (2, .int .u8 z), (7, .int .i64 f), (8, .slc st'.length i 0 i 1), (9, .int .i64 i)])
      (fun i => st' ++ [.acc i (((List.range i).map (sqRow n f z)).map rowV)]) (fun i => i ≤ n) (fun i => n - i) 0 (by omega) (by simp -implicitDefEqProofs only [s_s, argEnv, PastOK, PendOK, sel, isE, isSp, baseOK, opR, opnd, opnds, opndL, ofConst, look, putE, dstOK, guardL, binR, intOp, loadR, bad, bound, lenV, srcV, Ob.read, V.plain, V.one, V.cells, fillV, setMany, zeros, TK.agg, Sub, cellRes, loadV, bindE, Nat.reduceAdd, Nat.reduceEqDiff, Nat.reduceLT, Nat.reduceLeDiff, Nat.reduceMul, Nat.reduceSub, Nat.reduceDiv, Nat.reduceMod, Nat.reduceBEq, Nat.reduceBNe, reduceIte, reduceCtorEq, Int.reduceToNat, Int.reduceLT, Int.reduceLE, Int.reduceAdd, Int.reduceSub, Int.reduceMul, Int.reduceNeg, Int.reduceEq, Int.reduceNe, D_G, D_P, List.lookup, tys, intsV_len]; simp) (by simp) (fun p => by simp -implicitDefEqProofs only [s_s, argEnv, PastOK, PendOK, sel, isE, isSp, baseOK, opR, opnd, opnds, opndL, ofConst, look, putE, dstOK, guardL, binR, intOp, loadR, bad, bound, lenV, srcV, Ob.read, V.plain, V.one, V.cells, fillV, setMany, zeros, TK.agg, Sub, cellRes, loadV, bindE, Nat.reduceAdd, Nat.reduceEqDiff, Nat.reduceLT, Nat.reduceLeDiff, Nat.reduceMul, Nat.reduceSub, Nat.reduceDiv, Nat.reduceMod, Nat.reduceBEq, Nat.reduceBNe, reduceIte, reduceCtorEq, Int.reduceToNat, Int.reduceLT, Int.reduceLE, Int.reduceAdd, Int.reduceSub, Int.reduceMul, Int.reduceNeg, Int.reduceEq, Int.reduceNe, D_G, D_P, List.lookup, tys, intsV_len]) ?_
    intro i hi
    obtain ⟨RV, hRV⟩ : ∃ RV, RV = ((List.range i).map (sqRow n f z)).map rowV := ⟨_, rfl⟩
    have hRl : RV.length = i := by simp [hRV]
    have hRb : ∀ m, bddL m RV = true := fun m => by rw [hRV]; exact bdd_rows _ _
    simp -implicitDefEqProofs only [s_s, argEnv, PastOK, PendOK, sel, isE, isSp, baseOK, opR, opnd, opnds, opndL, ofConst, look, putE, dstOK, guardL, binR, intOp, loadR, bad, bound, lenV, srcV, Ob.read, V.plain, V.one, V.cells, fillV, setMany, zeros, TK.agg, Sub, cellRes, loadV, bindE, Nat.reduceAdd, Nat.reduceEqDiff, Nat.reduceLT, Nat.reduceLeDiff, Nat.reduceMul, Nat.reduceSub, Nat.reduceDiv, Nat.reduceMod, Nat.reduceBEq, Nat.reduceBNe, reduceIte, reduceCtorEq, Int.reduceToNat, Int.reduceLT, Int.reduceLE, Int.reduceAdd, Int.reduceSub, Int.reduceMul, Int.reduceNeg, Int.reduceEq, Int.reduceNe, D_G, D_P, List.lookup, tys, intsV_len]
    refine Br.intro (fun h => ?_) (fun h => ?_)
    · have h' : i < n := by have := of_decide_eq_true h; omega
      rw [← hRV]
      simp -implicitDefEqProofs only [s_s, argEnv, PastOK, PendOK, sel, isE, isSp, baseOK, opR, opnd, opnds, opndL, ofConst, look, putE, dstOK, guardL, binR, intOp, loadR, bad, bound, lenV, srcV, Ob.read, V.plain, V.one, V.cells, fillV, setMany, zeros, TK.agg, Sub, cellRes, loadV, bindE, Nat.reduceAdd, Nat.reduceEqDiff, Nat.reduceLT, Nat.reduceLeDiff, Nat.reduceMul, Nat.reduceSub, Nat.reduceDiv, Nat.reduceMod, Nat.reduceBEq, Nat.reduceBNe, reduceIte, reduceCtorEq, Int.reduceToNat, Int.reduceLT, Int.reduceLE, Int.reduceAdd, Int.reduceSub, Int.reduceMul, Int.reduceNeg, Int.reduceEq, Int.reduceNe, D_G, D_P, List.lookup, tys, intsV_len]
      refine WP.seed 1 (st'.length + 1) [(0, .int .i64 n), (2, .int .u8 z), (7, .int .i64 f), (8, .slc st'.length i 0 i 1), (9, .int .i64 i), (10, .slc (st'.length + 1) 0 0 0 1), (11, .int .i64 0)] _ (by simp) (by decide) (by simp [SeedE, SeedV, look]) SeedS.refl ?_
      simp -implicitDefEqProofs only [s_s, argEnv, PastOK, PendOK, sel, isE, isSp, baseOK, opR, opnd, opnds, opndL, ofConst, look, putE, dstOK, guardL, binR, intOp, loadR, bad, bound, lenV, srcV, Ob.read, V.plain, V.one, V.cells, fillV, setMany, zeros, TK.agg, Sub, cellRes, loadV, bindE, Nat.reduceAdd, Nat.reduceEqDiff, Nat.reduceLT, Nat.reduceLeDiff, Nat.reduceMul, Nat.reduceSub, Nat.reduceDiv, Nat.reduceMod, Nat.reduceBEq, Nat.reduceBNe, reduceIte, reduceCtorEq, Int.reduceToNat, Int.reduceLT, Int.reduceLE, Int.reduceAdd, Int.reduceSub, Int.reduceMul, Int.reduceNeg, Int.reduceEq, Int.reduceNe, D_G, D_P, List.lookup, tys, intsV_len]
      refine WP.loopC (ι := Nat) (fun j => [(0, .int .i64 n), (2, .int .u8 z), (7, .int .i64 f), (8, .slc st'.length i 0 i 1), (9, .int .i64 i), (10, .slc (st'.length + 1) j 0 j 1), (11, .int .i64 j)])
        (fun j => st' ++ [.acc i RV, .acc j (intsV ((List.range j).map fun j => (sqC n f z i j : Int)))]) (fun j => j ≤ n) (fun j => n - j) 0 (by omega) (by simp -implicitDefEqProofs only [s_s, argEnv, PastOK, PendOK, sel, isE, isSp, baseOK, opR, opnd, opnds, opndL, ofConst, look, putE, dstOK, guardL, binR, intOp, loadR, bad, bound, lenV, srcV, Ob.read, V.plain, V.one, V.cells, fillV, setMany, zeros, TK.agg, Sub, cellRes, loadV, bindE, Nat.reduceAdd, Nat.reduceEqDiff, Nat.reduceLT, Nat.reduceLeDiff, Nat.reduceMul, Nat.reduceSub, Nat.reduceDiv, Nat.reduceMod, Nat.reduceBEq, Nat.reduceBNe, reduceIte, reduceCtorEq, Int.reduceToNat, Int.reduceLT, Int.reduceLE, Int.reduceAdd, Int.reduceSub, Int.reduceMul, Int.reduceNeg, Int.reduceEq, Int.reduceNe, D_G, D_P, List.lookup, tys, intsV_len]; simp) (by simp [intsV]) (fun p => by simp -implicitDefEqProofs only [s_s, argEnv, PastOK, PendOK, sel, isE, isSp, baseOK, opR, opnd, opnds, opndL, ofConst, look, putE, dstOK, guardL, binR, intOp, loadR, bad, bound, lenV, srcV, Ob.read, V.plain, V.one, V.cells, fillV, setMany, zeros, TK.agg, Sub, cellRes, loadV, bindE, Nat.reduceAdd, Nat.reduceEqDiff, Nat.reduceLT, Nat.reduceLeDiff, Nat.reduceMul, Nat.reduceSub, Nat.reduceDiv, Nat.reduceMod, Nat.reduceBEq, Nat.reduceBNe, reduceIte, reduceCtorEq, Int.reduceToNat, Int.reduceLT, Int.reduceLE, Int.reduceAdd, Int.reduceSub, Int.reduceMul, Int.reduceNeg, Int.reduceEq, Int.reduceNe, D_G, D_P, List.lookup, tys, intsV_len]) ?_
      intro j hj
      have hlen : (intsV ((List.range j).map fun j => (sqC n f z i j : Int))).length = j := by simp [intsV]
      simp -implicitDefEqProofs only [s_s, argEnv, PastOK, PendOK, sel, isE, isSp, baseOK, opR, opnd, opnds, opndL, ofConst, look, putE, dstOK, guardL, binR, intOp, loadR, bad, bound, lenV, srcV, Ob.read, V.plain, V.one, V.cells, fillV, setMany, zeros, TK.agg, Sub, cellRes, loadV, bindE, Nat.reduceAdd, Nat.reduceEqDiff, Nat.reduceLT, Nat.reduceLeDiff, Nat.reduceMul, Nat.reduceSub, Nat.reduceDiv, Nat.reduceMod, Nat.reduceBEq, Nat.reduceBNe, reduceIte, reduceCtorEq, Int.reduceToNat, Int.reduceLT, Int.reduceLE, Int.reduceAdd, Int.reduceSub, Int.reduceMul, Int.reduceNeg, Int.reduceEq, Int.reduceNe, D_G, D_P, List.lookup, tys, intsV_len]
      refine Br.intro (fun h => ?_) (fun h => ?_)
      · have hjk : j < n := by have := of_decide_eq_true h; omega
        have hfi : f * i ≤ 9 * 8 := Nat.mul_le_mul hf (by omega)
        have v1 : IntKind.i64.wrap ((f : Int) * (i : Int)) = ((f * i : Nat) : Int) := by rw [← Int.natCast_mul]; exact wrapI (by omega) (by omega)
        have v2 : IntKind.i64.wrap (((f * i : Nat) : Int) + (j : Int)) = ((f * i + j : Nat) : Int) := by rw [← Int.natCast_add]; exact wrapI (by omega) (by omega)
        have v3 := wrapI (n := (j : Int) + 1) (by omega) (by omega)
        have v4 := tmodN (f * i + j) n
        obtain ⟨c, hc⟩ : ∃ c, c = (f * i + j) % n := ⟨_, rfl⟩
        have hcn : c < n := by rw [hc]; exact Nat.mod_lt _ (by omega)
        rw [← hc] at v4
        have v5 : IntKind.i64.wrap ((n : Int) - (c : Int)) = ((n - c : Nat) : Int) := by rw [wrapI (by omega) (by omega)]; omega
        have v6 := tmodN (n - c) n
        have fin : ∀ (x : Nat), x = sqC n f z i j → (intsV ((List.range j).map fun j => (sqC n f z i j : Int))) ++ [.int .i64 x] = intsV ((List.range (j + 1)).map fun j => (sqC n f z i j : Int)) := by
          intro x hx; subst hx; simp [intsV, List.range_succ]
        simp -implicitDefEqProofs only [s_s, argEnv, PastOK, PendOK, sel, isE, isSp, baseOK, opR, opnd, opnds, opndL, ofConst, look, putE, dstOK, guardL, binR, intOp, loadR, bad, bound, lenV, srcV, Ob.read, V.plain, V.one, V.cells, fillV, setMany, zeros, TK.agg, Sub, cellRes, loadV, bindE, Nat.reduceAdd, Nat.reduceEqDiff, Nat.reduceLT, Nat.reduceLeDiff, Nat.reduceMul, Nat.reduceSub, Nat.reduceDiv, Nat.reduceMod, Nat.reduceBEq, Nat.reduceBNe, reduceIte, reduceCtorEq, Int.reduceToNat, Int.reduceLT, Int.reduceLE, Int.reduceAdd, Int.reduceSub, Int.reduceMul, Int.reduceNeg, Int.reduceEq, Int.reduceNe, D_G, D_P, List.lookup, tys, intsV_len, v1, v2, v4, e3, e4]
        repeat (refine And.intro (by first | omega | rfl | trivial | (simp; done) | (simp; omega)) ?_)
        refine Br.intro (fun h1 => ?_) (fun h1 => ?_)
        · have hz1 : z % 3 = 1 := by have := of_decide_eq_true h1; omega
          have hz2 : decide (((z % 3 : Nat) : Int) = 2) = false := by simp; omega
          have hx : (n - c) % n = sqC n f z i j := by simp [sqC, hz1, ← hc]
          simp -implicitDefEqProofs only [s_s, argEnv, PastOK, PendOK, sel, isE, isSp, baseOK, opR, opnd, opnds, opndL, ofConst, look, putE, dstOK, guardL, binR, intOp, loadR, bad, bound, lenV, srcV, Ob.read, V.plain, V.one, V.cells, fillV, setMany, zeros, TK.agg, Sub, cellRes, loadV, bindE, Nat.reduceAdd, Nat.reduceEqDiff, Nat.reduceLT, Nat.reduceLeDiff, Nat.reduceMul, Nat.reduceSub, Nat.reduceDiv, Nat.reduceMod, Nat.reduceBEq, Nat.reduceBNe, reduceIte, reduceCtorEq, Int.reduceToNat, Int.reduceLT, Int.reduceLE, Int.reduceAdd, Int.reduceSub, Int.reduceMul, Int.reduceNeg, Int.reduceEq, Int.reduceNe, D_G, D_P, List.lookup, tys, intsV_len, v5, v6, e3, e4, hz2, v3, hlen]
          repeat (refine And.intro (by first | omega | rfl | trivial | (simp; done) | (simp; omega)) ?_)
          refine Kc.next (j + 1) (by omega) (by omega) (st' ++ [.acc i RV, .acc (j + 1) (intsV ((List.range (j + 1)).map fun j => (sqC n f z i j : Int)))]) [.cells 0 [.int .i64 ((n - c) % n : Nat)]] (by rw [← fin _ hx]; simp) (by simp) ?_ ?_
          · refine StConv.base hB (by simp) (.cons (.keep (hRb _)) (.cons (.keep (bdd_ints _ _)) .nil))
          · refine EnvC.of_sub ?_ ?_
            · simp -implicitDefEqProofs only [s_s, argEnv, PastOK, PendOK, sel, isE, isSp, baseOK, opR, opnd, opnds, opndL, ofConst, look, putE, dstOK, guardL, binR, intOp, loadR, bad, bound, lenV, srcV, Ob.read, V.plain, V.one, V.cells, fillV, setMany, zeros, TK.agg, Sub, cellRes, loadV, bindE, Nat.reduceAdd, Nat.reduceEqDiff, Nat.reduceLT, Nat.reduceLeDiff, Nat.reduceMul, Nat.reduceSub, Nat.reduceDiv, Nat.reduceMod, Nat.reduceBEq, Nat.reduceBNe, reduceIte, reduceCtorEq, Int.reduceToNat, Int.reduceLT, Int.reduceLE, Int.reduceAdd, Int.reduceSub, Int.reduceMul, Int.reduceNeg, Int.reduceEq, Int.reduceNe, D_G, D_P, List.lookup, tys, intsV_len]
              try simp
            · simp [bddE, V.bdd]
        · have hz1 : ¬ z % 3 = 1 := by have := of_decide_eq_false h1; omega
          simp -implicitDefEqProofs only [s_s, argEnv, PastOK, PendOK, sel, isE, isSp, baseOK, opR, opnd, opnds, opndL, ofConst, look, putE, dstOK, guardL, binR, intOp, loadR, bad, bound, lenV, srcV, Ob.read, V.plain, V.one, V.cells, fillV, setMany, zeros, TK.agg, Sub, cellRes, loadV, bindE, Nat.reduceAdd, Nat.reduceEqDiff, Nat.reduceLT, Nat.reduceLeDiff, Nat.reduceMul, Nat.reduceSub, Nat.reduceDiv, Nat.reduceMod, Nat.reduceBEq, Nat.reduceBNe, reduceIte, reduceCtorEq, Int.reduceToNat, Int.reduceLT, Int.reduceLE, Int.reduceAdd, Int.reduceSub, Int.reduceMul, Int.reduceNeg, Int.reduceEq, Int.reduceNe, D_G, D_P, List.lookup, tys, intsV_len, e3, e4]
          refine OpsG.intro (fun h2 => ?_) (fun h2 => ?_)
          · have hz2 : z % 3 = 2 := by have := of_decide_eq_true h2; omega
            simp -implicitDefEqProofs only [s_s, argEnv, PastOK, PendOK, sel, isE, isSp, baseOK, opR, opnd, opnds, opndL, ofConst, look, putE, dstOK, guardL, binR, intOp, loadR, bad, bound, lenV, srcV, Ob.read, V.plain, V.one, V.cells, fillV, setMany, zeros, TK.agg, Sub, cellRes, loadV, bindE, Nat.reduceAdd, Nat.reduceEqDiff, Nat.reduceLT, Nat.reduceLeDiff, Nat.reduceMul, Nat.reduceSub, Nat.reduceDiv, Nat.reduceMod, Nat.reduceBEq, Nat.reduceBNe, reduceIte, reduceCtorEq, Int.reduceToNat, Int.reduceLT, Int.reduceLE, Int.reduceAdd, Int.reduceSub, Int.reduceMul, Int.reduceNeg, Int.reduceEq, Int.reduceNe, D_G, D_P, List.lookup, tys, intsV_len, h2]
            refine Br.intro (fun h3 => ?_) (fun h3 => ?_)
            · have hc2 : c < 2 := by have := of_decide_eq_true h3; omega
              have v7 : IntKind.i64.wrap (1 - (c : Int)) = ((1 - c : Nat) : Int) := by rw [wrapI (by omega) (by omega)]; omega
              have hx : 1 - c = sqC n f z i j := by simp [sqC, hz2, ← hc, hc2]
              simp -implicitDefEqProofs only [s_s, argEnv, PastOK, PendOK, sel, isE, isSp, baseOK, opR, opnd, opnds, opndL, ofConst, look, putE, dstOK, guardL, binR, intOp, loadR, bad, bound, lenV, srcV, Ob.read, V.plain, V.one, V.cells, fillV, setMany, zeros, TK.agg, Sub, cellRes, loadV, bindE, Nat.reduceAdd, Nat.reduceEqDiff, Nat.reduceLT, Nat.reduceLeDiff, Nat.reduceMul, Nat.reduceSub, Nat.reduceDiv, Nat.reduceMod, Nat.reduceBEq, Nat.reduceBNe, reduceIte, reduceCtorEq, Int.reduceToNat, Int.reduceLT, Int.reduceLE, Int.reduceAdd, Int.reduceSub, Int.reduceMul, Int.reduceNeg, Int.reduceEq, Int.reduceNe, D_G, D_P, List.lookup, tys, intsV_len, v7, v3, hlen]
              repeat (refine And.intro (by first | omega | rfl | trivial | (simp; done) | (simp; omega)) ?_)
              refine Kc.next (j + 1) (by omega) (by omega) (st' ++ [.acc i RV, .acc (j + 1) (intsV ((List.range (j + 1)).map fun j => (sqC n f z i j : Int)))]) [.cells 0 [.int .i64 (1 - c : Nat)]] (by rw [← fin _ hx]; simp) (by simp) ?_ ?_
              · refine StConv.base hB (by simp) (.cons (.keep (hRb _)) (.cons (.keep (bdd_ints _ _)) .nil))
              · refine EnvC.of_sub ?_ ?_
                · simp -implicitDefEqProofs only [s_s, argEnv, PastOK, PendOK, sel, isE, isSp, baseOK, opR, opnd, opnds, opndL, ofConst, look, putE, dstOK, guardL, binR, intOp, loadR, bad, bound, lenV, srcV, Ob.read, V.plain, V.one, V.cells, fillV, setMany, zeros, TK.agg, Sub, cellRes, loadV, bindE, Nat.reduceAdd, Nat.reduceEqDiff, Nat.reduceLT, Nat.reduceLeDiff, Nat.reduceMul, Nat.reduceSub, Nat.reduceDiv, Nat.reduceMod, Nat.reduceBEq, Nat.reduceBNe, reduceIte, reduceCtorEq, Int.reduceToNat, Int.reduceLT, Int.reduceLE, Int.reduceAdd, Int.reduceSub, Int.reduceMul, Int.reduceNeg, Int.reduceEq, Int.reduceNe, D_G, D_P, List.lookup, tys, intsV_len]
                  try simp
                · simp [bddE, V.bdd]
            · have hc2 : ¬ c < 2 := by have := of_decide_eq_false h3; omega
              have hx : c = sqC n f z i j := by simp [sqC, hz2, ← hc, hc2]
              simp -implicitDefEqProofs only [s_s, argEnv, PastOK, PendOK, sel, isE, isSp, baseOK, opR, opnd, opnds, opndL, ofConst, look, putE, dstOK, guardL, binR, intOp, loadR, bad, bound, lenV, srcV, Ob.read, V.plain, V.one, V.cells, fillV, setMany, zeros, TK.agg, Sub, cellRes, loadV, bindE, Nat.reduceAdd, Nat.reduceEqDiff, Nat.reduceLT, Nat.reduceLeDiff, Nat.reduceMul, Nat.reduceSub, Nat.reduceDiv, Nat.reduceMod, Nat.reduceBEq, Nat.reduceBNe, reduceIte, reduceCtorEq, Int.reduceToNat, Int.reduceLT, Int.reduceLE, Int.reduceAdd, Int.reduceSub, Int.reduceMul, Int.reduceNeg, Int.reduceEq, Int.reduceNe, D_G, D_P, List.lookup, tys, intsV_len, v3, hlen]
              repeat (refine And.intro (by first | omega | rfl | trivial | (simp; done) | (simp; omega)) ?_)
              refine Kc.next (j + 1) (by omega) (by omega) (st' ++ [.acc i RV, .acc (j + 1) (intsV ((List.range (j + 1)).map fun j => (sqC n f z i j : Int)))]) [.cells 0 [.int .i64 c]] (by rw [← fin _ hx]; simp) (by simp) ?_ ?_
              · refine StConv.base hB (by simp) (.cons (.keep (hRb _)) (.cons (.keep (bdd_ints _ _)) .nil))
              · refine EnvC.of_sub ?_ ?_
                · simp -implicitDefEqProofs only [s_s, argEnv, PastOK, PendOK, sel, isE, isSp, baseOK, opR, opnd, opnds, opndL, ofConst, look, putE, dstOK, guardL, binR, intOp, loadR, bad, bound, lenV, srcV, Ob.read, V.plain, V.one, V.cells, fillV, setMany, zeros, TK.agg, Sub, cellRes, loadV, bindE, Nat.reduceAdd, Nat.reduceEqDiff, Nat.reduceLT, Nat.reduceLeDiff, Nat.reduceMul, Nat.reduceSub, Nat.reduceDiv, Nat.reduceMod, Nat.reduceBEq, Nat.reduceBNe, reduceIte, reduceCtorEq, Int.reduceToNat, Int.reduceLT, Int.reduceLE, Int.reduceAdd, Int.reduceSub, Int.reduceMul, Int.reduceNeg, Int.reduceEq, Int.reduceNe, D_G, D_P, List.lookup, tys, intsV_len]
                  try simp
                · simp [bddE, V.bdd]
          · have hz2 : ¬ z % 3 = 2 := by have := of_decide_eq_false h2; omega
            have hx : c = sqC n f z i j := by simp [sqC, hz1, hz2, ← hc]
            simp -implicitDefEqProofs only [s_s, argEnv, PastOK, PendOK, sel, isE, isSp, baseOK, opR, opnd, opnds, opndL, ofConst, look, putE, dstOK, guardL, binR, intOp, loadR, bad, bound, lenV, srcV, Ob.read, V.plain, V.one, V.cells, fillV, setMany, zeros, TK.agg, Sub, cellRes, loadV, bindE, Nat.reduceAdd, Nat.reduceEqDiff, Nat.reduceLT, Nat.reduceLeDiff, Nat.reduceMul, Nat.reduceSub, Nat.reduceDiv, Nat.reduceMod, Nat.reduceBEq, Nat.reduceBNe, reduceIte, reduceCtorEq, Int.reduceToNat, Int.reduceLT, Int.reduceLE, Int.reduceAdd, Int.reduceSub, Int.reduceMul, Int.reduceNeg, Int.reduceEq, Int.reduceNe, D_G, D_P, List.lookup, tys, intsV_len, h2, v3, hlen]
            repeat (refine And.intro (by first | omega | rfl | trivial | (simp; done) | (simp; omega)) ?_)
            refine Kc.next (j + 1) (by omega) (by omega) (st' ++ [.acc i RV, .acc (j + 1) (intsV ((List.range (j + 1)).map fun j => (sqC n f z i j : Int)))]) [.cells 0 [.int .i64 c]] (by rw [← fin _ hx]; simp) (by simp) ?_ ?_
            · refine StConv.base hB (by simp) (.cons (.keep (hRb _)) (.cons (.keep (bdd_ints _ _)) .nil))
            · refine EnvC.of_sub ?_ ?_
              · simp -implicitDefEqProofs only [s_s, argEnv, PastOK, PendOK, sel, isE, isSp, baseOK, opR, opnd, opnds, opndL, ofConst, look, putE, dstOK, guardL, binR, intOp, loadR, bad, bound, lenV, srcV, Ob.read, V.plain, V.one, V.cells, fillV, setMany, zeros, TK.agg, Sub, cellRes, loadV, bindE, Nat.reduceAdd, Nat.reduceEqDiff, Nat.reduceLT, Nat.reduceLeDiff, Nat.reduceMul, Nat.reduceSub, Nat.reduceDiv, Nat.reduceMod, Nat.reduceBEq, Nat.reduceBNe, reduceIte, reduceCtorEq, Int.reduceToNat, Int.reduceLT, Int.reduceLE, Int.reduceAdd, Int.reduceSub, Int.reduceMul, Int.reduceNeg, Int.reduceEq, Int.reduceNe, D_G, D_P, List.lookup, tys, intsV_len]
                try simp
              · simp [bddE, V.bdd]
      · have hjk : j = n := by have := of_decide_eq_false h; omega
        have w2 := wrapI (n := (i : Int) + 1) (by omega) (by omega)
        have hrow : (List.range j).map (fun j => (sqC n f z i j : Int)) = sqRow n f z i := by rw [hjk]; rfl
        rw [hrow]
        simp -implicitDefEqProofs only [s_s, argEnv, PastOK, PendOK, sel, isE, isSp, baseOK, opR, opnd, opnds, opndL, ofConst, look, putE, dstOK, guardL, binR, intOp, loadR, bad, bound, lenV, srcV, Ob.read, V.plain, V.one, V.cells, fillV, setMany, zeros, TK.agg, Sub, cellRes, loadV, bindE, Nat.reduceAdd, Nat.reduceEqDiff, Nat.reduceLT, Nat.reduceLeDiff, Nat.reduceMul, Nat.reduceSub, Nat.reduceDiv, Nat.reduceMod, Nat.reduceBEq, Nat.reduceBNe, reduceIte, reduceCtorEq, Int.reduceToNat, Int.reduceLT, Int.reduceLE, Int.reduceAdd, Int.reduceSub, Int.reduceMul, Int.reduceNeg, Int.reduceEq, Int.reduceNe, D_G, D_P, List.lookup, tys, intsV_len, w2, hRl]
        repeat (refine And.intro (by first | omega | rfl | trivial | (simp; done) | (simp; omega)) ?_)
        refine Kc.next (i + 1) (by omega) (by omega) (st' ++ [.acc (i + 1) (RV ++ [.slc (st'.length + 1) j 0 j 1])]) [.acc j (intsV (sqRow n f z i)), .cells 0 [.slc (st'.length + 1) j 0 j 1]] (by simp) (by simp) ?_ ?_
        · simp only [List.range_succ, List.map_append, List.map_cons, List.map_nil, ← hRV]
          refine StConv.base hB (by simp) (.cons (.acc (ConvL.snoc (hRb _) (Conv.row (by simp) (ob := .acc j (intsV (sqRow n f z i))) (by simp) (by simp [Ob.read]) (by simp [sqRow, hjk])))) .nil)
        · refine EnvC.of_sub ?_ ?_
          · simp -implicitDefEqProofs only [s_s, argEnv, PastOK, PendOK, sel, isE, isSp, baseOK, opR, opnd, opnds, opndL, ofConst, look, putE, dstOK, guardL, binR, intOp, loadR, bad, bound, lenV, srcV, Ob.read, V.plain, V.one, V.cells, fillV, setMany, zeros, TK.agg, Sub, cellRes, loadV, bindE, Nat.reduceAdd, Nat.reduceEqDiff, Nat.reduceLT, Nat.reduceLeDiff, Nat.reduceMul, Nat.reduceSub, Nat.reduceDiv, Nat.reduceMod, Nat.reduceBEq, Nat.reduceBNe, reduceIte, reduceCtorEq, Int.reduceToNat, Int.reduceLT, Int.reduceLE, Int.reduceAdd, Int.reduceSub, Int.reduceMul, Int.reduceNeg, Int.reduceEq, Int.reduceNe, D_G, D_P, List.lookup, tys, intsV_len]
            try simp
          · simp [bddE, V.bdd]
    · have h' : i = n := by have := of_decide_eq_false h; omega
      simp -implicitDefEqProofs only [s_s, argEnv, PastOK, PendOK, sel, isE, isSp, baseOK, opR, opnd, opnds, opndL, ofConst, look, putE, dstOK, guardL, binR, intOp, loadR, bad, bound, lenV, srcV, Ob.read, V.plain, V.one, V.cells, fillV, setMany, zeros, TK.agg, Sub, cellRes, loadV, bindE, Nat.reduceAdd, Nat.reduceEqDiff, Nat.reduceLT, Nat.reduceLeDiff, Nat.reduceMul, Nat.reduceSub, Nat.reduceDiv, Nat.reduceMod, Nat.reduceBEq, Nat.reduceBNe, reduceIte, reduceCtorEq, Int.reduceToNat, Int.reduceLT, Int.reduceLE, Int.reduceAdd, Int.reduceSub, Int.reduceMul, Int.reduceNeg, Int.reduceEq, Int.reduceNe, D_G, D_P, List.lookup, tys, intsV_len]
      refine Post.r1 rfl ⟨sqV (sqL n m z), _, rfl, ?_, rfl⟩
      have hL : sqL n m z = (List.range i).map (sqRow n f z) := by rw [sqL, hF, h']
      rw [hL]
      exact Conv.whole (by simp) (ob := .acc i (((List.range i).map (sqRow n f z)).map rowV)) (by simp) (by simp [Ob.read]) (by simp) (bdd_rows _ _)
end Go.VL
end

/- The array seat: lists that are looked through, Latin squares. -/
section
set_option linter.unusedSimpArgs false
set_option linter.unusedVariables false
set_option maxRecDepth 4000
namespace Go.VL
open Go Go.Proofs

/-- What a function says of each element of a list. -/
def Says (f : FuncId) (caps : List V) (p : V → Bool) (cs : List V) (st : St) : Prop :=
  ∀ x ∈ cs, VCall D f (x :: caps) st fun r st' => r = .bool (p x) ∧ st' = st

theorem IndexFunc65 (f : FuncId) (caps cs : List V) (p : V → Bool) (hn : cs.length < 1000) (st : St) (hs : Says f caps p cs st) :
    VCall D 65 [.lst 1 cs, .fn (.func f) caps] st (fun r st' => (∃ i : Int, r = .int .i64 i ∧ decide (0 ≤ i) = cs.any p) ∧ st' = st) := by
  refine VCall.of_WP (fn := Tryd.f65) (c := _) Tryd.func65 rfl (by decide +kernel) (Nat.le_of_ble_eq_true rfl) ?_
  refine wpF_sound ?_
  simp -implicitDefEqProofs only [s_s, argEnv, PastOK, PendOK, sel, isE, isSp, baseOK, opR, opnd, opnds, opndL, ofConst, look, putE, dstOK, guardL, binR, intOp, loadR, bad, bound, lenV, srcV, Ob.read, V.plain, V.one, V.cells, fillV, setMany, zeros, TK.agg, Sub, cellRes, loadV, bindE, Nat.reduceAdd, Nat.reduceEqDiff, Nat.reduceLT, Nat.reduceLeDiff, Nat.reduceMul, Nat.reduceSub, Nat.reduceDiv, Nat.reduceMod, Nat.reduceBEq, Nat.reduceBNe, reduceIte, reduceCtorEq, Int.reduceToNat, Int.reduceLT, Int.reduceLE, Int.reduceAdd, Int.reduceSub, Int.reduceMul, Int.reduceNeg, Int.reduceEq, Int.reduceNe, D_G, D_P, List.lookup, tys, intsV_len, Tryd.ntmps65, Tryd.f65]
  refine WP.loopF (ι := Nat) (fun i => [(0, .lst 1 cs), (1, .fn (.func f) caps), (7, .int .i64 cs.length), (8, .int .i64 i)]) (fun _ => st) (fun i => i ≤ cs.length ∧ (cs.take i).any p = false) (fun i => cs.length - i) 0 ⟨by omega, rfl⟩ (by simp -implicitDefEqProofs only [s_s, argEnv, PastOK, PendOK, sel, isE, isSp, baseOK, opR, opnd, opnds, opndL, ofConst, look, putE, dstOK, guardL, binR, intOp, loadR, bad, bound, lenV, srcV, Ob.read, V.plain, V.one, V.cells, fillV, setMany, zeros, TK.agg, Sub, cellRes, loadV, bindE, Nat.reduceAdd, Nat.reduceEqDiff, Nat.reduceLT, Nat.reduceLeDiff, Nat.reduceMul, Nat.reduceSub, Nat.reduceDiv, Nat.reduceMod, Nat.reduceBEq, Nat.reduceBNe, reduceIte, reduceCtorEq, Int.reduceToNat, Int.reduceLT, Int.reduceLE, Int.reduceAdd, Int.reduceSub, Int.reduceMul, Int.reduceNeg, Int.reduceEq, Int.reduceNe, D_G, D_P, List.lookup, tys, intsV_len]; simp) rfl ?_
  rintro i ⟨hi, ha⟩
  simp -implicitDefEqProofs only [s_s, argEnv, PastOK, PendOK, sel, isE, isSp, baseOK, opR, opnd, opnds, opndL, ofConst, look, putE, dstOK, guardL, binR, intOp, loadR, bad, bound, lenV, srcV, Ob.read, V.plain, V.one, V.cells, fillV, setMany, zeros, TK.agg, Sub, cellRes, loadV, bindE, Nat.reduceAdd, Nat.reduceEqDiff, Nat.reduceLT, Nat.reduceLeDiff, Nat.reduceMul, Nat.reduceSub, Nat.reduceDiv, Nat.reduceMod, Nat.reduceBEq, Nat.reduceBNe, reduceIte, reduceCtorEq, Int.reduceToNat, Int.reduceLT, Int.reduceLE, Int.reduceAdd, Int.reduceSub, Int.reduceMul, Int.reduceNeg, Int.reduceEq, Int.reduceNe, D_G, D_P, List.lookup, tys, intsV_len]
  refine Br.intro (fun h => ?_) (fun h => ?_)
  · have h' : i < cs.length := by have := of_decide_eq_true h; omega
    obtain ⟨x, hx⟩ : ∃ x, cs[i]? = some x := ⟨_, List.getElem?_eq_getElem h'⟩
    have w := wrapI (n := (i : Int) + 1) (by omega) (by omega)
    simp -implicitDefEqProofs only [s_s, argEnv, PastOK, PendOK, sel, isE, isSp, baseOK, opR, opnd, opnds, opndL, ofConst, look, putE, dstOK, guardL, binR, intOp, loadR, bad, bound, lenV, srcV, Ob.read, V.plain, V.one, V.cells, fillV, setMany, zeros, TK.agg, Sub, cellRes, loadV, bindE, Nat.reduceAdd, Nat.reduceEqDiff, Nat.reduceLT, Nat.reduceLeDiff, Nat.reduceMul, Nat.reduceSub, Nat.reduceDiv, Nat.reduceMod, Nat.reduceBEq, Nat.reduceBNe, reduceIte, reduceCtorEq, Int.reduceToNat, Int.reduceLT, Int.reduceLE, Int.reduceAdd, Int.reduceSub, Int.reduceMul, Int.reduceNeg, Int.reduceEq, Int.reduceNe, D_G, D_P, List.lookup, tys, intsV_len, hx]
    repeat (refine And.intro (by first | omega | rfl | trivial | (simp; done) | (simp; omega)) ?_)
    refine Sp.call rfl rfl ((hs x (List.mem_of_getElem? hx)).mono ?_)
    rintro r st' ⟨rfl, rfl⟩
    simp -implicitDefEqProofs only [s_s, argEnv, PastOK, PendOK, sel, isE, isSp, baseOK, opR, opnd, opnds, opndL, ofConst, look, putE, dstOK, guardL, binR, intOp, loadR, bad, bound, lenV, srcV, Ob.read, V.plain, V.one, V.cells, fillV, setMany, zeros, TK.agg, Sub, cellRes, loadV, bindE, Nat.reduceAdd, Nat.reduceEqDiff, Nat.reduceLT, Nat.reduceLeDiff, Nat.reduceMul, Nat.reduceSub, Nat.reduceDiv, Nat.reduceMod, Nat.reduceBEq, Nat.reduceBNe, reduceIte, reduceCtorEq, Int.reduceToNat, Int.reduceLT, Int.reduceLE, Int.reduceAdd, Int.reduceSub, Int.reduceMul, Int.reduceNeg, Int.reduceEq, Int.reduceNe, D_G, D_P, List.lookup, tys, intsV_len]
    have htk : cs.take (i + 1) = cs.take i ++ [x] := by rw [List.take_add_one, hx]; rfl
    refine Br.intro (fun h2 => ?_) (fun h2 => ?_)
    · simp -implicitDefEqProofs only [s_s, argEnv, PastOK, PendOK, sel, isE, isSp, baseOK, opR, opnd, opnds, opndL, ofConst, look, putE, dstOK, guardL, binR, intOp, loadR, bad, bound, lenV, srcV, Ob.read, V.plain, V.one, V.cells, fillV, setMany, zeros, TK.agg, Sub, cellRes, loadV, bindE, Nat.reduceAdd, Nat.reduceEqDiff, Nat.reduceLT, Nat.reduceLeDiff, Nat.reduceMul, Nat.reduceSub, Nat.reduceDiv, Nat.reduceMod, Nat.reduceBEq, Nat.reduceBNe, reduceIte, reduceCtorEq, Int.reduceToNat, Int.reduceLT, Int.reduceLE, Int.reduceAdd, Int.reduceSub, Int.reduceMul, Int.reduceNeg, Int.reduceEq, Int.reduceNe, D_G, D_P, List.lookup, tys, intsV_len]
      refine Post.r1 rfl ⟨⟨i, rfl, ?_⟩, rfl⟩
      have : cs.any p = true := List.any_eq_true.2 ⟨x, List.mem_of_getElem? hx, h2⟩
      rw [this]; simp
    · simp -implicitDefEqProofs only [s_s, argEnv, PastOK, PendOK, sel, isE, isSp, baseOK, opR, opnd, opnds, opndL, ofConst, look, putE, dstOK, guardL, binR, intOp, loadR, bad, bound, lenV, srcV, Ob.read, V.plain, V.one, V.cells, fillV, setMany, zeros, TK.agg, Sub, cellRes, loadV, bindE, Nat.reduceAdd, Nat.reduceEqDiff, Nat.reduceLT, Nat.reduceLeDiff, Nat.reduceMul, Nat.reduceSub, Nat.reduceDiv, Nat.reduceMod, Nat.reduceBEq, Nat.reduceBNe, reduceIte, reduceCtorEq, Int.reduceToNat, Int.reduceLT, Int.reduceLE, Int.reduceAdd, Int.reduceSub, Int.reduceMul, Int.reduceNeg, Int.reduceEq, Int.reduceNe, D_G, D_P, List.lookup, tys, intsV_len, w]
      refine Kl.next (i + 1) ⟨by omega, by rw [htk, List.any_append, ha]; simp [h2]⟩ (by omega) (by simp -implicitDefEqProofs only [s_s, argEnv, PastOK, PendOK, sel, isE, isSp, baseOK, opR, opnd, opnds, opndL, ofConst, look, putE, dstOK, guardL, binR, intOp, loadR, bad, bound, lenV, srcV, Ob.read, V.plain, V.one, V.cells, fillV, setMany, zeros, TK.agg, Sub, cellRes, loadV, bindE, Nat.reduceAdd, Nat.reduceEqDiff, Nat.reduceLT, Nat.reduceLeDiff, Nat.reduceMul, Nat.reduceSub, Nat.reduceDiv, Nat.reduceMod, Nat.reduceBEq, Nat.reduceBNe, reduceIte, reduceCtorEq, Int.reduceToNat, Int.reduceLT, Int.reduceLE, Int.reduceAdd, Int.reduceSub, Int.reduceMul, Int.reduceNeg, Int.reduceEq, Int.reduceNe, D_G, D_P, List.lookup, tys, intsV_len]; try simp) rfl
  · have h' : i = cs.length := by have := of_decide_eq_false h; omega
    rw [h', List.take_length] at ha
    simp -implicitDefEqProofs only [s_s, argEnv, PastOK, PendOK, sel, isE, isSp, baseOK, opR, opnd, opnds, opndL, ofConst, look, putE, dstOK, guardL, binR, intOp, loadR, bad, bound, lenV, srcV, Ob.read, V.plain, V.one, V.cells, fillV, setMany, zeros, TK.agg, Sub, cellRes, loadV, bindE, Nat.reduceAdd, Nat.reduceEqDiff, Nat.reduceLT, Nat.reduceLeDiff, Nat.reduceMul, Nat.reduceSub, Nat.reduceDiv, Nat.reduceMod, Nat.reduceBEq, Nat.reduceBNe, reduceIte, reduceCtorEq, Int.reduceToNat, Int.reduceLT, Int.reduceLE, Int.reduceAdd, Int.reduceSub, Int.reduceMul, Int.reduceNeg, Int.reduceEq, Int.reduceNe, D_G, D_P, List.lookup, tys, intsV_len]
    exact Post.r1 rfl ⟨⟨-1, rfl, by rw [ha]; rfl⟩, rfl⟩

theorem ContainsFunc57 (f : FuncId) (caps cs : List V) (p : V → Bool) (hn : cs.length < 1000) (st : St) (hs : Says f caps p cs st) :
    VCall D 57 [.lst 1 cs, .fn (.func f) caps] st (fun r st' => r = .bool (cs.any p) ∧ st' = st) := by
  refine VCall.of_WP (fn := Tryd.f57) (c := _) Tryd.func57 rfl (by decide +kernel) (Nat.le_of_ble_eq_true rfl) ?_
  refine wpF_sound ?_
  simp -implicitDefEqProofs only [s_s, argEnv, PastOK, PendOK, sel, isE, isSp, baseOK, opR, opnd, opnds, opndL, ofConst, look, putE, dstOK, guardL, binR, intOp, loadR, bad, bound, lenV, srcV, Ob.read, V.plain, V.one, V.cells, fillV, setMany, zeros, TK.agg, Sub, cellRes, loadV, bindE, Nat.reduceAdd, Nat.reduceEqDiff, Nat.reduceLT, Nat.reduceLeDiff, Nat.reduceMul, Nat.reduceSub, Nat.reduceDiv, Nat.reduceMod, Nat.reduceBEq, Nat.reduceBNe, reduceIte, reduceCtorEq, Int.reduceToNat, Int.reduceLT, Int.reduceLE, Int.reduceAdd, Int.reduceSub, Int.reduceMul, Int.reduceNeg, Int.reduceEq, Int.reduceNe, D_G, D_P, List.lookup, tys, intsV_len, Tryd.ntmps57, Tryd.f57]
  refine Sp.call rfl rfl ((IndexFunc65 f caps cs p hn _ hs).mono ?_)
  rintro r st' ⟨⟨i, rfl, hi⟩, rfl⟩
  simp -implicitDefEqProofs only [s_s, argEnv, PastOK, PendOK, sel, isE, isSp, baseOK, opR, opnd, opnds, opndL, ofConst, look, putE, dstOK, guardL, binR, intOp, loadR, bad, bound, lenV, srcV, Ob.read, V.plain, V.one, V.cells, fillV, setMany, zeros, TK.agg, Sub, cellRes, loadV, bindE, Nat.reduceAdd, Nat.reduceEqDiff, Nat.reduceLT, Nat.reduceLeDiff, Nat.reduceMul, Nat.reduceSub, Nat.reduceDiv, Nat.reduceMod, Nat.reduceBEq, Nat.reduceBNe, reduceIte, reduceCtorEq, Int.reduceToNat, Int.reduceLT, Int.reduceLE, Int.reduceAdd, Int.reduceSub, Int.reduceMul, Int.reduceNeg, Int.reduceEq, Int.reduceNe, D_G, D_P, List.lookup, tys, intsV_len, hi]
  exact Post.r1 rfl ⟨rfl, rfl⟩

theorem IndexFunc56 (f : FuncId) (caps cs : List V) (p : V → Bool) (hn : cs.length < 1000) (st : St) (hs : Says f caps p cs st) :
    VCall D 56 [.lst 1 cs, .fn (.func f) caps] st (fun r st' => (∃ i : Int, r = .int .i64 i ∧ decide (0 ≤ i) = cs.any p) ∧ st' = st) := by
  refine VCall.of_WP (fn := Tryd.f56) (c := _) Tryd.func56 rfl (by decide +kernel) (Nat.le_of_ble_eq_true rfl) ?_
  refine wpF_sound ?_
  simp -implicitDefEqProofs only [s_s, argEnv, PastOK, PendOK, sel, isE, isSp, baseOK, opR, opnd, opnds, opndL, ofConst, look, putE, dstOK, guardL, binR, intOp, loadR, bad, bound, lenV, srcV, Ob.read, V.plain, V.one, V.cells, fillV, setMany, zeros, TK.agg, Sub, cellRes, loadV, bindE, Nat.reduceAdd, Nat.reduceEqDiff, Nat.reduceLT, Nat.reduceLeDiff, Nat.reduceMul, Nat.reduceSub, Nat.reduceDiv, Nat.reduceMod, Nat.reduceBEq, Nat.reduceBNe, reduceIte, reduceCtorEq, Int.reduceToNat, Int.reduceLT, Int.reduceLE, Int.reduceAdd, Int.reduceSub, Int.reduceMul, Int.reduceNeg, Int.reduceEq, Int.reduceNe, D_G, D_P, List.lookup, tys, intsV_len, Tryd.ntmps56, Tryd.f56]
  refine WP.loopF (ι := Nat) (fun i => [(0, .lst 1 cs), (1, .fn (.func f) caps), (7, .int .i64 cs.length), (8, .int .i64 i)]) (fun _ => st) (fun i => i ≤ cs.length ∧ (cs.take i).any p = false) (fun i => cs.length - i) 0 ⟨by omega, rfl⟩ (by simp -implicitDefEqProofs only [s_s, argEnv, PastOK, PendOK, sel, isE, isSp, baseOK, opR, opnd, opnds, opndL, ofConst, look, putE, dstOK, guardL, binR, intOp, loadR, bad, bound, lenV, srcV, Ob.read, V.plain, V.one, V.cells, fillV, setMany, zeros, TK.agg, Sub, cellRes, loadV, bindE, Nat.reduceAdd, Nat.reduceEqDiff, Nat.reduceLT, Nat.reduceLeDiff, Nat.reduceMul, Nat.reduceSub, Nat.reduceDiv, Nat.reduceMod, Nat.reduceBEq, Nat.reduceBNe, reduceIte, reduceCtorEq, Int.reduceToNat, Int.reduceLT, Int.reduceLE, Int.reduceAdd, Int.reduceSub, Int.reduceMul, Int.reduceNeg, Int.reduceEq, Int.reduceNe, D_G, D_P, List.lookup, tys, intsV_len]; simp) rfl ?_
  rintro i ⟨hi, ha⟩
  simp -implicitDefEqProofs only [s_s, argEnv, PastOK, PendOK, sel, isE, isSp, baseOK, opR, opnd, opnds, opndL, ofConst, look, putE, dstOK, guardL, binR, intOp, loadR, bad, bound, lenV, srcV, Ob.read, V.plain, V.one, V.cells, fillV, setMany, zeros, TK.agg, Sub, cellRes, loadV, bindE, Nat.reduceAdd, Nat.reduceEqDiff, Nat.reduceLT, Nat.reduceLeDiff, Nat.reduceMul, Nat.reduceSub, Nat.reduceDiv, Nat.reduceMod, Nat.reduceBEq, Nat.reduceBNe, reduceIte, reduceCtorEq, Int.reduceToNat, Int.reduceLT, Int.reduceLE, Int.reduceAdd, Int.reduceSub, Int.reduceMul, Int.reduceNeg, Int.reduceEq, Int.reduceNe, D_G, D_P, List.lookup, tys, intsV_len]
  refine Br.intro (fun h => ?_) (fun h => ?_)
  · have h' : i < cs.length := by have := of_decide_eq_true h; omega
    obtain ⟨x, hx⟩ : ∃ x, cs[i]? = some x := ⟨_, List.getElem?_eq_getElem h'⟩
    have w := wrapI (n := (i : Int) + 1) (by omega) (by omega)
    simp -implicitDefEqProofs only [s_s, argEnv, PastOK, PendOK, sel, isE, isSp, baseOK, opR, opnd, opnds, opndL, ofConst, look, putE, dstOK, guardL, binR, intOp, loadR, bad, bound, lenV, srcV, Ob.read, V.plain, V.one, V.cells, fillV, setMany, zeros, TK.agg, Sub, cellRes, loadV, bindE, Nat.reduceAdd, Nat.reduceEqDiff, Nat.reduceLT, Nat.reduceLeDiff, Nat.reduceMul, Nat.reduceSub, Nat.reduceDiv, Nat.reduceMod, Nat.reduceBEq, Nat.reduceBNe, reduceIte, reduceCtorEq, Int.reduceToNat, Int.reduceLT, Int.reduceLE, Int.reduceAdd, Int.reduceSub, Int.reduceMul, Int.reduceNeg, Int.reduceEq, Int.reduceNe, D_G, D_P, List.lookup, tys, intsV_len, hx]
    repeat (refine And.intro (by first | omega | rfl | trivial | (simp; done) | (simp; omega)) ?_)
    refine Sp.call rfl rfl ((hs x (List.mem_of_getElem? hx)).mono ?_)
    rintro r st' ⟨rfl, rfl⟩
    simp -implicitDefEqProofs only [s_s, argEnv, PastOK, PendOK, sel, isE, isSp, baseOK, opR, opnd, opnds, opndL, ofConst, look, putE, dstOK, guardL, binR, intOp, loadR, bad, bound, lenV, srcV, Ob.read, V.plain, V.one, V.cells, fillV, setMany, zeros, TK.agg, Sub, cellRes, loadV, bindE, Nat.reduceAdd, Nat.reduceEqDiff, Nat.reduceLT, Nat.reduceLeDiff, Nat.reduceMul, Nat.reduceSub, Nat.reduceDiv, Nat.reduceMod, Nat.reduceBEq, Nat.reduceBNe, reduceIte, reduceCtorEq, Int.reduceToNat, Int.reduceLT, Int.reduceLE, Int.reduceAdd, Int.reduceSub, Int.reduceMul, Int.reduceNeg, Int.reduceEq, Int.reduceNe, D_G, D_P, List.lookup, tys, intsV_len]
    have htk : cs.take (i + 1) = cs.take i ++ [x] := by rw [List.take_add_one, hx]; rfl
    refine Br.intro (fun h2 => ?_) (fun h2 => ?_)
    · simp -implicitDefEqProofs only [s_s, argEnv, PastOK, PendOK, sel, isE, isSp, baseOK, opR, opnd, opnds, opndL, ofConst, look, putE, dstOK, guardL, binR, intOp, loadR, bad, bound, lenV, srcV, Ob.read, V.plain, V.one, V.cells, fillV, setMany, zeros, TK.agg, Sub, cellRes, loadV, bindE, Nat.reduceAdd, Nat.reduceEqDiff, Nat.reduceLT, Nat.reduceLeDiff, Nat.reduceMul, Nat.reduceSub, Nat.reduceDiv, Nat.reduceMod, Nat.reduceBEq, Nat.reduceBNe, reduceIte, reduceCtorEq, Int.reduceToNat, Int.reduceLT, Int.reduceLE, Int.reduceAdd, Int.reduceSub, Int.reduceMul, Int.reduceNeg, Int.reduceEq, Int.reduceNe, D_G, D_P, List.lookup, tys, intsV_len]
      refine Post.r1 rfl ⟨⟨i, rfl, ?_⟩, rfl⟩
      have : cs.any p = true := List.any_eq_true.2 ⟨x, List.mem_of_getElem? hx, h2⟩
      rw [this]; simp
    · simp -implicitDefEqProofs only [s_s, argEnv, PastOK, PendOK, sel, isE, isSp, baseOK, opR, opnd, opnds, opndL, ofConst, look, putE, dstOK, guardL, binR, intOp, loadR, bad, bound, lenV, srcV, Ob.read, V.plain, V.one, V.cells, fillV, setMany, zeros, TK.agg, Sub, cellRes, loadV, bindE, Nat.reduceAdd, Nat.reduceEqDiff, Nat.reduceLT, Nat.reduceLeDiff, Nat.reduceMul, Nat.reduceSub, Nat.reduceDiv, Nat.reduceMod, Nat.reduceBEq, Nat.reduceBNe, reduceIte, reduceCtorEq, Int.reduceToNat, Int.reduceLT, Int.reduceLE, Int.reduceAdd, Int.reduceSub, Int.reduceMul, Int.reduceNeg, Int.reduceEq, Int.reduceNe, D_G, D_P, List.lookup, tys, intsV_len, w]
      refine Kl.next (i + 1) ⟨by omega, by rw [htk, List.any_append, ha]; simp [h2]⟩ (by omega) (by simp -implicitDefEqProofs only [s_s, argEnv, PastOK, PendOK, sel, isE, isSp, baseOK, opR, opnd, opnds, opndL, ofConst, look, putE, dstOK, guardL, binR, intOp, loadR, bad, bound, lenV, srcV, Ob.read, V.plain, V.one, V.cells, fillV, setMany, zeros, TK.agg, Sub, cellRes, loadV, bindE, Nat.reduceAdd, Nat.reduceEqDiff, Nat.reduceLT, Nat.reduceLeDiff, Nat.reduceMul, Nat.reduceSub, Nat.reduceDiv, Nat.reduceMod, Nat.reduceBEq, Nat.reduceBNe, reduceIte, reduceCtorEq, Int.reduceToNat, Int.reduceLT, Int.reduceLE, Int.reduceAdd, Int.reduceSub, Int.reduceMul, Int.reduceNeg, Int.reduceEq, Int.reduceNe, D_G, D_P, List.lookup, tys, intsV_len]; try simp) rfl
  · have h' : i = cs.length := by have := of_decide_eq_false h; omega
    rw [h', List.take_length] at ha
    simp -implicitDefEqProofs only [s_s, argEnv, PastOK, PendOK, sel, isE, isSp, baseOK, opR, opnd, opnds, opndL, ofConst, look, putE, dstOK, guardL, binR, intOp, loadR, bad, bound, lenV, srcV, Ob.read, V.plain, V.one, V.cells, fillV, setMany, zeros, TK.agg, Sub, cellRes, loadV, bindE, Nat.reduceAdd, Nat.reduceEqDiff, Nat.reduceLT, Nat.reduceLeDiff, Nat.reduceMul, Nat.reduceSub, Nat.reduceDiv, Nat.reduceMod, Nat.reduceBEq, Nat.reduceBNe, reduceIte, reduceCtorEq, Int.reduceToNat, Int.reduceLT, Int.reduceLE, Int.reduceAdd, Int.reduceSub, Int.reduceMul, Int.reduceNeg, Int.reduceEq, Int.reduceNe, D_G, D_P, List.lookup, tys, intsV_len]
    exact Post.r1 rfl ⟨⟨-1, rfl, by rw [ha]; rfl⟩, rfl⟩

theorem ContainsFunc48 (f : FuncId) (caps cs : List V) (p : V → Bool) (hn : cs.length < 1000) (st : St) (hs : Says f caps p cs st) :
    VCall D 48 [.lst 1 cs, .fn (.func f) caps] st (fun r st' => r = .bool (cs.any p) ∧ st' = st) := by
  refine VCall.of_WP (fn := Tryd.f48) (c := _) Tryd.func48 rfl (by decide +kernel) (Nat.le_of_ble_eq_true rfl) ?_
  refine wpF_sound ?_
  simp -implicitDefEqProofs only [s_s, argEnv, PastOK, PendOK, sel, isE, isSp, baseOK, opR, opnd, opnds, opndL, ofConst, look, putE, dstOK, guardL, binR, intOp, loadR, bad, bound, lenV, srcV, Ob.read, V.plain, V.one, V.cells, fillV, setMany, zeros, TK.agg, Sub, cellRes, loadV, bindE, Nat.reduceAdd, Nat.reduceEqDiff, Nat.reduceLT, Nat.reduceLeDiff, Nat.reduceMul, Nat.reduceSub, Nat.reduceDiv, Nat.reduceMod, Nat.reduceBEq, Nat.reduceBNe, reduceIte, reduceCtorEq, Int.reduceToNat, Int.reduceLT, Int.reduceLE, Int.reduceAdd, Int.reduceSub, Int.reduceMul, Int.reduceNeg, Int.reduceEq, Int.reduceNe, D_G, D_P, List.lookup, tys, intsV_len, Tryd.ntmps48, Tryd.f48]
  refine Sp.call rfl rfl ((IndexFunc56 f caps cs p hn _ hs).mono ?_)
  rintro r st' ⟨⟨i, rfl, hi⟩, rfl⟩
  simp -implicitDefEqProofs only [s_s, argEnv, PastOK, PendOK, sel, isE, isSp, baseOK, opR, opnd, opnds, opndL, ofConst, look, putE, dstOK, guardL, binR, intOp, loadR, bad, bound, lenV, srcV, Ob.read, V.plain, V.one, V.cells, fillV, setMany, zeros, TK.agg, Sub, cellRes, loadV, bindE, Nat.reduceAdd, Nat.reduceEqDiff, Nat.reduceLT, Nat.reduceLeDiff, Nat.reduceMul, Nat.reduceSub, Nat.reduceDiv, Nat.reduceMod, Nat.reduceBEq, Nat.reduceBNe, reduceIte, reduceCtorEq, Int.reduceToNat, Int.reduceLT, Int.reduceLE, Int.reduceAdd, Int.reduceSub, Int.reduceMul, Int.reduceNeg, Int.reduceEq, Int.reduceNe, D_G, D_P, List.lookup, tys, intsV_len, hi]
  exact Post.r1 rfl ⟨rfl, rfl⟩

theorem or_u64 (a b : Nat) (ha : a < 4294967296) (hb : b < 4294967296) : IntKind.u64.wrap ((BitVec.ofInt IntKind.u64.bits (a : Int) ||| BitVec.ofInt IntKind.u64.bits (b : Int)).toNat : Int) = ((a ||| b : Nat) : Int) := by
  have e : (BitVec.ofInt 64 (a : Int) ||| BitVec.ofInt 64 (b : Int)).toNat = a ||| b := by
    rw [BitVec.toNat_or, BitVec.toNat_ofInt, BitVec.toNat_ofInt]
    have h1 : ((a : Int) % ((2 ^ 64 : Nat) : Int)).toNat = a := by omega
    have h2 : ((b : Int) % ((2 ^ 64 : Nat) : Int)).toNat = b := by omega
    rw [h1, h2]
  show IntKind.u64.wrap ((BitVec.ofInt 64 (a : Int) ||| BitVec.ofInt 64 (b : Int)).toNat : Int) = _
  rw [e]
  have h32 : a ||| b < 2 ^ 32 := Nat.or_lt_two_pow ha hb
  simp only [IntKind.wrap, IntKind.bits, IntKind.signed]
  simp
  omega

/-- What a row has seen. -/
def maskR (r : List Int) : Nat := r.foldl (fun a x => a ||| 2 ^ x.toNat) 0
def rowB1 (n : Nat) (r : List Int) : Bool := decide (r.length = n) && (r.all fun x => decide (0 ≤ x ∧ x < n)) && decide (maskR r = 2 ^ n - 1)
/-- What a column has seen. -/
def maskC (L : List (List Int)) (j : Nat) : Nat := L.foldl (fun a r => a ||| 2 ^ ((r[j]?).getD 0).toNat) 0
def latinB (n : Nat) (L : List (List Int)) : Bool := decide (L.length = n) && L.all (rowB1 n) && (List.range n).all fun j => decide (maskC L j = 2 ^ n - 1)

theorem maskR_snoc (r : List Int) (x : Int) : maskR (r ++ [x]) = maskR r ||| 2 ^ x.toNat := by simp [maskR, List.foldl_append]
theorem maskC_snoc (L : List (List Int)) (r : List Int) (j : Nat) : maskC (L ++ [r]) j = maskC L j ||| 2 ^ ((r[j]?).getD 0).toNat := by simp [maskC, List.foldl_append]

theorem pow8 {x : Nat} (h : x < 8) : 2 ^ x < 256 := by
  have : ∀ x, x < 8 → 2 ^ x < 256 := by decide
  exact this x h

theorem maskR_lt (n : Nat) (hn : n ≤ 8) : ∀ (r : List Int), (∀ x ∈ r, 0 ≤ x ∧ x < n) → maskR r < 256 := by
  intro r h
  have : ∀ (r : List Int) (a : Nat), a < 2 ^ 8 → (∀ x ∈ r, 0 ≤ x ∧ x < n) → r.foldl (fun a x => a ||| 2 ^ x.toNat) a < 2 ^ 8 := by
    intro r
    induction r with
    | nil => intro a ha _; exact ha
    | cons x r ih =>
      intro a ha h
      refine ih _ (Nat.or_lt_two_pow ha ?_) (fun y hy => h y (by simp [hy]))
      have := h x (by simp)
      exact pow8 (by omega)
  exact this r 0 (by decide) h

theorem maskC_lt (n : Nat) (hn : n ≤ 8) (j : Nat) : ∀ (L : List (List Int)), (∀ r ∈ L, ∀ x ∈ r, 0 ≤ x ∧ x < n) → maskC L j < 256 := by
  intro L h
  have : ∀ (L : List (List Int)) (a : Nat), a < 2 ^ 8 → (∀ r ∈ L, ∀ x ∈ r, 0 ≤ x ∧ x < n) → L.foldl (fun a r => a ||| 2 ^ ((r[j]?).getD 0).toNat) a < 2 ^ 8 := by
    intro L
    induction L with
    | nil => intro a ha _; exact ha
    | cons r L ih =>
      intro a ha h
      refine ih _ (Nat.or_lt_two_pow ha ?_) (fun q hq => h q (by simp [hq]))
      cases hj : r[j]? with
      | none => decide
      | some x =>
        have := h r (by simp) x (List.mem_of_getElem? hj)
        exact pow8 (by simp; omega)
  exact this L 0 (by decide) h

def colsV (n : Nat) (g : Nat → Nat) : List V := (List.range n).map fun c => V.int .u64 (g c)
theorem colsV_get {n : Nat} {g : Nat → Nat} {j : Nat} (h : j < n) : (colsV n g)[j]? = some (.int .u64 (g j)) := by simp [colsV, h]
theorem colsV_len {n : Nat} {g : Nat → Nat} : (colsV n g).length = n := by simp [colsV]
theorem colsV_set {n : Nat} {g g' : Nat → Nat} {j : Nat} (hj : j < n) (h : ∀ c, c < n → c ≠ j → g' c = g c) : (colsV n g).set j (.int .u64 (g' j)) = colsV n g' := by
  apply List.ext_getElem?
  intro c
  by_cases e : j = c
  · subst e
    rw [List.getElem?_set_self (by simp [colsV, hj]), colsV_get hj]
  · rw [List.getElem?_set_ne e]
    rcases Nat.lt_or_ge c n with hc | hc
    · rw [colsV_get hc, colsV_get hc, h c hc (Ne.symm e)]
    · rw [List.getElem?_eq_none (by simp [colsV, hc]), List.getElem?_eq_none (by simp [colsV, hc])]
theorem colsV_bdd (m n : Nat) (g : Nat → Nat) : bddL m (colsV n g) = true := by
  rw [bddL_iff]; intro c hc; simp only [colsV, List.mem_map] at hc; obtain ⟨x, _, rfl⟩ := hc; rfl

/-- Row and columns behind the first entries of a row. -/
def midC (L : List (List Int)) (r : List Int) (j c : Nat) : Nat := if c < j then maskC (L ++ [r]) c else maskC L c

theorem latin1_spec (n : Nat) (hn : n ≤ 8) (m : Nat) (st : St) : VCall D 58 [.int .u64 m, .pptr [.int .i64 n] 0] st (fun r st' => r = .bool (!decide (m = 2 ^ n - 1)) ∧ st' = st) := by
  have e1 := shl_at n hn
  have h2 : 2 ^ n ≤ 2 ^ 8 := Nat.pow_le_pow_right (by omega) hn
  have h0 : 0 < 2 ^ n := Nat.pow_pos (by omega)
  have e2 : IntKind.u64.wrap (((2 ^ n : Nat) : Int) - 1) = ((2 ^ n - 1 : Nat) : Int) := by rw [wrapU (by omega) (by omega)]; omega
  refine VCall.of_WP (fn := Tryd.f58) (c := _) Tryd.func58 rfl (by decide +kernel) (Nat.le_of_ble_eq_true rfl) ?_
  refine wpF_sound ?_
  simp -implicitDefEqProofs only [s_s, argEnv, PastOK, PendOK, sel, isE, isSp, baseOK, opR, opnd, opnds, opndL, ofConst, look, putE, dstOK, guardL, binR, intOp, loadR, bad, bound, lenV, srcV, Ob.read, V.plain, V.one, V.cells, fillV, setMany, zeros, TK.agg, Sub, cellRes, loadV, bindE, Nat.reduceAdd, Nat.reduceEqDiff, Nat.reduceLT, Nat.reduceLeDiff, Nat.reduceMul, Nat.reduceSub, Nat.reduceDiv, Nat.reduceMod, Nat.reduceBEq, Nat.reduceBNe, reduceIte, reduceCtorEq, Int.reduceToNat, Int.reduceLT, Int.reduceLE, Int.reduceAdd, Int.reduceSub, Int.reduceMul, Int.reduceNeg, Int.reduceEq, Int.reduceNe, D_G, D_P, List.lookup, tys, intsV_len, Tryd.ntmps58, Tryd.f58, e1, e2]
  repeat (refine And.intro (by first | omega | rfl | trivial | (simp; done) | (simp; omega)) ?_)
  exact Post.r1 rfl ⟨by simp [Int.ofNat_inj], rfl⟩

theorem latinB_bad {n : Nat} {L : List (List Int)} {r : List Int} (hr : r ∈ L) (hb : rowB1 n r = false) : latinB n L = false := by
  have : L.all (rowB1 n) = false := by
    rw [Bool.eq_false_iff]; intro h
    have := List.all_eq_true.1 h r hr
    rw [hb] at this; cases this
  simp [latinB, this]

theorem colsV_zero (n : Nat) (L : List (List Int)) : (List.replicate n [V.int .u64 0]).flatten = colsV n (maskC ([] : List (List Int))) := by
  apply List.ext_getElem?
  intro c
  rcases Nat.lt_or_ge c n with hc | hc
  · rw [colsV_get hc]
    have : (List.replicate n [V.int .u64 0]).flatten = List.replicate n (V.int .u64 0) := by
      induction n with
      | zero => rfl
      | succ n ih => simp [List.replicate_succ]
    rw [this]
    simp [hc, maskC]
  · rw [List.getElem?_eq_none (by simp [hc]), List.getElem?_eq_none (by simp [colsV, hc])]

theorem latin_spec (n : Nat) (hn2 : 1 ≤ n) (hn : n ≤ 8) (L : List (List Int)) (st : St) : VCall D 50 [.int .i64 n, sqV L] st (fun r st' => r = .bool (latinB n L) ∧ st' = st) := by
  have e1 := shl_at n hn
  have h2 : 2 ^ n ≤ 2 ^ 8 := Nat.pow_le_pow_right (by omega) hn
  have h0 : 0 < 2 ^ n := Nat.pow_pos (by omega)
  have e2 : IntKind.u64.wrap (((2 ^ n : Nat) : Int) - 1) = ((2 ^ n - 1 : Nat) : Int) := by rw [wrapU (by omega) (by omega)]; omega
  refine VCall.clean ?_
  refine VCall.of_WPB (fn := Tryd.f50) (c := _) Tryd.func50 rfl (by decide +kernel) (Nat.le_of_ble_eq_true rfl) fun hB => ?_
  refine wpF_sound ?_
  by_cases hL : L.length = n
  · have d1 : (!decide ((L.length : Int) = (n : Int))) = false := by simp [hL]
    simp -implicitDefEqProofs only [s_s, argEnv, PastOK, PendOK, sel, isE, isSp, baseOK, opR, opnd, opnds, opndL, ofConst, look, putE, dstOK, guardL, binR, intOp, loadR, bad, bound, lenV, srcV, Ob.read, V.plain, V.one, V.cells, fillV, setMany, zeros, TK.agg, Sub, cellRes, loadV, bindE, Nat.reduceAdd, Nat.reduceEqDiff, Nat.reduceLT, Nat.reduceLeDiff, Nat.reduceMul, Nat.reduceSub, Nat.reduceDiv, Nat.reduceMod, Nat.reduceBEq, Nat.reduceBNe, reduceIte, reduceCtorEq, Int.reduceToNat, Int.reduceLT, Int.reduceLE, Int.reduceAdd, Int.reduceSub, Int.reduceMul, Int.reduceNeg, Int.reduceEq, Int.reduceNe, D_G, D_P, List.lookup, tys, intsV_len, Tryd.ntmps50, Tryd.f50, sqV, d1]
    repeat (refine And.intro (by first | omega | rfl | trivial | (simp; done) | (simp; omega)) ?_)
    rw [colsV_zero n L]
    refine WP.loopF (ι := Nat) (fun i => [(2, .ptr st.length 0 0), (5, .slc (st.length + 1) 0 0 n 1), (17, .lst 1 (L.map rowV)), (18, .int .i64 n), (19, .int .i64 i)])
      (fun i => st ++ [.cells 0 [.int .i64 n], .cells 0 (colsV n (maskC (L.take i)))]) (fun i => i ≤ n ∧ (L.take i).all (rowB1 n) = true) (fun i => n - i) 0 ⟨by omega, rfl⟩ (by simp -implicitDefEqProofs only [s_s, argEnv, PastOK, PendOK, sel, isE, isSp, baseOK, opR, opnd, opnds, opndL, ofConst, look, putE, dstOK, guardL, binR, intOp, loadR, bad, bound, lenV, srcV, Ob.read, V.plain, V.one, V.cells, fillV, setMany, zeros, TK.agg, Sub, cellRes, loadV, bindE, Nat.reduceAdd, Nat.reduceEqDiff, Nat.reduceLT, Nat.reduceLeDiff, Nat.reduceMul, Nat.reduceSub, Nat.reduceDiv, Nat.reduceMod, Nat.reduceBEq, Nat.reduceBNe, reduceIte, reduceCtorEq, Int.reduceToNat, Int.reduceLT, Int.reduceLE, Int.reduceAdd, Int.reduceSub, Int.reduceMul, Int.reduceNeg, Int.reduceEq, Int.reduceNe, D_G, D_P, List.lookup, tys, intsV_len, hL]; try simp) (by simp) ?_
    rintro i ⟨hi, hall⟩
    have hin : ∀ r ∈ L.take i, ∀ x ∈ r, 0 ≤ x ∧ x < n := by
      intro r hr x hx
      have := List.all_eq_true.1 hall r hr
      simp only [rowB1, Bool.and_eq_true, List.all_eq_true, decide_eq_true_eq] at this
      exact this.1.2 x hx
    simp -implicitDefEqProofs only [s_s, argEnv, PastOK, PendOK, sel, isE, isSp, baseOK, opR, opnd, opnds, opndL, ofConst, look, putE, dstOK, guardL, binR, intOp, loadR, bad, bound, lenV, srcV, Ob.read, V.plain, V.one, V.cells, fillV, setMany, zeros, TK.agg, Sub, cellRes, loadV, bindE, Nat.reduceAdd, Nat.reduceEqDiff, Nat.reduceLT, Nat.reduceLeDiff, Nat.reduceMul, Nat.reduceSub, Nat.reduceDiv, Nat.reduceMod, Nat.reduceBEq, Nat.reduceBNe, reduceIte, reduceCtorEq, Int.reduceToNat, Int.reduceLT, Int.reduceLE, Int.reduceAdd, Int.reduceSub, Int.reduceMul, Int.reduceNeg, Int.reduceEq, Int.reduceNe, D_G, D_P, List.lookup, tys, intsV_len]
    refine Br.intro (fun h => ?_) (fun h => ?_)
    · have h' : i < n := by have := of_decide_eq_true h; omega
      obtain ⟨r, hr⟩ : ∃ r, L[i]? = some r := ⟨_, List.getElem?_eq_getElem (by omega)⟩
      have hrm := List.mem_of_getElem? hr
      have hv : (L.map rowV)[i]? = some (rowV r) := by simp [hr]
      have htk : L.take (i + 1) = L.take i ++ [r] := by rw [List.take_add_one, hr]; rfl
      have w1 := wrapI (n := (i : Int) + 1) (by omega) (by omega)
      by_cases hrl : r.length = n
      · have d2 : (!decide ((r.length : Int) = (n : Int))) = false := by simp [hrl]
        simp -implicitDefEqProofs only [s_s, argEnv, PastOK, PendOK, sel, isE, isSp, baseOK, opR, opnd, opnds, opndL, ofConst, look, putE, dstOK, guardL, binR, intOp, loadR, bad, bound, lenV, srcV, Ob.read, V.plain, V.one, V.cells, fillV, setMany, zeros, TK.agg, Sub, cellRes, loadV, bindE, Nat.reduceAdd, Nat.reduceEqDiff, Nat.reduceLT, Nat.reduceLeDiff, Nat.reduceMul, Nat.reduceSub, Nat.reduceDiv, Nat.reduceMod, Nat.reduceBEq, Nat.reduceBNe, reduceIte, reduceCtorEq, Int.reduceToNat, Int.reduceLT, Int.reduceLE, Int.reduceAdd, Int.reduceSub, Int.reduceMul, Int.reduceNeg, Int.reduceEq, Int.reduceNe, D_G, D_P, List.lookup, tys, intsV_len, hv, rowV, d2]
        repeat (refine And.intro (by first | omega | rfl | trivial | (simp; done) | (simp; omega)) ?_)
        refine WP.loopF (ι := Nat) (fun j => [(2, .ptr st.length 0 0), (5, .slc (st.length + 1) 0 0 n 1), (7, .lst 1 (intsV r)), (8, .int .u64 (maskR (r.take j))), (17, .lst 1 (L.map rowV)), (18, .int .i64 n), (19, .int .i64 i), (27, .lst 1 (intsV r)), (28, .int .i64 n), (29, .int .i64 j)])
          (fun j => st ++ [.cells 0 [.int .i64 n], .cells 0 (colsV n (midC (L.take i) r j))]) (fun j => j ≤ n ∧ ∀ x ∈ r.take j, 0 ≤ x ∧ x < n) (fun j => n - j) 0 ⟨by omega, by simp⟩ (by simp -implicitDefEqProofs only [s_s, argEnv, PastOK, PendOK, sel, isE, isSp, baseOK, opR, opnd, opnds, opndL, ofConst, look, putE, dstOK, guardL, binR, intOp, loadR, bad, bound, lenV, srcV, Ob.read, V.plain, V.one, V.cells, fillV, setMany, zeros, TK.agg, Sub, cellRes, loadV, bindE, Nat.reduceAdd, Nat.reduceEqDiff, Nat.reduceLT, Nat.reduceLeDiff, Nat.reduceMul, Nat.reduceSub, Nat.reduceDiv, Nat.reduceMod, Nat.reduceBEq, Nat.reduceBNe, reduceIte, reduceCtorEq, Int.reduceToNat, Int.reduceLT, Int.reduceLE, Int.reduceAdd, Int.reduceSub, Int.reduceMul, Int.reduceNeg, Int.reduceEq, Int.reduceNe, D_G, D_P, List.lookup, tys, intsV_len, hrl]; simp [maskR]) (by simp [midC]; rfl) ?_
        rintro j ⟨hj, hjn⟩
        simp -implicitDefEqProofs only [s_s, argEnv, PastOK, PendOK, sel, isE, isSp, baseOK, opR, opnd, opnds, opndL, ofConst, look, putE, dstOK, guardL, binR, intOp, loadR, bad, bound, lenV, srcV, Ob.read, V.plain, V.one, V.cells, fillV, setMany, zeros, TK.agg, Sub, cellRes, loadV, bindE, Nat.reduceAdd, Nat.reduceEqDiff, Nat.reduceLT, Nat.reduceLeDiff, Nat.reduceMul, Nat.reduceSub, Nat.reduceDiv, Nat.reduceMod, Nat.reduceBEq, Nat.reduceBNe, reduceIte, reduceCtorEq, Int.reduceToNat, Int.reduceLT, Int.reduceLE, Int.reduceAdd, Int.reduceSub, Int.reduceMul, Int.reduceNeg, Int.reduceEq, Int.reduceNe, D_G, D_P, List.lookup, tys, intsV_len]
        refine Br.intro (fun h => ?_) (fun h => ?_)
        · have hjn' : j < n := by have := of_decide_eq_true h; omega
          obtain ⟨x, hx⟩ : ∃ x, r[j]? = some x := ⟨_, List.getElem?_eq_getElem (by omega)⟩
          have hxm := List.mem_of_getElem? hx
          have htr : r.take (j + 1) = r.take j ++ [x] := by rw [List.take_add_one, hx]; rfl
          by_cases hx0 : 0 ≤ x ∧ x < n
          · have d3 : decide (x < 0) = false := by simp; omega
            have d4 : decide ((n : Int) ≤ x) = false := by simp; omega
            obtain ⟨y, rfl⟩ := Int.eq_ofNat_of_zero_le hx0.1
            have hy : y < n := by omega
            have s1 := shl_at y (by omega)
            have w2 := wrapI (n := (j : Int) + 1) (by omega) (by omega)
            have m1 := maskR_lt n hn _ hjn
            have m2 := maskC_lt n hn j _ hin
            have p8 := pow8 (show y < 8 by omega)
            have o1 := or_u64 (maskR (r.take j)) (2 ^ y) (by omega) (by omega)
            have o2 := or_u64 (maskC (L.take i) j) (2 ^ y) (by omega) (by omega)
            have hmid : midC (L.take i) r j j = maskC (L.take i) j := by simp [midC]
            have hmr : maskR (r.take (j + 1)) = maskR (r.take j) ||| 2 ^ y := by rw [htr, maskR_snoc]; rfl
            have hmc : midC (L.take i) r (j + 1) j = maskC (L.take i) j ||| 2 ^ y := by simp [midC, maskC_snoc, hx]
            have hset : (colsV n (midC (L.take i) r j)).set j (.int .u64 ((maskC (L.take i) j ||| 2 ^ y : Nat) : Int)) = colsV n (midC (L.take i) r (j + 1)) := by
              rw [← hmc]
              refine colsV_set hjn' fun c hc hne => ?_
              simp only [midC]
              by_cases e : c < j
              · rw [if_pos e, if_pos (by omega)]
              · rw [if_neg e, if_neg (by omega)]
            simp -implicitDefEqProofs only [s_s, argEnv, PastOK, PendOK, sel, isE, isSp, baseOK, opR, opnd, opnds, opndL, ofConst, look, putE, dstOK, guardL, binR, intOp, loadR, bad, bound, lenV, srcV, Ob.read, V.plain, V.one, V.cells, fillV, setMany, zeros, TK.agg, Sub, cellRes, loadV, bindE, Nat.reduceAdd, Nat.reduceEqDiff, Nat.reduceLT, Nat.reduceLeDiff, Nat.reduceMul, Nat.reduceSub, Nat.reduceDiv, Nat.reduceMod, Nat.reduceBEq, Nat.reduceBNe, reduceIte, reduceCtorEq, Int.reduceToNat, Int.reduceLT, Int.reduceLE, Int.reduceAdd, Int.reduceSub, Int.reduceMul, Int.reduceNeg, Int.reduceEq, Int.reduceNe, D_G, D_P, List.lookup, tys, intsV_len, intsV_get hx, d3, d4, s1, o1]
            repeat (refine And.intro (by first | omega | rfl | trivial | (simp; done) | (simp; omega)) ?_)
            refine WP.drawF [(0, 0, 0, [5]), (0, 0, 0, [9]), (3, 0, 0, [45, 46]), (7, 0, 0, [47]), (0, 0, 0, [10]), (16, 0, 0, [49]), (63, 0, 0, [48, 50]), (127, 0, 0, [45, 46]), (255, 0, 1, [52, 51])] D_mixed (by decide +kernel) ?_
            simp -implicitDefEqProofs only [s_s, argEnv, PastOK, PendOK, sel, isE, isSp, baseOK, opR, opnd, opnds, opndL, ofConst, look, putE, dstOK, guardL, binR, intOp, loadR, bad, bound, lenV, srcV, Ob.read, V.plain, V.one, V.cells, fillV, setMany, zeros, TK.agg, Sub, cellRes, loadV, bindE, Nat.reduceAdd, Nat.reduceEqDiff, Nat.reduceLT, Nat.reduceLeDiff, Nat.reduceMul, Nat.reduceSub, Nat.reduceDiv, Nat.reduceMod, Nat.reduceBEq, Nat.reduceBNe, reduceIte, reduceCtorEq, Int.reduceToNat, Int.reduceLT, Int.reduceLE, Int.reduceAdd, Int.reduceSub, Int.reduceMul, Int.reduceNeg, Int.reduceEq, Int.reduceNe, D_G, D_P, List.lookup, tys, intsV_len, colsV_get hjn', colsV_len, hmid, s1, o2, hset, w2]
            repeat (refine And.intro (by first | omega | rfl | trivial | (simp; done) | (simp; omega)) ?_)
            refine Kl.next (j + 1) ⟨by omega, fun z hz => ?_⟩ (by omega) (by simp -implicitDefEqProofs only [s_s, argEnv, PastOK, PendOK, sel, isE, isSp, baseOK, opR, opnd, opnds, opndL, ofConst, look, putE, dstOK, guardL, binR, intOp, loadR, bad, bound, lenV, srcV, Ob.read, V.plain, V.one, V.cells, fillV, setMany, zeros, TK.agg, Sub, cellRes, loadV, bindE, Nat.reduceAdd, Nat.reduceEqDiff, Nat.reduceLT, Nat.reduceLeDiff, Nat.reduceMul, Nat.reduceSub, Nat.reduceDiv, Nat.reduceMod, Nat.reduceBEq, Nat.reduceBNe, reduceIte, reduceCtorEq, Int.reduceToNat, Int.reduceLT, Int.reduceLE, Int.reduceAdd, Int.reduceSub, Int.reduceMul, Int.reduceNeg, Int.reduceEq, Int.reduceNe, D_G, D_P, List.lookup, tys, intsV_len, hmr]; try simp) rfl
            rw [htr] at hz
            rcases List.mem_append.1 hz with hz | hz
            · exact hjn z hz
            · simp at hz; subst hz; exact hx0
          · have hbad : latinB n L = false := latinB_bad hrm (by
              have : (r.all fun x => decide (0 ≤ x ∧ x < n)) = false := by
                rw [Bool.eq_false_iff]; intro h
                exact hx0 (of_decide_eq_true (List.all_eq_true.1 h x hxm))
              simp only [rowB1, this, Bool.and_false, Bool.false_and])
            by_cases hx1 : x < 0
            · have d3 : decide (x < 0) = true := by simp [hx1]
              simp -implicitDefEqProofs only [s_s, argEnv, PastOK, PendOK, sel, isE, isSp, baseOK, opR, opnd, opnds, opndL, ofConst, look, putE, dstOK, guardL, binR, intOp, loadR, bad, bound, lenV, srcV, Ob.read, V.plain, V.one, V.cells, fillV, setMany, zeros, TK.agg, Sub, cellRes, loadV, bindE, Nat.reduceAdd, Nat.reduceEqDiff, Nat.reduceLT, Nat.reduceLeDiff, Nat.reduceMul, Nat.reduceSub, Nat.reduceDiv, Nat.reduceMod, Nat.reduceBEq, Nat.reduceBNe, reduceIte, reduceCtorEq, Int.reduceToNat, Int.reduceLT, Int.reduceLE, Int.reduceAdd, Int.reduceSub, Int.reduceMul, Int.reduceNeg, Int.reduceEq, Int.reduceNe, D_G, D_P, List.lookup, tys, intsV_len, intsV_get hx, d3]
              repeat (refine And.intro (by first | omega | rfl | trivial | (simp; done) | (simp; omega)) ?_)
              exact Post.r1 rfl ⟨_, _, rfl, .keep rfl, by simp [hbad]⟩
            · have d3 : decide (x < 0) = false := by simp; omega
              have d4 : decide ((n : Int) ≤ x) = true := by simp; omega
              simp -implicitDefEqProofs only [s_s, argEnv, PastOK, PendOK, sel, isE, isSp, baseOK, opR, opnd, opnds, opndL, ofConst, look, putE, dstOK, guardL, binR, intOp, loadR, bad, bound, lenV, srcV, Ob.read, V.plain, V.one, V.cells, fillV, setMany, zeros, TK.agg, Sub, cellRes, loadV, bindE, Nat.reduceAdd, Nat.reduceEqDiff, Nat.reduceLT, Nat.reduceLeDiff, Nat.reduceMul, Nat.reduceSub, Nat.reduceDiv, Nat.reduceMod, Nat.reduceBEq, Nat.reduceBNe, reduceIte, reduceCtorEq, Int.reduceToNat, Int.reduceLT, Int.reduceLE, Int.reduceAdd, Int.reduceSub, Int.reduceMul, Int.reduceNeg, Int.reduceEq, Int.reduceNe, D_G, D_P, List.lookup, tys, intsV_len, intsV_get hx, d3, d4]
              repeat (refine And.intro (by first | omega | rfl | trivial | (simp; done) | (simp; omega)) ?_)
              exact Post.r1 rfl ⟨_, _, rfl, .keep rfl, by simp [hbad]⟩
        · have hjn' : j = n := by have := of_decide_eq_false h; omega
          have htr : r.take j = r := by rw [hjn', ← hrl, List.take_length]
          rw [htr] at hjn
          have hcols : colsV n (midC (L.take i) r j) = colsV n (maskC (L.take (i + 1))) := by
            unfold colsV
            refine List.map_congr_left fun c hc => ?_
            have : c < j := by rw [hjn']; exact List.mem_range.1 hc
            simp only [midC, this, if_true, htk]
          rw [htr, hcols]
          by_cases hm : maskR r = 2 ^ n - 1
          · have d5 : (!decide (((maskR r : Nat) : Int) = ((2 ^ n - 1 : Nat) : Int))) = false := by rw [hm]; simp
            simp -implicitDefEqProofs only [s_s, argEnv, PastOK, PendOK, sel, isE, isSp, baseOK, opR, opnd, opnds, opndL, ofConst, look, putE, dstOK, guardL, binR, intOp, loadR, bad, bound, lenV, srcV, Ob.read, V.plain, V.one, V.cells, fillV, setMany, zeros, TK.agg, Sub, cellRes, loadV, bindE, Nat.reduceAdd, Nat.reduceEqDiff, Nat.reduceLT, Nat.reduceLeDiff, Nat.reduceMul, Nat.reduceSub, Nat.reduceDiv, Nat.reduceMod, Nat.reduceBEq, Nat.reduceBNe, reduceIte, reduceCtorEq, Int.reduceToNat, Int.reduceLT, Int.reduceLE, Int.reduceAdd, Int.reduceSub, Int.reduceMul, Int.reduceNeg, Int.reduceEq, Int.reduceNe, D_G, D_P, List.lookup, tys, intsV_len, e1, e2, d5, w1]
            repeat (refine And.intro (by first | omega | rfl | trivial | (simp; done) | (simp; omega)) ?_)
            refine Kl.next (i + 1) ⟨by omega, ?_⟩ (by omega) (by simp -implicitDefEqProofs only [s_s, argEnv, PastOK, PendOK, sel, isE, isSp, baseOK, opR, opnd, opnds, opndL, ofConst, look, putE, dstOK, guardL, binR, intOp, loadR, bad, bound, lenV, srcV, Ob.read, V.plain, V.one, V.cells, fillV, setMany, zeros, TK.agg, Sub, cellRes, loadV, bindE, Nat.reduceAdd, Nat.reduceEqDiff, Nat.reduceLT, Nat.reduceLeDiff, Nat.reduceMul, Nat.reduceSub, Nat.reduceDiv, Nat.reduceMod, Nat.reduceBEq, Nat.reduceBNe, reduceIte, reduceCtorEq, Int.reduceToNat, Int.reduceLT, Int.reduceLE, Int.reduceAdd, Int.reduceSub, Int.reduceMul, Int.reduceNeg, Int.reduceEq, Int.reduceNe, D_G, D_P, List.lookup, tys, intsV_len]; try simp) rfl
            have hrow : rowB1 n r = true := by
              simp only [rowB1, Bool.and_eq_true, List.all_eq_true, decide_eq_true_eq]
              exact ⟨⟨hrl, hjn⟩, hm⟩
            rw [htk, List.all_append, hall]
            simp [hrow]
          · have d5 : (!decide (((maskR r : Nat) : Int) = ((2 ^ n - 1 : Nat) : Int))) = true := by
              simp only [Int.ofNat_inj, Bool.not_eq_true', decide_eq_false_iff_not]; exact hm
            have hbad : latinB n L = false := latinB_bad hrm (by simp [rowB1, hm])
            simp -implicitDefEqProofs only [s_s, argEnv, PastOK, PendOK, sel, isE, isSp, baseOK, opR, opnd, opnds, opndL, ofConst, look, putE, dstOK, guardL, binR, intOp, loadR, bad, bound, lenV, srcV, Ob.read, V.plain, V.one, V.cells, fillV, setMany, zeros, TK.agg, Sub, cellRes, loadV, bindE, Nat.reduceAdd, Nat.reduceEqDiff, Nat.reduceLT, Nat.reduceLeDiff, Nat.reduceMul, Nat.reduceSub, Nat.reduceDiv, Nat.reduceMod, Nat.reduceBEq, Nat.reduceBNe, reduceIte, reduceCtorEq, Int.reduceToNat, Int.reduceLT, Int.reduceLE, Int.reduceAdd, Int.reduceSub, Int.reduceMul, Int.reduceNeg, Int.reduceEq, Int.reduceNe, D_G, D_P, List.lookup, tys, intsV_len, e1, e2, d5]
            repeat (refine And.intro (by first | omega | rfl | trivial | (simp; done) | (simp; omega)) ?_)
            exact Post.r1 rfl ⟨_, _, rfl, .keep rfl, by simp [hbad]⟩
      · have d2 : (!decide ((r.length : Int) = (n : Int))) = true := by simp; omega
        have hbad : latinB n L = false := latinB_bad hrm (by simp [rowB1, hrl])
        simp -implicitDefEqProofs only [s_s, argEnv, PastOK, PendOK, sel, isE, isSp, baseOK, opR, opnd, opnds, opndL, ofConst, look, putE, dstOK, guardL, binR, intOp, loadR, bad, bound, lenV, srcV, Ob.read, V.plain, V.one, V.cells, fillV, setMany, zeros, TK.agg, Sub, cellRes, loadV, bindE, Nat.reduceAdd, Nat.reduceEqDiff, Nat.reduceLT, Nat.reduceLeDiff, Nat.reduceMul, Nat.reduceSub, Nat.reduceDiv, Nat.reduceMod, Nat.reduceBEq, Nat.reduceBNe, reduceIte, reduceCtorEq, Int.reduceToNat, Int.reduceLT, Int.reduceLE, Int.reduceAdd, Int.reduceSub, Int.reduceMul, Int.reduceNeg, Int.reduceEq, Int.reduceNe, D_G, D_P, List.lookup, tys, intsV_len, hv, rowV, d2]
        repeat (refine And.intro (by first | omega | rfl | trivial | (simp; done) | (simp; omega)) ?_)
        exact Post.r1 rfl ⟨_, _, rfl, .keep rfl, by simp [hbad]⟩
    · have h' : i = n := by have := of_decide_eq_false h; omega
      have htk : L.take i = L := by rw [h', ← hL, List.take_length]
      rw [htk] at hall hin
      rw [htk]
      simp -implicitDefEqProofs only [s_s, argEnv, PastOK, PendOK, sel, isE, isSp, baseOK, opR, opnd, opnds, opndL, ofConst, look, putE, dstOK, guardL, binR, intOp, loadR, bad, bound, lenV, srcV, Ob.read, V.plain, V.one, V.cells, fillV, setMany, zeros, TK.agg, Sub, cellRes, loadV, bindE, Nat.reduceAdd, Nat.reduceEqDiff, Nat.reduceLT, Nat.reduceLeDiff, Nat.reduceMul, Nat.reduceSub, Nat.reduceDiv, Nat.reduceMod, Nat.reduceBEq, Nat.reduceBNe, reduceIte, reduceCtorEq, Int.reduceToNat, Int.reduceLT, Int.reduceLE, Int.reduceAdd, Int.reduceSub, Int.reduceMul, Int.reduceNeg, Int.reduceEq, Int.reduceNe, D_G, D_P, List.lookup, tys, intsV_len]
      refine Sp.call rfl rfl (VCall.iso (args' := [.lst 1 (colsV n (maskC L)), .fn (.func 58) [.pptr [.int .i64 n] 0]]) (.cons (Conv.whole (by omega) (ob := .cells 0 (colsV n (maskC L))) (by simp) (by simp [Ob.read]) (by simp [colsV_len]) (colsV_bdd _ _ _)) (.cons (.fn (.cons (.ptr (by omega) (ob := .cells 0 [.int .i64 n]) (by simp) (by simp [Ob.read]) rfl (.cons (.keep rfl) .nil)) .nil)) .nil)) ?_)
      refine (ContainsFunc57 58 [.pptr [.int .i64 n] 0] (colsV n (maskC L)) (fun v => match v with | .int _ m => !decide (m = ((2 ^ n - 1 : Nat) : Int)) | _ => false) (by rw [colsV_len]; omega) [] ?_).mono ?_
      · intro v hv
        simp only [colsV, List.mem_map] at hv
        obtain ⟨c, _, rfl⟩ := hv
        refine (latin1_spec n hn _ []).mono ?_
        rintro r st' ⟨rfl, rfl⟩
        exact ⟨by simp [Int.ofNat_inj], rfl⟩
      · rintro r st' ⟨rfl, rfl⟩
        refine ⟨rfl, rfl, ?_⟩
        simp -implicitDefEqProofs only [s_s, argEnv, PastOK, PendOK, sel, isE, isSp, baseOK, opR, opnd, opnds, opndL, ofConst, look, putE, dstOK, guardL, binR, intOp, loadR, bad, bound, lenV, srcV, Ob.read, V.plain, V.one, V.cells, fillV, setMany, zeros, TK.agg, Sub, cellRes, loadV, bindE, Nat.reduceAdd, Nat.reduceEqDiff, Nat.reduceLT, Nat.reduceLeDiff, Nat.reduceMul, Nat.reduceSub, Nat.reduceDiv, Nat.reduceMod, Nat.reduceBEq, Nat.reduceBNe, reduceIte, reduceCtorEq, Int.reduceToNat, Int.reduceLT, Int.reduceLE, Int.reduceAdd, Int.reduceSub, Int.reduceMul, Int.reduceNeg, Int.reduceEq, Int.reduceNe, D_G, D_P, List.lookup, tys, intsV_len]
        refine Post.r1 rfl ⟨_, _, rfl, .keep rfl, ?_⟩
        simp only [latinB, hall, hL, decide_true, Bool.true_and, colsV, List.any_map, V.bool.injEq, and_true]
        rw [List.not_any_eq_all_not]
        congr 1
        funext c
        simp [Int.ofNat_inj]
  · have d1 : (!decide ((L.length : Int) = (n : Int))) = true := by simp; omega
    simp -implicitDefEqProofs only [s_s, argEnv, PastOK, PendOK, sel, isE, isSp, baseOK, opR, opnd, opnds, opndL, ofConst, look, putE, dstOK, guardL, binR, intOp, loadR, bad, bound, lenV, srcV, Ob.read, V.plain, V.one, V.cells, fillV, setMany, zeros, TK.agg, Sub, cellRes, loadV, bindE, Nat.reduceAdd, Nat.reduceEqDiff, Nat.reduceLT, Nat.reduceLeDiff, Nat.reduceMul, Nat.reduceSub, Nat.reduceDiv, Nat.reduceMod, Nat.reduceBEq, Nat.reduceBNe, reduceIte, reduceCtorEq, Int.reduceToNat, Int.reduceLT, Int.reduceLE, Int.reduceAdd, Int.reduceSub, Int.reduceMul, Int.reduceNeg, Int.reduceEq, Int.reduceNe, D_G, D_P, List.lookup, tys, intsV_len, Tryd.ntmps50, Tryd.f50, sqV, d1]
    exact Post.r1 rfl ⟨_, _, rfl, .keep rfl, by simp [latinB, hL]⟩
end Go.VL
end

/- The array seat: arrays of Latin squares. -/
section
set_option linter.unusedSimpArgs false
set_option linter.unusedVariables false
set_option maxRecDepth 4000
namespace Go.VL
open Go Go.Proofs

def cubeV (Ls : List (List (List Int))) : V := .lst 1 (Ls.map sqV)
def fsRow (n : Nat) (Ls : List (List (List Int))) (p : Nat) : List Int := ((p / n : Nat) : Int) :: ((p % n : Nat) : Int) :: Ls.map fun L => (((L[p / n]?).getD [])[p % n]?).getD 0
def fsR (n : Nat) (Ls : List (List (List Int))) : List (List Int) := (List.range (n * n)).map (fsRow n Ls)
def fsOK (n : Int) (Ls : List (List (List Int))) : Prop := 2 ≤ n ∧ n ≤ 8 ∧ Ls.length ≤ 6 ∧ Ls.all (latinB n.toNat) = true
instance (n : Int) (Ls : List (List (List Int))) : Decidable (fsOK n Ls) := inferInstanceAs (Decidable (_ ∧ _))

theorem fs1_spec (n : Nat) (hn1 : 1 ≤ n) (hn : n ≤ 8) (L : List (List Int)) (st : St) : VCall D 49 [sqV L, .pptr [.int .i64 n] 0] st (fun r st' => r = .bool (!latinB n L) ∧ st' = st) := by
  refine VCall.of_WP (fn := Tryd.f49) (c := _) Tryd.func49 rfl (by decide +kernel) (Nat.le_of_ble_eq_true rfl) ?_
  refine wpF_sound ?_
  simp -implicitDefEqProofs only [s_s, argEnv, PastOK, PendOK, sel, isE, isSp, baseOK, opR, opnd, opnds, opndL, ofConst, look, putE, dstOK, guardL, binR, intOp, loadR, bad, bound, lenV, srcV, Ob.read, V.plain, V.one, V.cells, fillV, setMany, zeros, TK.agg, Sub, cellRes, loadV, bindE, Nat.reduceAdd, Nat.reduceEqDiff, Nat.reduceLT, Nat.reduceLeDiff, Nat.reduceMul, Nat.reduceSub, Nat.reduceDiv, Nat.reduceMod, Nat.reduceBEq, Nat.reduceBNe, reduceIte, reduceCtorEq, Int.reduceToNat, Int.reduceLT, Int.reduceLE, Int.reduceAdd, Int.reduceSub, Int.reduceMul, Int.reduceNeg, Int.reduceEq, Int.reduceNe, D_G, D_P, List.lookup, tys, intsV_len, Tryd.ntmps49, Tryd.f49]
  refine Sp.call rfl rfl ((latin_spec n hn1 hn L _).mono ?_)
  rintro r st' ⟨rfl, rfl⟩
  simp -implicitDefEqProofs only [s_s, argEnv, PastOK, PendOK, sel, isE, isSp, baseOK, opR, opnd, opnds, opndL, ofConst, look, putE, dstOK, guardL, binR, intOp, loadR, bad, bound, lenV, srcV, Ob.read, V.plain, V.one, V.cells, fillV, setMany, zeros, TK.agg, Sub, cellRes, loadV, bindE, Nat.reduceAdd, Nat.reduceEqDiff, Nat.reduceLT, Nat.reduceLeDiff, Nat.reduceMul, Nat.reduceSub, Nat.reduceDiv, Nat.reduceMod, Nat.reduceBEq, Nat.reduceBNe, reduceIte, reduceCtorEq, Int.reduceToNat, Int.reduceLT, Int.reduceLE, Int.reduceAdd, Int.reduceSub, Int.reduceMul, Int.reduceNeg, Int.reduceEq, Int.reduceNe, D_G, D_P, List.lookup, tys, intsV_len]
  exact Post.r1 rfl ⟨rfl, rfl⟩

theorem bdd_sq (m : Nat) (L : List (List Int)) : (sqV L).bdd m = true := bdd_rows m L
theorem bdd_cube (m : Nat) (Ls : List (List (List Int))) : bddL m (Ls.map sqV) = true := by
  rw [bddL_iff]; intro c hc; simp only [List.mem_map] at hc; obtain ⟨x, _, rfl⟩ := hc; exact bdd_sq m x

theorem latinB_dim {n : Nat} {L : List (List Int)} (h : latinB n L = true) : L.length = n ∧ ∀ r ∈ L, r.length = n ∧ ∀ x ∈ r, 0 ≤ x ∧ x < n := by
  simp only [latinB, Bool.and_eq_true, List.all_eq_true, decide_eq_true_eq] at h
  refine ⟨h.1.1, fun r hr => ?_⟩
  have := h.1.2 r hr
  simp only [rowB1, Bool.and_eq_true, List.all_eq_true, decide_eq_true_eq] at this
  exact this.1

def unI : V → Int
  | .int _ n => n
  | _ => 0
def unR : V → List Int
  | .lst _ cs => cs.map unI
  | _ => []
def unSq : V → List (List Int)
  | .lst _ cs => cs.map unR
  | _ => []
theorem unR_row (l : List Int) : unR (rowV l) = l := by
  simp only [unR, rowV, intsV, List.map_map]
  conv => rhs; rw [← List.map_id l]
  rfl
theorem unSq_sq (L : List (List Int)) : unSq (sqV L) = L := by
  simp only [unSq, sqV, List.map_map]
  conv => rhs; rw [← List.map_id L]
  exact List.map_congr_left fun r _ => unR_row r

theorem FromSquares_spec (n : Int) (Ls : List (List (List Int))) (hLs : Ls.length < 1000) (st : St) :
    VCall D 40 [.int .i64 n, cubeV Ls] st (fun r st' => r = (if fsOK n Ls then selV n (fsR n.toNat Ls) 0 else selV 0 [] 1) ∧ st' = st) := by
  refine VCall.clean ?_
  refine VCall.of_WPB (fn := Tryd.f40) (c := _) Tryd.func40 rfl (by decide +kernel) (Nat.le_of_ble_eq_true rfl) fun hB => ?_
  refine wpF_sound ?_
  by_cases c1 : n < 2
  · have d1 : decide (n < 2) = true := by simp [c1]
    simp -implicitDefEqProofs only [s_s, argEnv, PastOK, PendOK, sel, isE, isSp, baseOK, opR, opnd, opnds, opndL, ofConst, look, putE, dstOK, guardL, binR, intOp, loadR, bad, bound, lenV, srcV, Ob.read, V.plain, V.one, V.cells, fillV, setMany, zeros, TK.agg, Sub, cellRes, loadV, bindE, Nat.reduceAdd, Nat.reduceEqDiff, Nat.reduceLT, Nat.reduceLeDiff, Nat.reduceMul, Nat.reduceSub, Nat.reduceDiv, Nat.reduceMod, Nat.reduceBEq, Nat.reduceBNe, reduceIte, reduceCtorEq, Int.reduceToNat, Int.reduceLT, Int.reduceLE, Int.reduceAdd, Int.reduceSub, Int.reduceMul, Int.reduceNeg, Int.reduceEq, Int.reduceNe, D_G, D_P, List.lookup, tys, intsV_len, Tryd.ntmps40, Tryd.f40, cubeV, d1]
    exact Post.rct (v := .agg [.int .i64 0, .e0]) (x := .int .i64 1) (by simp -implicitDefEqProofs only [s_s, argEnv, PastOK, PendOK, sel, isE, isSp, baseOK, opR, opnd, opnds, opndL, ofConst, look, putE, dstOK, guardL, binR, intOp, loadR, bad, bound, lenV, srcV, Ob.read, V.plain, V.one, V.cells, fillV, setMany, zeros, TK.agg, Sub, cellRes, loadV, bindE, Nat.reduceAdd, Nat.reduceEqDiff, Nat.reduceLT, Nat.reduceLeDiff, Nat.reduceMul, Nat.reduceSub, Nat.reduceDiv, Nat.reduceMod, Nat.reduceBEq, Nat.reduceBNe, reduceIte, reduceCtorEq, Int.reduceToNat, Int.reduceLT, Int.reduceLE, Int.reduceAdd, Int.reduceSub, Int.reduceMul, Int.reduceNeg, Int.reduceEq, Int.reduceNe, D_G, D_P, List.lookup, tys, intsV_len]) (by simp -implicitDefEqProofs only [s_s, argEnv, PastOK, PendOK, sel, isE, isSp, baseOK, opR, opnd, opnds, opndL, ofConst, look, putE, dstOK, guardL, binR, intOp, loadR, bad, bound, lenV, srcV, Ob.read, V.plain, V.one, V.cells, fillV, setMany, zeros, TK.agg, Sub, cellRes, loadV, bindE, Nat.reduceAdd, Nat.reduceEqDiff, Nat.reduceLT, Nat.reduceLeDiff, Nat.reduceMul, Nat.reduceSub, Nat.reduceDiv, Nat.reduceMod, Nat.reduceBEq, Nat.reduceBNe, reduceIte, reduceCtorEq, Int.reduceToNat, Int.reduceLT, Int.reduceLE, Int.reduceAdd, Int.reduceSub, Int.reduceMul, Int.reduceNeg, Int.reduceEq, Int.reduceNe, D_G, D_P, List.lookup, tys, intsV_len]) ⟨selV 0 [] 1, _, rfl, .tup (.cons (.agg (.cons (.keep rfl) (.cons .e0 .nil))) (.cons (.keep rfl) .nil)), by rw [if_neg (fun hs => by have := hs.1; omega)]⟩
  have d1 : decide (n < 2) = false := by simp; omega
  by_cases c2 : 8 < n
  · have d2 : decide (8 < n) = true := by simp [c2]
    simp -implicitDefEqProofs only [s_s, argEnv, PastOK, PendOK, sel, isE, isSp, baseOK, opR, opnd, opnds, opndL, ofConst, look, putE, dstOK, guardL, binR, intOp, loadR, bad, bound, lenV, srcV, Ob.read, V.plain, V.one, V.cells, fillV, setMany, zeros, TK.agg, Sub, cellRes, loadV, bindE, Nat.reduceAdd, Nat.reduceEqDiff, Nat.reduceLT, Nat.reduceLeDiff, Nat.reduceMul, Nat.reduceSub, Nat.reduceDiv, Nat.reduceMod, Nat.reduceBEq, Nat.reduceBNe, reduceIte, reduceCtorEq, Int.reduceToNat, Int.reduceLT, Int.reduceLE, Int.reduceAdd, Int.reduceSub, Int.reduceMul, Int.reduceNeg, Int.reduceEq, Int.reduceNe, D_G, D_P, List.lookup, tys, intsV_len, Tryd.ntmps40, Tryd.f40, cubeV, d1, d2]
    exact Post.rct (v := .agg [.int .i64 0, .e0]) (x := .int .i64 1) (by simp -implicitDefEqProofs only [s_s, argEnv, PastOK, PendOK, sel, isE, isSp, baseOK, opR, opnd, opnds, opndL, ofConst, look, putE, dstOK, guardL, binR, intOp, loadR, bad, bound, lenV, srcV, Ob.read, V.plain, V.one, V.cells, fillV, setMany, zeros, TK.agg, Sub, cellRes, loadV, bindE, Nat.reduceAdd, Nat.reduceEqDiff, Nat.reduceLT, Nat.reduceLeDiff, Nat.reduceMul, Nat.reduceSub, Nat.reduceDiv, Nat.reduceMod, Nat.reduceBEq, Nat.reduceBNe, reduceIte, reduceCtorEq, Int.reduceToNat, Int.reduceLT, Int.reduceLE, Int.reduceAdd, Int.reduceSub, Int.reduceMul, Int.reduceNeg, Int.reduceEq, Int.reduceNe, D_G, D_P, List.lookup, tys, intsV_len]) (by simp -implicitDefEqProofs only [s_s, argEnv, PastOK, PendOK, sel, isE, isSp, baseOK, opR, opnd, opnds, opndL, ofConst, look, putE, dstOK, guardL, binR, intOp, loadR, bad, bound, lenV, srcV, Ob.read, V.plain, V.one, V.cells, fillV, setMany, zeros, TK.agg, Sub, cellRes, loadV, bindE, Nat.reduceAdd, Nat.reduceEqDiff, Nat.reduceLT, Nat.reduceLeDiff, Nat.reduceMul, Nat.reduceSub, Nat.reduceDiv, Nat.reduceMod, Nat.reduceBEq, Nat.reduceBNe, reduceIte, reduceCtorEq, Int.reduceToNat, Int.reduceLT, Int.reduceLE, Int.reduceAdd, Int.reduceSub, Int.reduceMul, Int.reduceNeg, Int.reduceEq, Int.reduceNe, D_G, D_P, List.lookup, tys, intsV_len]) ⟨selV 0 [] 1, _, rfl, .tup (.cons (.agg (.cons (.keep rfl) (.cons .e0 .nil))) (.cons (.keep rfl) .nil)), by rw [if_neg (fun hs => by have := hs.2.1; omega)]⟩
  have d2 : decide (8 < n) = false := by simp; omega
  obtain ⟨n, rfl⟩ := Int.eq_ofNat_of_zero_le (show 0 ≤ n by omega)
  by_cases c3 : 6 < Ls.length
  · have d3 : decide ((6 : Int) < Ls.length) = true := by simp; omega
    simp -implicitDefEqProofs only [s_s, argEnv, PastOK, PendOK, sel, isE, isSp, baseOK, opR, opnd, opnds, opndL, ofConst, look, putE, dstOK, guardL, binR, intOp, loadR, bad, bound, lenV, srcV, Ob.read, V.plain, V.one, V.cells, fillV, setMany, zeros, TK.agg, Sub, cellRes, loadV, bindE, Nat.reduceAdd, Nat.reduceEqDiff, Nat.reduceLT, Nat.reduceLeDiff, Nat.reduceMul, Nat.reduceSub, Nat.reduceDiv, Nat.reduceMod, Nat.reduceBEq, Nat.reduceBNe, reduceIte, reduceCtorEq, Int.reduceToNat, Int.reduceLT, Int.reduceLE, Int.reduceAdd, Int.reduceSub, Int.reduceMul, Int.reduceNeg, Int.reduceEq, Int.reduceNe, D_G, D_P, List.lookup, tys, intsV_len, Tryd.ntmps40, Tryd.f40, cubeV, d1, d2, d3]
    exact Post.rct (v := .agg [.int .i64 0, .e0]) (x := .int .i64 1) (by simp -implicitDefEqProofs only [s_s, argEnv, PastOK, PendOK, sel, isE, isSp, baseOK, opR, opnd, opnds, opndL, ofConst, look, putE, dstOK, guardL, binR, intOp, loadR, bad, bound, lenV, srcV, Ob.read, V.plain, V.one, V.cells, fillV, setMany, zeros, TK.agg, Sub, cellRes, loadV, bindE, Nat.reduceAdd, Nat.reduceEqDiff, Nat.reduceLT, Nat.reduceLeDiff, Nat.reduceMul, Nat.reduceSub, Nat.reduceDiv, Nat.reduceMod, Nat.reduceBEq, Nat.reduceBNe, reduceIte, reduceCtorEq, Int.reduceToNat, Int.reduceLT, Int.reduceLE, Int.reduceAdd, Int.reduceSub, Int.reduceMul, Int.reduceNeg, Int.reduceEq, Int.reduceNe, D_G, D_P, List.lookup, tys, intsV_len]) (by simp -implicitDefEqProofs only [s_s, argEnv, PastOK, PendOK, sel, isE, isSp, baseOK, opR, opnd, opnds, opndL, ofConst, look, putE, dstOK, guardL, binR, intOp, loadR, bad, bound, lenV, srcV, Ob.read, V.plain, V.one, V.cells, fillV, setMany, zeros, TK.agg, Sub, cellRes, loadV, bindE, Nat.reduceAdd, Nat.reduceEqDiff, Nat.reduceLT, Nat.reduceLeDiff, Nat.reduceMul, Nat.reduceSub, Nat.reduceDiv, Nat.reduceMod, Nat.reduceBEq, Nat.reduceBNe, reduceIte, reduceCtorEq, Int.reduceToNat, Int.reduceLT, Int.reduceLE, Int.reduceAdd, Int.reduceSub, Int.reduceMul, Int.reduceNeg, Int.reduceEq, Int.reduceNe, D_G, D_P, List.lookup, tys, intsV_len]) ⟨selV 0 [] 1, _, rfl, .tup (.cons (.agg (.cons (.keep rfl) (.cons .e0 .nil))) (.cons (.keep rfl) .nil)), by rw [if_neg (fun hs => by have := hs.2.2.1; omega)]⟩
  have d3 : decide ((6 : Int) < Ls.length) = false := by simp; omega
  simp -implicitDefEqProofs only [s_s, argEnv, PastOK, PendOK, sel, isE, isSp, baseOK, opR, opnd, opnds, opndL, ofConst, look, putE, dstOK, guardL, binR, intOp, loadR, bad, bound, lenV, srcV, Ob.read, V.plain, V.one, V.cells, fillV, setMany, zeros, TK.agg, Sub, cellRes, loadV, bindE, Nat.reduceAdd, Nat.reduceEqDiff, Nat.reduceLT, Nat.reduceLeDiff, Nat.reduceMul, Nat.reduceSub, Nat.reduceDiv, Nat.reduceMod, Nat.reduceBEq, Nat.reduceBNe, reduceIte, reduceCtorEq, Int.reduceToNat, Int.reduceLT, Int.reduceLE, Int.reduceAdd, Int.reduceSub, Int.reduceMul, Int.reduceNeg, Int.reduceEq, Int.reduceNe, D_G, D_P, List.lookup, tys, intsV_len, Tryd.ntmps40, Tryd.f40, cubeV, d1, d2, d3]
  refine Sp.call rfl rfl (VCall.iso (args' := [.lst 1 (Ls.map sqV), .fn (.func 49) [.pptr [.int .i64 n] 0]]) (.cons (.keep (by simp only [V.bdd, bdd_cube])) (.cons (.fn (.cons (.ptr (by omega) (ob := .cells 0 [.int .i64 n]) (by simp) (by simp [Ob.read]) rfl (.cons (.keep rfl) .nil)) .nil)) .nil)) ?_)
  refine (ContainsFunc48 49 [.pptr [.int .i64 n] 0] (Ls.map sqV) (fun v => !latinB n (unSq v)) (by simpa using hLs) [] ?_).mono ?_
  · intro v hv
    simp only [List.mem_map] at hv
    obtain ⟨L, _, rfl⟩ := hv
    refine (fs1_spec n (by omega) (by omega) L []).mono ?_
    rintro r st' ⟨rfl, rfl⟩
    exact ⟨by simp only [unSq_sq], rfl⟩
  · rintro r st' ⟨rfl, rfl⟩
    refine ⟨rfl, rfl, ?_⟩
    have hany : ((Ls.map sqV).any fun v => !latinB n (unSq v)) = !(Ls.all (latinB n)) := by
      rw [List.any_map, List.not_all_eq_any_not]
      congr 1
      funext L
      simp only [Function.comp, unSq_sq]
    rw [hany]
    simp -implicitDefEqProofs only [s_s, argEnv, PastOK, PendOK, sel, isE, isSp, baseOK, opR, opnd, opnds, opndL, ofConst, look, putE, dstOK, guardL, binR, intOp, loadR, bad, bound, lenV, srcV, Ob.read, V.plain, V.one, V.cells, fillV, setMany, zeros, TK.agg, Sub, cellRes, loadV, bindE, Nat.reduceAdd, Nat.reduceEqDiff, Nat.reduceLT, Nat.reduceLeDiff, Nat.reduceMul, Nat.reduceSub, Nat.reduceDiv, Nat.reduceMod, Nat.reduceBEq, Nat.reduceBNe, reduceIte, reduceCtorEq, Int.reduceToNat, Int.reduceLT, Int.reduceLE, Int.reduceAdd, Int.reduceSub, Int.reduceMul, Int.reduceNeg, Int.reduceEq, Int.reduceNe, D_G, D_P, List.lookup, tys, intsV_len]
    by_cases c4 : Ls.all (latinB n) = true
    · have hok : fsOK n Ls := ⟨by omega, by omega, by omega, by simpa using c4⟩
      rw [if_pos hok]
      have hnn : n * n ≤ 8 * 8 := Nat.mul_le_mul (by omega) (by omega)
      have v0 : IntKind.i64.wrap ((n : Int) * (n : Int)) = ((n * n : Nat) : Int) := by rw [← Int.natCast_mul]; exact wrapI (by omega) (by omega)
      have hdim : ∀ L ∈ Ls, L.length = n ∧ ∀ r ∈ L, r.length = n := fun L hL => by
        obtain ⟨h1, h2⟩ := latinB_dim (List.all_eq_true.1 c4 L hL)
        exact ⟨h1, fun r hr => (h2 r hr).1⟩
      simp -implicitDefEqProofs only [s_s, argEnv, PastOK, PendOK, sel, isE, isSp, baseOK, opR, opnd, opnds, opndL, ofConst, look, putE, dstOK, guardL, binR, intOp, loadR, bad, bound, lenV, srcV, Ob.read, V.plain, V.one, V.cells, fillV, setMany, zeros, TK.agg, Sub, cellRes, loadV, bindE, Nat.reduceAdd, Nat.reduceEqDiff, Nat.reduceLT, Nat.reduceLeDiff, Nat.reduceMul, Nat.reduceSub, Nat.reduceDiv, Nat.reduceMod, Nat.reduceBEq, Nat.reduceBNe, reduceIte, reduceCtorEq, Int.reduceToNat, Int.reduceLT, Int.reduceLE, Int.reduceAdd, Int.reduceSub, Int.reduceMul, Int.reduceNeg, Int.reduceEq, Int.reduceNe, D_G, D_P, List.lookup, tys, intsV_len, c4, v0]
      refine WP.seed 1 (st.length + 3) [(1, .lst 1 (Ls.map sqV)), (2, .ptr st.length 0 0), (4, .ptr (st.length + 1) 0 0), (6, .ptr (st.length + 2) 0 0), (32, .int .i64 (n * n : Nat)), (33, .int .i64 0)] (st ++ [.cells 0 [.int .i64 n], .cells 0 [.int .i64 0, .e0], .cells 0 [.int .i64 n, .slc (st.length + 3) 0 0 0 1]]) (by simp) (by decide) (by simp [SeedE, SeedV, look]) (SeedS.app (.keep (.keep (.cells (.keep (.e0 .nil)) .nil)))) ?_
      simp -implicitDefEqProofs only [s_s, argEnv, PastOK, PendOK, sel, isE, isSp, baseOK, opR, opnd, opnds, opndL, ofConst, look, putE, dstOK, guardL, binR, intOp, loadR, bad, bound, lenV, srcV, Ob.read, V.plain, V.one, V.cells, fillV, setMany, zeros, TK.agg, Sub, cellRes, loadV, bindE, Nat.reduceAdd, Nat.reduceEqDiff, Nat.reduceLT, Nat.reduceLeDiff, Nat.reduceMul, Nat.reduceSub, Nat.reduceDiv, Nat.reduceMod, Nat.reduceBEq, Nat.reduceBNe, reduceIte, reduceCtorEq, Int.reduceToNat, Int.reduceLT, Int.reduceLE, Int.reduceAdd, Int.reduceSub, Int.reduceMul, Int.reduceNeg, Int.reduceEq, Int.reduceNe, D_G, D_P, List.lookup, tys, intsV_len]
      refine WP.loopC (ι := Nat) (fun i => [(1, .lst 1 (Ls.map sqV)), (2, .ptr st.length 0 0), (4, .ptr (st.length + 1) 0 0), (6, .ptr (st.length + 2) 0 0), (32, .int .i64 (n * n : Nat)), (33, .int .i64 i)])
        (fun i => st ++ [.cells 0 [.int .i64 n], .cells 0 [.int .i64 0, .e0], .cells 0 [.int .i64 n, .slc (st.length + 3) i 0 i 1], .acc i (((List.range i).map (fsRow n Ls)).map rowV)]) (fun i => i ≤ n * n) (fun i => n * n - i) 0 (by omega) (by simp -implicitDefEqProofs only [s_s, argEnv, PastOK, PendOK, sel, isE, isSp, baseOK, opR, opnd, opnds, opndL, ofConst, look, putE, dstOK, guardL, binR, intOp, loadR, bad, bound, lenV, srcV, Ob.read, V.plain, V.one, V.cells, fillV, setMany, zeros, TK.agg, Sub, cellRes, loadV, bindE, Nat.reduceAdd, Nat.reduceEqDiff, Nat.reduceLT, Nat.reduceLeDiff, Nat.reduceMul, Nat.reduceSub, Nat.reduceDiv, Nat.reduceMod, Nat.reduceBEq, Nat.reduceBNe, reduceIte, reduceCtorEq, Int.reduceToNat, Int.reduceLT, Int.reduceLE, Int.reduceAdd, Int.reduceSub, Int.reduceMul, Int.reduceNeg, Int.reduceEq, Int.reduceNe, D_G, D_P, List.lookup, tys, intsV_len]; simp) (by simp) (fun p => by simp -implicitDefEqProofs only [s_s, argEnv, PastOK, PendOK, sel, isE, isSp, baseOK, opR, opnd, opnds, opndL, ofConst, look, putE, dstOK, guardL, binR, intOp, loadR, bad, bound, lenV, srcV, Ob.read, V.plain, V.one, V.cells, fillV, setMany, zeros, TK.agg, Sub, cellRes, loadV, bindE, Nat.reduceAdd, Nat.reduceEqDiff, Nat.reduceLT, Nat.reduceLeDiff, Nat.reduceMul, Nat.reduceSub, Nat.reduceDiv, Nat.reduceMod, Nat.reduceBEq, Nat.reduceBNe, reduceIte, reduceCtorEq, Int.reduceToNat, Int.reduceLT, Int.reduceLE, Int.reduceAdd, Int.reduceSub, Int.reduceMul, Int.reduceNeg, Int.reduceEq, Int.reduceNe, D_G, D_P, List.lookup, tys, intsV_len]) ?_
      intro p hp
      obtain ⟨RV, hRV⟩ : ∃ RV, RV = ((List.range p).map (fsRow n Ls)).map rowV := ⟨_, rfl⟩
      have hRl : RV.length = p := by simp [hRV]
      have hRb : ∀ m, bddL m RV = true := fun m => by rw [hRV]; exact bdd_rows _ _
      simp -implicitDefEqProofs only [s_s, argEnv, PastOK, PendOK, sel, isE, isSp, baseOK, opR, opnd, opnds, opndL, ofConst, look, putE, dstOK, guardL, binR, intOp, loadR, bad, bound, lenV, srcV, Ob.read, V.plain, V.one, V.cells, fillV, setMany, zeros, TK.agg, Sub, cellRes, loadV, bindE, Nat.reduceAdd, Nat.reduceEqDiff, Nat.reduceLT, Nat.reduceLeDiff, Nat.reduceMul, Nat.reduceSub, Nat.reduceDiv, Nat.reduceMod, Nat.reduceBEq, Nat.reduceBNe, reduceIte, reduceCtorEq, Int.reduceToNat, Int.reduceLT, Int.reduceLE, Int.reduceAdd, Int.reduceSub, Int.reduceMul, Int.reduceNeg, Int.reduceEq, Int.reduceNe, D_G, D_P, List.lookup, tys, intsV_len]
      refine Br.intro (fun hb => ?_) (fun hb => ?_)
      · have h' : p < n * n := by have := of_decide_eq_true hb; omega
        have hd1 : p / n < n := Nat.div_lt_of_lt_mul h'
        have hd2 : p % n < n := Nat.mod_lt _ (by omega)
        have v1 : IntKind.i64.wrap ((p : Int).tdiv (n : Int)) = ((p / n : Nat) : Int) := by
          rw [← Int.ofNat_tdiv]; exact wrapI (Int.le_trans (by decide) (Int.natCast_nonneg _)) (Int.le_trans (Int.ofNat_le.2 (show p / n ≤ 8 by omega)) (by omega))
        have v2 := tmodN p n
        have w1 := wrapI (n := (p : Int) + 1) (by omega) (by omega)
        rw [← hRV]
        simp -implicitDefEqProofs only [s_s, argEnv, PastOK, PendOK, sel, isE, isSp, baseOK, opR, opnd, opnds, opndL, ofConst, look, putE, dstOK, guardL, binR, intOp, loadR, bad, bound, lenV, srcV, Ob.read, V.plain, V.one, V.cells, fillV, setMany, zeros, TK.agg, Sub, cellRes, loadV, bindE, Nat.reduceAdd, Nat.reduceEqDiff, Nat.reduceLT, Nat.reduceLeDiff, Nat.reduceMul, Nat.reduceSub, Nat.reduceDiv, Nat.reduceMod, Nat.reduceBEq, Nat.reduceBNe, reduceIte, reduceCtorEq, Int.reduceToNat, Int.reduceLT, Int.reduceLE, Int.reduceAdd, Int.reduceSub, Int.reduceMul, Int.reduceNeg, Int.reduceEq, Int.reduceNe, D_G, D_P, List.lookup, tys, intsV_len]
        refine WP.drawF [(0, 0, 0, [7]), (0, 0, 0, [2]), (3, 0, 0, [36, 37]), (0, 0, 0, [7]), (0, 0, 0, [2]), (24, 0, 0, [39, 40]), (63, 0, 1, [38, 41]), (127, 1, 1, [42])] D_mixed (by decide +kernel) ?_
        simp -implicitDefEqProofs only [s_s, argEnv, PastOK, PendOK, sel, isE, isSp, baseOK, opR, opnd, opnds, opndL, ofConst, look, putE, dstOK, guardL, binR, intOp, loadR, bad, bound, lenV, srcV, Ob.read, V.plain, V.one, V.cells, fillV, setMany, zeros, TK.agg, Sub, cellRes, loadV, bindE, Nat.reduceAdd, Nat.reduceEqDiff, Nat.reduceLT, Nat.reduceLeDiff, Nat.reduceMul, Nat.reduceSub, Nat.reduceDiv, Nat.reduceMod, Nat.reduceBEq, Nat.reduceBNe, reduceIte, reduceCtorEq, Int.reduceToNat, Int.reduceLT, Int.reduceLE, Int.reduceAdd, Int.reduceSub, Int.reduceMul, Int.reduceNeg, Int.reduceEq, Int.reduceNe, D_G, D_P, List.lookup, tys, intsV_len, v1, v2]
        repeat (refine And.intro (by first | omega | rfl | trivial | (simp; done) | (simp; omega)) ?_)
        refine WP.loopC (ι := Nat) (fun j => [(1, .lst 1 (Ls.map sqV)), (2, .ptr st.length 0 0), (4, .ptr (st.length + 1) 0 0), (6, .ptr (st.length + 2) 0 0), (32, .int .i64 (n * n : Nat)), (33, .int .i64 p), (7, .int .i64 p), (8, .slc (st.length + 4) j 0 (2 + j) 1), (43, .lst 1 (Ls.map sqV)), (44, .int .i64 Ls.length), (45, .int .i64 j)])
          (fun j => st ++ [.cells 0 [.int .i64 n], .cells 0 [.int .i64 0, .e0], .cells 0 [.int .i64 n, .slc (st.length + 3) p 0 p 1], .acc p RV, .cells j (intsV (fsRow n (Ls.take j) p))]) (fun j => j ≤ Ls.length) (fun j => Ls.length - j) 0 (by omega) (by simp -implicitDefEqProofs only [s_s, argEnv, PastOK, PendOK, sel, isE, isSp, baseOK, opR, opnd, opnds, opndL, ofConst, look, putE, dstOK, guardL, binR, intOp, loadR, bad, bound, lenV, srcV, Ob.read, V.plain, V.one, V.cells, fillV, setMany, zeros, TK.agg, Sub, cellRes, loadV, bindE, Nat.reduceAdd, Nat.reduceEqDiff, Nat.reduceLT, Nat.reduceLeDiff, Nat.reduceMul, Nat.reduceSub, Nat.reduceDiv, Nat.reduceMod, Nat.reduceBEq, Nat.reduceBNe, reduceIte, reduceCtorEq, Int.reduceToNat, Int.reduceLT, Int.reduceLE, Int.reduceAdd, Int.reduceSub, Int.reduceMul, Int.reduceNeg, Int.reduceEq, Int.reduceNe, D_G, D_P, List.lookup, tys, intsV_len]; try simp) (by simp [intsV, fsRow]) (fun p => by simp -implicitDefEqProofs only [s_s, argEnv, PastOK, PendOK, sel, isE, isSp, baseOK, opR, opnd, opnds, opndL, ofConst, look, putE, dstOK, guardL, binR, intOp, loadR, bad, bound, lenV, srcV, Ob.read, V.plain, V.one, V.cells, fillV, setMany, zeros, TK.agg, Sub, cellRes, loadV, bindE, Nat.reduceAdd, Nat.reduceEqDiff, Nat.reduceLT, Nat.reduceLeDiff, Nat.reduceMul, Nat.reduceSub, Nat.reduceDiv, Nat.reduceMod, Nat.reduceBEq, Nat.reduceBNe, reduceIte, reduceCtorEq, Int.reduceToNat, Int.reduceLT, Int.reduceLE, Int.reduceAdd, Int.reduceSub, Int.reduceMul, Int.reduceNeg, Int.reduceEq, Int.reduceNe, D_G, D_P, List.lookup, tys, intsV_len]) ?_
        intro j hj
        have hlen : (intsV (fsRow n (Ls.take j) p)).length = 2 + j := by simp [intsV, fsRow]; omega
        simp -implicitDefEqProofs only [s_s, argEnv, PastOK, PendOK, sel, isE, isSp, baseOK, opR, opnd, opnds, opndL, ofConst, look, putE, dstOK, guardL, binR, intOp, loadR, bad, bound, lenV, srcV, Ob.read, V.plain, V.one, V.cells, fillV, setMany, zeros, TK.agg, Sub, cellRes, loadV, bindE, Nat.reduceAdd, Nat.reduceEqDiff, Nat.reduceLT, Nat.reduceLeDiff, Nat.reduceMul, Nat.reduceSub, Nat.reduceDiv, Nat.reduceMod, Nat.reduceBEq, Nat.reduceBNe, reduceIte, reduceCtorEq, Int.reduceToNat, Int.reduceLT, Int.reduceLE, Int.reduceAdd, Int.reduceSub, Int.reduceMul, Int.reduceNeg, Int.reduceEq, Int.reduceNe, D_G, D_P, List.lookup, tys, intsV_len]
        refine Br.intro (fun hb => ?_) (fun hb => ?_)
        · have hjk : j < Ls.length := by have := of_decide_eq_true hb; omega
          obtain ⟨L, hL⟩ : ∃ L, Ls[j]? = some L := ⟨_, List.getElem?_eq_getElem hjk⟩
          obtain ⟨l1, l2⟩ := hdim L (List.mem_of_getElem? hL)
          have hv : (Ls.map sqV)[j]? = some (.lst 1 (L.map rowV)) := by simp [hL, sqV]
          obtain ⟨r, hr⟩ : ∃ r, L[p / n]? = some r := ⟨_, List.getElem?_eq_getElem (by omega)⟩
          have hvr : (L.map rowV)[p / n]? = some (.lst 1 (intsV r)) := by simp [hr, rowV]
          have l3 := l2 r (List.mem_of_getElem? hr)
          obtain ⟨x, hx⟩ : ∃ x, r[p % n]? = some x := ⟨_, List.getElem?_eq_getElem (by omega)⟩
          have v3 := wrapI (n := (j : Int) + 1) (by omega) (by omega)
          have hst : fsRow n (Ls.take (j + 1)) p = fsRow n (Ls.take j) p ++ [x] := by
            rw [List.take_add_one, hL]; simp [fsRow, hr, hx]
          simp -implicitDefEqProofs only [s_s, argEnv, PastOK, PendOK, sel, isE, isSp, baseOK, opR, opnd, opnds, opndL, ofConst, look, putE, dstOK, guardL, binR, intOp, loadR, bad, bound, lenV, srcV, Ob.read, V.plain, V.one, V.cells, fillV, setMany, zeros, TK.agg, Sub, cellRes, loadV, bindE, Nat.reduceAdd, Nat.reduceEqDiff, Nat.reduceLT, Nat.reduceLeDiff, Nat.reduceMul, Nat.reduceSub, Nat.reduceDiv, Nat.reduceMod, Nat.reduceBEq, Nat.reduceBNe, reduceIte, reduceCtorEq, Int.reduceToNat, Int.reduceLT, Int.reduceLE, Int.reduceAdd, Int.reduceSub, Int.reduceMul, Int.reduceNeg, Int.reduceEq, Int.reduceNe, D_G, D_P, List.lookup, tys, intsV_len, hv]
          repeat (refine And.intro (by first | omega | rfl | trivial | (simp; done) | (simp; omega)) ?_)
          refine WP.drawF [(0, 0, 1, [8]), (0, 0, 0, [10]), (0, 0, 0, [7]), (0, 0, 0, [2]), (12, 0, 0, [51, 52]), (30, 0, 0, [50, 53]), (62, 0, 0, [54]), (0, 0, 0, [7]), (0, 0, 0, [2]), (384, 0, 0, [56, 57]), (1022, 0, 0, [55, 58]), (2046, 0, 0, [59]), (4094, 0, 1, [60]), (8191, 1, 2, [49, 61]), (16383, 2, 2, [62])] D_mixed (by decide +kernel) ?_
          simp -implicitDefEqProofs only [s_s, argEnv, PastOK, PendOK, sel, isE, isSp, baseOK, opR, opnd, opnds, opndL, ofConst, look, putE, dstOK, guardL, binR, intOp, loadR, bad, bound, lenV, srcV, Ob.read, V.plain, V.one, V.cells, fillV, setMany, zeros, TK.agg, Sub, cellRes, loadV, bindE, Nat.reduceAdd, Nat.reduceEqDiff, Nat.reduceLT, Nat.reduceLeDiff, Nat.reduceMul, Nat.reduceSub, Nat.reduceDiv, Nat.reduceMod, Nat.reduceBEq, Nat.reduceBNe, reduceIte, reduceCtorEq, Int.reduceToNat, Int.reduceLT, Int.reduceLE, Int.reduceAdd, Int.reduceSub, Int.reduceMul, Int.reduceNeg, Int.reduceEq, Int.reduceNe, D_G, D_P, List.lookup, tys, intsV_len, v1, v2, hvr, intsV_get hx, hlen, v3]
          repeat (refine And.intro (by first | omega | rfl | trivial | (simp; done) | (simp; omega)) ?_)
          refine And.intro ⟨Int.natCast_nonneg _, Int.ofNat_lt.2 (by rw [l1]; exact hd1)⟩ (And.intro (by omega) (And.intro ⟨Int.natCast_nonneg _, Int.ofNat_lt.2 (by rw [l3]; exact hd2)⟩ (And.intro (by omega) ?_)))
          refine Kc.next (j + 1) (by omega) (by omega) (st ++ [.cells 0 [.int .i64 n], .cells 0 [.int .i64 0, .e0], .cells 0 [.int .i64 n, .slc (st.length + 3) p 0 p 1], .acc p RV, .cells (j + 1) (intsV (fsRow n (Ls.take (j + 1)) p))]) [.cells 0 [.int .i64 x]] (by simp [hst, intsV]) (by simp) ?_ ?_
          · exact StConv.base hB (by simp) (.cons (.keep rfl) (.cons (.keep rfl) (.cons (.keep (by simp [Ob.bdd, bddL, V.bdd])) (.cons (.keep (hRb _)) (.cons (.keep (bdd_ints _ _)) .nil)))))
          · refine EnvC.of_sub ?_ ?_
            · simp -implicitDefEqProofs only [s_s, argEnv, PastOK, PendOK, sel, isE, isSp, baseOK, opR, opnd, opnds, opndL, ofConst, look, putE, dstOK, guardL, binR, intOp, loadR, bad, bound, lenV, srcV, Ob.read, V.plain, V.one, V.cells, fillV, setMany, zeros, TK.agg, Sub, cellRes, loadV, bindE, Nat.reduceAdd, Nat.reduceEqDiff, Nat.reduceLT, Nat.reduceLeDiff, Nat.reduceMul, Nat.reduceSub, Nat.reduceDiv, Nat.reduceMod, Nat.reduceBEq, Nat.reduceBNe, reduceIte, reduceCtorEq, Int.reduceToNat, Int.reduceLT, Int.reduceLE, Int.reduceAdd, Int.reduceSub, Int.reduceMul, Int.reduceNeg, Int.reduceEq, Int.reduceNe, D_G, D_P, List.lookup, tys, intsV_len, Nat.add_assoc]
              try simp
            · simp [bddE, V.bdd, bdd_cube]
        · have hjk : j = Ls.length := by have := of_decide_eq_false hb; omega
          have hrow : Ls.take j = Ls := by rw [hjk]; simp
          rw [hrow] at hlen ⊢
          simp -implicitDefEqProofs only [s_s, argEnv, PastOK, PendOK, sel, isE, isSp, baseOK, opR, opnd, opnds, opndL, ofConst, look, putE, dstOK, guardL, binR, intOp, loadR, bad, bound, lenV, srcV, Ob.read, V.plain, V.one, V.cells, fillV, setMany, zeros, TK.agg, Sub, cellRes, loadV, bindE, Nat.reduceAdd, Nat.reduceEqDiff, Nat.reduceLT, Nat.reduceLeDiff, Nat.reduceMul, Nat.reduceSub, Nat.reduceDiv, Nat.reduceMod, Nat.reduceBEq, Nat.reduceBNe, reduceIte, reduceCtorEq, Int.reduceToNat, Int.reduceLT, Int.reduceLE, Int.reduceAdd, Int.reduceSub, Int.reduceMul, Int.reduceNeg, Int.reduceEq, Int.reduceNe, D_G, D_P, List.lookup, tys, intsV_len, w1, hRl]
          repeat (refine And.intro (by first | omega | rfl | trivial | (simp; done) | (simp; omega)) ?_)
          refine Kc.next (p + 1) (by omega) (by omega) (st ++ [.cells 0 [.int .i64 n], .cells 0 [.int .i64 0, .e0], .cells 0 [.int .i64 n, .slc (st.length + 3) (p + 1) 0 (p + 1) 1], .acc (p + 1) (RV ++ [.slc (st.length + 4) j 0 (2 + j) 1])]) [.cells j (intsV (fsRow n Ls p)), .cells 0 [.slc (st.length + 4) j 0 (2 + j) 1]] (by simp) (by simp) ?_ ?_
          · simp only [List.range_succ, List.map_append, List.map_cons, List.map_nil, ← hRV]
            exact StConv.base hB (by simp) (.cons (.keep rfl) (.cons (.keep rfl) (.cons (.keep (by simp [Ob.bdd, bddL, V.bdd])) (.cons (.acc (ConvL.snoc (hRb _) (Conv.row (by simp) (ob := .cells j (intsV (fsRow n Ls p))) (by simp) (by simp [Ob.read]) (by simpa [intsV] using hlen.symm)))) .nil))))
          · refine EnvC.of_sub ?_ ?_
            · simp -implicitDefEqProofs only [s_s, argEnv, PastOK, PendOK, sel, isE, isSp, baseOK, opR, opnd, opnds, opndL, ofConst, look, putE, dstOK, guardL, binR, intOp, loadR, bad, bound, lenV, srcV, Ob.read, V.plain, V.one, V.cells, fillV, setMany, zeros, TK.agg, Sub, cellRes, loadV, bindE, Nat.reduceAdd, Nat.reduceEqDiff, Nat.reduceLT, Nat.reduceLeDiff, Nat.reduceMul, Nat.reduceSub, Nat.reduceDiv, Nat.reduceMod, Nat.reduceBEq, Nat.reduceBNe, reduceIte, reduceCtorEq, Int.reduceToNat, Int.reduceLT, Int.reduceLE, Int.reduceAdd, Int.reduceSub, Int.reduceMul, Int.reduceNeg, Int.reduceEq, Int.reduceNe, D_G, D_P, List.lookup, tys, intsV_len]
              try simp
            · simp [bddE, V.bdd, bdd_cube]
      · have h' : p = n * n := by have := of_decide_eq_false hb; omega
        subst h'
        simp -implicitDefEqProofs only [s_s, argEnv, PastOK, PendOK, sel, isE, isSp, baseOK, opR, opnd, opnds, opndL, ofConst, look, putE, dstOK, guardL, binR, intOp, loadR, bad, bound, lenV, srcV, Ob.read, V.plain, V.one, V.cells, fillV, setMany, zeros, TK.agg, Sub, cellRes, loadV, bindE, Nat.reduceAdd, Nat.reduceEqDiff, Nat.reduceLT, Nat.reduceLeDiff, Nat.reduceMul, Nat.reduceSub, Nat.reduceDiv, Nat.reduceMod, Nat.reduceBEq, Nat.reduceBNe, reduceIte, reduceCtorEq, Int.reduceToNat, Int.reduceLT, Int.reduceLE, Int.reduceAdd, Int.reduceSub, Int.reduceMul, Int.reduceNeg, Int.reduceEq, Int.reduceNe, D_G, D_P, List.lookup, tys, intsV_len]
        refine Post.rct (v := .agg [.int .i64 n, .slc (st.length + 3) (n * n) 0 (n * n) 1]) (x := .int .i64 0) (by simp -implicitDefEqProofs only [s_s, argEnv, PastOK, PendOK, sel, isE, isSp, baseOK, opR, opnd, opnds, opndL, ofConst, look, putE, dstOK, guardL, binR, intOp, loadR, bad, bound, lenV, srcV, Ob.read, V.plain, V.one, V.cells, fillV, setMany, zeros, TK.agg, Sub, cellRes, loadV, bindE, Nat.reduceAdd, Nat.reduceEqDiff, Nat.reduceLT, Nat.reduceLeDiff, Nat.reduceMul, Nat.reduceSub, Nat.reduceDiv, Nat.reduceMod, Nat.reduceBEq, Nat.reduceBNe, reduceIte, reduceCtorEq, Int.reduceToNat, Int.reduceLT, Int.reduceLE, Int.reduceAdd, Int.reduceSub, Int.reduceMul, Int.reduceNeg, Int.reduceEq, Int.reduceNe, D_G, D_P, List.lookup, tys, intsV_len]) (by simp -implicitDefEqProofs only [s_s, argEnv, PastOK, PendOK, sel, isE, isSp, baseOK, opR, opnd, opnds, opndL, ofConst, look, putE, dstOK, guardL, binR, intOp, loadR, bad, bound, lenV, srcV, Ob.read, V.plain, V.one, V.cells, fillV, setMany, zeros, TK.agg, Sub, cellRes, loadV, bindE, Nat.reduceAdd, Nat.reduceEqDiff, Nat.reduceLT, Nat.reduceLeDiff, Nat.reduceMul, Nat.reduceSub, Nat.reduceDiv, Nat.reduceMod, Nat.reduceBEq, Nat.reduceBNe, reduceIte, reduceCtorEq, Int.reduceToNat, Int.reduceLT, Int.reduceLE, Int.reduceAdd, Int.reduceSub, Int.reduceMul, Int.reduceNeg, Int.reduceEq, Int.reduceNe, D_G, D_P, List.lookup, tys, intsV_len]) ⟨selV n (fsR n Ls) 0, _, rfl, ?_, rfl⟩
        exact .tup (.cons (.agg (.cons (.keep rfl) (.cons (Conv.whole (by simp) (ob := .acc (n * n) ((fsR n Ls).map rowV)) (by simp [fsR]) (by simp [Ob.read]) (by simp [fsR]) (bdd_rows _ _)) .nil))) (.cons (.keep rfl) .nil))
    · have c5 : Ls.all (latinB n) = false := by simpa using c4
      simp -implicitDefEqProofs only [s_s, argEnv, PastOK, PendOK, sel, isE, isSp, baseOK, opR, opnd, opnds, opndL, ofConst, look, putE, dstOK, guardL, binR, intOp, loadR, bad, bound, lenV, srcV, Ob.read, V.plain, V.one, V.cells, fillV, setMany, zeros, TK.agg, Sub, cellRes, loadV, bindE, Nat.reduceAdd, Nat.reduceEqDiff, Nat.reduceLT, Nat.reduceLeDiff, Nat.reduceMul, Nat.reduceSub, Nat.reduceDiv, Nat.reduceMod, Nat.reduceBEq, Nat.reduceBNe, reduceIte, reduceCtorEq, Int.reduceToNat, Int.reduceLT, Int.reduceLE, Int.reduceAdd, Int.reduceSub, Int.reduceMul, Int.reduceNeg, Int.reduceEq, Int.reduceNe, D_G, D_P, List.lookup, tys, intsV_len, c5]
      exact Post.rct (v := .agg [.int .i64 0, .e0]) (x := .int .i64 1) (by simp -implicitDefEqProofs only [s_s, argEnv, PastOK, PendOK, sel, isE, isSp, baseOK, opR, opnd, opnds, opndL, ofConst, look, putE, dstOK, guardL, binR, intOp, loadR, bad, bound, lenV, srcV, Ob.read, V.plain, V.one, V.cells, fillV, setMany, zeros, TK.agg, Sub, cellRes, loadV, bindE, Nat.reduceAdd, Nat.reduceEqDiff, Nat.reduceLT, Nat.reduceLeDiff, Nat.reduceMul, Nat.reduceSub, Nat.reduceDiv, Nat.reduceMod, Nat.reduceBEq, Nat.reduceBNe, reduceIte, reduceCtorEq, Int.reduceToNat, Int.reduceLT, Int.reduceLE, Int.reduceAdd, Int.reduceSub, Int.reduceMul, Int.reduceNeg, Int.reduceEq, Int.reduceNe, D_G, D_P, List.lookup, tys, intsV_len]) (by simp -implicitDefEqProofs only [s_s, argEnv, PastOK, PendOK, sel, isE, isSp, baseOK, opR, opnd, opnds, opndL, ofConst, look, putE, dstOK, guardL, binR, intOp, loadR, bad, bound, lenV, srcV, Ob.read, V.plain, V.one, V.cells, fillV, setMany, zeros, TK.agg, Sub, cellRes, loadV, bindE, Nat.reduceAdd, Nat.reduceEqDiff, Nat.reduceLT, Nat.reduceLeDiff, Nat.reduceMul, Nat.reduceSub, Nat.reduceDiv, Nat.reduceMod, Nat.reduceBEq, Nat.reduceBNe, reduceIte, reduceCtorEq, Int.reduceToNat, Int.reduceLT, Int.reduceLE, Int.reduceAdd, Int.reduceSub, Int.reduceMul, Int.reduceNeg, Int.reduceEq, Int.reduceNe, D_G, D_P, List.lookup, tys, intsV_len]) ⟨selV 0 [] 1, _, rfl, .tup (.cons (.agg (.cons (.keep rfl) (.cons .e0 .nil))) (.cons (.keep rfl) .nil)), by rw [if_neg (fun hs => c4 (by simpa using hs.2.2.2))]⟩

theorem squares_spec (n : Int) (Ls : List (List (List Int))) (hLs : Ls.length < 1000) (st : St) :
    VCall D 21 [.int .i64 n, cubeV Ls] st (fun r st' => r = (if fsOK n Ls then gotV n (fsR n.toNat Ls) 0 else gotV 0 [] 1) ∧ st' = st) := by
  refine VCall.clean ?_
  refine VCall.of_WP (fn := Tryd.f21) (c := _) Tryd.func21 rfl (by decide +kernel) (Nat.le_of_ble_eq_true rfl) ?_
  refine wpF_sound ?_
  simp -implicitDefEqProofs only [s_s, argEnv, PastOK, PendOK, sel, isE, isSp, baseOK, opR, opnd, opnds, opndL, ofConst, look, putE, dstOK, guardL, binR, intOp, loadR, bad, bound, lenV, srcV, Ob.read, V.plain, V.one, V.cells, fillV, setMany, zeros, TK.agg, Sub, cellRes, loadV, bindE, Nat.reduceAdd, Nat.reduceEqDiff, Nat.reduceLT, Nat.reduceLeDiff, Nat.reduceMul, Nat.reduceSub, Nat.reduceDiv, Nat.reduceMod, Nat.reduceBEq, Nat.reduceBNe, reduceIte, reduceCtorEq, Int.reduceToNat, Int.reduceLT, Int.reduceLE, Int.reduceAdd, Int.reduceSub, Int.reduceMul, Int.reduceNeg, Int.reduceEq, Int.reduceNe, D_G, D_P, List.lookup, tys, intsV_len, Tryd.ntmps21, Tryd.f21]
  have hsel := FromSquares_spec n Ls hLs (st ++ [.cells 0 [.int .i64 0, .e0, .int .i64 0]])
  by_cases hok : fsOK n Ls
  · rw [if_pos hok] at hsel ⊢
    refine Sp.call rfl rfl (hsel.mono ?_)
    rintro r st' ⟨rfl, rfl⟩
    simp -implicitDefEqProofs only [s_s, argEnv, PastOK, PendOK, sel, isE, isSp, baseOK, opR, opnd, opnds, opndL, ofConst, look, putE, dstOK, guardL, binR, intOp, loadR, bad, bound, lenV, srcV, Ob.read, V.plain, V.one, V.cells, fillV, setMany, zeros, TK.agg, Sub, cellRes, loadV, bindE, Nat.reduceAdd, Nat.reduceEqDiff, Nat.reduceLT, Nat.reduceLeDiff, Nat.reduceMul, Nat.reduceSub, Nat.reduceDiv, Nat.reduceMod, Nat.reduceBEq, Nat.reduceBNe, reduceIte, reduceCtorEq, Int.reduceToNat, Int.reduceLT, Int.reduceLE, Int.reduceAdd, Int.reduceSub, Int.reduceMul, Int.reduceNeg, Int.reduceEq, Int.reduceNe, D_G, D_P, List.lookup, tys, intsV_len, selV, gotV, arrV]
    refine Post.rc (v := gotV n (fsR n.toNat Ls) 0) (by simp -implicitDefEqProofs only [s_s, argEnv, PastOK, PendOK, sel, isE, isSp, baseOK, opR, opnd, opnds, opndL, ofConst, look, putE, dstOK, guardL, binR, intOp, loadR, bad, bound, lenV, srcV, Ob.read, V.plain, V.one, V.cells, fillV, setMany, zeros, TK.agg, Sub, cellRes, loadV, bindE, Nat.reduceAdd, Nat.reduceEqDiff, Nat.reduceLT, Nat.reduceLeDiff, Nat.reduceMul, Nat.reduceSub, Nat.reduceDiv, Nat.reduceMod, Nat.reduceBEq, Nat.reduceBNe, reduceIte, reduceCtorEq, Int.reduceToNat, Int.reduceLT, Int.reduceLE, Int.reduceAdd, Int.reduceSub, Int.reduceMul, Int.reduceNeg, Int.reduceEq, Int.reduceNe, D_G, D_P, List.lookup, tys, intsV_len, gotV]) ⟨gotV n (fsR n.toNat Ls) 0, _, rfl, .keep (by simp only [gotV, V.bdd, bddL, bdd_rows, Bool.true_and, Bool.and_self]), rfl⟩
  · rw [if_neg hok] at hsel ⊢
    refine Sp.call rfl rfl (hsel.mono ?_)
    rintro r st' ⟨rfl, rfl⟩
    simp -implicitDefEqProofs only [s_s, argEnv, PastOK, PendOK, sel, isE, isSp, baseOK, opR, opnd, opnds, opndL, ofConst, look, putE, dstOK, guardL, binR, intOp, loadR, bad, bound, lenV, srcV, Ob.read, V.plain, V.one, V.cells, fillV, setMany, zeros, TK.agg, Sub, cellRes, loadV, bindE, Nat.reduceAdd, Nat.reduceEqDiff, Nat.reduceLT, Nat.reduceLeDiff, Nat.reduceMul, Nat.reduceSub, Nat.reduceDiv, Nat.reduceMod, Nat.reduceBEq, Nat.reduceBNe, reduceIte, reduceCtorEq, Int.reduceToNat, Int.reduceLT, Int.reduceLE, Int.reduceAdd, Int.reduceSub, Int.reduceMul, Int.reduceNeg, Int.reduceEq, Int.reduceNe, D_G, D_P, List.lookup, tys, intsV_len, selV, gotV, arrV]
    exact Post.rc (v := gotV 0 [] 1) (by simp -implicitDefEqProofs only [s_s, argEnv, PastOK, PendOK, sel, isE, isSp, baseOK, opR, opnd, opnds, opndL, ofConst, look, putE, dstOK, guardL, binR, intOp, loadR, bad, bound, lenV, srcV, Ob.read, V.plain, V.one, V.cells, fillV, setMany, zeros, TK.agg, Sub, cellRes, loadV, bindE, Nat.reduceAdd, Nat.reduceEqDiff, Nat.reduceLT, Nat.reduceLeDiff, Nat.reduceMul, Nat.reduceSub, Nat.reduceDiv, Nat.reduceMod, Nat.reduceBEq, Nat.reduceBNe, reduceIte, reduceCtorEq, Int.reduceToNat, Int.reduceLT, Int.reduceLE, Int.reduceAdd, Int.reduceSub, Int.reduceMul, Int.reduceNeg, Int.reduceEq, Int.reduceNe, D_G, D_P, List.lookup, tys, intsV_len, gotV]) ⟨gotV 0 [] 1, _, rfl, .keep rfl, rfl⟩
end Go.VL
end

/- The value-level program logic, part 26: a call whose arguments' objects are let go. -/
section
set_option linter.unusedVariables false
set_option linter.unusedSimpArgs false
namespace Go.VL
open Go

theorem ConvL.repAll' {S S2 : Nat → Prop} {σ σ2 : List Slot} {st : St} {w : World} {lo : Nat} (k : ∀ r r' v, Conv lo st r r' → Rep S σ w r v → Rep S2 σ2 w r' v) : ∀ {cs ds : List V} {xs : List Value}, ConvL lo st cs ds → RepAll S σ w cs xs → RepAll S2 σ2 w ds xs
  | _, _, xs, .nil, hr => by simpa [RepAll] using hr
  | _, _, xs, .cons hc hs, hr => by
    simp only [RepAll] at hr ⊢
    obtain ⟨y, ys, h1, h2, h3⟩ := hr
    exact ⟨y, ys, h1, k _ _ _ hc h2, ConvL.repAll' k hs h3⟩

theorem le_app (σ τ : List Slot) : Le σ (σ ++ τ) := fun id s h => ⟨s, by rw [List.getElem?_append_left (List.getElem?_eq_some_iff.1 h).1]; exact h, Nat.le_refl _, fun _ => rfl⟩

theorem dead_get {new : St} {i : Nat} {o : Ob} (h : (new.map fun _ => Ob.dead)[i]? = some o) : o = .dead := by
  rw [List.getElem?_map, Option.map_eq_some_iff] at h
  obtain ⟨_, _, rfl⟩ := h; rfl

/-- A call whose arguments' objects, from some number on, are let go; the callee leaves the others as they were. -/
theorem VCall.freeze {cx : Cx} {f : FuncId} {args args' : List V} {st1 st1' new : St} {K : V → St → Prop} (hc : StConv st1.length (st1 ++ new) st1 st1') (ha : ConvL st1.length (st1 ++ new) args args')
    (h : VCall cx f args' st1' fun r st' => st' = st1' ∧ K r (st1' ++ new.map fun _ => Ob.dead)) : VCall cx f args (st1 ++ new) K := by
  refine ⟨h.1, fun S σ w vals h1 h2 h3 => ?_⟩
  obtain ⟨S2, k1, k2, k3, k4⟩ := cut_core h2 h3 hc
  have hsl := h2.len
  have hl1 : st1.length = st1'.length := hc.get.1
  refine (h.2 S2 (σ.take st1.length) w vals (ConvL.repAll' k4 ha h1) k1 k2).mono ?_
  rintro e w' ⟨v, r, st', S', σ', rfl, ⟨rfl, hK⟩, hr, hs, hb, hev⟩
  have hσ' : σ'.length = st1.length := by rw [hs.len, hl1]
  have hev2 := k3.trans (hev.toW (m := st1.length))
  have spl : ∀ {id : Nat} {o : Ob} {s : Slot}, (st' ++ new.map fun _ => Ob.dead)[id]? = some o → (σ' ++ σ.drop st1.length)[id]? = some s → (st'[id]? = some o ∧ σ'[id]? = some s) ∨ o = .dead := by
    intro id o s g1 g2
    rcases Nat.lt_or_ge id st'.length with hlt | hge
    · rw [List.getElem?_append_left hlt] at g1
      rw [List.getElem?_append_left (by omega)] at g2
      exact .inl ⟨g1, g2⟩
    · rw [List.getElem?_append_right hge] at g1
      exact .inr (dead_get g1)
  have hst : StRep S' (σ' ++ σ.drop st1.length) (st' ++ new.map fun _ => Ob.dead) w' := by
    refine ⟨by simp [hσ', hsl, ← hl1], ?_, ?_, ?_, ?_⟩
    · intro id s g
      rcases Nat.lt_or_ge id σ'.length with hlt | hge
      · rw [List.getElem?_append_left hlt] at g; exact hs.zero id s g
      · rw [List.getElem?_append_right hge, List.getElem?_drop] at g; exact h2.zero _ s g
    · intro id o s g1 g2 g3
      rcases spl g1 g2 with ⟨f1, f2⟩ | rfl
      · exact hs.nil id o s f1 f2 g3
      · cases g3
    · intro id o s g1 g2
      rcases spl g1 g2 with ⟨f1, f2⟩ | rfl
      · exact (hs.ob id o s f1 f2).mono (fun _ h => h) (fun hl => (hs.own_lt ⟨_, _, _, f1, hl, f2, rfl⟩).2) (le_app _ _) ⟨fun _ _ => rfl, fun _ _ h => h⟩ (fun _ => rfl)
      · trivial
    · intro i j o1 o2 s1 s2 g1 g2 l1 l2 q1 q2 e
      rcases spl g1 q1 with ⟨f1, f2⟩ | rfl
      · rcases spl g2 q2 with ⟨f3, f4⟩ | rfl
        · exact hs.inj i j o1 o2 s1 s2 f1 f3 l1 l2 f2 f4 e
        · cases l2
      · cases l1
  refine ⟨v, r, _, S', _, rfl, hK, Rep.mono (fun _ h => h) (le_app _ _) ⟨fun _ _ => rfl, fun _ _ h => h⟩ _ _ hr, hst, hb, ⟨hev2.os, hev2.tape, hev2.output, hev2.size, hev2.shape, hev2.keep, hev2.sub, hev2.new, ?_, ?_⟩⟩
  · rintro b ⟨id, o, s, g1, g2, g3, rfl⟩
    rcases spl g1 g3 with ⟨f1, f2⟩ | rfl
    · exact hev2.own s.b ⟨id, o, s, f1, g2, f2, rfl⟩
    · cases g2
  · intro id s g
    rcases Nat.lt_or_ge id st1.length with hlt | hge
    · obtain ⟨s', e1, e2, e3⟩ := hev2.le id s (by rw [List.getElem?_take, if_pos hlt]; exact g)
      exact ⟨s', by rw [List.getElem?_append_left (by omega)]; exact e1, e2, e3⟩
    · refine ⟨s, ?_, Nat.le_refl _, fun _ => rfl⟩
      rw [List.getElem?_append_right (by omega), List.getElem?_drop, hσ', show st1.length + (id - st1.length) = id by omega]
      exact g
end Go.VL
end

/- The array seat: the examples, one by one. -/
section
set_option linter.unusedSimpArgs false
set_option linter.unusedVariables false
set_option maxRecDepth 100000
namespace Go.VL
open Go Go.Proofs

theorem Index_full (S : Nat) (R : List (List Int)) (k : Nat) (h : ArrOK S R k) (t : Int) (st : St) :
    VCall D 12 [arrV S R, .int .i64 t] st (fun r st' => r = .int .i64 (if 1 ≤ t ∧ t ≤ k then (indexN S R k t.toNat : Int) else 0) ∧ st' = st) := by
  have := Index_spec S R t (indexN S R k t.toNat) h.r1 (fun h1 h2 st => by
    obtain ⟨n, rfl⟩ := Int.eq_ofNat_of_zero_le (show 0 ≤ t by omega)
    rw [h.cols] at h2
    exact index_spec S R k h n (by omega) st) st
  rwa [h.cols] at this

theorem Covers_full (S : Nat) (R : List (List Int)) (k : Nat) (h : ArrOK S R k) (t : Int) (st : St) :
    VCall D 13 [arrV S R, .int .i64 t] st (fun r st' => r = .bool (decide (1 ≤ t ∧ t ≤ k) && missN S R k t.toNat == 0) ∧ st' = st) := by
  have := Covers_spec S R t (missN S R k t.toNat) h.r1 (fun h1 h2 st => by
    rw [h.cols] at h2
    refine (Missing_spec S R k h t st).mono ?_
    rintro r st' ⟨rfl, rfl⟩
    exact ⟨by rw [if_pos ⟨h1, h2⟩], rfl⟩) st
  rwa [h.cols] at this

def exA : List (List Int) := [[0, 0], [0, 1], [1, 0], [1, 1]]
def exB : List (List Int) := [[0, 0, 0], [0, 1, 1], [1, 0, 1], [1, 1, 0]]
def exL : List (List (List Int)) := [[[0, 1, 2], [1, 2, 0], [2, 0, 1]], [[0, 1, 2], [2, 0, 1], [1, 2, 0]]]
theorem okA : ArrOK 2 exA 2 := ⟨by decide, by decide, by decide, by decide, by decide, by decide, by decide⟩
theorem okB : ArrOK 2 exB 3 := ⟨by decide, by decide, by decide, by decide, by decide, by decide, by decide⟩
theorem okC : ArrOK 3 (fsR 3 exL) 4 := ⟨by decide, by decide, by decide, by decide, by decide, by decide, by decide +kernel⟩
def ex64 : List (List Int) := (runF 2 8 2 [3] 64 [] []).getD []

theorem ev1 : indexN 2 exA 2 2 = 1 ∧ indexN 2 exA 2 1 = 2 ∧ strN 2 exA 2 2 = 2 ∧ strN 2 exB 3 3 = 2 ∧ missN 2 exB 3 3 = 4 ∧ missN 2 exB 3 2 = 0 ∧ strN 3 (fsR 3 exL) 4 4 = 2 := by decide +kernel
theorem ev2 : insS cmpS (setsL 3 2) = [3, 5, 6] ∧ insS cmpS (setsL 2 2) = [3] ∧ insS cmpS (setsL 3 3) = [7] := by decide +kernel
theorem ev3 : runF 3 2 2 [3, 5, 6] 64 [] [] = some exB := by decide +kernel
theorem ev4 : (runF 2 8 2 [3] 64 [] []).isSome = true := by decide +kernel
theorem ev5 : runF 3 5 3 [7] 64 [] [] = none := by decide +kernel
theorem ev6 : fsOK 3 exL := by decide +kernel

theorem sorted_at (k t : Nat) (hk : k ≤ 8) (hne : setsL k t ≠ []) (hl : (setsL k t).length ≤ 12) (st : St) : VCall D 59 [setsV k t, .fn (.func 60) []] st (fun r st' => r = .lst 1 (natsV (insS cmpS (setsL k t))) ∧ st' = st) :=
  SortedFunc_spec 53 60 _ cmpS (fun x y st hx hy => cmp60_spec x y hx hy st) (setsL k t) (iter_sets k t hk) hne hl (fun x hx => setsL_mem hk hx) st

theorem x1 (st : St) : VCall D 27 [arrV 2 exA] st (fun r st' => r = .bool true ∧ st' = st) := Valid_ok 2 exA 2 okA st
theorem x2 (st : St) : VCall D 27 [.agg [.int .i64 2, .e0]] st (fun r st' => r = .bool false ∧ st' = st) :=
  VCall.iso (args' := [arrV 2 []]) (.cons (.agg (.cons (.keep rfl) (.cons .e0 .nil))) .nil) ((Valid_none 2 (by omega) (by omega) []).mono fun r st' ⟨h1, h2⟩ => ⟨h2, by rw [h1]; rfl, h1, rfl⟩)
theorem x3 (st : St) : VCall D 11 [arrV 2 exA] st (fun r st' => r = .int .i64 2 ∧ st' = st) := by
  have := Strength_spec 2 exA 2 okA st
  rw [ev1.2.2.1] at this; exact this
theorem x4 (st : St) : VCall D 12 [arrV 2 exA, .int .i64 2] st (fun r st' => r = .int .i64 1 ∧ st' = st) := by
  have := Index_full 2 exA 2 okA 2 st
  rw [show (2 : Int).toNat = 2 from rfl, ev1.1] at this; exact this
theorem x5 (st : St) : VCall D 12 [arrV 2 exA, .int .i64 1] st (fun r st' => r = .int .i64 2 ∧ st' = st) := by
  have := Index_full 2 exA 2 okA 1 st
  rw [show (1 : Int).toNat = 1 from rfl, ev1.2.1] at this; exact this
theorem x6 (st : St) : VCall D 12 [arrV 2 exA, .int .i64 3] st (fun r st' => r = .int .i64 0 ∧ st' = st) := by
  have := Index_full 2 exA 2 okA 3 st
  rw [if_neg (by decide)] at this; exact this
theorem x7 (st : St) : VCall D 11 [arrV 2 exB] st (fun r st' => r = .int .i64 2 ∧ st' = st) := by
  have := Strength_spec 2 exB 3 okB st
  rw [ev1.2.2.2.1] at this; exact this
theorem x8 (st : St) : VCall D 14 [arrV 2 exB, .int .i64 3] st (fun r st' => r = .int .i64 4 ∧ st' = st) := by
  have := Missing_spec 2 exB 3 okB 3 st
  rw [show (3 : Int).toNat = 3 from rfl, ev1.2.2.2.2.1] at this; exact this
theorem x9 (st : St) : VCall D 14 [arrV 2 exB, .int .i64 2] st (fun r st' => r = .int .i64 0 ∧ st' = st) := by
  have := Missing_spec 2 exB 3 okB 2 st
  rw [show (2 : Int).toNat = 2 from rfl, ev1.2.2.2.2.2.1] at this; exact this
theorem x10 (st : St) : VCall D 24 [.int .i64 3, .int .i64 2, .int .i64 2] st (fun r st' => r = gotV 2 exB 0 ∧ st' = st) := by
  have := cover_spec 3 2 2 [3, 5, 6] (by decide) (fun st => by rw [← ev2.1]; exact sorted_at 3 2 (by omega) (by decide) (by decide) st) (by decide) (by decide) st
  rw [ev3] at this; exact this
theorem x11 (st : St) : VCall D 24 [.int .i64 3, .int .i64 9, .int .i64 2] st (fun r st' => r = gotV 0 [] 1 ∧ st' = st) := cover_bad 3 9 2 (by decide) st
theorem x12 (st : St) : VCall D 24 [.int .i64 2, .int .i64 8, .int .i64 2] st (fun r st' => r = gotV 8 ex64 0 ∧ st' = st) := by
  have := cover_spec 2 8 2 [3] (by decide) (fun st => by rw [← ev2.2.1]; exact sorted_at 2 2 (by omega) (by decide) (by decide) st) (by decide) (by decide) st
  obtain ⟨R, hR⟩ := Option.isSome_iff_exists.1 ev4
  have h2 : ex64 = R := by simp only [ex64, hR, Option.getD_some]
  rw [hR] at this
  rw [h2]; exact this
theorem x13 (st : St) : VCall D 24 [.int .i64 3, .int .i64 5, .int .i64 3] st (fun r st' => r = gotV 0 [] 2 ∧ st' = st) := by
  have := cover_spec 3 5 3 [7] (by decide) (fun st => by rw [← ev2.2.2]; exact sorted_at 3 3 (by omega) (by decide) (by decide) st) (by decide) (by decide) st
  rw [ev5] at this; exact this
theorem x14 (st : St) : VCall D 28 [gotV 2 exB 0, gotV 2 exB 0] st (fun r st' => r = .bool true ∧ st' = st) := by
  have := Alike_spec 2 2 exB exB 0 0 (by decide) (by decide) st
  simpa using this
theorem x15 (st : St) : VCall D 13 [arrV 2 exB, .int .i64 2] st (fun r st' => r = .bool true ∧ st' = st) := by
  have := Covers_full 2 exB 3 okB 2 st
  rw [show (2 : Int).toNat = 2 from rfl, ev1.2.2.2.2.2.1] at this; exact this
theorem x16 (st : St) : VCall D 13 [arrV 2 exB, .int .i64 3] st (fun r st' => r = .bool false ∧ st' = st) := by
  have := Covers_full 2 exB 3 okB 3 st
  rw [show (3 : Int).toNat = 3 from rfl, ev1.2.2.2.2.1] at this; exact this
theorem x17 (st : St) : VCall D 21 [.int .i64 3, cubeV exL] st (fun r st' => r = gotV 3 (fsR 3 exL) 0 ∧ st' = st) := by
  have := squares_spec 3 exL (by decide) st
  rw [if_pos ev6] at this; exact this
theorem x18 (st : St) : VCall D 21 [.int .i64 1, cubeV []] st (fun r st' => r = gotV 0 [] 1 ∧ st' = st) := by
  have := squares_spec 1 [] (by decide) st
  rw [if_neg (by decide)] at this; exact this
theorem x19 (st : St) : VCall D 11 [arrV 3 (fsR 3 exL)] st (fun r st' => r = .int .i64 2 ∧ st' = st) := by
  have := Strength_spec 3 (fsR 3 exL) 4 okC st
  rw [ev1.2.2.2.2.2.2] at this; exact this
theorem x20 (st : St) : VCall D 18 [arrV 2 exA, arrV 2 exB] st (fun r st' => r = gotV 0 [] 1 ∧ st' = st) :=
  stacked_err 2 2 _ _ _ _ (by decide) (by decide) (.inr (by decide)) st
theorem x21 (st : St) : VCall D 16 [arrV 2 exA, rowV [2]] st (fun r st' => r = gotV 0 [] 1 ∧ st' = st) := by
  have := selected_spec 2 exA 2 okA [2] (by decide) (fun h => absurd h (by decide)) st
  rw [if_neg (by decide)] at this; exact this
theorem x22 (st : St) : VCall D 23 [.int .i64 3, .int .i64 2, .int .i64 2] st (fun r st' => r = .int .i64 4 ∧ st' = st) := by
  have := Rao_spec 3 2 2 (by omega) (by omega) (by omega) (by omega) (by omega) st
  rw [show raoN 3 2 2 = 4 by decide] at this; exact this
theorem x23 (st : St) : VCall D 23 [.int .i64 4, .int .i64 2, .int .i64 3] st (fun r st' => r = .int .i64 8 ∧ st' = st) := by
  have := Rao_spec 4 2 3 (by omega) (by omega) (by omega) (by omega) (by omega) st
  rw [show raoN 4 2 3 = 8 by decide] at this; exact this
theorem x24 (st : St) : VCall D 23 [.int .i64 8, .int .i64 8, .int .i64 8] st (fun r st' => r = .int .i64 188707 ∧ st' = st) := by
  have := Rao_spec 8 8 8 (by omega) (by omega) (by omega) (by omega) (by omega) st
  rw [show raoN 8 8 8 = 188707 by decide +kernel] at this; exact this
end Go.VL
end

