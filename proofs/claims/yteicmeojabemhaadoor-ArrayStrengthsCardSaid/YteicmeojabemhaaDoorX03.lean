/- Joined by program (merge.py): the parts A9, VL24, A10, C0, C2, VL25, C3, C1, C4, B2. -/
import Derived.Test.YteicmeojabemhaaDoorX02
/- The array seat: the bound of Rao. -/
section
set_option linter.unusedSimpArgs false
set_option maxRecDepth 4000
namespace Go.VL
open Go Go.Proofs

theorem Rao_none (k s t : Int) (h : k < 1 ∨ 8 < k ∨ s < 2 ∨ 8 < s ∨ t < 0 ∨ k < t) (st : St) : VCall D 23 [.int .i64 k, .int .i64 s, .int .i64 t] st (fun r st' => r = .int .i64 0 ∧ st' = st) := by
  refine VCall.of_WP (fn := Tryd.f23) (c := _) Tryd.func23 rfl (by decide +kernel) (Nat.le_of_ble_eq_true rfl) ?_
  refine wpF_sound ?_
  simp -implicitDefEqProofs only [s_s, argEnv, PastOK, PendOK, sel, isE, isSp, baseOK, opR, opnd, opnds, opndL, ofConst, look, putE, dstOK, guardL, binR, intOp, loadR, bad, bound, lenV, srcV, Ob.read, V.plain, V.one, V.cells, fillV, setMany, zeros, TK.agg, Sub, cellRes, loadV, bindE, Nat.reduceAdd, Nat.reduceEqDiff, Nat.reduceLT, Nat.reduceLeDiff, Nat.reduceMul, Nat.reduceSub, Nat.reduceDiv, Nat.reduceMod, Nat.reduceBEq, Nat.reduceBNe, reduceIte, reduceCtorEq, Int.reduceToNat, Int.reduceLT, Int.reduceLE, Int.reduceAdd, Int.reduceSub, Int.reduceMul, Int.reduceNeg, Int.reduceEq, Int.reduceNe, D_G, D_P, List.lookup, tys, intsV_len, Tryd.ntmps23, Tryd.f23]
  refine OpsG.intro (fun h1 => ?_) (fun h1 => ?_)
  · simp -implicitDefEqProofs only [s_s, argEnv, PastOK, PendOK, sel, isE, isSp, baseOK, opR, opnd, opnds, opndL, ofConst, look, putE, dstOK, guardL, binR, intOp, loadR, bad, bound, lenV, srcV, Ob.read, V.plain, V.one, V.cells, fillV, setMany, zeros, TK.agg, Sub, cellRes, loadV, bindE, Nat.reduceAdd, Nat.reduceEqDiff, Nat.reduceLT, Nat.reduceLeDiff, Nat.reduceMul, Nat.reduceSub, Nat.reduceDiv, Nat.reduceMod, Nat.reduceBEq, Nat.reduceBNe, reduceIte, reduceCtorEq, Int.reduceToNat, Int.reduceLT, Int.reduceLE, Int.reduceAdd, Int.reduceSub, Int.reduceMul, Int.reduceNeg, Int.reduceEq, Int.reduceNe, D_G, D_P, List.lookup, tys, intsV_len, h1]
    exact Post.r1 rfl ⟨rfl, rfl⟩
  · cases h2 : decide (8 < k) with
    | true => simp -implicitDefEqProofs only [s_s, argEnv, PastOK, PendOK, sel, isE, isSp, baseOK, opR, opnd, opnds, opndL, ofConst, look, putE, dstOK, guardL, binR, intOp, loadR, bad, bound, lenV, srcV, Ob.read, V.plain, V.one, V.cells, fillV, setMany, zeros, TK.agg, Sub, cellRes, loadV, bindE, Nat.reduceAdd, Nat.reduceEqDiff, Nat.reduceLT, Nat.reduceLeDiff, Nat.reduceMul, Nat.reduceSub, Nat.reduceDiv, Nat.reduceMod, Nat.reduceBEq, Nat.reduceBNe, reduceIte, reduceCtorEq, Int.reduceToNat, Int.reduceLT, Int.reduceLE, Int.reduceAdd, Int.reduceSub, Int.reduceMul, Int.reduceNeg, Int.reduceEq, Int.reduceNe, D_G, D_P, List.lookup, tys, intsV_len, h1, h2]
              exact Post.r1 rfl ⟨rfl, rfl⟩
    | false =>
      cases h3 : decide (s < 2) with
      | true => simp -implicitDefEqProofs only [s_s, argEnv, PastOK, PendOK, sel, isE, isSp, baseOK, opR, opnd, opnds, opndL, ofConst, look, putE, dstOK, guardL, binR, intOp, loadR, bad, bound, lenV, srcV, Ob.read, V.plain, V.one, V.cells, fillV, setMany, zeros, TK.agg, Sub, cellRes, loadV, bindE, Nat.reduceAdd, Nat.reduceEqDiff, Nat.reduceLT, Nat.reduceLeDiff, Nat.reduceMul, Nat.reduceSub, Nat.reduceDiv, Nat.reduceMod, Nat.reduceBEq, Nat.reduceBNe, reduceIte, reduceCtorEq, Int.reduceToNat, Int.reduceLT, Int.reduceLE, Int.reduceAdd, Int.reduceSub, Int.reduceMul, Int.reduceNeg, Int.reduceEq, Int.reduceNe, D_G, D_P, List.lookup, tys, intsV_len, h1, h2, h3]
                exact Post.r1 rfl ⟨rfl, rfl⟩
      | false =>
        cases h4 : decide (8 < s) with
        | true => simp -implicitDefEqProofs only [s_s, argEnv, PastOK, PendOK, sel, isE, isSp, baseOK, opR, opnd, opnds, opndL, ofConst, look, putE, dstOK, guardL, binR, intOp, loadR, bad, bound, lenV, srcV, Ob.read, V.plain, V.one, V.cells, fillV, setMany, zeros, TK.agg, Sub, cellRes, loadV, bindE, Nat.reduceAdd, Nat.reduceEqDiff, Nat.reduceLT, Nat.reduceLeDiff, Nat.reduceMul, Nat.reduceSub, Nat.reduceDiv, Nat.reduceMod, Nat.reduceBEq, Nat.reduceBNe, reduceIte, reduceCtorEq, Int.reduceToNat, Int.reduceLT, Int.reduceLE, Int.reduceAdd, Int.reduceSub, Int.reduceMul, Int.reduceNeg, Int.reduceEq, Int.reduceNe, D_G, D_P, List.lookup, tys, intsV_len, h1, h2, h3, h4]
                  exact Post.r1 rfl ⟨rfl, rfl⟩
        | false =>
          cases h5 : decide (t < 0) with
          | true => simp -implicitDefEqProofs only [s_s, argEnv, PastOK, PendOK, sel, isE, isSp, baseOK, opR, opnd, opnds, opndL, ofConst, look, putE, dstOK, guardL, binR, intOp, loadR, bad, bound, lenV, srcV, Ob.read, V.plain, V.one, V.cells, fillV, setMany, zeros, TK.agg, Sub, cellRes, loadV, bindE, Nat.reduceAdd, Nat.reduceEqDiff, Nat.reduceLT, Nat.reduceLeDiff, Nat.reduceMul, Nat.reduceSub, Nat.reduceDiv, Nat.reduceMod, Nat.reduceBEq, Nat.reduceBNe, reduceIte, reduceCtorEq, Int.reduceToNat, Int.reduceLT, Int.reduceLE, Int.reduceAdd, Int.reduceSub, Int.reduceMul, Int.reduceNeg, Int.reduceEq, Int.reduceNe, D_G, D_P, List.lookup, tys, intsV_len, h1, h2, h3, h4, h5]
                    exact Post.r1 rfl ⟨rfl, rfl⟩
          | false =>
            have h6 : decide (k < t) = true := by simp at h1 h2 h3 h4 h5 ⊢; omega
            simp -implicitDefEqProofs only [s_s, argEnv, PastOK, PendOK, sel, isE, isSp, baseOK, opR, opnd, opnds, opndL, ofConst, look, putE, dstOK, guardL, binR, intOp, loadR, bad, bound, lenV, srcV, Ob.read, V.plain, V.one, V.cells, fillV, setMany, zeros, TK.agg, Sub, cellRes, loadV, bindE, Nat.reduceAdd, Nat.reduceEqDiff, Nat.reduceLT, Nat.reduceLeDiff, Nat.reduceMul, Nat.reduceSub, Nat.reduceDiv, Nat.reduceMod, Nat.reduceBEq, Nat.reduceBNe, reduceIte, reduceCtorEq, Int.reduceToNat, Int.reduceLT, Int.reduceLE, Int.reduceAdd, Int.reduceSub, Int.reduceMul, Int.reduceNeg, Int.reduceEq, Int.reduceNe, D_G, D_P, List.lookup, tys, intsV_len, h1, h2, h3, h4, h5, h6]
            exact Post.r1 rfl ⟨rfl, rfl⟩

/-- The sum of the terms below i. -/
def raoSum (k s : Nat) : Nat → Nat
  | 0 => 0
  | i + 1 => raoSum k s i + binom k i * (s - 1) ^ i

def raoN (k s t : Nat) : Nat := t % 2 * binom (k - 1) (t / 2) * (s - 1) ^ (t / 2 + 1) + raoSum k s (t / 2 + 1)

theorem rao_term {k s i : Nat} (hk : k ≤ 8) (hs : 2 ≤ s) (h8 : s ≤ 8) (hi : i ≤ 5) (hik : i ≤ k) : binom k i * (s - 1) ^ i ≤ 1000 * 16807 ∧ 0 < (s - 1) ^ i ∧ (s - 1) ^ i ≤ 16807 := by
  have h1 : (s - 1) ^ i ≤ 7 ^ i := Nat.pow_le_pow_left (by omega) i
  have h2 : 7 ^ i ≤ 7 ^ 5 := Nat.pow_le_pow_right (by omega) hi
  have h3 := binom_lt k i (by omega) hik
  exact ⟨Nat.mul_le_mul (by omega) (by omega), Nat.pow_pos (by omega), by omega⟩

theorem raoSum_le {k s : Nat} (hk : k ≤ 8) (hs : 2 ≤ s) (h8 : s ≤ 8) : ∀ i, i ≤ 5 → i ≤ k + 1 → raoSum k s i ≤ i * (1000 * 16807)
  | 0, _, _ => by simp [raoSum]
  | i + 1, h1, h2 => by
    have := raoSum_le hk hs h8 i (by omega) (by omega)
    have := (rao_term (i := i) hk hs h8 (by omega) (by omega)).1
    simp only [raoSum]
    omega

theorem Rao_spec (k s t : Nat) (hk1 : 1 ≤ k) (hk8 : k ≤ 8) (hs2 : 2 ≤ s) (hs8 : s ≤ 8) (ht : t ≤ k) (st : St) : VCall D 23 [.int .i64 k, .int .i64 s, .int .i64 t] st (fun r st' => r = .int .i64 (raoN k s t) ∧ st' = st) := by
  have b1 : decide ((k : Int) < 1) = false := by simp; omega
  have b2 : decide ((8 : Int) < k) = false := by simp; omega
  have b3 : decide ((s : Int) < 2) = false := by simp; omega
  have b4 : decide ((8 : Int) < s) = false := by simp; omega
  have b5 : decide ((t : Int) < 0) = false := by simp
  have b6 : decide ((k : Int) < t) = false := by simp; omega
  have e1 : IntKind.i64.wrap ((t : Int).tdiv 2) = (t / 2 : Nat) := by
    rw [show (2 : Int) = ((2 : Nat) : Int) from rfl, ← Int.ofNat_tdiv]; exact wrapI (by omega) (by omega)
  have e2 : (t : Int).tmod 2 = (t % 2 : Nat) := by rw [show (2 : Int) = ((2 : Nat) : Int) from rfl, ← Int.ofNat_tmod]
  have e3 : IntKind.i64.wrap ((k : Int) - 1) = ((k - 1 : Nat) : Int) := by rw [wrapI (by omega) (by omega)]; omega
  have e4 : IntKind.i64.wrap ((s : Int) - 1) = ((s - 1 : Nat) : Int) := by rw [wrapI (by omega) (by omega)]; omega
  have e5 : IntKind.i64.wrap (((t / 2 : Nat) : Int) + 1) = ((t / 2 + 1 : Nat) : Int) := by rw [wrapI (by omega) (by omega)]; omega
  have hu : t / 2 ≤ k - 1 := by omega
  obtain ⟨p1, p2, p3⟩ := rao_term (k := k) (s := s) (i := t / 2 + 1) hk8 hs2 hs8 (by omega) (by omega)
  have hb := binom_lt (k - 1) (t / 2) (by omega) hu
  have m1 : t % 2 * binom (k - 1) (t / 2) ≤ 1 * 1000 := Nat.mul_le_mul (by omega) (by omega)
  have m2 : t % 2 * binom (k - 1) (t / 2) * (s - 1) ^ (t / 2 + 1) ≤ 1000 * 16807 := Nat.mul_le_mul (by omega) p3
  have w1 : IntKind.i64.wrap (((t % 2 : Nat) : Int) * (binom (k - 1) (t / 2) : Int)) = ((t % 2 * binom (k - 1) (t / 2) : Nat) : Int) := by rw [← Int.natCast_mul]; exact wrapI (by omega) (by omega)
  have w2 : IntKind.i64.wrap (((t % 2 * binom (k - 1) (t / 2) : Nat) : Int) * (((s - 1) ^ (t / 2 + 1) : Nat) : Int)) = ((t % 2 * binom (k - 1) (t / 2) * (s - 1) ^ (t / 2 + 1) : Nat) : Int) := by rw [← Int.natCast_mul]; exact wrapI (by omega) (by omega)
  refine VCall.of_WP (fn := Tryd.f23) (c := _) Tryd.func23 rfl (by decide +kernel) (Nat.le_of_ble_eq_true rfl) ?_
  refine wpF_sound ?_
  simp -implicitDefEqProofs only [s_s, argEnv, PastOK, PendOK, sel, isE, isSp, baseOK, opR, opnd, opnds, opndL, ofConst, look, putE, dstOK, guardL, binR, intOp, loadR, bad, bound, lenV, srcV, Ob.read, V.plain, V.one, V.cells, fillV, setMany, zeros, TK.agg, Sub, cellRes, loadV, bindE, Nat.reduceAdd, Nat.reduceEqDiff, Nat.reduceLT, Nat.reduceLeDiff, Nat.reduceMul, Nat.reduceSub, Nat.reduceDiv, Nat.reduceMod, Nat.reduceBEq, Nat.reduceBNe, reduceIte, reduceCtorEq, Int.reduceToNat, Int.reduceLT, Int.reduceLE, Int.reduceAdd, Int.reduceSub, Int.reduceMul, Int.reduceNeg, Int.reduceEq, Int.reduceNe, D_G, D_P, List.lookup, tys, intsV_len, Tryd.ntmps23, Tryd.f23, b1, b2, b3, b4, b5, b6, e1, e2, e3]
  refine Sp.call rfl rfl ?_
  refine (choose_spec (k - 1) (t / 2) (by omega) hu _).mono ?_
  rintro r st' ⟨rfl, rfl⟩
  simp -implicitDefEqProofs only [s_s, argEnv, PastOK, PendOK, sel, isE, isSp, baseOK, opR, opnd, opnds, opndL, ofConst, look, putE, dstOK, guardL, binR, intOp, loadR, bad, bound, lenV, srcV, Ob.read, V.plain, V.one, V.cells, fillV, setMany, zeros, TK.agg, Sub, cellRes, loadV, bindE, Nat.reduceAdd, Nat.reduceEqDiff, Nat.reduceLT, Nat.reduceLeDiff, Nat.reduceMul, Nat.reduceSub, Nat.reduceDiv, Nat.reduceMod, Nat.reduceBEq, Nat.reduceBNe, reduceIte, reduceCtorEq, Int.reduceToNat, Int.reduceLT, Int.reduceLE, Int.reduceAdd, Int.reduceSub, Int.reduceMul, Int.reduceNeg, Int.reduceEq, Int.reduceNe, D_G, D_P, List.lookup, tys, intsV_len, w1, e4, e5]
  refine Sp.call rfl rfl ?_
  refine (power_spec (s - 1) (t / 2 + 1) (by omega) (by omega) (by omega) _).mono ?_
  rintro r st' ⟨rfl, rfl⟩
  obtain ⟨B, hB⟩ : ∃ B, B = t % 2 * binom (k - 1) (t / 2) * (s - 1) ^ (t / 2 + 1) := ⟨_, rfl⟩
  rw [← hB] at w2 m2
  simp -implicitDefEqProofs only [s_s, argEnv, PastOK, PendOK, sel, isE, isSp, baseOK, opR, opnd, opnds, opndL, ofConst, look, putE, dstOK, guardL, binR, intOp, loadR, bad, bound, lenV, srcV, Ob.read, V.plain, V.one, V.cells, fillV, setMany, zeros, TK.agg, Sub, cellRes, loadV, bindE, Nat.reduceAdd, Nat.reduceEqDiff, Nat.reduceLT, Nat.reduceLeDiff, Nat.reduceMul, Nat.reduceSub, Nat.reduceDiv, Nat.reduceMod, Nat.reduceBEq, Nat.reduceBNe, reduceIte, reduceCtorEq, Int.reduceToNat, Int.reduceLT, Int.reduceLE, Int.reduceAdd, Int.reduceSub, Int.reduceMul, Int.reduceNeg, Int.reduceEq, Int.reduceNe, D_G, D_P, List.lookup, tys, intsV_len, w2, e5]
  refine WP.loopF (ι := Nat) (fun i => [(0, .int .i64 k), (1, .int .i64 s), (8, .int .i64 ((B + raoSum k s i : Nat) : Int)), (49, .int .i64 ((t / 2 + 1 : Nat) : Int)), (50, .int .i64 i)]) (fun _ => st') (fun i => i ≤ t / 2 + 1) (fun i => t / 2 + 1 - i) 0 (by omega) (by simp -implicitDefEqProofs only [s_s, argEnv, PastOK, PendOK, sel, isE, isSp, baseOK, opR, opnd, opnds, opndL, ofConst, look, putE, dstOK, guardL, binR, intOp, loadR, bad, bound, lenV, srcV, Ob.read, V.plain, V.one, V.cells, fillV, setMany, zeros, TK.agg, Sub, cellRes, loadV, bindE, Nat.reduceAdd, Nat.reduceEqDiff, Nat.reduceLT, Nat.reduceLeDiff, Nat.reduceMul, Nat.reduceSub, Nat.reduceDiv, Nat.reduceMod, Nat.reduceBEq, Nat.reduceBNe, reduceIte, reduceCtorEq, Int.reduceToNat, Int.reduceLT, Int.reduceLE, Int.reduceAdd, Int.reduceSub, Int.reduceMul, Int.reduceNeg, Int.reduceEq, Int.reduceNe, D_G, D_P, List.lookup, tys, intsV_len]; simp [raoSum]) rfl ?_
  intro i hi
  simp -implicitDefEqProofs only [s_s, argEnv, PastOK, PendOK, sel, isE, isSp, baseOK, opR, opnd, opnds, opndL, ofConst, look, putE, dstOK, guardL, binR, intOp, loadR, bad, bound, lenV, srcV, Ob.read, V.plain, V.one, V.cells, fillV, setMany, zeros, TK.agg, Sub, cellRes, loadV, bindE, Nat.reduceAdd, Nat.reduceEqDiff, Nat.reduceLT, Nat.reduceLeDiff, Nat.reduceMul, Nat.reduceSub, Nat.reduceDiv, Nat.reduceMod, Nat.reduceBEq, Nat.reduceBNe, reduceIte, reduceCtorEq, Int.reduceToNat, Int.reduceLT, Int.reduceLE, Int.reduceAdd, Int.reduceSub, Int.reduceMul, Int.reduceNeg, Int.reduceEq, Int.reduceNe, D_G, D_P, List.lookup, tys, intsV_len]
  refine Br.intro (fun h => ?_) (fun h => ?_)
  · have h' : i < t / 2 + 1 := by have := of_decide_eq_true h; omega
    obtain ⟨q1, q2, q3⟩ := rao_term (k := k) (s := s) (i := i) hk8 hs2 hs8 (by omega) (by omega)
    have hs := raoSum_le (k := k) (s := s) hk8 hs2 hs8 i (by omega) (by omega)
    have hs' : i * (1000 * 16807) ≤ 5 * (1000 * 16807) := Nat.mul_le_mul (by omega) (Nat.le_refl _)
    have v1 : IntKind.i64.wrap ((binom k i : Int) * (((s - 1) ^ i : Nat) : Int)) = ((binom k i * (s - 1) ^ i : Nat) : Int) := by rw [← Int.natCast_mul]; exact wrapI (by omega) (by omega)
    have v2 : IntKind.i64.wrap (((B + raoSum k s i : Nat) : Int) + ((binom k i * (s - 1) ^ i : Nat) : Int)) = ((B + raoSum k s (i + 1) : Nat) : Int) := by
      rw [← Int.natCast_add, raoSum, ← Nat.add_assoc]; exact wrapI (by omega) (by omega)
    have v3 := wrapI (n := (i : Int) + 1) (by omega) (by omega)
    simp -implicitDefEqProofs only [s_s, argEnv, PastOK, PendOK, sel, isE, isSp, baseOK, opR, opnd, opnds, opndL, ofConst, look, putE, dstOK, guardL, binR, intOp, loadR, bad, bound, lenV, srcV, Ob.read, V.plain, V.one, V.cells, fillV, setMany, zeros, TK.agg, Sub, cellRes, loadV, bindE, Nat.reduceAdd, Nat.reduceEqDiff, Nat.reduceLT, Nat.reduceLeDiff, Nat.reduceMul, Nat.reduceSub, Nat.reduceDiv, Nat.reduceMod, Nat.reduceBEq, Nat.reduceBNe, reduceIte, reduceCtorEq, Int.reduceToNat, Int.reduceLT, Int.reduceLE, Int.reduceAdd, Int.reduceSub, Int.reduceMul, Int.reduceNeg, Int.reduceEq, Int.reduceNe, D_G, D_P, List.lookup, tys, intsV_len]
    refine Sp.call rfl rfl ?_
    refine (choose_spec k i (by omega) (by omega) _).mono ?_
    rintro r st'' ⟨rfl, rfl⟩
    simp -implicitDefEqProofs only [s_s, argEnv, PastOK, PendOK, sel, isE, isSp, baseOK, opR, opnd, opnds, opndL, ofConst, look, putE, dstOK, guardL, binR, intOp, loadR, bad, bound, lenV, srcV, Ob.read, V.plain, V.one, V.cells, fillV, setMany, zeros, TK.agg, Sub, cellRes, loadV, bindE, Nat.reduceAdd, Nat.reduceEqDiff, Nat.reduceLT, Nat.reduceLeDiff, Nat.reduceMul, Nat.reduceSub, Nat.reduceDiv, Nat.reduceMod, Nat.reduceBEq, Nat.reduceBNe, reduceIte, reduceCtorEq, Int.reduceToNat, Int.reduceLT, Int.reduceLE, Int.reduceAdd, Int.reduceSub, Int.reduceMul, Int.reduceNeg, Int.reduceEq, Int.reduceNe, D_G, D_P, List.lookup, tys, intsV_len, e4]
    refine Sp.call rfl rfl ?_
    refine (power_spec (s - 1) i (by omega) (by omega) (by omega) _).mono ?_
    rintro r st'' ⟨rfl, rfl⟩
    simp -implicitDefEqProofs only [s_s, argEnv, PastOK, PendOK, sel, isE, isSp, baseOK, opR, opnd, opnds, opndL, ofConst, look, putE, dstOK, guardL, binR, intOp, loadR, bad, bound, lenV, srcV, Ob.read, V.plain, V.one, V.cells, fillV, setMany, zeros, TK.agg, Sub, cellRes, loadV, bindE, Nat.reduceAdd, Nat.reduceEqDiff, Nat.reduceLT, Nat.reduceLeDiff, Nat.reduceMul, Nat.reduceSub, Nat.reduceDiv, Nat.reduceMod, Nat.reduceBEq, Nat.reduceBNe, reduceIte, reduceCtorEq, Int.reduceToNat, Int.reduceLT, Int.reduceLE, Int.reduceAdd, Int.reduceSub, Int.reduceMul, Int.reduceNeg, Int.reduceEq, Int.reduceNe, D_G, D_P, List.lookup, tys, intsV_len, v1, v2, v3]
    refine Kl.next (i + 1) (by omega) (by omega) ?_ rfl
    simp -implicitDefEqProofs only [s_s, argEnv, PastOK, PendOK, sel, isE, isSp, baseOK, opR, opnd, opnds, opndL, ofConst, look, putE, dstOK, guardL, binR, intOp, loadR, bad, bound, lenV, srcV, Ob.read, V.plain, V.one, V.cells, fillV, setMany, zeros, TK.agg, Sub, cellRes, loadV, bindE, Nat.reduceAdd, Nat.reduceEqDiff, Nat.reduceLT, Nat.reduceLeDiff, Nat.reduceMul, Nat.reduceSub, Nat.reduceDiv, Nat.reduceMod, Nat.reduceBEq, Nat.reduceBNe, reduceIte, reduceCtorEq, Int.reduceToNat, Int.reduceLT, Int.reduceLE, Int.reduceAdd, Int.reduceSub, Int.reduceMul, Int.reduceNeg, Int.reduceEq, Int.reduceNe, D_G, D_P, List.lookup, tys, intsV_len, Int.natCast_add, Int.natCast_one]
  · have hi' : i = t / 2 + 1 := by have := of_decide_eq_false h; omega
    subst hi'
    simp -implicitDefEqProofs only [s_s, argEnv, PastOK, PendOK, sel, isE, isSp, baseOK, opR, opnd, opnds, opndL, ofConst, look, putE, dstOK, guardL, binR, intOp, loadR, bad, bound, lenV, srcV, Ob.read, V.plain, V.one, V.cells, fillV, setMany, zeros, TK.agg, Sub, cellRes, loadV, bindE, Nat.reduceAdd, Nat.reduceEqDiff, Nat.reduceLT, Nat.reduceLeDiff, Nat.reduceMul, Nat.reduceSub, Nat.reduceDiv, Nat.reduceMod, Nat.reduceBEq, Nat.reduceBNe, reduceIte, reduceCtorEq, Int.reduceToNat, Int.reduceLT, Int.reduceLE, Int.reduceAdd, Int.reduceSub, Int.reduceMul, Int.reduceNeg, Int.reduceEq, Int.reduceNe, D_G, D_P, List.lookup, tys, intsV_len]
    exact Post.r1 rfl ⟨by rw [raoN, ← hB], rfl⟩
end Go.VL
end

/- The value-level program logic, part 24: lists that grow from nothing. -/
section
set_option linter.unusedVariables false
set_option linter.unusedSimpArgs false
namespace Go.VL
open Go

/-- A value, or a list that grows in the place of nothing. -/
def SeedV (id sz : Nat) (v v' : V) : Prop := v = v' ∨ (v = .e0 ∧ v' = .slc id 0 0 0 sz)
def SeedL (id sz : Nat) : List V → List V → Prop
  | [], cs' => cs' = []
  | c :: cs, cs' => ∃ d ds, cs' = d :: ds ∧ SeedV id sz c d ∧ SeedL id sz cs ds
def SeedE (id sz : Nat) (env : Env) : Env → Prop
  | [] => True
  | (t, v') :: r => (∃ v, look env t = some v ∧ SeedV id sz v v') ∧ SeedE id sz env r
def SeedO (id sz : Nat) (o o' : Ob) : Prop := o' = o ∨ ∃ ver cs cs', o = .cells ver cs ∧ o' = .cells ver cs' ∧ SeedL id sz cs cs'
def SeedS (id sz : Nat) : St → St → Prop
  | [], s' => s' = []
  | o :: s, s' => ∃ o' r, s' = o' :: r ∧ SeedO id sz o o' ∧ SeedS id sz s r

theorem SeedE.get {id sz : Nat} {env : Env} : ∀ {env' : Env}, SeedE id sz env env' → ∀ (t : Nat) (v' : V), look env' t = some v' → ∃ v, look env t = some v ∧ SeedV id sz v v'
  | [], _, t, v', h => by cases h
  | (k, u) :: r, hc, t, v', h => by
    simp only [look] at h
    split at h
    · rename_i e; cases h; subst e; exact hc.1
    · exact SeedE.get hc.2 t v' h

theorem SeedS.get {id sz : Nat} : ∀ {s s' : St}, SeedS id sz s s' → s.length = s'.length ∧ ∀ (i : Nat) (o' : Ob), s'[i]? = some o' → ∃ o, s[i]? = some o ∧ SeedO id sz o o'
  | [], s', h => by simp only [SeedS] at h; subst h; exact ⟨rfl, fun i o' h => by simp at h⟩
  | o :: s, s', h => by
    simp only [SeedS] at h
    obtain ⟨o', r, rfl, h1, h2⟩ := h
    obtain ⟨g1, g2⟩ := SeedS.get h2
    refine ⟨by simp [g1], fun i p hp => ?_⟩
    cases i with
    | zero => simp at hp; subst hp; exact ⟨o, rfl, h1⟩
    | succ i => simpa using g2 i p (by simpa using hp)

theorem SeedS.refl {id sz : Nat} : ∀ {s : St}, SeedS id sz s s
  | [] => rfl
  | o :: s => ⟨o, s, rfl, .inl rfl, SeedS.refl⟩

theorem SeedS.app {id sz : Nat} {l l' : St} (h : SeedS id sz l l') : ∀ {s : St}, SeedS id sz (s ++ l) (s ++ l')
  | [] => h
  | o :: s => ⟨o, s ++ l', rfl, .inl rfl, SeedS.app h⟩

theorem SeedL.refl {id sz : Nat} : ∀ {cs : List V}, SeedL id sz cs cs
  | [] => rfl
  | c :: cs => ⟨c, cs, rfl, .inl rfl, SeedL.refl⟩

theorem SeedL.nil {id sz : Nat} : SeedL id sz [] [] := rfl
theorem SeedL.keep {id sz : Nat} {c : V} {cs ds : List V} (h : SeedL id sz cs ds) : SeedL id sz (c :: cs) (c :: ds) := ⟨c, ds, rfl, .inl rfl, h⟩
theorem SeedL.e0 {id sz : Nat} {cs ds : List V} (h : SeedL id sz cs ds) : SeedL id sz (.e0 :: cs) (.slc id 0 0 0 sz :: ds) := ⟨_, ds, rfl, .inr ⟨rfl, rfl⟩, h⟩
theorem SeedS.nil {id sz : Nat} : SeedS id sz [] [] := rfl
theorem SeedS.keep {id sz : Nat} {o : Ob} {s s' : St} (h : SeedS id sz s s') : SeedS id sz (o :: s) (o :: s') := ⟨o, s', rfl, .inl rfl, h⟩
theorem SeedS.cells {id sz ver : Nat} {cs ds : List V} {s s' : St} (hc : SeedL id sz cs ds) (h : SeedS id sz s s') : SeedS id sz (.cells ver cs :: s) (.cells ver ds :: s') := ⟨_, s', rfl, .inr ⟨ver, cs, ds, rfl, rfl, hc⟩, h⟩

theorem SeedL.cells {S : Nat → Prop} {σ σ' : List Slot} {w : World} {id sz : Nat} (hV : ∀ v v' x, SeedV id sz v v' → Rep S σ w v x → Rep S σ' w v' x) : ∀ {cs cs' : List V} {b o : Nat}, SeedL id sz cs cs' → RepCells S σ w b o cs → RepCells S σ' w b o cs' ∧ cs'.length = cs.length
  | [], cs', b, o, h, hr => by simp only [SeedL] at h; subst h; exact ⟨trivial, rfl⟩
  | c :: cs, cs', b, o, h, hr => by
    simp only [SeedL] at h
    obtain ⟨d, ds, rfl, h1, h2⟩ := h
    simp only [RepCells] at hr ⊢
    obtain ⟨⟨g1, x, g2, g3⟩, g4⟩ := hr
    obtain ⟨k1, k2⟩ := SeedL.cells hV h2 g4
    refine ⟨⟨⟨?_, x, g2, hV c d x h1 g3⟩, k1⟩, by simp [k2]⟩
    rcases h1 with rfl | ⟨rfl, rfl⟩
    · exact g1
    · rfl

section
variable {cx : Cx} {N : Nat} {r : RR} {env : Env} {st : St} {Q : Exit → Env → St → Prop}

/-- A list that is nothing yet becomes an object that may grow. -/
theorem WP.seed {c : Code} (sz id : Nat) (env' : Env) (st' : St) (hid : id = st.length) (hz : 0 < sz) (he : SeedE id sz env env') (hs : SeedS id sz st st') (h : WP cx N r c Q env' (st' ++ [.acc 0 []])) : WP cx N r c Q env st := by
  subst hid
  intro lo S σ F a w hh hF hr
  let s0 : Slot := ⟨0, 0, 0, 0, true⟩
  have hV : ∀ v v' x, SeedV st.length sz v v' → Rep S σ w v x → Rep S (σ ++ [s0]) w v' x := by
    rintro v v' x (rfl | ⟨rfl, rfl⟩) hv
    · exact Rep.mono (fun _ h => h) (le_push _ _) ⟨fun _ _ => rfl, fun _ _ h => h⟩ _ _ hv
    · simp only [Rep] at hv ⊢
      obtain ⟨A, rfl⟩ := hv
      exact ⟨⟨_, _, _, rfl⟩, s0, slot_new hh.str s0, Nat.le_refl _, fun _ => ⟨hz, .inl ⟨trivial, rfl, A, rfl⟩⟩⟩
  obtain ⟨hl, hg⟩ := hs.get
  have hlen := hh.str.len
  have cases' : ∀ {id : Nat} {ob' : Ob} {s' : Slot}, (st' ++ [.acc 0 []])[id]? = some ob' → (σ ++ [s0])[id]? = some s' → (∃ ob, st[id]? = some ob ∧ SeedO st.length sz ob ob' ∧ σ[id]? = some s') ∨ (id = st.length ∧ ob' = .acc 0 [] ∧ s' = s0) := by
    intro id ob' s' h1 h2
    rcases Nat.lt_trichotomy id st.length with hlt | heq | hgt
    · rw [List.getElem?_append_left (by omega)] at h1
      rw [List.getElem?_append_left (by omega)] at h2
      obtain ⟨o, g1, g2⟩ := hg id ob' h1
      exact .inl ⟨o, g1, g2, h2⟩
    · subst heq
      rw [List.getElem?_append_right (by omega)] at h1
      rw [List.getElem?_append_right (by omega)] at h2
      simp [hlen, hl] at h1 h2
      exact .inr ⟨rfl, h1.symm, h2.symm⟩
    · rw [List.getElem?_eq_none (by simp; omega)] at h1; cases h1
  have hlive : ∀ {o o' : Ob}, SeedO st.length sz o o' → o'.live = o.live := by
    rintro o o' (rfl | ⟨ver, cs, cs', rfl, rfl, _⟩) <;> rfl
  have hsolid : ∀ {o o' : Ob}, SeedO st.length sz o o' → o'.solid = o.solid := by
    rintro o o' (rfl | ⟨ver, cs, cs', rfl, rfl, _⟩) <;> rfl
  have hst : StRep S (σ ++ [s0]) (st' ++ [.acc 0 []]) w := by
    refine ⟨by simp [hlen, hl], ?_, ?_, ?_, ?_⟩
    · intro id s' h2
      rcases Nat.lt_or_ge id σ.length with hlt | hge
      · rw [List.getElem?_append_left hlt] at h2; exact hh.str.zero id s' h2
      · rw [List.getElem?_append_right hge] at h2
        cases hk : id - σ.length with
        | zero => rw [hk] at h2; simp at h2; rw [← h2]
        | succ k => rw [hk] at h2; simp at h2
    · intro id ob' s' h1 h2 h3
      rcases cases' h1 h2 with ⟨o, g1, g2, g3⟩ | ⟨rfl, rfl, rfl⟩
      · exact hh.str.nil id o s' g1 g3 (by rw [← hsolid g2]; exact h3)
      · cases h3
    · intro id ob' s' h1 h2
      rcases cases' h1 h2 with ⟨o, g1, g2, g3⟩ | ⟨rfl, rfl, rfl⟩
      · have h5 := hh.str.ob id o s' g1 g3
        rcases g2 with rfl | ⟨ver, cs, cs', rfl, rfl, h6⟩
        · exact h5.mono (fun _ h => h) (fun hl => (hh.str.own_lt ⟨_, _, _, g1, hl, g3, rfl⟩).2) (le_push _ _) ⟨fun _ _ => rfl, fun _ _ h => h⟩ (fun _ => rfl)
        · simp only [ObRep] at h5 ⊢
          obtain ⟨a1, a2, a3, a4, a5⟩ := h5
          obtain ⟨b1, b2⟩ := SeedL.cells hV h6 a5
          exact ⟨a1, by rw [b2]; exact a2, a3, by rw [b2]; exact a4, b1⟩
      · simp only [ObRep, s0]
        exact ⟨trivial, rfl, fun _ => trivial, fun h => absurd rfl h⟩
    · intro i j o1 o2 s1 s2 g1 g2 l1 l2 k1 k2 e
      rcases cases' g1 k1 with ⟨p1, f1, f2, f3⟩ | ⟨rfl, rfl, rfl⟩
      · rcases cases' g2 k2 with ⟨p2, f4, f5, f6⟩ | ⟨rfl, rfl, rfl⟩
        · exact hh.str.inj i j p1 p2 s1 s2 f1 f4 (by rw [← hlive f2]; exact l1) (by rw [← hlive f5]; exact l2) f3 f6 e
        · cases l2
      · cases l1
  have hev : Evo S σ st w S (σ ++ [s0]) (st' ++ [.acc 0 []]) w := by
    refine ⟨rfl, rfl, rfl, Nat.le_refl _, fun _ _ h => h, fun _ _ _ => rfl, fun _ h => h, fun _ h => .inl h, ?_, le_push _ _⟩
    rintro b ⟨id, ob', s', k1, k2, k3, rfl⟩
    rcases cases' k1 k3 with ⟨p1, f1, f2, f3⟩ | ⟨rfl, rfl, rfl⟩
    · exact .inl ⟨id, p1, s', f1, by rw [← hlive f2]; exact k2, f3, rfl⟩
    · cases k2
  have hh2 : Holds cx N lo S (σ ++ [s0]) env' (st' ++ [.acc 0 []]) a w := ⟨hh.size, fun t v' hv => by
    obtain ⟨v, g1, g2⟩ := he.get t v' hv
    exact hV v v' _ g2 (hh.rep t v g1), hst, hh.sb, hh.dfr.mono hev, hh.le⟩
  refine Code.wpIn_mono ?_ (h lo S _ F a w hh2 hF hr)
  rintro e a' w' ⟨env2, st2, S3, σ3, q, h3, ev⟩
  exact ⟨env2, st2, S3, σ3, q, h3, hev.toW.trans ev⟩

theorem wpF_seed {c : Code} (sz id : Nat) (env' : Env) (st' : St) (hid : id = st.length) (hz : 0 < sz) (he : SeedE id sz env env') (hs : SeedS id sz st st') (h : wpF cx N r c Q env' (st' ++ [.acc 0 []])) : WP cx N r c Q env st :=
  WP.seed sz id env' st' hid hz he hs (wpF_sound h)
end

theorem ConvL.refl {lo : Nat} {st : St} : ∀ {cs : List V}, bddL lo cs = true → ConvL lo st cs cs
  | [], _ => .nil
  | c :: cs, h => by
    simp only [bddL, Bool.and_eq_true] at h
    exact .cons (.keep h.1) (ConvL.refl h.2)

theorem ConvL.app {lo : Nat} {st : St} {ds ds' : List V} (h2 : ConvL lo st ds ds') : ∀ {cs cs' : List V}, ConvL lo st cs cs' → ConvL lo st (cs ++ ds) (cs' ++ ds')
  | _, _, .nil => h2
  | _, _, .cons h hs => .cons h (ConvL.app h2 hs)

theorem ConvL.snoc {lo : Nat} {st : St} {cs : List V} {v v' : V} (h : bddL lo cs = true) (h2 : Conv lo st v v') : ConvL lo st (cs ++ [v]) (cs ++ [v']) :=
  ConvL.app (.cons h2 .nil) (ConvL.refl h)

/-- A whole list of one's own, as it reads. -/
theorem Conv.whole {lo : Nat} {st : St} {id ver n sz : Nat} {ob : Ob} {cs : List V} (h0 : lo ≤ id) (h1 : st[id]? = some ob) (h2 : ob.read ver = some cs) (h3 : cs.length = n * sz) (h4 : bddL lo cs = true) : Conv lo st (.slc id ver 0 n sz) (.lst sz cs) :=
  .slc h0 h1 h2 (by omega) (by rw [List.drop_zero, List.take_of_length_le (by omega)]; exact ConvL.refl h4)

theorem tmodN (a n : Nat) : ((a : Nat) : Int).tmod ((n : Nat) : Int) = ((a % n : Nat) : Int) := by rw [← Int.ofNat_tmod]

/-- All that is known on stays. -/
def bddE (lo : Nat) : Env → Prop
  | [] => True
  | p :: r => p.2.bdd lo = true ∧ bddE lo r

theorem EnvC.of_sub {lo : Nat} {st : St} {env : Env} : ∀ {env' : Env}, Sub env env' → bddE lo env' → EnvC lo st env env'
  | [], _, _ => trivial
  | (t, v) :: r, hs, hb => ⟨⟨v, hs.1, .keep hb.1⟩, EnvC.of_sub hs.2 hb.2⟩

theorem bddL_app {n : Nat} : ∀ {cs ds : List V}, bddL n (cs ++ ds) = (bddL n cs && bddL n ds)
  | [], ds => by simp [bddL]
  | c :: cs, ds => by simp [bddL, bddL_app, Bool.and_assoc]
end Go.VL
end

/- The array seat: the reference's arrays. -/
section
set_option linter.unusedSimpArgs false
set_option maxRecDepth 4000
namespace Go.VL
open Go Go.Proofs

def bytesV (b : List Nat) : V := .lst 1 (b.map fun (n : Nat) => V.int .u8 n)

/-- A byte of a description. -/
def atN (b : List Nat) (i : Nat) : Nat := if b.length = 0 then i else (b[i % b.length]?).getD 0 + i / b.length

theorem at_spec (b : List Nat) (hb : ∀ n ∈ b, n < 256) (i : Nat) (hi : i < 10000) (st : St) : VCall D 29 [bytesV b, .int .i64 i] st (fun r st' => r = .int .i64 (atN b i) ∧ st' = st) := by
  refine VCall.of_WP (fn := Tryd.f29) (c := _) Tryd.func29 rfl (by decide +kernel) (Nat.le_of_ble_eq_true rfl) ?_
  refine wpF_sound ?_
  simp -implicitDefEqProofs only [s_s, argEnv, PastOK, PendOK, sel, isE, isSp, baseOK, opR, opnd, opnds, opndL, ofConst, look, putE, dstOK, guardL, binR, intOp, loadR, bad, bound, lenV, srcV, Ob.read, V.plain, V.one, V.cells, fillV, setMany, zeros, TK.agg, Sub, cellRes, loadV, bindE, Nat.reduceAdd, Nat.reduceEqDiff, Nat.reduceLT, Nat.reduceLeDiff, Nat.reduceMul, Nat.reduceSub, Nat.reduceDiv, Nat.reduceMod, Nat.reduceBEq, Nat.reduceBNe, reduceIte, reduceCtorEq, Int.reduceToNat, Int.reduceLT, Int.reduceLE, Int.reduceAdd, Int.reduceSub, Int.reduceMul, Int.reduceNeg, Int.reduceEq, Int.reduceNe, D_G, D_P, List.lookup, tys, intsV_len, Tryd.ntmps29, Tryd.f29, bytesV]
  refine Br.intro (fun h => ?_) (fun h => ?_)
  · simp -implicitDefEqProofs only [s_s, argEnv, PastOK, PendOK, sel, isE, isSp, baseOK, opR, opnd, opnds, opndL, ofConst, look, putE, dstOK, guardL, binR, intOp, loadR, bad, bound, lenV, srcV, Ob.read, V.plain, V.one, V.cells, fillV, setMany, zeros, TK.agg, Sub, cellRes, loadV, bindE, Nat.reduceAdd, Nat.reduceEqDiff, Nat.reduceLT, Nat.reduceLeDiff, Nat.reduceMul, Nat.reduceSub, Nat.reduceDiv, Nat.reduceMod, Nat.reduceBEq, Nat.reduceBNe, reduceIte, reduceCtorEq, Int.reduceToNat, Int.reduceLT, Int.reduceLE, Int.reduceAdd, Int.reduceSub, Int.reduceMul, Int.reduceNeg, Int.reduceEq, Int.reduceNe, D_G, D_P, List.lookup, tys, intsV_len]
    have hl : b.length = 0 := by have := of_decide_eq_true h; omega
    exact Post.r1 rfl ⟨by simp [atN, hl], rfl⟩
  · have hl : 0 < b.length := by have := of_decide_eq_false h; omega
    have e1 : (i : Int).tmod (b.length : Int) = (i % b.length : Nat) := by rw [← Int.ofNat_tmod]
    have e2 : IntKind.i64.wrap ((i : Int).tdiv (b.length : Int)) = (i / b.length : Nat) := by
      rw [← Int.ofNat_tdiv]
      have := Nat.div_le_self i b.length
      exact wrapI (Int.le_trans (by decide) (Int.natCast_nonneg _)) (Int.le_trans (Int.ofNat_le.2 this) (by omega))
    have hm : i % b.length < b.length := Nat.mod_lt _ hl
    obtain ⟨x, hx⟩ : ∃ x, b[i % b.length]? = some x := ⟨_, List.getElem?_eq_getElem hm⟩
    have hv : (b.map fun (n : Nat) => V.int .u8 n)[i % b.length]? = some (.int .u8 x) := by simp [hx]
    have hx256 := hb x (List.mem_of_getElem? hx)
    have e3 := wrapI (n := (x : Int)) (by omega) (by omega)
    have hd := Nat.div_le_self i b.length
    have e4 : IntKind.i64.wrap ((x : Int) + ((i / b.length : Nat) : Int)) = ((x + i / b.length : Nat) : Int) := by
      rw [← Int.natCast_add]
      exact wrapI (Int.le_trans (by decide) (Int.natCast_nonneg _)) (Int.le_trans (Int.ofNat_le.2 (show x + i / b.length ≤ 20000 by omega)) (by omega))
    simp -implicitDefEqProofs only [s_s, argEnv, PastOK, PendOK, sel, isE, isSp, baseOK, opR, opnd, opnds, opndL, ofConst, look, putE, dstOK, guardL, binR, intOp, loadR, bad, bound, lenV, srcV, Ob.read, V.plain, V.one, V.cells, fillV, setMany, zeros, TK.agg, Sub, cellRes, loadV, bindE, Nat.reduceAdd, Nat.reduceEqDiff, Nat.reduceLT, Nat.reduceLeDiff, Nat.reduceMul, Nat.reduceSub, Nat.reduceDiv, Nat.reduceMod, Nat.reduceBEq, Nat.reduceBNe, reduceIte, reduceCtorEq, Int.reduceToNat, Int.reduceLT, Int.reduceLE, Int.reduceAdd, Int.reduceSub, Int.reduceMul, Int.reduceNeg, Int.reduceEq, Int.reduceNe, D_G, D_P, List.lookup, tys, intsV_len]
    refine WP.drawF [(0, 0, 0, [0]), (0, 0, 0, [1]), (0, 0, 0, [0]), (4, 0, 0, [11]), (14, 0, 0, [10, 12]), (31, 0, 0, [9, 13]), (63, 0, 0, [14]), (127, 0, 0, [15]), (0, 0, 0, [1]), (0, 0, 0, [0]), (512, 0, 0, [18]), (1792, 0, 0, [17, 19]), (4095, 0, 0, [16, 20]), (8191, 0, 0, [21])] D_mixed (by decide +kernel) ?_
    simp -implicitDefEqProofs only [s_s, argEnv, PastOK, PendOK, sel, isE, isSp, baseOK, opR, opnd, opnds, opndL, ofConst, look, putE, dstOK, guardL, binR, intOp, loadR, bad, bound, lenV, srcV, Ob.read, V.plain, V.one, V.cells, fillV, setMany, zeros, TK.agg, Sub, cellRes, loadV, bindE, Nat.reduceAdd, Nat.reduceEqDiff, Nat.reduceLT, Nat.reduceLeDiff, Nat.reduceMul, Nat.reduceSub, Nat.reduceDiv, Nat.reduceMod, Nat.reduceBEq, Nat.reduceBNe, reduceIte, reduceCtorEq, Int.reduceToNat, Int.reduceLT, Int.reduceLE, Int.reduceAdd, Int.reduceSub, Int.reduceMul, Int.reduceNeg, Int.reduceEq, Int.reduceNe, D_G, D_P, List.lookup, tys, intsV_len, e1, hv, e2, e3, e4]
    exact ⟨by omega, ⟨Int.natCast_nonneg _, Int.ofNat_lt.2 hm⟩, by omega, Post.r1 rfl ⟨by simp [atN, hx, show ¬ b.length = 0 by omega], rfl⟩⟩

/-- Rows of k levels. -/
def RowsOK (S : Nat) (R : List (List Int)) (k : Nat) : Prop := ∀ r ∈ R, r.length = k ∧ ∀ x ∈ r, 0 ≤ x ∧ x < S

theorem bdd_ints (n : Nat) (l : List Int) : bddL n (intsV l) = true := by
  induction l with
  | nil => rfl
  | cons x l ih => simp only [intsV, List.map_cons, bddL, V.bdd, Bool.true_and]; exact ih

theorem bdd_rows (n : Nat) (R : List (List Int)) : bddL n (R.map rowV) = true := by
  induction R with
  | nil => rfl
  | cons r R ih => simp only [List.map_cons, bddL, rowV, V.bdd, bdd_ints, Bool.true_and]; exact ih

theorem intsV_snoc (l : List Int) (x : Int) : intsV l ++ [.int .i64 x] = intsV (l ++ [x]) := by simp [intsV]
theorem intsV_get {l : List Int} {i : Nat} {x : Int} (h : l[i]? = some x) : (intsV l)[i]? = some (.int .i64 x) := by simp [intsV, h]

theorem Conv.rowTake {lo : Nat} {st : St} {id ver k : Nat} {ob : Ob} {l : List Int} (h0 : lo ≤ id) (h1 : st[id]? = some ob) (h2 : ob.read ver = some (intsV l)) (h3 : k ≤ l.length) : Conv lo st (.slc id ver 0 k 1) (rowV (l.take k)) := by
  refine .slc h0 h1 h2 (by simp [intsV]; omega) ?_
  have : ((intsV l).drop 0).take (k * 1) = intsV (l.take k) := by simp [intsV, List.map_take]
  rw [this]
  exact ConvL.refl (bdd_ints _ _)

theorem Conv.row {lo : Nat} {st : St} {id ver n : Nat} {ob : Ob} {l : List Int} (h0 : lo ≤ id) (h1 : st[id]? = some ob) (h2 : ob.read ver = some (intsV l)) (h3 : n = l.length) : Conv lo st (.slc id ver 0 n 1) (rowV l) := by
  have := Conv.rowTake h0 h1 h2 (Nat.le_of_eq h3)
  rwa [List.take_of_length_le (by omega)] at this

theorem atN_le (b : List Nat) (hb : ∀ n ∈ b, n < 256) (i : Nat) (hi : i < 10000) : atN b i ≤ 20000 := by
  unfold atN
  split
  · omega
  · have := Nat.div_le_self i b.length
    cases h : b[i % b.length]? with
    | none => simp; omega
    | some x => have := hb x (List.mem_of_getElem? h); simp; omega

/-- The first levels of a row, and what is left of its number. -/
def rowA (S n : Nat) : Nat → List Int × Nat
  | 0 => ([], n)
  | j + 1 => ((rowA S n j).1 ++ [(((rowA S n j).2 % S : Nat) : Int)], (rowA S n j).2 / S)
/-- A sum of levels. -/
def sumB (l : List Int) (c : Nat) : Nat → Nat
  | 0 => ((l[0]?).getD 0).toNat
  | j + 1 => sumB l c j + c * ((l[j + 1]?).getD 0).toNat
/-- A row that grows by sums. -/
def rowB (S free : Nat) (l : List Int) : Nat → List Int
  | 0 => l
  | t + 1 => rowB S free l t ++ [((sumB (rowB S free l t) (t + 1) (free - 1) % S : Nat) : Int)]
def linRow (S k free n : Nat) : List Int := (rowB S free (rowA S n free).1 (k - free)).take k
def linRows (S k free : Nat) : List (List Int) := (List.range (S ^ free)).map (linRow S k free)

theorem rowA_ok (S n : Nat) (hS : 0 < S) (j : Nat) : (rowA S n j).1.length = j ∧ (∀ x ∈ (rowA S n j).1, 0 ≤ x ∧ x < S) ∧ (rowA S n j).2 ≤ n := by
  induction j with
  | zero => simp [rowA]
  | succ j ih =>
    refine ⟨by simp [rowA, ih.1], fun x hx => ?_, ?_⟩
    · simp only [rowA, List.mem_append, List.mem_singleton] at hx
      rcases hx with hx | rfl
      · exact ih.2.1 x hx
      · exact ⟨Int.natCast_nonneg _, Int.ofNat_lt.2 (Nat.mod_lt _ hS)⟩
    · simp only [rowA]; exact Nat.le_trans (Nat.div_le_self _ _) ih.2.2

theorem rowB_ok (S free : Nat) (hS : 0 < S) (l : List Int) (hl : ∀ x ∈ l, 0 ≤ x ∧ x < S) (t : Nat) : (rowB S free l t).length = l.length + t ∧ (∀ x ∈ rowB S free l t, 0 ≤ x ∧ x < S) := by
  induction t with
  | zero => exact ⟨rfl, hl⟩
  | succ t ih =>
    refine ⟨by simp [rowB, ih.1]; omega, fun x hx => ?_⟩
    simp only [rowB, List.mem_append, List.mem_singleton] at hx
    rcases hx with hx | rfl
    · exact ih.2 x hx
    · exact ⟨Int.natCast_nonneg _, Int.ofNat_lt.2 (Nat.mod_lt _ hS)⟩

theorem linRows_ok (S k free : Nat) (hS : 0 < S) (hf : 1 ≤ free) : (linRows S k free).length = S ^ free ∧ RowsOK S (linRows S k free) k := by
  refine ⟨by simp [linRows], fun r hr => ?_⟩
  simp only [linRows, List.mem_map, List.mem_range] at hr
  obtain ⟨n, _, rfl⟩ := hr
  obtain ⟨a1, a2, _⟩ := rowA_ok S n hS free
  obtain ⟨b1, b2⟩ := rowB_ok S free hS _ a2 (k - free)
  exact ⟨by simp only [linRow, List.length_take, b1, a1]; omega, fun x hx => b2 x (List.mem_of_mem_take hx)⟩

theorem linear_spec (S k free : Nat) (hS2 : 2 ≤ S) (hS4 : S ≤ 4) (hk1 : 1 ≤ k) (hk5 : k ≤ 5) (hf1 : 1 ≤ free) (hf3 : free ≤ 3) (st : St) {K : V → St → Prop}
    (hK : K (.slc st.length 0 0 (S ^ free) 1) (st ++ [.cells 0 ((linRows S k free).map rowV)])) :
    VCall D 30 [.int .i64 S, .int .i64 k, .int .i64 free] st K := by
  have hp1 : S ^ free ≤ 64 := by
    have h1 : S ^ free ≤ 4 ^ free := Nat.pow_le_pow_left hS4 free
    have h2 : 4 ^ free ≤ 4 ^ 3 := Nat.pow_le_pow_right (by omega) hf3
    omega
  have hp0 : 0 < S ^ free := Nat.pow_pos (by omega)
  refine VCall.own ?_
  refine VCall.of_WPB (fn := Tryd.f30) (c := _) Tryd.func30 rfl (by decide +kernel) (Nat.le_of_ble_eq_true rfl) fun hB => ?_
  refine wpF_sound ?_
  simp -implicitDefEqProofs only [s_s, argEnv, PastOK, PendOK, sel, isE, isSp, baseOK, opR, opnd, opnds, opndL, ofConst, look, putE, dstOK, guardL, binR, intOp, loadR, bad, bound, lenV, srcV, Ob.read, V.plain, V.one, V.cells, fillV, setMany, zeros, TK.agg, Sub, cellRes, loadV, bindE, Nat.reduceAdd, Nat.reduceEqDiff, Nat.reduceLT, Nat.reduceLeDiff, Nat.reduceMul, Nat.reduceSub, Nat.reduceDiv, Nat.reduceMod, Nat.reduceBEq, Nat.reduceBNe, reduceIte, reduceCtorEq, Int.reduceToNat, Int.reduceLT, Int.reduceLE, Int.reduceAdd, Int.reduceSub, Int.reduceMul, Int.reduceNeg, Int.reduceEq, Int.reduceNe, D_G, D_P, List.lookup, tys, intsV_len, Tryd.ntmps30, Tryd.f30]
  refine WP.seed 1 st.length [(0, .int .i64 S), (1, .int .i64 k), (2, .int .i64 free), (7, .slc st.length 0 0 0 1), (8, .int .i64 0)] st (by simp) (by decide) (by simp [SeedE, SeedV, look]) SeedS.refl ?_
  refine WP.loopC (ι := Nat) (fun n => [(0, .int .i64 S), (1, .int .i64 k), (2, .int .i64 free), (7, .slc st.length n 0 n 1), (8, .int .i64 n)])
    (fun n => st ++ [.acc n (((List.range n).map (linRow S k free)).map rowV)]) (fun n => n ≤ S ^ free) (fun n => S ^ free - n) 0 (by omega) (by simp -implicitDefEqProofs only [s_s, argEnv, PastOK, PendOK, sel, isE, isSp, baseOK, opR, opnd, opnds, opndL, ofConst, look, putE, dstOK, guardL, binR, intOp, loadR, bad, bound, lenV, srcV, Ob.read, V.plain, V.one, V.cells, fillV, setMany, zeros, TK.agg, Sub, cellRes, loadV, bindE, Nat.reduceAdd, Nat.reduceEqDiff, Nat.reduceLT, Nat.reduceLeDiff, Nat.reduceMul, Nat.reduceSub, Nat.reduceDiv, Nat.reduceMod, Nat.reduceBEq, Nat.reduceBNe, reduceIte, reduceCtorEq, Int.reduceToNat, Int.reduceLT, Int.reduceLE, Int.reduceAdd, Int.reduceSub, Int.reduceMul, Int.reduceNeg, Int.reduceEq, Int.reduceNe, D_G, D_P, List.lookup, tys, intsV_len]; simp) (by simp) (fun R => by simp -implicitDefEqProofs only [s_s, argEnv, PastOK, PendOK, sel, isE, isSp, baseOK, opR, opnd, opnds, opndL, ofConst, look, putE, dstOK, guardL, binR, intOp, loadR, bad, bound, lenV, srcV, Ob.read, V.plain, V.one, V.cells, fillV, setMany, zeros, TK.agg, Sub, cellRes, loadV, bindE, Nat.reduceAdd, Nat.reduceEqDiff, Nat.reduceLT, Nat.reduceLeDiff, Nat.reduceMul, Nat.reduceSub, Nat.reduceDiv, Nat.reduceMod, Nat.reduceBEq, Nat.reduceBNe, reduceIte, reduceCtorEq, Int.reduceToNat, Int.reduceLT, Int.reduceLE, Int.reduceAdd, Int.reduceSub, Int.reduceMul, Int.reduceNeg, Int.reduceEq, Int.reduceNe, D_G, D_P, List.lookup, tys, intsV_len]) ?_
  intro n hn
  simp -implicitDefEqProofs only [s_s, argEnv, PastOK, PendOK, sel, isE, isSp, baseOK, opR, opnd, opnds, opndL, ofConst, look, putE, dstOK, guardL, binR, intOp, loadR, bad, bound, lenV, srcV, Ob.read, V.plain, V.one, V.cells, fillV, setMany, zeros, TK.agg, Sub, cellRes, loadV, bindE, Nat.reduceAdd, Nat.reduceEqDiff, Nat.reduceLT, Nat.reduceLeDiff, Nat.reduceMul, Nat.reduceSub, Nat.reduceDiv, Nat.reduceMod, Nat.reduceBEq, Nat.reduceBNe, reduceIte, reduceCtorEq, Int.reduceToNat, Int.reduceLT, Int.reduceLE, Int.reduceAdd, Int.reduceSub, Int.reduceMul, Int.reduceNeg, Int.reduceEq, Int.reduceNe, D_G, D_P, List.lookup, tys, intsV_len]
  refine Sp.call rfl rfl ?_
  refine (refPower_spec S free (by omega) (by omega) (by omega) _).mono ?_
  rintro r st' ⟨rfl, rfl⟩
  simp -implicitDefEqProofs only [s_s, argEnv, PastOK, PendOK, sel, isE, isSp, baseOK, opR, opnd, opnds, opndL, ofConst, look, putE, dstOK, guardL, binR, intOp, loadR, bad, bound, lenV, srcV, Ob.read, V.plain, V.one, V.cells, fillV, setMany, zeros, TK.agg, Sub, cellRes, loadV, bindE, Nat.reduceAdd, Nat.reduceEqDiff, Nat.reduceLT, Nat.reduceLeDiff, Nat.reduceMul, Nat.reduceSub, Nat.reduceDiv, Nat.reduceMod, Nat.reduceBEq, Nat.reduceBNe, reduceIte, reduceCtorEq, Int.reduceToNat, Int.reduceLT, Int.reduceLE, Int.reduceAdd, Int.reduceSub, Int.reduceMul, Int.reduceNeg, Int.reduceEq, Int.reduceNe, D_G, D_P, List.lookup, tys, intsV_len]
  refine Br.intro (fun h => ?_) (fun h => ?_)
  · have h' : n < S ^ free := by have := of_decide_eq_true h; omega
    simp -implicitDefEqProofs only [s_s, argEnv, PastOK, PendOK, sel, isE, isSp, baseOK, opR, opnd, opnds, opndL, ofConst, look, putE, dstOK, guardL, binR, intOp, loadR, bad, bound, lenV, srcV, Ob.read, V.plain, V.one, V.cells, fillV, setMany, zeros, TK.agg, Sub, cellRes, loadV, bindE, Nat.reduceAdd, Nat.reduceEqDiff, Nat.reduceLT, Nat.reduceLeDiff, Nat.reduceMul, Nat.reduceSub, Nat.reduceDiv, Nat.reduceMod, Nat.reduceBEq, Nat.reduceBNe, reduceIte, reduceCtorEq, Int.reduceToNat, Int.reduceLT, Int.reduceLE, Int.reduceAdd, Int.reduceSub, Int.reduceMul, Int.reduceNeg, Int.reduceEq, Int.reduceNe, D_G, D_P, List.lookup, tys, intsV_len]
    obtain ⟨RV, hRV⟩ : ∃ RV, RV = ((List.range n).map (linRow S k free)).map rowV := ⟨_, rfl⟩
    have hRl : RV.length = n := by simp [hRV]
    have hRb : ∀ m, bddL m RV = true := fun m => by rw [hRV]; exact bdd_rows _ _
    rw [← hRV]
    refine WP.seed 1 (st.length + 1) [(0, .int .i64 S), (1, .int .i64 k), (2, .int .i64 free), (7, .slc st.length n 0 n 1), (8, .int .i64 n), (9, .slc (st.length + 1) 0 0 0 1), (10, .int .i64 n), (11, .int .i64 0)] _ (by simp) (by decide) (by simp [SeedE, SeedV, look]) SeedS.refl ?_
    refine WP.loopC (ι := Nat) (fun j => [(0, .int .i64 S), (1, .int .i64 k), (2, .int .i64 free), (7, .slc st.length n 0 n 1), (8, .int .i64 n), (9, .slc (st.length + 1) j 0 j 1), (10, .int .i64 (rowA S n j).2), (11, .int .i64 j)])
      (fun j => st ++ [.acc n RV, .acc j (intsV (rowA S n j).1)]) (fun j => j ≤ free) (fun j => free - j) 0 (by omega) (by simp -implicitDefEqProofs only [s_s, argEnv, PastOK, PendOK, sel, isE, isSp, baseOK, opR, opnd, opnds, opndL, ofConst, look, putE, dstOK, guardL, binR, intOp, loadR, bad, bound, lenV, srcV, Ob.read, V.plain, V.one, V.cells, fillV, setMany, zeros, TK.agg, Sub, cellRes, loadV, bindE, Nat.reduceAdd, Nat.reduceEqDiff, Nat.reduceLT, Nat.reduceLeDiff, Nat.reduceMul, Nat.reduceSub, Nat.reduceDiv, Nat.reduceMod, Nat.reduceBEq, Nat.reduceBNe, reduceIte, reduceCtorEq, Int.reduceToNat, Int.reduceLT, Int.reduceLE, Int.reduceAdd, Int.reduceSub, Int.reduceMul, Int.reduceNeg, Int.reduceEq, Int.reduceNe, D_G, D_P, List.lookup, tys, intsV_len, rowA]; simp) (by simp [intsV, rowA]) (fun p => by simp -implicitDefEqProofs only [s_s, argEnv, PastOK, PendOK, sel, isE, isSp, baseOK, opR, opnd, opnds, opndL, ofConst, look, putE, dstOK, guardL, binR, intOp, loadR, bad, bound, lenV, srcV, Ob.read, V.plain, V.one, V.cells, fillV, setMany, zeros, TK.agg, Sub, cellRes, loadV, bindE, Nat.reduceAdd, Nat.reduceEqDiff, Nat.reduceLT, Nat.reduceLeDiff, Nat.reduceMul, Nat.reduceSub, Nat.reduceDiv, Nat.reduceMod, Nat.reduceBEq, Nat.reduceBNe, reduceIte, reduceCtorEq, Int.reduceToNat, Int.reduceLT, Int.reduceLE, Int.reduceAdd, Int.reduceSub, Int.reduceMul, Int.reduceNeg, Int.reduceEq, Int.reduceNe, D_G, D_P, List.lookup, tys, intsV_len]) ?_
    intro j hj
    obtain ⟨q1, q2, q3⟩ := rowA_ok S n (by omega) j
    simp -implicitDefEqProofs only [s_s, argEnv, PastOK, PendOK, sel, isE, isSp, baseOK, opR, opnd, opnds, opndL, ofConst, look, putE, dstOK, guardL, binR, intOp, loadR, bad, bound, lenV, srcV, Ob.read, V.plain, V.one, V.cells, fillV, setMany, zeros, TK.agg, Sub, cellRes, loadV, bindE, Nat.reduceAdd, Nat.reduceEqDiff, Nat.reduceLT, Nat.reduceLeDiff, Nat.reduceMul, Nat.reduceSub, Nat.reduceDiv, Nat.reduceMod, Nat.reduceBEq, Nat.reduceBNe, reduceIte, reduceCtorEq, Int.reduceToNat, Int.reduceLT, Int.reduceLE, Int.reduceAdd, Int.reduceSub, Int.reduceMul, Int.reduceNeg, Int.reduceEq, Int.reduceNe, D_G, D_P, List.lookup, tys, intsV_len]
    refine Br.intro (fun h => ?_) (fun h => ?_)
    · have hlf : j < free := by have := of_decide_eq_true h; omega
      obtain ⟨m, hm⟩ : ∃ m, m = (rowA S n j).2 := ⟨_, rfl⟩
      have e1 : (m : Int).tmod (S : Int) = (m % S : Nat) := by rw [← Int.ofNat_tmod]
      have hdv := Nat.div_le_self m S
      have e2 : IntKind.i64.wrap ((m : Int).tdiv (S : Int)) = (m / S : Nat) := by
        rw [← Int.ofNat_tdiv]
        exact wrapI (Int.le_trans (by decide) (Int.natCast_nonneg _)) (Int.le_trans (Int.ofNat_le.2 hdv) (by omega))
      have w2 := wrapI (n := (j : Int) + 1) (by omega) (by omega)
      rw [← hm] at q3
      have hst : rowA S n (j + 1) = ((rowA S n j).1 ++ [((m % S : Nat) : Int)], m / S) := by simp only [rowA, hm]
      simp -implicitDefEqProofs only [s_s, argEnv, PastOK, PendOK, sel, isE, isSp, baseOK, opR, opnd, opnds, opndL, ofConst, look, putE, dstOK, guardL, binR, intOp, loadR, bad, bound, lenV, srcV, Ob.read, V.plain, V.one, V.cells, fillV, setMany, zeros, TK.agg, Sub, cellRes, loadV, bindE, Nat.reduceAdd, Nat.reduceEqDiff, Nat.reduceLT, Nat.reduceLeDiff, Nat.reduceMul, Nat.reduceSub, Nat.reduceDiv, Nat.reduceMod, Nat.reduceBEq, Nat.reduceBNe, reduceIte, reduceCtorEq, Int.reduceToNat, Int.reduceLT, Int.reduceLE, Int.reduceAdd, Int.reduceSub, Int.reduceMul, Int.reduceNeg, Int.reduceEq, Int.reduceNe, D_G, D_P, List.lookup, tys, intsV_len, ← hm, e1, e2, w2, intsV_len, q1]
      repeat (refine And.intro (by first | omega | rfl | trivial | (simp; done) | (simp; omega)) ?_)
      refine Kc.next (j + 1) (by omega) (by omega) (st ++ [.acc n RV, .acc (j + 1) (intsV (rowA S n (j + 1)).1)]) [.cells 0 [.int .i64 (m % S : Nat)]] (by simp [hst, intsV]) (by simp) ?_ ?_
      · exact StConv.base hB (by simp) (.cons (.keep (hRb _)) (.cons (.keep (bdd_ints _ _)) .nil))
      · refine EnvC.of_sub ?_ ?_
        · simp -implicitDefEqProofs only [s_s, argEnv, PastOK, PendOK, sel, isE, isSp, baseOK, opR, opnd, opnds, opndL, ofConst, look, putE, dstOK, guardL, binR, intOp, loadR, bad, bound, lenV, srcV, Ob.read, V.plain, V.one, V.cells, fillV, setMany, zeros, TK.agg, Sub, cellRes, loadV, bindE, Nat.reduceAdd, Nat.reduceEqDiff, Nat.reduceLT, Nat.reduceLeDiff, Nat.reduceMul, Nat.reduceSub, Nat.reduceDiv, Nat.reduceMod, Nat.reduceBEq, Nat.reduceBNe, reduceIte, reduceCtorEq, Int.reduceToNat, Int.reduceLT, Int.reduceLE, Int.reduceAdd, Int.reduceSub, Int.reduceMul, Int.reduceNeg, Int.reduceEq, Int.reduceNe, D_G, D_P, List.lookup, tys, intsV_len, hst]
          simp
        · simp [bddE, V.bdd]
    · have hlf : j = free := by have := of_decide_eq_false h; omega
      subst hlf
      simp -implicitDefEqProofs only [s_s, argEnv, PastOK, PendOK, sel, isE, isSp, baseOK, opR, opnd, opnds, opndL, ofConst, look, putE, dstOK, guardL, binR, intOp, loadR, bad, bound, lenV, srcV, Ob.read, V.plain, V.one, V.cells, fillV, setMany, zeros, TK.agg, Sub, cellRes, loadV, bindE, Nat.reduceAdd, Nat.reduceEqDiff, Nat.reduceLT, Nat.reduceLeDiff, Nat.reduceMul, Nat.reduceSub, Nat.reduceDiv, Nat.reduceMod, Nat.reduceBEq, Nat.reduceBNe, reduceIte, reduceCtorEq, Int.reduceToNat, Int.reduceLT, Int.reduceLE, Int.reduceAdd, Int.reduceSub, Int.reduceMul, Int.reduceNeg, Int.reduceEq, Int.reduceNe, D_G, D_P, List.lookup, tys, intsV_len]
      have B := fun t => rowB_ok S j (by omega) (rowA S n j).1 q2 t
      refine WP.loopC (ι := Nat) (fun t => [(0, .int .i64 S), (1, .int .i64 k), (2, .int .i64 j), (7, .slc st.length n 0 n 1), (8, .int .i64 n), (9, .slc (st.length + 1) (j + t) 0 (j + t) 1), (12, .int .i64 ((t + 1 : Nat) : Int))])
        (fun t => st ++ [.acc n RV, .acc (j + t) (intsV (rowB S j (rowA S n j).1 t))]) (fun t => t ≤ k - j) (fun t => k - t) 0 (by omega) (by simp -implicitDefEqProofs only [s_s, argEnv, PastOK, PendOK, sel, isE, isSp, baseOK, opR, opnd, opnds, opndL, ofConst, look, putE, dstOK, guardL, binR, intOp, loadR, bad, bound, lenV, srcV, Ob.read, V.plain, V.one, V.cells, fillV, setMany, zeros, TK.agg, Sub, cellRes, loadV, bindE, Nat.reduceAdd, Nat.reduceEqDiff, Nat.reduceLT, Nat.reduceLeDiff, Nat.reduceMul, Nat.reduceSub, Nat.reduceDiv, Nat.reduceMod, Nat.reduceBEq, Nat.reduceBNe, reduceIte, reduceCtorEq, Int.reduceToNat, Int.reduceLT, Int.reduceLE, Int.reduceAdd, Int.reduceSub, Int.reduceMul, Int.reduceNeg, Int.reduceEq, Int.reduceNe, D_G, D_P, List.lookup, tys, intsV_len]; simp) rfl (fun p => by simp -implicitDefEqProofs only [s_s, argEnv, PastOK, PendOK, sel, isE, isSp, baseOK, opR, opnd, opnds, opndL, ofConst, look, putE, dstOK, guardL, binR, intOp, loadR, bad, bound, lenV, srcV, Ob.read, V.plain, V.one, V.cells, fillV, setMany, zeros, TK.agg, Sub, cellRes, loadV, bindE, Nat.reduceAdd, Nat.reduceEqDiff, Nat.reduceLT, Nat.reduceLeDiff, Nat.reduceMul, Nat.reduceSub, Nat.reduceDiv, Nat.reduceMod, Nat.reduceBEq, Nat.reduceBNe, reduceIte, reduceCtorEq, Int.reduceToNat, Int.reduceLT, Int.reduceLE, Int.reduceAdd, Int.reduceSub, Int.reduceMul, Int.reduceNeg, Int.reduceEq, Int.reduceNe, D_G, D_P, List.lookup, tys, intsV_len]) ?_
      intro t ht
      obtain ⟨b1, b2⟩ := B t
      obtain ⟨l, hl⟩ : ∃ l, l = rowB S j (rowA S n j).1 t := ⟨_, rfl⟩
      rw [← hl] at b1 b2
      rw [q1] at b1
      obtain ⟨x0, hx0⟩ : ∃ x, l[0]? = some x := ⟨_, List.getElem?_eq_getElem (by omega)⟩
      have ha := b2 x0 (List.mem_of_getElem? hx0)
      obtain ⟨x0, rfl⟩ := Int.eq_ofNat_of_zero_le ha.1
      simp -implicitDefEqProofs only [s_s, argEnv, PastOK, PendOK, sel, isE, isSp, baseOK, opR, opnd, opnds, opndL, ofConst, look, putE, dstOK, guardL, binR, intOp, loadR, bad, bound, lenV, srcV, Ob.read, V.plain, V.one, V.cells, fillV, setMany, zeros, TK.agg, Sub, cellRes, loadV, bindE, Nat.reduceAdd, Nat.reduceEqDiff, Nat.reduceLT, Nat.reduceLeDiff, Nat.reduceMul, Nat.reduceSub, Nat.reduceDiv, Nat.reduceMod, Nat.reduceBEq, Nat.reduceBNe, reduceIte, reduceCtorEq, Int.reduceToNat, Int.reduceLT, Int.reduceLE, Int.reduceAdd, Int.reduceSub, Int.reduceMul, Int.reduceNeg, Int.reduceEq, Int.reduceNe, D_G, D_P, List.lookup, tys, intsV_len, intsV_len, b1, ← hl]
      refine Br.intro (fun h => ?_) (fun h => ?_)
      · have hlk : j + t < k := by have := of_decide_eq_true h; omega
        simp -implicitDefEqProofs only [s_s, argEnv, PastOK, PendOK, sel, isE, isSp, baseOK, opR, opnd, opnds, opndL, ofConst, look, putE, dstOK, guardL, binR, intOp, loadR, bad, bound, lenV, srcV, Ob.read, V.plain, V.one, V.cells, fillV, setMany, zeros, TK.agg, Sub, cellRes, loadV, bindE, Nat.reduceAdd, Nat.reduceEqDiff, Nat.reduceLT, Nat.reduceLeDiff, Nat.reduceMul, Nat.reduceSub, Nat.reduceDiv, Nat.reduceMod, Nat.reduceBEq, Nat.reduceBNe, reduceIte, reduceCtorEq, Int.reduceToNat, Int.reduceLT, Int.reduceLE, Int.reduceAdd, Int.reduceSub, Int.reduceMul, Int.reduceNeg, Int.reduceEq, Int.reduceNe, D_G, D_P, List.lookup, tys, intsV_len, intsV_get hx0]
        repeat (refine And.intro (by first | omega | rfl | trivial | (simp; done) | (simp; omega)) ?_)
        refine WP.loopF (ι := Nat) (fun i => [(0, .int .i64 S), (1, .int .i64 k), (2, .int .i64 j), (7, .slc st.length n 0 n 1), (8, .int .i64 n), (9, .slc (st.length + 1) (j + t) 0 (j + t) 1), (12, .int .i64 ((t + 1 : Nat) : Int)), (13, .int .i64 (sumB l (t + 1) i)), (14, .int .i64 ((i + 1 : Nat) : Int))])
          (fun _ => st ++ [.acc n RV, .acc (j + t) (intsV l)]) (fun i => i + 1 ≤ j ∧ sumB l (t + 1) i ≤ 10 + 50 * i) (fun i => j - i) 0 ⟨by omega, by simp only [sumB, hx0]; have := ha.2; simp; omega⟩ (by simp -implicitDefEqProofs only [s_s, argEnv, PastOK, PendOK, sel, isE, isSp, baseOK, opR, opnd, opnds, opndL, ofConst, look, putE, dstOK, guardL, binR, intOp, loadR, bad, bound, lenV, srcV, Ob.read, V.plain, V.one, V.cells, fillV, setMany, zeros, TK.agg, Sub, cellRes, loadV, bindE, Nat.reduceAdd, Nat.reduceEqDiff, Nat.reduceLT, Nat.reduceLeDiff, Nat.reduceMul, Nat.reduceSub, Nat.reduceDiv, Nat.reduceMod, Nat.reduceBEq, Nat.reduceBNe, reduceIte, reduceCtorEq, Int.reduceToNat, Int.reduceLT, Int.reduceLE, Int.reduceAdd, Int.reduceSub, Int.reduceMul, Int.reduceNeg, Int.reduceEq, Int.reduceNe, D_G, D_P, List.lookup, tys, intsV_len, sumB, hx0]; simp) rfl ?_
        rintro i ⟨j1, j2⟩
        simp -implicitDefEqProofs only [s_s, argEnv, PastOK, PendOK, sel, isE, isSp, baseOK, opR, opnd, opnds, opndL, ofConst, look, putE, dstOK, guardL, binR, intOp, loadR, bad, bound, lenV, srcV, Ob.read, V.plain, V.one, V.cells, fillV, setMany, zeros, TK.agg, Sub, cellRes, loadV, bindE, Nat.reduceAdd, Nat.reduceEqDiff, Nat.reduceLT, Nat.reduceLeDiff, Nat.reduceMul, Nat.reduceSub, Nat.reduceDiv, Nat.reduceMod, Nat.reduceBEq, Nat.reduceBNe, reduceIte, reduceCtorEq, Int.reduceToNat, Int.reduceLT, Int.reduceLE, Int.reduceAdd, Int.reduceSub, Int.reduceMul, Int.reduceNeg, Int.reduceEq, Int.reduceNe, D_G, D_P, List.lookup, tys, intsV_len]
        refine Br.intro (fun h => ?_) (fun h => ?_)
        · have hjf : i + 1 < j := by have := of_decide_eq_true h; omega
          obtain ⟨y, hy⟩ : ∃ y, l[i + 1]? = some y := ⟨_, List.getElem?_eq_getElem (by omega)⟩
          have hy2 := b2 y (List.mem_of_getElem? hy)
          obtain ⟨yn, rfl⟩ := Int.eq_ofNat_of_zero_le hy2.1
          have hm : (t + 1) * yn ≤ 5 * 4 := Nat.mul_le_mul (by omega) (by have := hy2.2; omega)
          obtain ⟨x, hx⟩ : ∃ x, x = sumB l (t + 1) i := ⟨_, rfl⟩
          have hx2 : sumB l (t + 1) (i + 1) = x + (t + 1) * yn := by simp [sumB, hy, hx]
          rw [← hx] at j2
          have v1 : IntKind.i64.wrap (((t + 1 : Nat) : Int) * (yn : Int)) = (((t + 1) * yn : Nat) : Int) := by rw [← Int.natCast_mul]; exact wrapI (by omega) (by omega)
          have v2 : IntKind.i64.wrap ((x : Int) + (((t + 1) * yn : Nat) : Int)) = ((x + (t + 1) * yn : Nat) : Int) := by rw [← Int.natCast_add]; exact wrapI (by omega) (by omega)
          have v3 : IntKind.i64.wrap (((i + 1 : Nat) : Int) + 1) = ((i + 1 + 1 : Nat) : Int) := by rw [wrapI (by omega) (by omega)]; omega
          simp -implicitDefEqProofs only [s_s, argEnv, PastOK, PendOK, sel, isE, isSp, baseOK, opR, opnd, opnds, opndL, ofConst, look, putE, dstOK, guardL, binR, intOp, loadR, bad, bound, lenV, srcV, Ob.read, V.plain, V.one, V.cells, fillV, setMany, zeros, TK.agg, Sub, cellRes, loadV, bindE, Nat.reduceAdd, Nat.reduceEqDiff, Nat.reduceLT, Nat.reduceLeDiff, Nat.reduceMul, Nat.reduceSub, Nat.reduceDiv, Nat.reduceMod, Nat.reduceBEq, Nat.reduceBNe, reduceIte, reduceCtorEq, Int.reduceToNat, Int.reduceLT, Int.reduceLE, Int.reduceAdd, Int.reduceSub, Int.reduceMul, Int.reduceNeg, Int.reduceEq, Int.reduceNe, D_G, D_P, List.lookup, tys, intsV_len, ← hx, intsV_get hy, v1, v2, v3]
          repeat (refine And.intro (by first | omega | rfl | trivial | (simp; done) | (simp; omega)) ?_)
          exact Kl.next (i + 1) ⟨by omega, by rw [hx2]; omega⟩ (by omega) (by simp -implicitDefEqProofs only [s_s, argEnv, PastOK, PendOK, sel, isE, isSp, baseOK, opR, opnd, opnds, opndL, ofConst, look, putE, dstOK, guardL, binR, intOp, loadR, bad, bound, lenV, srcV, Ob.read, V.plain, V.one, V.cells, fillV, setMany, zeros, TK.agg, Sub, cellRes, loadV, bindE, Nat.reduceAdd, Nat.reduceEqDiff, Nat.reduceLT, Nat.reduceLeDiff, Nat.reduceMul, Nat.reduceSub, Nat.reduceDiv, Nat.reduceMod, Nat.reduceBEq, Nat.reduceBNe, reduceIte, reduceCtorEq, Int.reduceToNat, Int.reduceLT, Int.reduceLE, Int.reduceAdd, Int.reduceSub, Int.reduceMul, Int.reduceNeg, Int.reduceEq, Int.reduceNe, D_G, D_P, List.lookup, tys, intsV_len, hx2]) rfl
        · have hij : i = j - 1 := by have := of_decide_eq_false h; omega
          subst hij
          obtain ⟨x, hx⟩ : ∃ x, x = sumB l (t + 1) (j - 1) := ⟨_, rfl⟩
          have hxm : x % S < S := Nat.mod_lt _ (by omega)
          have e5 : (x : Int).tmod (S : Int) = (x % S : Nat) := by rw [← Int.ofNat_tmod]
          have e6 : IntKind.i64.wrap (((t + 1 : Nat) : Int) + 1) = ((t + 1 + 1 : Nat) : Int) := by
            rw [wrapI (by omega) (by omega)]; omega
          have hst : rowB S j (rowA S n j).1 (t + 1) = l ++ [((x % S : Nat) : Int)] := by simp only [rowB, ← hl, hx]
          simp -implicitDefEqProofs only [s_s, argEnv, PastOK, PendOK, sel, isE, isSp, baseOK, opR, opnd, opnds, opndL, ofConst, look, putE, dstOK, guardL, binR, intOp, loadR, bad, bound, lenV, srcV, Ob.read, V.plain, V.one, V.cells, fillV, setMany, zeros, TK.agg, Sub, cellRes, loadV, bindE, Nat.reduceAdd, Nat.reduceEqDiff, Nat.reduceLT, Nat.reduceLeDiff, Nat.reduceMul, Nat.reduceSub, Nat.reduceDiv, Nat.reduceMod, Nat.reduceBEq, Nat.reduceBNe, reduceIte, reduceCtorEq, Int.reduceToNat, Int.reduceLT, Int.reduceLE, Int.reduceAdd, Int.reduceSub, Int.reduceMul, Int.reduceNeg, Int.reduceEq, Int.reduceNe, D_G, D_P, List.lookup, tys, intsV_len, ← hx, e5, e6]
          repeat (refine And.intro (by first | omega | rfl | trivial | (simp; done) | (simp; omega)) ?_)
          refine Kc.next (t + 1) (by omega) (by omega) (st ++ [.acc n RV, .acc (j + (t + 1)) (intsV (rowB S j (rowA S n j).1 (t + 1)))]) [.cells 0 [.int .i64 (x % S : Nat)]] (by simp [hst, intsV, Nat.add_assoc]) (by simp) ?_ ?_
          · exact StConv.base hB (by simp) (.cons (.keep (hRb _)) (.cons (.keep (bdd_ints _ _)) .nil))
          · refine EnvC.of_sub ?_ ?_
            · simp -implicitDefEqProofs only [s_s, argEnv, PastOK, PendOK, sel, isE, isSp, baseOK, opR, opnd, opnds, opndL, ofConst, look, putE, dstOK, guardL, binR, intOp, loadR, bad, bound, lenV, srcV, Ob.read, V.plain, V.one, V.cells, fillV, setMany, zeros, TK.agg, Sub, cellRes, loadV, bindE, Nat.reduceAdd, Nat.reduceEqDiff, Nat.reduceLT, Nat.reduceLeDiff, Nat.reduceMul, Nat.reduceSub, Nat.reduceDiv, Nat.reduceMod, Nat.reduceBEq, Nat.reduceBNe, reduceIte, reduceCtorEq, Int.reduceToNat, Int.reduceLT, Int.reduceLE, Int.reduceAdd, Int.reduceSub, Int.reduceMul, Int.reduceNeg, Int.reduceEq, Int.reduceNe, D_G, D_P, List.lookup, tys, intsV_len, Nat.add_assoc]
            · simp [bddE, V.bdd]
      · have hkl : k ≤ j + t := by have := of_decide_eq_false h; omega
        have htk : t = k - j := by omega
        have w2 := wrapI (n := (n : Int) + 1) (by omega) (by omega)
        have hrow : linRow S k j n = l.take k := by simp only [linRow, hl, htk]
        simp -implicitDefEqProofs only [s_s, argEnv, PastOK, PendOK, sel, isE, isSp, baseOK, opR, opnd, opnds, opndL, ofConst, look, putE, dstOK, guardL, binR, intOp, loadR, bad, bound, lenV, srcV, Ob.read, V.plain, V.one, V.cells, fillV, setMany, zeros, TK.agg, Sub, cellRes, loadV, bindE, Nat.reduceAdd, Nat.reduceEqDiff, Nat.reduceLT, Nat.reduceLeDiff, Nat.reduceMul, Nat.reduceSub, Nat.reduceDiv, Nat.reduceMod, Nat.reduceBEq, Nat.reduceBNe, reduceIte, reduceCtorEq, Int.reduceToNat, Int.reduceLT, Int.reduceLE, Int.reduceAdd, Int.reduceSub, Int.reduceMul, Int.reduceNeg, Int.reduceEq, Int.reduceNe, D_G, D_P, List.lookup, tys, intsV_len, w2, hRl]
        repeat (refine And.intro (by first | omega | rfl | trivial | (simp; done) | (simp; omega)) ?_)
        refine Kc.next (n + 1) (by omega) (by omega) (st ++ [.acc (n + 1) (RV ++ [.slc (st.length + 1) (j + t) 0 k 1])]) [.acc (j + t) (intsV l), .cells 0 [.slc (st.length + 1) (j + t) 0 k 1]] (by simp) (by simp) ?_ ?_
        · simp only [List.range_succ, List.map_append, List.map_cons, List.map_nil, ← hRV, hrow]
          exact StConv.base hB (by simp) (.cons (.acc (ConvL.snoc (hRb _) (Conv.rowTake (by simp) (ob := .acc (j + t) (intsV l)) (by simp) (by simp [Ob.read]) (by omega)))) .nil)
        · refine EnvC.of_sub ?_ ?_
          · simp -implicitDefEqProofs only [s_s, argEnv, PastOK, PendOK, sel, isE, isSp, baseOK, opR, opnd, opnds, opndL, ofConst, look, putE, dstOK, guardL, binR, intOp, loadR, bad, bound, lenV, srcV, Ob.read, V.plain, V.one, V.cells, fillV, setMany, zeros, TK.agg, Sub, cellRes, loadV, bindE, Nat.reduceAdd, Nat.reduceEqDiff, Nat.reduceLT, Nat.reduceLeDiff, Nat.reduceMul, Nat.reduceSub, Nat.reduceDiv, Nat.reduceMod, Nat.reduceBEq, Nat.reduceBNe, reduceIte, reduceCtorEq, Int.reduceToNat, Int.reduceLT, Int.reduceLE, Int.reduceAdd, Int.reduceSub, Int.reduceMul, Int.reduceNeg, Int.reduceEq, Int.reduceNe, D_G, D_P, List.lookup, tys, intsV_len]
            simp
          · simp [bddE, V.bdd]
  · have h' : n = S ^ free := by have := of_decide_eq_false h; omega
    subst h'
    simp -implicitDefEqProofs only [s_s, argEnv, PastOK, PendOK, sel, isE, isSp, baseOK, opR, opnd, opnds, opndL, ofConst, look, putE, dstOK, guardL, binR, intOp, loadR, bad, bound, lenV, srcV, Ob.read, V.plain, V.one, V.cells, fillV, setMany, zeros, TK.agg, Sub, cellRes, loadV, bindE, Nat.reduceAdd, Nat.reduceEqDiff, Nat.reduceLT, Nat.reduceLeDiff, Nat.reduceMul, Nat.reduceSub, Nat.reduceDiv, Nat.reduceMod, Nat.reduceBEq, Nat.reduceBNe, reduceIte, reduceCtorEq, Int.reduceToNat, Int.reduceLT, Int.reduceLE, Int.reduceAdd, Int.reduceSub, Int.reduceMul, Int.reduceNeg, Int.reduceEq, Int.reduceNe, D_G, D_P, List.lookup, tys, intsV_len]
    refine Post.r1 rfl (OwnK.solid _ 0 rfl (by simp; intro e; rw [e] at hp0; omega) (bdd_rows _ _) hK)
end Go.VL
end

/- The array seat: what is done. -/
section
set_option linter.unusedSimpArgs false
set_option linter.unusedVariables false
set_option maxRecDepth 4000
namespace Go.VL
open Go Go.Proofs

/-- What is done, as the entries of a map. -/
def doneE (ks : List Key) : List (Key × V) := ks.foldl (fun es k => putK es k (.bool true)) []

theorem doneE_snoc (ks : List Key) (k : Key) : doneE (ks ++ [k]) = putK (doneE ks) k (.bool true) := by simp [doneE]

theorem lookK_put (es : List (Key × V)) (k k' : Key) (v : V) : lookK (putK es k v) k' = if k' = k then some v else lookK es k' := by
  induction es with
  | nil => simp only [putK, lookK]; by_cases e : k = k' <;> simp [e, eq_comm]
  | cons p r ih =>
    obtain ⟨q, u⟩ := p
    simp only [putK]
    split
    · rename_i e; subst e
      simp only [lookK]
      by_cases e : q = k'
      · simp [e]
      · rw [if_neg e, if_neg e, if_neg (fun h => e h.symm)]
    · rename_i e
      simp only [lookK]
      by_cases e2 : q = k'
      · subst e2; simp [e]
      · rw [if_neg e2, ih, if_neg e2]

theorem doneE_look (ks : List Key) (k : Key) : lookK (doneE ks) k = if k ∈ ks then some (.bool true) else none := by
  have : ∀ n, ∀ ks : List Key, ks.length = n → lookK (doneE ks) k = if k ∈ ks then some (.bool true) else none := by
    intro n
    induction n with
    | zero => intro ks h; have : ks = [] := List.length_eq_zero_iff.1 h; subst this; rfl
    | succ n ih =>
      intro ks h
      rcases List.eq_nil_or_concat ks with rfl | ⟨l, a, rfl⟩
      · simp at h
      · rw [List.concat_eq_append, doneE_snoc, lookK_put, ih l (by simpa using h)]
        by_cases e : k = a <;> simp [e]
  exact this _ ks rfl

theorem doneE_get (ks : List Key) (k : Key) : (lookK (doneE ks) k).getD (.bool false) = .bool (decide (k ∈ ks)) := by
  rw [doneE_look]; by_cases h : k ∈ ks <;> simp [h]

theorem doneE_keys {P : Program} {kt : TypeId} {ks : List Key} (h : ∀ k ∈ ks, okKey P kt k) : keysOK P kt (doneE ks) := by
  have : ∀ (l : List Key) (es : List (Key × V)), (∀ k ∈ l, okKey P kt k) → keysOK P kt es → keysOK P kt (l.foldl (fun es k => putK es k (.bool true)) es) := by
    intro l
    induction l with
    | nil => intro es _ h; exact h
    | cons k l ih =>
      intro es h1 h2
      refine ih _ (fun k hk => h1 k (by simp [hk])) (fun p hp => ?_)
      rcases mem_putK hp with hp | rfl
      · exact h2 p hp
      · exact h1 k (by simp)
  exact this ks [] h (fun p hp => by cases hp)

theorem doneE_bdd (n : Nat) (ks : List Key) : entsBdd n (doneE ks) = true := by
  have put : ∀ (es : List (Key × V)) (k : Key), entsBdd n es = true → entsBdd n (putK es k (.bool true)) = true := by
    intro es k
    induction es with
    | nil => intro _; rfl
    | cons p r ih =>
      obtain ⟨q, u⟩ := p
      intro h
      simp only [entsBdd, Bool.and_eq_true] at h
      simp only [putK]
      split
      · simp [entsBdd, V.bdd, h.2]
      · simp [entsBdd, h.1, ih h.2]
  have : ∀ (l : List Key) (es : List (Key × V)), entsBdd n es = true → entsBdd n (l.foldl (fun es k => putK es k (.bool true)) es) = true := by
    intro l
    induction l with
    | nil => intro es h; exact h
    | cons k l ih => intro es h; exact ih _ (put es k h)
  exact this ks [] rfl

theorem andNot_at (s u : Nat) (hs : s < 256) (hu : u < 256) : decide (IntKind.u64.wrap ((BitVec.ofInt IntKind.u64.bits (s : Int) &&& ~~~BitVec.ofInt IntKind.u64.bits (u : Int)).toNat : Int) = 0) = decide (s &&& u = s) := by
  have : ∀ (s : Fin 256) (u : Fin 256), decide (IntKind.u64.wrap ((BitVec.ofInt IntKind.u64.bits ((s : Nat) : Int) &&& ~~~BitVec.ofInt IntKind.u64.bits ((u : Nat) : Int)).toNat : Int) = 0) = decide ((s : Nat) &&& (u : Nat) = (s : Nat)) := by decide +kernel
  exact this ⟨s, hs⟩ ⟨u, hu⟩

theorem or_at (s u : Nat) (hs : s < 256) (hu : u < 256) : IntKind.u64.wrap ((BitVec.ofInt IntKind.u64.bits (s : Int) ||| BitVec.ofInt IntKind.u64.bits (u : Int)).toNat : Int) = ((s ||| u : Nat) : Int) ∧ s ||| u < 256 := by
  have h8 : s ||| u < 2 ^ 8 := Nat.or_lt_two_pow hs hu
  refine ⟨?_, h8⟩
  have e : (BitVec.ofInt 64 (s : Int) ||| BitVec.ofInt 64 (u : Int)).toNat = s ||| u := by
    rw [BitVec.toNat_or, BitVec.toNat_ofInt, BitVec.toNat_ofInt]
    have h1 : ((s : Int) % ((2 ^ 64 : Nat) : Int)).toNat = s := by omega
    have h2 : ((u : Int) % ((2 ^ 64 : Nat) : Int)).toNat = u := by omega
    rw [h1, h2]
  show IntKind.u64.wrap ((BitVec.ofInt 64 (s : Int) ||| BitVec.ofInt 64 (u : Int)).toNat : Int) = _
  rw [e]
  exact wrapU (by omega) (by omega)

end Go.VL
end

/- The array seat: with a table; columns of a set. -/
section
set_option linter.unusedSimpArgs false
set_option linter.unusedVariables false
set_option maxRecDepth 4000
namespace Go.VL
open Go Go.Proofs

theorem tabN_get : ∀ n, n < 64 → tabN[n]? = some ((tabN[n]?).getD 0) := by decide +kernel
theorem tabV_get {n : Nat} (h : n < 64) : tabV[n]? = some (.int .u8 ((tabN[n]?).getD 0 : Nat)) := by
  unfold tabV
  rw [List.getElem?_map, tabN_get n h, Option.map_some, Option.getD_some]
theorem tabV_len : tabV.length = 64 := rfl

/-- The least bit. -/
def tz (s : Nat) : Nat := ((List.range 8).find? fun j => s.testBit j).getD 64

def tzE (s : Nat) : Int := (IntKind.u64.wrap (IntKind.u64.wrap ((BitVec.ofInt IntKind.u64.bits (s : Int) &&& BitVec.ofInt IntKind.u64.bits (IntKind.u64.wrap (0 - (s : Int)))).toNat : Int) * 285870213051353865)).fdiv (2 ^ min 58 IntKind.u64.bits)

theorem tzE_at (s : Nat) (h0 : 0 < s) (hs : s < 256) : tzE s = ((tzE s).toNat : Int) ∧ (tzE s).toNat < 64 ∧ (tabN[(tzE s).toNat]?).getD 0 = tz s ∧ tz s < 8 := by
  have : ∀ s : Fin 256, 0 < (s : Nat) → tzE s = ((tzE s).toNat : Int) ∧ (tzE s).toNat < 64 ∧ (tabN[(tzE s).toNat]?).getD 0 = tz s ∧ tz s < 8 := by decide +kernel
  exact this ⟨s, hs⟩ h0

theorem tz64_spec (s : Nat) (h0 : 0 < s) (hs : s < 256) (st : St) : VCall D 75 [.int .u64 s] st (fun v st' => v = .int .i64 (tz s) ∧ st' = st) := by
  refine VCall.of_WP (fn := Tryd.f75) (c := _) Tryd.func75 rfl (by decide +kernel) (Nat.le_of_ble_eq_true rfl) ?_
  refine wpF_sound ?_
  have d0 : decide ((s : Int) = 0) = false := by simp; omega
  obtain ⟨a1, a2, a3, a4⟩ := tzE_at s h0 hs
  obtain ⟨n, hn⟩ : ∃ n, n = (tzE s).toNat := ⟨_, rfl⟩
  rw [← hn] at a1 a2 a3
  unfold tzE at a1
  have hg := tabV_get a2
  rw [a3] at hg
  have w := wrapI (n := (tz s : Int)) (by omega) (by omega)
  simp -implicitDefEqProofs only [s_s, argEnv, PastOK, PendOK, sel, isE, isSp, baseOK, opR, opnd, opnds, opndL, ofConst, look, putE, dstOK, guardL, binR, intOp, loadR, bad, bound, lenV, srcV, Ob.read, V.plain, V.one, V.cells, fillV, setMany, zeros, TK.agg, Sub, cellRes, loadV, bindE, Nat.reduceAdd, Nat.reduceEqDiff, Nat.reduceLT, Nat.reduceLeDiff, Nat.reduceMul, Nat.reduceSub, Nat.reduceDiv, Nat.reduceMod, Nat.reduceBEq, Nat.reduceBNe, reduceIte, reduceCtorEq, Int.reduceToNat, Int.reduceLT, Int.reduceLE, Int.reduceAdd, Int.reduceSub, Int.reduceMul, Int.reduceNeg, Int.reduceEq, Int.reduceNe, D_G, D_P, List.lookup, tys, intsV_len, Tryd.ntmps75, Tryd.f75, d0, a1, hg, tabV_len, w]
  repeat (refine And.intro (by first | omega | rfl | trivial | (simp; done) | (simp; omega)) ?_)
  exact Post.r1 rfl ⟨rfl, rfl⟩

theorem tz_spec (s : Nat) (h0 : 0 < s) (hs : s < 256) (st : St) : VCall D 69 [.int .u64 s] st (fun v st' => v = .int .i64 (tz s) ∧ st' = st) := by
  refine VCall.of_WP (fn := Tryd.f69) (c := _) Tryd.func69 rfl (by decide +kernel) (Nat.le_of_ble_eq_true rfl) ?_
  refine wpF_sound ?_
  simp -implicitDefEqProofs only [s_s, argEnv, PastOK, PendOK, sel, isE, isSp, baseOK, opR, opnd, opnds, opndL, ofConst, look, putE, dstOK, guardL, binR, intOp, loadR, bad, bound, lenV, srcV, Ob.read, V.plain, V.one, V.cells, fillV, setMany, zeros, TK.agg, Sub, cellRes, loadV, bindE, Nat.reduceAdd, Nat.reduceEqDiff, Nat.reduceLT, Nat.reduceLeDiff, Nat.reduceMul, Nat.reduceSub, Nat.reduceDiv, Nat.reduceMod, Nat.reduceBEq, Nat.reduceBNe, reduceIte, reduceCtorEq, Int.reduceToNat, Int.reduceLT, Int.reduceLE, Int.reduceAdd, Int.reduceSub, Int.reduceMul, Int.reduceNeg, Int.reduceEq, Int.reduceNe, D_G, D_P, List.lookup, tys, intsV_len, Tryd.ntmps69, Tryd.f69]
  refine Sp.call rfl rfl ((tz64_spec s h0 hs _).mono ?_)
  rintro v st' ⟨rfl, rfl⟩
  simp -implicitDefEqProofs only [s_s, argEnv, PastOK, PendOK, sel, isE, isSp, baseOK, opR, opnd, opnds, opndL, ofConst, look, putE, dstOK, guardL, binR, intOp, loadR, bad, bound, lenV, srcV, Ob.read, V.plain, V.one, V.cells, fillV, setMany, zeros, TK.agg, Sub, cellRes, loadV, bindE, Nat.reduceAdd, Nat.reduceEqDiff, Nat.reduceLT, Nat.reduceLeDiff, Nat.reduceMul, Nat.reduceSub, Nat.reduceDiv, Nat.reduceMod, Nat.reduceBEq, Nat.reduceBNe, reduceIte, reduceCtorEq, Int.reduceToNat, Int.reduceLT, Int.reduceLE, Int.reduceAdd, Int.reduceSub, Int.reduceMul, Int.reduceNeg, Int.reduceEq, Int.reduceNe, D_G, D_P, List.lookup, tys, intsV_len]
  exact Post.r1 rfl ⟨rfl, rfl⟩

/-- The columns of a set. -/
def colsF : Nat → Nat → List Int
  | 0, _ => []
  | f + 1, s => if s = 0 then [] else (tz s : Int) :: colsF f (s &&& (s - 1))
def colsOf (s : Nat) : List Int := colsF 9 s

theorem low_at (s : Nat) (h0 : 0 < s) (hs : s < 256) : IntKind.u64.wrap ((BitVec.ofInt IntKind.u64.bits (s : Int) &&& BitVec.ofInt IntKind.u64.bits (IntKind.u64.wrap ((s : Int) - 1))).toNat : Int) = ((s &&& (s - 1) : Nat) : Int) ∧ s &&& (s - 1) < s ∧ pop (s &&& (s - 1)) < pop s := by
  have : ∀ s : Fin 256, 0 < (s : Nat) → IntKind.u64.wrap ((BitVec.ofInt IntKind.u64.bits ((s : Nat) : Int) &&& BitVec.ofInt IntKind.u64.bits (IntKind.u64.wrap (((s : Nat) : Int) - 1))).toNat : Int) = (((s : Nat) &&& ((s : Nat) - 1) : Nat) : Int) ∧ (s : Nat) &&& ((s : Nat) - 1) < (s : Nat) ∧ pop ((s : Nat) &&& ((s : Nat) - 1)) < pop (s : Nat) := by decide +kernel
  exact this ⟨s, hs⟩ h0

theorem pop_le (s : Nat) : pop s ≤ 8 := by
  have := List.length_filter_le (fun j => s.testBit j) (List.range 8)
  simp [pop] at this ⊢; omega

theorem columns_spec (s : Nat) (hs : s < 256) (st : St) : VCall D 62 [.int .u64 s] st (fun v st' => v = rowV (colsOf s) ∧ st' = st) := by
  refine VCall.clean ?_
  refine VCall.of_WPB (fn := Tryd.f62) (c := _) Tryd.func62 rfl (by decide +kernel) (Nat.le_of_ble_eq_true rfl) fun hB => ?_
  refine wpF_sound ?_
  simp -implicitDefEqProofs only [s_s, argEnv, PastOK, PendOK, sel, isE, isSp, baseOK, opR, opnd, opnds, opndL, ofConst, look, putE, dstOK, guardL, binR, intOp, loadR, bad, bound, lenV, srcV, Ob.read, V.plain, V.one, V.cells, fillV, setMany, zeros, TK.agg, Sub, cellRes, loadV, bindE, Nat.reduceAdd, Nat.reduceEqDiff, Nat.reduceLT, Nat.reduceLeDiff, Nat.reduceMul, Nat.reduceSub, Nat.reduceDiv, Nat.reduceMod, Nat.reduceBEq, Nat.reduceBNe, reduceIte, reduceCtorEq, Int.reduceToNat, Int.reduceLT, Int.reduceLE, Int.reduceAdd, Int.reduceSub, Int.reduceMul, Int.reduceNeg, Int.reduceEq, Int.reduceNe, D_G, D_P, List.lookup, tys, intsV_len, Tryd.ntmps62, Tryd.f62]
  refine WP.seed 1 st.length [(0, .int .u64 s), (3, .slc st.length 0 0 0 1)] st (by simp) (by decide) (by simp [SeedE, SeedV, look]) SeedS.refl ?_
  refine WP.loopC (ι := List Int × Nat) (fun p => [(0, .int .u64 p.2), (3, .slc st.length p.1.length 0 p.1.length 1)])
    (fun p => st ++ [.acc p.1.length (intsV p.1)]) (fun p => p.2 < 256 ∧ p.1.length ≤ 8 ∧ pop p.2 ≤ 8 - p.1.length ∧ p.1 ++ colsF (9 - p.1.length) p.2 = colsOf s) (fun p => p.2) ([], s) ⟨hs, by simp, by have := pop_le s; simpa using this, rfl⟩ (by simp -implicitDefEqProofs only [s_s, argEnv, PastOK, PendOK, sel, isE, isSp, baseOK, opR, opnd, opnds, opndL, ofConst, look, putE, dstOK, guardL, binR, intOp, loadR, bad, bound, lenV, srcV, Ob.read, V.plain, V.one, V.cells, fillV, setMany, zeros, TK.agg, Sub, cellRes, loadV, bindE, Nat.reduceAdd, Nat.reduceEqDiff, Nat.reduceLT, Nat.reduceLeDiff, Nat.reduceMul, Nat.reduceSub, Nat.reduceDiv, Nat.reduceMod, Nat.reduceBEq, Nat.reduceBNe, reduceIte, reduceCtorEq, Int.reduceToNat, Int.reduceLT, Int.reduceLE, Int.reduceAdd, Int.reduceSub, Int.reduceMul, Int.reduceNeg, Int.reduceEq, Int.reduceNe, D_G, D_P, List.lookup, tys, intsV_len]; try simp) (by simp [intsV]) (fun p => by simp -implicitDefEqProofs only [s_s, argEnv, PastOK, PendOK, sel, isE, isSp, baseOK, opR, opnd, opnds, opndL, ofConst, look, putE, dstOK, guardL, binR, intOp, loadR, bad, bound, lenV, srcV, Ob.read, V.plain, V.one, V.cells, fillV, setMany, zeros, TK.agg, Sub, cellRes, loadV, bindE, Nat.reduceAdd, Nat.reduceEqDiff, Nat.reduceLT, Nat.reduceLeDiff, Nat.reduceMul, Nat.reduceSub, Nat.reduceDiv, Nat.reduceMod, Nat.reduceBEq, Nat.reduceBNe, reduceIte, reduceCtorEq, Int.reduceToNat, Int.reduceLT, Int.reduceLE, Int.reduceAdd, Int.reduceSub, Int.reduceMul, Int.reduceNeg, Int.reduceEq, Int.reduceNe, D_G, D_P, List.lookup, tys, intsV_len]) ?_
  rintro ⟨l, x⟩ ⟨h1, h2, h3, h4⟩
  simp only at h1 h2 h3 h4
  simp -implicitDefEqProofs only [s_s, argEnv, PastOK, PendOK, sel, isE, isSp, baseOK, opR, opnd, opnds, opndL, ofConst, look, putE, dstOK, guardL, binR, intOp, loadR, bad, bound, lenV, srcV, Ob.read, V.plain, V.one, V.cells, fillV, setMany, zeros, TK.agg, Sub, cellRes, loadV, bindE, Nat.reduceAdd, Nat.reduceEqDiff, Nat.reduceLT, Nat.reduceLeDiff, Nat.reduceMul, Nat.reduceSub, Nat.reduceDiv, Nat.reduceMod, Nat.reduceBEq, Nat.reduceBNe, reduceIte, reduceCtorEq, Int.reduceToNat, Int.reduceLT, Int.reduceLE, Int.reduceAdd, Int.reduceSub, Int.reduceMul, Int.reduceNeg, Int.reduceEq, Int.reduceNe, D_G, D_P, List.lookup, tys, intsV_len]
  refine Br.intro (fun h => ?_) (fun h => ?_)
  · have h0 : 0 < x := by have := of_decide_eq_true h; omega
    obtain ⟨b1, b2, b3⟩ := low_at x h0 h1
    simp -implicitDefEqProofs only [s_s, argEnv, PastOK, PendOK, sel, isE, isSp, baseOK, opR, opnd, opnds, opndL, ofConst, look, putE, dstOK, guardL, binR, intOp, loadR, bad, bound, lenV, srcV, Ob.read, V.plain, V.one, V.cells, fillV, setMany, zeros, TK.agg, Sub, cellRes, loadV, bindE, Nat.reduceAdd, Nat.reduceEqDiff, Nat.reduceLT, Nat.reduceLeDiff, Nat.reduceMul, Nat.reduceSub, Nat.reduceDiv, Nat.reduceMod, Nat.reduceBEq, Nat.reduceBNe, reduceIte, reduceCtorEq, Int.reduceToNat, Int.reduceLT, Int.reduceLE, Int.reduceAdd, Int.reduceSub, Int.reduceMul, Int.reduceNeg, Int.reduceEq, Int.reduceNe, D_G, D_P, List.lookup, tys, intsV_len]
    refine Sp.call rfl rfl ((tz_spec x h0 h1 _).mono ?_)
    rintro v st' ⟨rfl, rfl⟩
    simp -implicitDefEqProofs only [s_s, argEnv, PastOK, PendOK, sel, isE, isSp, baseOK, opR, opnd, opnds, opndL, ofConst, look, putE, dstOK, guardL, binR, intOp, loadR, bad, bound, lenV, srcV, Ob.read, V.plain, V.one, V.cells, fillV, setMany, zeros, TK.agg, Sub, cellRes, loadV, bindE, Nat.reduceAdd, Nat.reduceEqDiff, Nat.reduceLT, Nat.reduceLeDiff, Nat.reduceMul, Nat.reduceSub, Nat.reduceDiv, Nat.reduceMod, Nat.reduceBEq, Nat.reduceBNe, reduceIte, reduceCtorEq, Int.reduceToNat, Int.reduceLT, Int.reduceLE, Int.reduceAdd, Int.reduceSub, Int.reduceMul, Int.reduceNeg, Int.reduceEq, Int.reduceNe, D_G, D_P, List.lookup, tys, intsV_len, intsV_len, b1]
    repeat (refine And.intro (by first | omega | rfl | trivial | (simp; done) | (simp; omega)) ?_)
    have hl8 : l.length < 8 := by omega
    refine Kc.next (l ++ [(tz x : Int)], x &&& (x - 1)) ⟨by omega, by simp <;> omega, by simp <;> omega, ?_⟩ b2 (st ++ [.acc (l.length + 1) (intsV (l ++ [(tz x : Int)]))]) [.cells 0 [.int .i64 (tz x)]] (by simp [intsV]) (by simp) ?_ ?_
    · rw [← h4, show 9 - l.length = (9 - (l.length + 1)) + 1 by omega]
      simp only [colsF, show ¬ x = 0 by omega, if_false, List.length_append, List.length_singleton, List.append_assoc, List.singleton_append]
    · simp only [List.length_append, List.length_singleton]
      exact StConv.base hB (by simp) (.cons (.keep (bdd_ints _ _)) .nil)
    · refine EnvC.of_sub ?_ ?_
      · simp -implicitDefEqProofs only [s_s, argEnv, PastOK, PendOK, sel, isE, isSp, baseOK, opR, opnd, opnds, opndL, ofConst, look, putE, dstOK, guardL, binR, intOp, loadR, bad, bound, lenV, srcV, Ob.read, V.plain, V.one, V.cells, fillV, setMany, zeros, TK.agg, Sub, cellRes, loadV, bindE, Nat.reduceAdd, Nat.reduceEqDiff, Nat.reduceLT, Nat.reduceLeDiff, Nat.reduceMul, Nat.reduceSub, Nat.reduceDiv, Nat.reduceMod, Nat.reduceBEq, Nat.reduceBNe, reduceIte, reduceCtorEq, Int.reduceToNat, Int.reduceLT, Int.reduceLE, Int.reduceAdd, Int.reduceSub, Int.reduceMul, Int.reduceNeg, Int.reduceEq, Int.reduceNe, D_G, D_P, List.lookup, tys, intsV_len]
        try simp
      · simp [bddE, V.bdd]
  · have h0 : x = 0 := by have := of_decide_eq_false h; omega
    subst h0
    have h5 : l = colsOf s := by
      rw [← h4]
      cases 9 - l.length <;> simp [colsF]
    simp -implicitDefEqProofs only [s_s, argEnv, PastOK, PendOK, sel, isE, isSp, baseOK, opR, opnd, opnds, opndL, ofConst, look, putE, dstOK, guardL, binR, intOp, loadR, bad, bound, lenV, srcV, Ob.read, V.plain, V.one, V.cells, fillV, setMany, zeros, TK.agg, Sub, cellRes, loadV, bindE, Nat.reduceAdd, Nat.reduceEqDiff, Nat.reduceLT, Nat.reduceLeDiff, Nat.reduceMul, Nat.reduceSub, Nat.reduceDiv, Nat.reduceMod, Nat.reduceBEq, Nat.reduceBNe, reduceIte, reduceCtorEq, Int.reduceToNat, Int.reduceLT, Int.reduceLE, Int.reduceAdd, Int.reduceSub, Int.reduceMul, Int.reduceNeg, Int.reduceEq, Int.reduceNe, D_G, D_P, List.lookup, tys, intsV_len]
    refine Post.r1 rfl ⟨rowV (colsOf s), _, rfl, ?_, rfl⟩
    rw [← h5]
    exact Conv.row (by simp) (ob := .acc l.length (intsV l)) (by simp) (by simp [Ob.read]) rfl
end Go.VL
end

/- The value-level program logic, part 25: objects let go in rounds of ranges over functions. -/
section
set_option linter.unusedVariables false
set_option linter.unusedSimpArgs false
namespace Go.VL
open Go

section
variable {cx : Cx} {N : Nat} {r : RR} {env : Env} {st : St} {Q : Exit → Env → St → Prop}

/-- With the knowledge that the store is closed. -/
theorem WP.withB {c : Code} (h : StB st → WP cx N r c Q env st) : WP cx N r c Q env st :=
  fun lo S σ F a w hh hF hr => h hh.str.stB lo S σ F a w hh hF hr

theorem StConv.app {lo : Nat} {st l l' : St} (h2 : StConv lo st l l') : ∀ {s s' : St}, StConv lo st s s' → StConv lo st (s ++ l) (s' ++ l')
  | _, _, .nil => h2
  | _, _, .cons h hs => .cons h (StConv.app h2 hs)

theorem StB.pre {s l : St} (h : StB (s ++ l)) {lo : Nat} {st : St} (hlo : (s ++ l).length ≤ lo) : StConv lo st s s :=
  StConv.refl_of fun id ob ho => Ob.bdd_le hlo (h id ob (by rw [List.getElem?_append_left (List.getElem?_eq_some_iff.1 ho).1]; exact ho))

theorem StB.at {s l : St} (h : StB (s ++ l)) {lo k : Nat} {ob : Ob} (hk : l[k]? = some ob) (hlo : (s ++ l).length ≤ lo) : ob.bdd lo :=
  Ob.bdd_le hlo (h (s.length + k) ob (by rw [st_get]; exact hk))

/-- What is asked where a round's body ends: objects may be let go. -/
structure PostRC (fl : Nat) (s : St) (e : Exit) (env : Env) (st2 : St) : Prop where
  nrm : e = .normal
  cut : ∃ st1 new, st2 = st1 ++ new ∧ fl ≤ st1.length ∧ StConv st1.length st2 st1 s

theorem PostRC.done {fl : Nat} {s : St} (st1 new : St) (h1 : st = st1 ++ new) (h2 : fl ≤ st1.length) (h3 : StConv st1.length st st1 s) : PostRC fl s .normal env st := ⟨rfl, st1, new, h1, h2, h3⟩

theorem WP.letgo {c : Code} {s : St} (h : WP cx N r c (PostRC r.fl s) env st) : WP cx N r c (PostR s) env st :=
  WP.cutPost h fun e env2 st2 ⟨h1, ⟨st1, new, h2, h3, h4⟩⟩ => .inr ⟨[], st1, s, new, h2, h3, h4, trivial, h1, rfl⟩
end
end Go.VL
end

/- The array seat: lists compared, and sorted by insertion. -/
section
set_option linter.unusedSimpArgs false
set_option linter.unusedVariables false
set_option maxRecDepth 4000
namespace Go.VL
open Go Go.Proofs

theorem isNaN_spec (a : Int) (st : St) : VCall D 73 [.int .i64 a] st (fun v st' => v = .bool false ∧ st' = st) := by
  refine VCall.of_WP (fn := Tryd.f73) (c := _) Tryd.func73 rfl (by decide +kernel) (Nat.le_of_ble_eq_true rfl) ?_
  refine wpF_sound ?_
  simp -implicitDefEqProofs only [s_s, argEnv, PastOK, PendOK, sel, isE, isSp, baseOK, opR, opnd, opnds, opndL, ofConst, look, putE, dstOK, guardL, binR, intOp, loadR, bad, bound, lenV, srcV, Ob.read, V.plain, V.one, V.cells, fillV, setMany, zeros, TK.agg, Sub, cellRes, loadV, bindE, Nat.reduceAdd, Nat.reduceEqDiff, Nat.reduceLT, Nat.reduceLeDiff, Nat.reduceMul, Nat.reduceSub, Nat.reduceDiv, Nat.reduceMod, Nat.reduceBEq, Nat.reduceBNe, reduceIte, reduceCtorEq, Int.reduceToNat, Int.reduceLT, Int.reduceLE, Int.reduceAdd, Int.reduceSub, Int.reduceMul, Int.reduceNeg, Int.reduceEq, Int.reduceNe, D_G, D_P, List.lookup, tys, intsV_len, Tryd.ntmps73, Tryd.f73]
  exact Post.r1 rfl ⟨by simp, rfl⟩

def cmpI (a b : Int) : Int := if a < b then -1 else if b < a then 1 else 0

theorem cmp68_spec (a b : Int) (st : St) : VCall D 68 [.int .i64 a, .int .i64 b] st (fun v st' => v = .int .i64 (cmpI a b) ∧ st' = st) := by
  refine VCall.of_WP (fn := Tryd.f68) (c := _) Tryd.func68 rfl (by decide +kernel) (Nat.le_of_ble_eq_true rfl) ?_
  refine wpF_sound ?_
  simp -implicitDefEqProofs only [s_s, argEnv, PastOK, PendOK, sel, isE, isSp, baseOK, opR, opnd, opnds, opndL, ofConst, look, putE, dstOK, guardL, binR, intOp, loadR, bad, bound, lenV, srcV, Ob.read, V.plain, V.one, V.cells, fillV, setMany, zeros, TK.agg, Sub, cellRes, loadV, bindE, Nat.reduceAdd, Nat.reduceEqDiff, Nat.reduceLT, Nat.reduceLeDiff, Nat.reduceMul, Nat.reduceSub, Nat.reduceDiv, Nat.reduceMod, Nat.reduceBEq, Nat.reduceBNe, reduceIte, reduceCtorEq, Int.reduceToNat, Int.reduceLT, Int.reduceLE, Int.reduceAdd, Int.reduceSub, Int.reduceMul, Int.reduceNeg, Int.reduceEq, Int.reduceNe, D_G, D_P, List.lookup, tys, intsV_len, Tryd.ntmps68, Tryd.f68]
  refine Sp.call rfl rfl ((isNaN_spec a _).mono ?_)
  rintro v st' ⟨rfl, rfl⟩
  simp -implicitDefEqProofs only [s_s, argEnv, PastOK, PendOK, sel, isE, isSp, baseOK, opR, opnd, opnds, opndL, ofConst, look, putE, dstOK, guardL, binR, intOp, loadR, bad, bound, lenV, srcV, Ob.read, V.plain, V.one, V.cells, fillV, setMany, zeros, TK.agg, Sub, cellRes, loadV, bindE, Nat.reduceAdd, Nat.reduceEqDiff, Nat.reduceLT, Nat.reduceLeDiff, Nat.reduceMul, Nat.reduceSub, Nat.reduceDiv, Nat.reduceMod, Nat.reduceBEq, Nat.reduceBNe, reduceIte, reduceCtorEq, Int.reduceToNat, Int.reduceLT, Int.reduceLE, Int.reduceAdd, Int.reduceSub, Int.reduceMul, Int.reduceNeg, Int.reduceEq, Int.reduceNe, D_G, D_P, List.lookup, tys, intsV_len]
  refine Sp.call rfl rfl ((isNaN_spec b _).mono ?_)
  rintro v st' ⟨rfl, rfl⟩
  simp -implicitDefEqProofs only [s_s, argEnv, PastOK, PendOK, sel, isE, isSp, baseOK, opR, opnd, opnds, opndL, ofConst, look, putE, dstOK, guardL, binR, intOp, loadR, bad, bound, lenV, srcV, Ob.read, V.plain, V.one, V.cells, fillV, setMany, zeros, TK.agg, Sub, cellRes, loadV, bindE, Nat.reduceAdd, Nat.reduceEqDiff, Nat.reduceLT, Nat.reduceLeDiff, Nat.reduceMul, Nat.reduceSub, Nat.reduceDiv, Nat.reduceMod, Nat.reduceBEq, Nat.reduceBNe, reduceIte, reduceCtorEq, Int.reduceToNat, Int.reduceLT, Int.reduceLE, Int.reduceAdd, Int.reduceSub, Int.reduceMul, Int.reduceNeg, Int.reduceEq, Int.reduceNe, D_G, D_P, List.lookup, tys, intsV_len]
  refine Br.intro (fun h => ?_) (fun h => ?_)
  · have h' : a < b := of_decide_eq_true h
    simp -implicitDefEqProofs only [s_s, argEnv, PastOK, PendOK, sel, isE, isSp, baseOK, opR, opnd, opnds, opndL, ofConst, look, putE, dstOK, guardL, binR, intOp, loadR, bad, bound, lenV, srcV, Ob.read, V.plain, V.one, V.cells, fillV, setMany, zeros, TK.agg, Sub, cellRes, loadV, bindE, Nat.reduceAdd, Nat.reduceEqDiff, Nat.reduceLT, Nat.reduceLeDiff, Nat.reduceMul, Nat.reduceSub, Nat.reduceDiv, Nat.reduceMod, Nat.reduceBEq, Nat.reduceBNe, reduceIte, reduceCtorEq, Int.reduceToNat, Int.reduceLT, Int.reduceLE, Int.reduceAdd, Int.reduceSub, Int.reduceMul, Int.reduceNeg, Int.reduceEq, Int.reduceNe, D_G, D_P, List.lookup, tys, intsV_len]
    exact Post.r1 rfl ⟨by simp [cmpI, h'], rfl⟩
  · have h' : ¬ a < b := of_decide_eq_false h
    simp -implicitDefEqProofs only [s_s, argEnv, PastOK, PendOK, sel, isE, isSp, baseOK, opR, opnd, opnds, opndL, ofConst, look, putE, dstOK, guardL, binR, intOp, loadR, bad, bound, lenV, srcV, Ob.read, V.plain, V.one, V.cells, fillV, setMany, zeros, TK.agg, Sub, cellRes, loadV, bindE, Nat.reduceAdd, Nat.reduceEqDiff, Nat.reduceLT, Nat.reduceLeDiff, Nat.reduceMul, Nat.reduceSub, Nat.reduceDiv, Nat.reduceMod, Nat.reduceBEq, Nat.reduceBNe, reduceIte, reduceCtorEq, Int.reduceToNat, Int.reduceLT, Int.reduceLE, Int.reduceAdd, Int.reduceSub, Int.reduceMul, Int.reduceNeg, Int.reduceEq, Int.reduceNe, D_G, D_P, List.lookup, tys, intsV_len]
    refine Br.intro (fun h2 => ?_) (fun h2 => ?_)
    · have h2' : b < a := of_decide_eq_true h2
      simp -implicitDefEqProofs only [s_s, argEnv, PastOK, PendOK, sel, isE, isSp, baseOK, opR, opnd, opnds, opndL, ofConst, look, putE, dstOK, guardL, binR, intOp, loadR, bad, bound, lenV, srcV, Ob.read, V.plain, V.one, V.cells, fillV, setMany, zeros, TK.agg, Sub, cellRes, loadV, bindE, Nat.reduceAdd, Nat.reduceEqDiff, Nat.reduceLT, Nat.reduceLeDiff, Nat.reduceMul, Nat.reduceSub, Nat.reduceDiv, Nat.reduceMod, Nat.reduceBEq, Nat.reduceBNe, reduceIte, reduceCtorEq, Int.reduceToNat, Int.reduceLT, Int.reduceLE, Int.reduceAdd, Int.reduceSub, Int.reduceMul, Int.reduceNeg, Int.reduceEq, Int.reduceNe, D_G, D_P, List.lookup, tys, intsV_len]
      exact Post.r1 rfl ⟨by simp [cmpI, h', h2'], rfl⟩
    · have h2' : ¬ b < a := of_decide_eq_false h2
      simp -implicitDefEqProofs only [s_s, argEnv, PastOK, PendOK, sel, isE, isSp, baseOK, opR, opnd, opnds, opndL, ofConst, look, putE, dstOK, guardL, binR, intOp, loadR, bad, bound, lenV, srcV, Ob.read, V.plain, V.one, V.cells, fillV, setMany, zeros, TK.agg, Sub, cellRes, loadV, bindE, Nat.reduceAdd, Nat.reduceEqDiff, Nat.reduceLT, Nat.reduceLeDiff, Nat.reduceMul, Nat.reduceSub, Nat.reduceDiv, Nat.reduceMod, Nat.reduceBEq, Nat.reduceBNe, reduceIte, reduceCtorEq, Int.reduceToNat, Int.reduceLT, Int.reduceLE, Int.reduceAdd, Int.reduceSub, Int.reduceMul, Int.reduceNeg, Int.reduceEq, Int.reduceNe, D_G, D_P, List.lookup, tys, intsV_len]
      exact Post.r1 rfl ⟨by simp [cmpI, h', h2'], rfl⟩

/-- Lists by their first difference. -/
def cmpL : List Int → List Int → Int
  | [], [] => 0
  | [], _ :: _ => -1
  | _ :: _, [] => 1
  | a :: l, b :: m => if cmpI a b = 0 then cmpL l m else cmpI a b

theorem Compare_spec (a b : List Int) (ha : a.length < 1000) (hb : b.length < 1000) (st : St) : VCall D 61 [rowV a, rowV b] st (fun v st' => v = .int .i64 (cmpL a b) ∧ st' = st) := by
  refine VCall.of_WP (fn := Tryd.f61) (c := _) Tryd.func61 rfl (by decide +kernel) (Nat.le_of_ble_eq_true rfl) ?_
  refine wpF_sound ?_
  simp -implicitDefEqProofs only [s_s, argEnv, PastOK, PendOK, sel, isE, isSp, baseOK, opR, opnd, opnds, opndL, ofConst, look, putE, dstOK, guardL, binR, intOp, loadR, bad, bound, lenV, srcV, Ob.read, V.plain, V.one, V.cells, fillV, setMany, zeros, TK.agg, Sub, cellRes, loadV, bindE, Nat.reduceAdd, Nat.reduceEqDiff, Nat.reduceLT, Nat.reduceLeDiff, Nat.reduceMul, Nat.reduceSub, Nat.reduceDiv, Nat.reduceMod, Nat.reduceBEq, Nat.reduceBNe, reduceIte, reduceCtorEq, Int.reduceToNat, Int.reduceLT, Int.reduceLE, Int.reduceAdd, Int.reduceSub, Int.reduceMul, Int.reduceNeg, Int.reduceEq, Int.reduceNe, D_G, D_P, List.lookup, tys, intsV_len, Tryd.ntmps61, Tryd.f61, rowV]
  refine WP.loopF (ι := Nat) (fun i => [(0, .lst 1 (intsV a)), (1, .lst 1 (intsV b)), (9, .lst 1 (intsV a)), (10, .int .i64 a.length), (11, .int .i64 i)]) (fun _ => st) (fun i => i ≤ a.length ∧ i ≤ b.length ∧ cmpL (a.drop i) (b.drop i) = cmpL a b) (fun i => a.length - i) 0 ⟨by omega, by omega, rfl⟩ (by simp -implicitDefEqProofs only [s_s, argEnv, PastOK, PendOK, sel, isE, isSp, baseOK, opR, opnd, opnds, opndL, ofConst, look, putE, dstOK, guardL, binR, intOp, loadR, bad, bound, lenV, srcV, Ob.read, V.plain, V.one, V.cells, fillV, setMany, zeros, TK.agg, Sub, cellRes, loadV, bindE, Nat.reduceAdd, Nat.reduceEqDiff, Nat.reduceLT, Nat.reduceLeDiff, Nat.reduceMul, Nat.reduceSub, Nat.reduceDiv, Nat.reduceMod, Nat.reduceBEq, Nat.reduceBNe, reduceIte, reduceCtorEq, Int.reduceToNat, Int.reduceLT, Int.reduceLE, Int.reduceAdd, Int.reduceSub, Int.reduceMul, Int.reduceNeg, Int.reduceEq, Int.reduceNe, D_G, D_P, List.lookup, tys, intsV_len]; try simp) rfl ?_
  rintro i ⟨hi, hi2, hc⟩
  simp -implicitDefEqProofs only [s_s, argEnv, PastOK, PendOK, sel, isE, isSp, baseOK, opR, opnd, opnds, opndL, ofConst, look, putE, dstOK, guardL, binR, intOp, loadR, bad, bound, lenV, srcV, Ob.read, V.plain, V.one, V.cells, fillV, setMany, zeros, TK.agg, Sub, cellRes, loadV, bindE, Nat.reduceAdd, Nat.reduceEqDiff, Nat.reduceLT, Nat.reduceLeDiff, Nat.reduceMul, Nat.reduceSub, Nat.reduceDiv, Nat.reduceMod, Nat.reduceBEq, Nat.reduceBNe, reduceIte, reduceCtorEq, Int.reduceToNat, Int.reduceLT, Int.reduceLE, Int.reduceAdd, Int.reduceSub, Int.reduceMul, Int.reduceNeg, Int.reduceEq, Int.reduceNe, D_G, D_P, List.lookup, tys, intsV_len]
  refine Br.intro (fun h => ?_) (fun h => ?_)
  · have h' : i < a.length := by have := of_decide_eq_true h; omega
    obtain ⟨x, hx⟩ : ∃ x, a[i]? = some x := ⟨_, List.getElem?_eq_getElem h'⟩
    have hda : a.drop i = x :: a.drop (i + 1) := by rw [List.drop_eq_getElem_cons h']; rw [List.getElem?_eq_getElem h'] at hx; cases hx; rfl
    simp -implicitDefEqProofs only [s_s, argEnv, PastOK, PendOK, sel, isE, isSp, baseOK, opR, opnd, opnds, opndL, ofConst, look, putE, dstOK, guardL, binR, intOp, loadR, bad, bound, lenV, srcV, Ob.read, V.plain, V.one, V.cells, fillV, setMany, zeros, TK.agg, Sub, cellRes, loadV, bindE, Nat.reduceAdd, Nat.reduceEqDiff, Nat.reduceLT, Nat.reduceLeDiff, Nat.reduceMul, Nat.reduceSub, Nat.reduceDiv, Nat.reduceMod, Nat.reduceBEq, Nat.reduceBNe, reduceIte, reduceCtorEq, Int.reduceToNat, Int.reduceLT, Int.reduceLE, Int.reduceAdd, Int.reduceSub, Int.reduceMul, Int.reduceNeg, Int.reduceEq, Int.reduceNe, D_G, D_P, List.lookup, tys, intsV_len, intsV_get hx]
    repeat (refine And.intro (by first | omega | rfl | trivial | (simp; done) | (simp; omega)) ?_)
    refine Br.intro (fun h2 => ?_) (fun h2 => ?_)
    · have h2' : i = b.length := by have := of_decide_eq_true h2; omega
      simp -implicitDefEqProofs only [s_s, argEnv, PastOK, PendOK, sel, isE, isSp, baseOK, opR, opnd, opnds, opndL, ofConst, look, putE, dstOK, guardL, binR, intOp, loadR, bad, bound, lenV, srcV, Ob.read, V.plain, V.one, V.cells, fillV, setMany, zeros, TK.agg, Sub, cellRes, loadV, bindE, Nat.reduceAdd, Nat.reduceEqDiff, Nat.reduceLT, Nat.reduceLeDiff, Nat.reduceMul, Nat.reduceSub, Nat.reduceDiv, Nat.reduceMod, Nat.reduceBEq, Nat.reduceBNe, reduceIte, reduceCtorEq, Int.reduceToNat, Int.reduceLT, Int.reduceLE, Int.reduceAdd, Int.reduceSub, Int.reduceMul, Int.reduceNeg, Int.reduceEq, Int.reduceNe, D_G, D_P, List.lookup, tys, intsV_len]
      refine Post.r1 rfl ⟨?_, rfl⟩
      rw [← hc, hda, h2', List.drop_length]; rfl
    · have h2' : i < b.length := by have := of_decide_eq_false h2; omega
      obtain ⟨y, hy⟩ : ∃ y, b[i]? = some y := ⟨_, List.getElem?_eq_getElem h2'⟩
      have hdb : b.drop i = y :: b.drop (i + 1) := by rw [List.drop_eq_getElem_cons h2']; rw [List.getElem?_eq_getElem h2'] at hy; cases hy; rfl
      rw [hda, hdb] at hc
      simp only [cmpL] at hc
      simp -implicitDefEqProofs only [s_s, argEnv, PastOK, PendOK, sel, isE, isSp, baseOK, opR, opnd, opnds, opndL, ofConst, look, putE, dstOK, guardL, binR, intOp, loadR, bad, bound, lenV, srcV, Ob.read, V.plain, V.one, V.cells, fillV, setMany, zeros, TK.agg, Sub, cellRes, loadV, bindE, Nat.reduceAdd, Nat.reduceEqDiff, Nat.reduceLT, Nat.reduceLeDiff, Nat.reduceMul, Nat.reduceSub, Nat.reduceDiv, Nat.reduceMod, Nat.reduceBEq, Nat.reduceBNe, reduceIte, reduceCtorEq, Int.reduceToNat, Int.reduceLT, Int.reduceLE, Int.reduceAdd, Int.reduceSub, Int.reduceMul, Int.reduceNeg, Int.reduceEq, Int.reduceNe, D_G, D_P, List.lookup, tys, intsV_len, intsV_get hy]
      repeat (refine And.intro (by first | omega | rfl | trivial | (simp; done) | (simp; omega)) ?_)
      refine Sp.call rfl rfl ((cmp68_spec x y _).mono ?_)
      rintro v st' ⟨rfl, rfl⟩
      simp -implicitDefEqProofs only [s_s, argEnv, PastOK, PendOK, sel, isE, isSp, baseOK, opR, opnd, opnds, opndL, ofConst, look, putE, dstOK, guardL, binR, intOp, loadR, bad, bound, lenV, srcV, Ob.read, V.plain, V.one, V.cells, fillV, setMany, zeros, TK.agg, Sub, cellRes, loadV, bindE, Nat.reduceAdd, Nat.reduceEqDiff, Nat.reduceLT, Nat.reduceLeDiff, Nat.reduceMul, Nat.reduceSub, Nat.reduceDiv, Nat.reduceMod, Nat.reduceBEq, Nat.reduceBNe, reduceIte, reduceCtorEq, Int.reduceToNat, Int.reduceLT, Int.reduceLE, Int.reduceAdd, Int.reduceSub, Int.reduceMul, Int.reduceNeg, Int.reduceEq, Int.reduceNe, D_G, D_P, List.lookup, tys, intsV_len]
      refine Br.intro (fun h3 => ?_) (fun h3 => ?_)
      · have h3' : ¬ cmpI x y = 0 := by simpa using h3
        rw [if_neg h3'] at hc
        simp -implicitDefEqProofs only [s_s, argEnv, PastOK, PendOK, sel, isE, isSp, baseOK, opR, opnd, opnds, opndL, ofConst, look, putE, dstOK, guardL, binR, intOp, loadR, bad, bound, lenV, srcV, Ob.read, V.plain, V.one, V.cells, fillV, setMany, zeros, TK.agg, Sub, cellRes, loadV, bindE, Nat.reduceAdd, Nat.reduceEqDiff, Nat.reduceLT, Nat.reduceLeDiff, Nat.reduceMul, Nat.reduceSub, Nat.reduceDiv, Nat.reduceMod, Nat.reduceBEq, Nat.reduceBNe, reduceIte, reduceCtorEq, Int.reduceToNat, Int.reduceLT, Int.reduceLE, Int.reduceAdd, Int.reduceSub, Int.reduceMul, Int.reduceNeg, Int.reduceEq, Int.reduceNe, D_G, D_P, List.lookup, tys, intsV_len]
        exact Post.r1 rfl ⟨by rw [hc], rfl⟩
      · have h3' : cmpI x y = 0 := by simpa using h3
        rw [if_pos h3'] at hc
        have w := wrapI (n := (i : Int) + 1) (by omega) (by omega)
        simp -implicitDefEqProofs only [s_s, argEnv, PastOK, PendOK, sel, isE, isSp, baseOK, opR, opnd, opnds, opndL, ofConst, look, putE, dstOK, guardL, binR, intOp, loadR, bad, bound, lenV, srcV, Ob.read, V.plain, V.one, V.cells, fillV, setMany, zeros, TK.agg, Sub, cellRes, loadV, bindE, Nat.reduceAdd, Nat.reduceEqDiff, Nat.reduceLT, Nat.reduceLeDiff, Nat.reduceMul, Nat.reduceSub, Nat.reduceDiv, Nat.reduceMod, Nat.reduceBEq, Nat.reduceBNe, reduceIte, reduceCtorEq, Int.reduceToNat, Int.reduceLT, Int.reduceLE, Int.reduceAdd, Int.reduceSub, Int.reduceMul, Int.reduceNeg, Int.reduceEq, Int.reduceNe, D_G, D_P, List.lookup, tys, intsV_len, w]
        exact Kl.next (i + 1) ⟨by omega, by omega, hc⟩ (by omega) (by simp -implicitDefEqProofs only [s_s, argEnv, PastOK, PendOK, sel, isE, isSp, baseOK, opR, opnd, opnds, opndL, ofConst, look, putE, dstOK, guardL, binR, intOp, loadR, bad, bound, lenV, srcV, Ob.read, V.plain, V.one, V.cells, fillV, setMany, zeros, TK.agg, Sub, cellRes, loadV, bindE, Nat.reduceAdd, Nat.reduceEqDiff, Nat.reduceLT, Nat.reduceLeDiff, Nat.reduceMul, Nat.reduceSub, Nat.reduceDiv, Nat.reduceMod, Nat.reduceBEq, Nat.reduceBNe, reduceIte, reduceCtorEq, Int.reduceToNat, Int.reduceLT, Int.reduceLE, Int.reduceAdd, Int.reduceSub, Int.reduceMul, Int.reduceNeg, Int.reduceEq, Int.reduceNe, D_G, D_P, List.lookup, tys, intsV_len]; try simp) rfl
  · have h' : i = a.length := by have := of_decide_eq_false h; omega
    rw [h', List.drop_length] at hc
    simp -implicitDefEqProofs only [s_s, argEnv, PastOK, PendOK, sel, isE, isSp, baseOK, opR, opnd, opnds, opndL, ofConst, look, putE, dstOK, guardL, binR, intOp, loadR, bad, bound, lenV, srcV, Ob.read, V.plain, V.one, V.cells, fillV, setMany, zeros, TK.agg, Sub, cellRes, loadV, bindE, Nat.reduceAdd, Nat.reduceEqDiff, Nat.reduceLT, Nat.reduceLeDiff, Nat.reduceMul, Nat.reduceSub, Nat.reduceDiv, Nat.reduceMod, Nat.reduceBEq, Nat.reduceBNe, reduceIte, reduceCtorEq, Int.reduceToNat, Int.reduceLT, Int.reduceLE, Int.reduceAdd, Int.reduceSub, Int.reduceMul, Int.reduceNeg, Int.reduceEq, Int.reduceNe, D_G, D_P, List.lookup, tys, intsV_len]
    refine Br.intro (fun h2 => ?_) (fun h2 => ?_)
    · have h2' : a.length < b.length := by have := of_decide_eq_true h2; omega
      obtain ⟨y, m, hm⟩ : ∃ y m, b.drop a.length = y :: m := by
        cases e : b.drop a.length with
        | nil => have := congrArg List.length e; simp at this; omega
        | cons y m => exact ⟨y, m, rfl⟩
      rw [hm] at hc
      simp -implicitDefEqProofs only [s_s, argEnv, PastOK, PendOK, sel, isE, isSp, baseOK, opR, opnd, opnds, opndL, ofConst, look, putE, dstOK, guardL, binR, intOp, loadR, bad, bound, lenV, srcV, Ob.read, V.plain, V.one, V.cells, fillV, setMany, zeros, TK.agg, Sub, cellRes, loadV, bindE, Nat.reduceAdd, Nat.reduceEqDiff, Nat.reduceLT, Nat.reduceLeDiff, Nat.reduceMul, Nat.reduceSub, Nat.reduceDiv, Nat.reduceMod, Nat.reduceBEq, Nat.reduceBNe, reduceIte, reduceCtorEq, Int.reduceToNat, Int.reduceLT, Int.reduceLE, Int.reduceAdd, Int.reduceSub, Int.reduceMul, Int.reduceNeg, Int.reduceEq, Int.reduceNe, D_G, D_P, List.lookup, tys, intsV_len]
      exact Post.r1 rfl ⟨by rw [← hc]; rfl, rfl⟩
    · have h2' : b.length ≤ a.length := by have := of_decide_eq_false h2; omega
      have e : b.drop a.length = [] := List.drop_eq_nil_of_le h2'
      rw [e] at hc
      simp -implicitDefEqProofs only [s_s, argEnv, PastOK, PendOK, sel, isE, isSp, baseOK, opR, opnd, opnds, opndL, ofConst, look, putE, dstOK, guardL, binR, intOp, loadR, bad, bound, lenV, srcV, Ob.read, V.plain, V.one, V.cells, fillV, setMany, zeros, TK.agg, Sub, cellRes, loadV, bindE, Nat.reduceAdd, Nat.reduceEqDiff, Nat.reduceLT, Nat.reduceLeDiff, Nat.reduceMul, Nat.reduceSub, Nat.reduceDiv, Nat.reduceMod, Nat.reduceBEq, Nat.reduceBNe, reduceIte, reduceCtorEq, Int.reduceToNat, Int.reduceLT, Int.reduceLE, Int.reduceAdd, Int.reduceSub, Int.reduceMul, Int.reduceNeg, Int.reduceEq, Int.reduceNe, D_G, D_P, List.lookup, tys, intsV_len]
      exact Post.r1 rfl ⟨by rw [← hc]; rfl, rfl⟩

def cmpS (x y : Nat) : Int := cmpL (colsOf x) (colsOf y)

theorem colsF_len : ∀ f s, (colsF f s).length ≤ f
  | 0, _ => by simp [colsF]
  | f + 1, s => by
    simp only [colsF]
    split
    · simp
    · have := colsF_len f (s &&& (s - 1)); simp; omega

theorem cmp60_spec (x y : Nat) (hx : x < 256) (hy : y < 256) (st : St) : VCall D 60 [.int .u64 x, .int .u64 y] st (fun v st' => v = .int .i64 (cmpS x y) ∧ st' = st) := by
  have l1 : (colsOf x).length ≤ 9 := colsF_len 9 x
  have l2 : (colsOf y).length ≤ 9 := colsF_len 9 y
  refine VCall.of_WP (fn := Tryd.f60) (c := _) Tryd.func60 rfl (by decide +kernel) (Nat.le_of_ble_eq_true rfl) ?_
  refine wpF_sound ?_
  simp -implicitDefEqProofs only [s_s, argEnv, PastOK, PendOK, sel, isE, isSp, baseOK, opR, opnd, opnds, opndL, ofConst, look, putE, dstOK, guardL, binR, intOp, loadR, bad, bound, lenV, srcV, Ob.read, V.plain, V.one, V.cells, fillV, setMany, zeros, TK.agg, Sub, cellRes, loadV, bindE, Nat.reduceAdd, Nat.reduceEqDiff, Nat.reduceLT, Nat.reduceLeDiff, Nat.reduceMul, Nat.reduceSub, Nat.reduceDiv, Nat.reduceMod, Nat.reduceBEq, Nat.reduceBNe, reduceIte, reduceCtorEq, Int.reduceToNat, Int.reduceLT, Int.reduceLE, Int.reduceAdd, Int.reduceSub, Int.reduceMul, Int.reduceNeg, Int.reduceEq, Int.reduceNe, D_G, D_P, List.lookup, tys, intsV_len, Tryd.ntmps60, Tryd.f60]
  refine Sp.call rfl rfl ((columns_spec x hx _).mono ?_)
  rintro v st' ⟨rfl, rfl⟩
  simp -implicitDefEqProofs only [s_s, argEnv, PastOK, PendOK, sel, isE, isSp, baseOK, opR, opnd, opnds, opndL, ofConst, look, putE, dstOK, guardL, binR, intOp, loadR, bad, bound, lenV, srcV, Ob.read, V.plain, V.one, V.cells, fillV, setMany, zeros, TK.agg, Sub, cellRes, loadV, bindE, Nat.reduceAdd, Nat.reduceEqDiff, Nat.reduceLT, Nat.reduceLeDiff, Nat.reduceMul, Nat.reduceSub, Nat.reduceDiv, Nat.reduceMod, Nat.reduceBEq, Nat.reduceBNe, reduceIte, reduceCtorEq, Int.reduceToNat, Int.reduceLT, Int.reduceLE, Int.reduceAdd, Int.reduceSub, Int.reduceMul, Int.reduceNeg, Int.reduceEq, Int.reduceNe, D_G, D_P, List.lookup, tys, intsV_len]
  refine Sp.call rfl rfl ((columns_spec y hy _).mono ?_)
  rintro v st' ⟨rfl, rfl⟩
  simp -implicitDefEqProofs only [s_s, argEnv, PastOK, PendOK, sel, isE, isSp, baseOK, opR, opnd, opnds, opndL, ofConst, look, putE, dstOK, guardL, binR, intOp, loadR, bad, bound, lenV, srcV, Ob.read, V.plain, V.one, V.cells, fillV, setMany, zeros, TK.agg, Sub, cellRes, loadV, bindE, Nat.reduceAdd, Nat.reduceEqDiff, Nat.reduceLT, Nat.reduceLeDiff, Nat.reduceMul, Nat.reduceSub, Nat.reduceDiv, Nat.reduceMod, Nat.reduceBEq, Nat.reduceBNe, reduceIte, reduceCtorEq, Int.reduceToNat, Int.reduceLT, Int.reduceLE, Int.reduceAdd, Int.reduceSub, Int.reduceMul, Int.reduceNeg, Int.reduceEq, Int.reduceNe, D_G, D_P, List.lookup, tys, intsV_len]
  refine Sp.call rfl rfl ((Compare_spec (colsOf x) (colsOf y) (by omega) (by omega) _).mono ?_)
  rintro v st' ⟨rfl, rfl⟩
  simp -implicitDefEqProofs only [s_s, argEnv, PastOK, PendOK, sel, isE, isSp, baseOK, opR, opnd, opnds, opndL, ofConst, look, putE, dstOK, guardL, binR, intOp, loadR, bad, bound, lenV, srcV, Ob.read, V.plain, V.one, V.cells, fillV, setMany, zeros, TK.agg, Sub, cellRes, loadV, bindE, Nat.reduceAdd, Nat.reduceEqDiff, Nat.reduceLT, Nat.reduceLeDiff, Nat.reduceMul, Nat.reduceSub, Nat.reduceDiv, Nat.reduceMod, Nat.reduceBEq, Nat.reduceBNe, reduceIte, reduceCtorEq, Int.reduceToNat, Int.reduceLT, Int.reduceLE, Int.reduceAdd, Int.reduceSub, Int.reduceMul, Int.reduceNeg, Int.reduceEq, Int.reduceNe, D_G, D_P, List.lookup, tys, intsV_len]
  exact Post.r1 rfl ⟨rfl, rfl⟩

/-! ### Sorting by insertion -/
def swapN (l : List Nat) (a b : Nat) : List Nat := (l.set a ((l[b]?).getD 0)).set b ((l[a]?).getD 0)
def insI (cmp : Nat → Nat → Int) : Nat → List Nat → List Nat
  | 0, l => l
  | j + 1, l => if cmp ((l[j + 1]?).getD 0) ((l[j]?).getD 0) < 0 then insI cmp j (swapN l (j + 1) j) else l
def insO (cmp : Nat → Nat → Int) (l : List Nat) : Nat → List Nat
  | 0 => l
  | i + 1 => insI cmp (i + 1) (insO cmp l i)
def insS (cmp : Nat → Nat → Int) (l : List Nat) : List Nat := insO cmp l (l.length - 1)

def natsV (l : List Nat) : List V := l.map fun n : Nat => V.int .u64 n
theorem natsV_len (l : List Nat) : (natsV l).length = l.length := by simp [natsV]
theorem natsV_get {l : List Nat} {i : Nat} {x : Nat} (h : l[i]? = some x) : (natsV l)[i]? = some (.int .u64 x) := by simp [natsV, h]

/-- What is asked of a comparing function. -/
def Cmps (f : FuncId) (cmp : Nat → Nat → Int) : Prop := ∀ (x y : Nat) (st : St), x < 256 → y < 256 → VCall D f [.int .u64 x, .int .u64 y] st (fun v st' => v = .int .i64 (cmp x y) ∧ st' = st)

theorem swapN_len (l : List Nat) (a b : Nat) : (swapN l a b).length = l.length := by simp [swapN]
theorem swapN_ok {l : List Nat} {a b : Nat} (ha : a < l.length) (hb : b < l.length) (h : ∀ x ∈ l, x < 256) : ∀ x ∈ swapN l a b, x < 256 := by
  intro x hx
  have ga : l[a]? = some l[a] := List.getElem?_eq_getElem ha
  have gb : l[b]? = some l[b] := List.getElem?_eq_getElem hb
  simp only [swapN, ga, gb, Option.getD_some] at hx
  rcases List.mem_or_eq_of_mem_set hx with hx | rfl
  · rcases List.mem_or_eq_of_mem_set hx with hx | rfl
    · exact h x hx
    · exact h _ (List.getElem_mem hb)
  · exact h _ (List.getElem_mem ha)
theorem insI_len (cmp : Nat → Nat → Int) : ∀ j l, (insI cmp j l).length = l.length
  | 0, l => rfl
  | j + 1, l => by simp only [insI]; split; rw [insI_len, swapN_len]; rfl
theorem insI_ok (cmp : Nat → Nat → Int) : ∀ j l, j < l.length → (∀ x ∈ l, x < 256) → ∀ x ∈ insI cmp j l, x < 256
  | 0, l, _, h => h
  | j + 1, l, hj, h => by
    simp only [insI]; split
    · exact insI_ok cmp j _ (by rw [swapN_len]; omega) (swapN_ok hj (by omega) h)
    · exact h
theorem insO_len (cmp : Nat → Nat → Int) (l : List Nat) : ∀ i, (insO cmp l i).length = l.length
  | 0 => rfl
  | i + 1 => by simp only [insO]; rw [insI_len, insO_len]
theorem insO_ok (cmp : Nat → Nat → Int) (l : List Nat) (h : ∀ x ∈ l, x < 256) : ∀ i, i < l.length → ∀ x ∈ insO cmp l i, x < 256
  | 0, _ => h
  | i + 1, hi => by
    simp only [insO]
    exact insI_ok cmp _ _ (by rw [insO_len]; exact hi) (insO_ok cmp l h i (by omega))

theorem ins76_spec (f : FuncId) (cmp : Nat → Nat → Int) (hc : Cmps f cmp) (l : List Nat) (hl : l.length < 1000) (hok : ∀ x ∈ l, x < 256) (st : St) :
    VCall D 76 [.slc st.length 0 0 l.length 1, .int .i64 0, .int .i64 l.length, .fn (.func f) []] (st ++ [.cells 0 (natsV l)]) (fun v st' => v = .tup [] ∧ st' = st ++ [.cells 0 (natsV (insS cmp l))]) := by
  refine VCall.of_WP (fn := Tryd.f76) (c := _) Tryd.func76 rfl (by decide +kernel) (Nat.le_of_ble_eq_true rfl) ?_
  refine wpF_sound ?_
  have w0 : IntKind.i64.wrap 1 = 1 := by decide
  simp -implicitDefEqProofs only [s_s, argEnv, PastOK, PendOK, sel, isE, isSp, baseOK, opR, opnd, opnds, opndL, ofConst, look, putE, dstOK, guardL, binR, intOp, loadR, bad, bound, lenV, srcV, Ob.read, V.plain, V.one, V.cells, fillV, setMany, zeros, TK.agg, Sub, cellRes, loadV, bindE, Nat.reduceAdd, Nat.reduceEqDiff, Nat.reduceLT, Nat.reduceLeDiff, Nat.reduceMul, Nat.reduceSub, Nat.reduceDiv, Nat.reduceMod, Nat.reduceBEq, Nat.reduceBNe, reduceIte, reduceCtorEq, Int.reduceToNat, Int.reduceLT, Int.reduceLE, Int.reduceAdd, Int.reduceSub, Int.reduceMul, Int.reduceNeg, Int.reduceEq, Int.reduceNe, D_G, D_P, List.lookup, tys, intsV_len, Tryd.ntmps76, Tryd.f76]
  refine WP.loopF (ι := Nat) (fun i => [(0, .slc st.length 0 0 l.length 1), (1, .int .i64 0), (2, .int .i64 l.length), (3, .fn (.func f) []), (8, .int .i64 ((i + 1 : Nat) : Int))]) (fun i => st ++ [.cells 0 (natsV (insO cmp l i))]) (fun i => i ≤ l.length - 1) (fun i => l.length - i) 0 (by omega) (by simp -implicitDefEqProofs only [s_s, argEnv, PastOK, PendOK, sel, isE, isSp, baseOK, opR, opnd, opnds, opndL, ofConst, look, putE, dstOK, guardL, binR, intOp, loadR, bad, bound, lenV, srcV, Ob.read, V.plain, V.one, V.cells, fillV, setMany, zeros, TK.agg, Sub, cellRes, loadV, bindE, Nat.reduceAdd, Nat.reduceEqDiff, Nat.reduceLT, Nat.reduceLeDiff, Nat.reduceMul, Nat.reduceSub, Nat.reduceDiv, Nat.reduceMod, Nat.reduceBEq, Nat.reduceBNe, reduceIte, reduceCtorEq, Int.reduceToNat, Int.reduceLT, Int.reduceLE, Int.reduceAdd, Int.reduceSub, Int.reduceMul, Int.reduceNeg, Int.reduceEq, Int.reduceNe, D_G, D_P, List.lookup, tys, intsV_len, w0]; try rfl) rfl ?_
  intro i hi
  simp -implicitDefEqProofs only [s_s, argEnv, PastOK, PendOK, sel, isE, isSp, baseOK, opR, opnd, opnds, opndL, ofConst, look, putE, dstOK, guardL, binR, intOp, loadR, bad, bound, lenV, srcV, Ob.read, V.plain, V.one, V.cells, fillV, setMany, zeros, TK.agg, Sub, cellRes, loadV, bindE, Nat.reduceAdd, Nat.reduceEqDiff, Nat.reduceLT, Nat.reduceLeDiff, Nat.reduceMul, Nat.reduceSub, Nat.reduceDiv, Nat.reduceMod, Nat.reduceBEq, Nat.reduceBNe, reduceIte, reduceCtorEq, Int.reduceToNat, Int.reduceLT, Int.reduceLE, Int.reduceAdd, Int.reduceSub, Int.reduceMul, Int.reduceNeg, Int.reduceEq, Int.reduceNe, D_G, D_P, List.lookup, tys, intsV_len]
  refine Br.intro (fun h => ?_) (fun h => ?_)
  · have h' : i + 1 < l.length := by have := of_decide_eq_true h; omega
    simp -implicitDefEqProofs only [s_s, argEnv, PastOK, PendOK, sel, isE, isSp, baseOK, opR, opnd, opnds, opndL, ofConst, look, putE, dstOK, guardL, binR, intOp, loadR, bad, bound, lenV, srcV, Ob.read, V.plain, V.one, V.cells, fillV, setMany, zeros, TK.agg, Sub, cellRes, loadV, bindE, Nat.reduceAdd, Nat.reduceEqDiff, Nat.reduceLT, Nat.reduceLeDiff, Nat.reduceMul, Nat.reduceSub, Nat.reduceDiv, Nat.reduceMod, Nat.reduceBEq, Nat.reduceBNe, reduceIte, reduceCtorEq, Int.reduceToNat, Int.reduceLT, Int.reduceLE, Int.reduceAdd, Int.reduceSub, Int.reduceMul, Int.reduceNeg, Int.reduceEq, Int.reduceNe, D_G, D_P, List.lookup, tys, intsV_len]
    refine WP.loopF (ι := Nat × List Nat) (fun p => [(0, .slc st.length 0 0 l.length 1), (1, .int .i64 0), (2, .int .i64 l.length), (3, .fn (.func f) []), (8, .int .i64 ((i + 1 : Nat) : Int)), (9, .int .i64 p.1)]) (fun p => st ++ [.cells 0 (natsV p.2)]) (fun p => p.1 ≤ i + 1 ∧ p.2.length = l.length ∧ (∀ x ∈ p.2, x < 256) ∧ insI cmp p.1 p.2 = insO cmp l (i + 1)) (fun p => p.1) (i + 1, insO cmp l i) ⟨Nat.le_refl _, insO_len _ _ _, insO_ok cmp l hok i (by omega), rfl⟩ (by simp -implicitDefEqProofs only [s_s, argEnv, PastOK, PendOK, sel, isE, isSp, baseOK, opR, opnd, opnds, opndL, ofConst, look, putE, dstOK, guardL, binR, intOp, loadR, bad, bound, lenV, srcV, Ob.read, V.plain, V.one, V.cells, fillV, setMany, zeros, TK.agg, Sub, cellRes, loadV, bindE, Nat.reduceAdd, Nat.reduceEqDiff, Nat.reduceLT, Nat.reduceLeDiff, Nat.reduceMul, Nat.reduceSub, Nat.reduceDiv, Nat.reduceMod, Nat.reduceBEq, Nat.reduceBNe, reduceIte, reduceCtorEq, Int.reduceToNat, Int.reduceLT, Int.reduceLE, Int.reduceAdd, Int.reduceSub, Int.reduceMul, Int.reduceNeg, Int.reduceEq, Int.reduceNe, D_G, D_P, List.lookup, tys, intsV_len]; try simp) rfl ?_
    rintro ⟨j, L⟩ ⟨h1, h2, h3, h4⟩
    simp only at h1 h2 h3 h4
    simp -implicitDefEqProofs only [s_s, argEnv, PastOK, PendOK, sel, isE, isSp, baseOK, opR, opnd, opnds, opndL, ofConst, look, putE, dstOK, guardL, binR, intOp, loadR, bad, bound, lenV, srcV, Ob.read, V.plain, V.one, V.cells, fillV, setMany, zeros, TK.agg, Sub, cellRes, loadV, bindE, Nat.reduceAdd, Nat.reduceEqDiff, Nat.reduceLT, Nat.reduceLeDiff, Nat.reduceMul, Nat.reduceSub, Nat.reduceDiv, Nat.reduceMod, Nat.reduceBEq, Nat.reduceBNe, reduceIte, reduceCtorEq, Int.reduceToNat, Int.reduceLT, Int.reduceLE, Int.reduceAdd, Int.reduceSub, Int.reduceMul, Int.reduceNeg, Int.reduceEq, Int.reduceNe, D_G, D_P, List.lookup, tys, intsV_len]
    refine WP.drawF [(0, 0, 0, [9]), (0, 0, 0, [1]), (3, 0, 0, [18, 19]), (7, 0, 0, [20]), (15, 0, 0, [3, 21]), (15, 0, 0, [0, 21]), (15, 0, 0, [9, 21]), (111, 0, 0, [23, 24, 21]), (239, 0, 0, [25, 21]), (15, 0, 0, [0, 21]), (15, 0, 0, [9, 21]), (1039, 0, 0, [28, 21]), (3599, 0, 0, [27, 29, 21]), (7695, 0, 0, [30, 21]), (16383, 0, 1, [22, 26, 31, 21]), (32767, 1, 1, [32, 21]), (65535, 1, 1, [21, 33])] D_mixed (by decide +kernel) ?_
    simp -implicitDefEqProofs only [s_s, argEnv, PastOK, PendOK, sel, isE, isSp, baseOK, opR, opnd, opnds, opndL, ofConst, look, putE, dstOK, guardL, binR, intOp, loadR, bad, bound, lenV, srcV, Ob.read, V.plain, V.one, V.cells, fillV, setMany, zeros, TK.agg, Sub, cellRes, loadV, bindE, Nat.reduceAdd, Nat.reduceEqDiff, Nat.reduceLT, Nat.reduceLeDiff, Nat.reduceMul, Nat.reduceSub, Nat.reduceDiv, Nat.reduceMod, Nat.reduceBEq, Nat.reduceBNe, reduceIte, reduceCtorEq, Int.reduceToNat, Int.reduceLT, Int.reduceLE, Int.reduceAdd, Int.reduceSub, Int.reduceMul, Int.reduceNeg, Int.reduceEq, Int.reduceNe, D_G, D_P, List.lookup, tys, intsV_len]
    cases j with
    | zero =>
      have d0 : decide ((0 : Int) < ((0 : Nat) : Int)) = false := by decide
      have w1 : IntKind.i64.wrap (((i + 1 : Nat) : Int) + 1) = ((i + 1 + 1 : Nat) : Int) := by rw [wrapI (by omega) (by omega)]; omega
      simp only [insI] at h4
      subst h4
      simp -implicitDefEqProofs only [s_s, argEnv, PastOK, PendOK, sel, isE, isSp, baseOK, opR, opnd, opnds, opndL, ofConst, look, putE, dstOK, guardL, binR, intOp, loadR, bad, bound, lenV, srcV, Ob.read, V.plain, V.one, V.cells, fillV, setMany, zeros, TK.agg, Sub, cellRes, loadV, bindE, Nat.reduceAdd, Nat.reduceEqDiff, Nat.reduceLT, Nat.reduceLeDiff, Nat.reduceMul, Nat.reduceSub, Nat.reduceDiv, Nat.reduceMod, Nat.reduceBEq, Nat.reduceBNe, reduceIte, reduceCtorEq, Int.reduceToNat, Int.reduceLT, Int.reduceLE, Int.reduceAdd, Int.reduceSub, Int.reduceMul, Int.reduceNeg, Int.reduceEq, Int.reduceNe, D_G, D_P, List.lookup, tys, intsV_len, d0, w1]
      exact Kl.next (i + 1) (by omega) (by omega) (by simp -implicitDefEqProofs only [s_s, argEnv, PastOK, PendOK, sel, isE, isSp, baseOK, opR, opnd, opnds, opndL, ofConst, look, putE, dstOK, guardL, binR, intOp, loadR, bad, bound, lenV, srcV, Ob.read, V.plain, V.one, V.cells, fillV, setMany, zeros, TK.agg, Sub, cellRes, loadV, bindE, Nat.reduceAdd, Nat.reduceEqDiff, Nat.reduceLT, Nat.reduceLeDiff, Nat.reduceMul, Nat.reduceSub, Nat.reduceDiv, Nat.reduceMod, Nat.reduceBEq, Nat.reduceBNe, reduceIte, reduceCtorEq, Int.reduceToNat, Int.reduceLT, Int.reduceLE, Int.reduceAdd, Int.reduceSub, Int.reduceMul, Int.reduceNeg, Int.reduceEq, Int.reduceNe, D_G, D_P, List.lookup, tys, intsV_len]) rfl
    | succ j =>
      have d0 : decide ((0 : Int) < ((j + 1 : Nat) : Int)) = true := by simp <;> omega
      have w1 : IntKind.i64.wrap (((i + 1 : Nat) : Int) + 1) = ((i + 1 + 1 : Nat) : Int) := by rw [wrapI (by omega) (by omega)]; omega
      have w2 : IntKind.i64.wrap (((j + 1 : Nat) : Int) - 1) = (j : Int) := by rw [wrapI (by omega) (by omega)]; omega
      obtain ⟨x, hx⟩ : ∃ x, L[j + 1]? = some x := ⟨_, List.getElem?_eq_getElem (by omega)⟩
      obtain ⟨y, hy⟩ : ∃ y, L[j]? = some y := ⟨_, List.getElem?_eq_getElem (by omega)⟩
      simp only [insI, hx, hy, Option.getD_some] at h4
      simp -implicitDefEqProofs only [s_s, argEnv, PastOK, PendOK, sel, isE, isSp, baseOK, opR, opnd, opnds, opndL, ofConst, look, putE, dstOK, guardL, binR, intOp, loadR, bad, bound, lenV, srcV, Ob.read, V.plain, V.one, V.cells, fillV, setMany, zeros, TK.agg, Sub, cellRes, loadV, bindE, Nat.reduceAdd, Nat.reduceEqDiff, Nat.reduceLT, Nat.reduceLeDiff, Nat.reduceMul, Nat.reduceSub, Nat.reduceDiv, Nat.reduceMod, Nat.reduceBEq, Nat.reduceBNe, reduceIte, reduceCtorEq, Int.reduceToNat, Int.reduceLT, Int.reduceLE, Int.reduceAdd, Int.reduceSub, Int.reduceMul, Int.reduceNeg, Int.reduceEq, Int.reduceNe, D_G, D_P, List.lookup, tys, intsV_len, d0, natsV_len, h2, natsV_get hx, w2, natsV_get hy]
      repeat (refine And.intro (by first | omega | rfl | trivial | (simp; done) | (simp; omega)) ?_)
      refine SpD.call rfl rfl (hc x y _ (h3 x (List.mem_of_getElem? hx)) (h3 y (List.mem_of_getElem? hy))) ?_
      simp -implicitDefEqProofs only [s_s, argEnv, PastOK, PendOK, sel, isE, isSp, baseOK, opR, opnd, opnds, opndL, ofConst, look, putE, dstOK, guardL, binR, intOp, loadR, bad, bound, lenV, srcV, Ob.read, V.plain, V.one, V.cells, fillV, setMany, zeros, TK.agg, Sub, cellRes, loadV, bindE, Nat.reduceAdd, Nat.reduceEqDiff, Nat.reduceLT, Nat.reduceLeDiff, Nat.reduceMul, Nat.reduceSub, Nat.reduceDiv, Nat.reduceMod, Nat.reduceBEq, Nat.reduceBNe, reduceIte, reduceCtorEq, Int.reduceToNat, Int.reduceLT, Int.reduceLE, Int.reduceAdd, Int.reduceSub, Int.reduceMul, Int.reduceNeg, Int.reduceEq, Int.reduceNe, D_G, D_P, List.lookup, tys, intsV_len, d0]
      refine Br.intro (fun h5 => ?_) (fun h5 => ?_)
      · have h5' : cmp x y < 0 := of_decide_eq_true h5
        rw [if_pos h5'] at h4
        have hsw : ((natsV L).set (j + 1) (.int .u64 y)).set j (.int .u64 x) = natsV (swapN L (j + 1) j) := by
          simp [swapN, hx, hy, natsV, List.map_set]
        simp -implicitDefEqProofs only [s_s, argEnv, PastOK, PendOK, sel, isE, isSp, baseOK, opR, opnd, opnds, opndL, ofConst, look, putE, dstOK, guardL, binR, intOp, loadR, bad, bound, lenV, srcV, Ob.read, V.plain, V.one, V.cells, fillV, setMany, zeros, TK.agg, Sub, cellRes, loadV, bindE, Nat.reduceAdd, Nat.reduceEqDiff, Nat.reduceLT, Nat.reduceLeDiff, Nat.reduceMul, Nat.reduceSub, Nat.reduceDiv, Nat.reduceMod, Nat.reduceBEq, Nat.reduceBNe, reduceIte, reduceCtorEq, Int.reduceToNat, Int.reduceLT, Int.reduceLE, Int.reduceAdd, Int.reduceSub, Int.reduceMul, Int.reduceNeg, Int.reduceEq, Int.reduceNe, D_G, D_P, List.lookup, tys, intsV_len]
        refine WP.drawF [(0, 0, 0, [0]), (0, 0, 0, [9]), (0, 0, 1, [0]), (0, 0, 1, [9]), (8, 0, 1, [40]), (0, 0, 0, [0]), (0, 0, 0, [9]), (64, 0, 0, [43]), (224, 0, 0, [42, 44]), (480, 0, 0, [45]), (0, 0, 0, [0]), (0, 0, 0, [9]), (3072, 0, 0, [47, 48]), (7168, 0, 0, [49]), (16355, 0, 0, [37, 38]), (32739, 0, 1, [51, 46]), (65535, 1, 1, [39, 41]), (131071, 1, 2, [52, 50])] D_mixed (by decide +kernel) ?_
        simp -implicitDefEqProofs only [s_s, argEnv, PastOK, PendOK, sel, isE, isSp, baseOK, opR, opnd, opnds, opndL, ofConst, look, putE, dstOK, guardL, binR, intOp, loadR, bad, bound, lenV, srcV, Ob.read, V.plain, V.one, V.cells, fillV, setMany, zeros, TK.agg, Sub, cellRes, loadV, bindE, Nat.reduceAdd, Nat.reduceEqDiff, Nat.reduceLT, Nat.reduceLeDiff, Nat.reduceMul, Nat.reduceSub, Nat.reduceDiv, Nat.reduceMod, Nat.reduceBEq, Nat.reduceBNe, reduceIte, reduceCtorEq, Int.reduceToNat, Int.reduceLT, Int.reduceLE, Int.reduceAdd, Int.reduceSub, Int.reduceMul, Int.reduceNeg, Int.reduceEq, Int.reduceNe, D_G, D_P, List.lookup, tys, intsV_len, natsV_len, h2, natsV_get hx, w2, natsV_get hy, hsw]
        refine And.intro (by omega) (And.intro (by omega) (And.intro (by omega) (And.intro (by omega) (And.intro (by omega) (And.intro (by omega) (And.intro (by omega) (And.intro (by simp [natsV_len, h2]; omega) ?_)))))))
        exact Kl.next (j, swapN L (j + 1) j) ⟨by simp only; omega, by rw [swapN_len]; exact h2, swapN_ok (by omega) (by omega) h3, h4⟩ (by simp only; omega) (by simp -implicitDefEqProofs only [s_s, argEnv, PastOK, PendOK, sel, isE, isSp, baseOK, opR, opnd, opnds, opndL, ofConst, look, putE, dstOK, guardL, binR, intOp, loadR, bad, bound, lenV, srcV, Ob.read, V.plain, V.one, V.cells, fillV, setMany, zeros, TK.agg, Sub, cellRes, loadV, bindE, Nat.reduceAdd, Nat.reduceEqDiff, Nat.reduceLT, Nat.reduceLeDiff, Nat.reduceMul, Nat.reduceSub, Nat.reduceDiv, Nat.reduceMod, Nat.reduceBEq, Nat.reduceBNe, reduceIte, reduceCtorEq, Int.reduceToNat, Int.reduceLT, Int.reduceLE, Int.reduceAdd, Int.reduceSub, Int.reduceMul, Int.reduceNeg, Int.reduceEq, Int.reduceNe, D_G, D_P, List.lookup, tys, intsV_len]; try simp) rfl
      · have h5' : ¬ cmp x y < 0 := of_decide_eq_false h5
        rw [if_neg h5'] at h4
        simp -implicitDefEqProofs only [s_s, argEnv, PastOK, PendOK, sel, isE, isSp, baseOK, opR, opnd, opnds, opndL, ofConst, look, putE, dstOK, guardL, binR, intOp, loadR, bad, bound, lenV, srcV, Ob.read, V.plain, V.one, V.cells, fillV, setMany, zeros, TK.agg, Sub, cellRes, loadV, bindE, Nat.reduceAdd, Nat.reduceEqDiff, Nat.reduceLT, Nat.reduceLeDiff, Nat.reduceMul, Nat.reduceSub, Nat.reduceDiv, Nat.reduceMod, Nat.reduceBEq, Nat.reduceBNe, reduceIte, reduceCtorEq, Int.reduceToNat, Int.reduceLT, Int.reduceLE, Int.reduceAdd, Int.reduceSub, Int.reduceMul, Int.reduceNeg, Int.reduceEq, Int.reduceNe, D_G, D_P, List.lookup, tys, intsV_len, w1]
        exact Kl.next (i + 1) (by omega) (by omega) (by simp -implicitDefEqProofs only [s_s, argEnv, PastOK, PendOK, sel, isE, isSp, baseOK, opR, opnd, opnds, opndL, ofConst, look, putE, dstOK, guardL, binR, intOp, loadR, bad, bound, lenV, srcV, Ob.read, V.plain, V.one, V.cells, fillV, setMany, zeros, TK.agg, Sub, cellRes, loadV, bindE, Nat.reduceAdd, Nat.reduceEqDiff, Nat.reduceLT, Nat.reduceLeDiff, Nat.reduceMul, Nat.reduceSub, Nat.reduceDiv, Nat.reduceMod, Nat.reduceBEq, Nat.reduceBNe, reduceIte, reduceCtorEq, Int.reduceToNat, Int.reduceLT, Int.reduceLE, Int.reduceAdd, Int.reduceSub, Int.reduceMul, Int.reduceNeg, Int.reduceEq, Int.reduceNe, D_G, D_P, List.lookup, tys, intsV_len]; try simp) (by simp only [h4])
  · have h' : l.length ≤ i + 1 := by have := of_decide_eq_false h; omega
    have hi' : i = l.length - 1 := by omega
    subst hi'
    simp -implicitDefEqProofs only [s_s, argEnv, PastOK, PendOK, sel, isE, isSp, baseOK, opR, opnd, opnds, opndL, ofConst, look, putE, dstOK, guardL, binR, intOp, loadR, bad, bound, lenV, srcV, Ob.read, V.plain, V.one, V.cells, fillV, setMany, zeros, TK.agg, Sub, cellRes, loadV, bindE, Nat.reduceAdd, Nat.reduceEqDiff, Nat.reduceLT, Nat.reduceLeDiff, Nat.reduceMul, Nat.reduceSub, Nat.reduceDiv, Nat.reduceMod, Nat.reduceBEq, Nat.reduceBNe, reduceIte, reduceCtorEq, Int.reduceToNat, Int.reduceLT, Int.reduceLE, Int.reduceAdd, Int.reduceSub, Int.reduceMul, Int.reduceNeg, Int.reduceEq, Int.reduceNe, D_G, D_P, List.lookup, tys, intsV_len]
    exact Post.n0 ⟨rfl, rfl⟩

theorem Len64_spec (n : Nat) (h : n < 256) (st : St) {K : V → St → Prop} (hK : ∀ m : Int, K (.int .i64 m) st) : VCall D 85 [.int .u64 n] st K := by
  refine VCall.of_WP (fn := Tryd.f85) (c := _) Tryd.func85 rfl (by decide +kernel) (Nat.le_of_ble_eq_true rfl) ?_
  refine wpF_sound ?_
  have d0 : decide ((4294967296 : Int) ≤ n) = false := by simp; omega
  have d1 : decide ((65536 : Int) ≤ n) = false := by simp; omega
  have d2 : decide ((256 : Int) ≤ n) = false := by simp; omega
  have w0 : IntKind.u8.wrap (n : Int) = n := by
    simp only [IntKind.wrap, IntKind.bits, IntKind.signed]
    simp
    omega
  simp -implicitDefEqProofs only [s_s, argEnv, PastOK, PendOK, sel, isE, isSp, baseOK, opR, opnd, opnds, opndL, ofConst, look, putE, dstOK, guardL, binR, intOp, loadR, bad, bound, lenV, srcV, Ob.read, V.plain, V.one, V.cells, fillV, setMany, zeros, TK.agg, Sub, cellRes, loadV, bindE, Nat.reduceAdd, Nat.reduceEqDiff, Nat.reduceLT, Nat.reduceLeDiff, Nat.reduceMul, Nat.reduceSub, Nat.reduceDiv, Nat.reduceMod, Nat.reduceBEq, Nat.reduceBNe, reduceIte, reduceCtorEq, Int.reduceToNat, Int.reduceLT, Int.reduceLE, Int.reduceAdd, Int.reduceSub, Int.reduceMul, Int.reduceNeg, Int.reduceEq, Int.reduceNe, D_G, D_P, List.lookup, tys, intsV_len, Tryd.ntmps85, Tryd.f85, d0, d1, d2, w0]
  refine And.intro ⟨by omega, ?_⟩ (Post.r1 rfl (hK _))
  show n < 256
  exact h

theorem Len_spec (n : Nat) (h : n < 256) (st : St) {K : V → St → Prop} (hK : ∀ m : Int, K (.int .i64 m) st) : VCall D 72 [.int .u64 n] st K := by
  refine VCall.of_WP (fn := Tryd.f72) (c := _) Tryd.func72 rfl (by decide +kernel) (Nat.le_of_ble_eq_true rfl) ?_
  refine wpF_sound ?_
  simp -implicitDefEqProofs only [s_s, argEnv, PastOK, PendOK, sel, isE, isSp, baseOK, opR, opnd, opnds, opndL, ofConst, look, putE, dstOK, guardL, binR, intOp, loadR, bad, bound, lenV, srcV, Ob.read, V.plain, V.one, V.cells, fillV, setMany, zeros, TK.agg, Sub, cellRes, loadV, bindE, Nat.reduceAdd, Nat.reduceEqDiff, Nat.reduceLT, Nat.reduceLeDiff, Nat.reduceMul, Nat.reduceSub, Nat.reduceDiv, Nat.reduceMod, Nat.reduceBEq, Nat.reduceBNe, reduceIte, reduceCtorEq, Int.reduceToNat, Int.reduceLT, Int.reduceLE, Int.reduceAdd, Int.reduceSub, Int.reduceMul, Int.reduceNeg, Int.reduceEq, Int.reduceNe, D_G, D_P, List.lookup, tys, intsV_len, Tryd.ntmps72, Tryd.f72]
  refine Sp.call rfl rfl (Len64_spec n h _ fun m => ?_)
  simp -implicitDefEqProofs only [s_s, argEnv, PastOK, PendOK, sel, isE, isSp, baseOK, opR, opnd, opnds, opndL, ofConst, look, putE, dstOK, guardL, binR, intOp, loadR, bad, bound, lenV, srcV, Ob.read, V.plain, V.one, V.cells, fillV, setMany, zeros, TK.agg, Sub, cellRes, loadV, bindE, Nat.reduceAdd, Nat.reduceEqDiff, Nat.reduceLT, Nat.reduceLeDiff, Nat.reduceMul, Nat.reduceSub, Nat.reduceDiv, Nat.reduceMod, Nat.reduceBEq, Nat.reduceBNe, reduceIte, reduceCtorEq, Int.reduceToNat, Int.reduceLT, Int.reduceLE, Int.reduceAdd, Int.reduceSub, Int.reduceMul, Int.reduceNeg, Int.reduceEq, Int.reduceNe, D_G, D_P, List.lookup, tys, intsV_len]
  exact Post.r1 rfl (hK _)

theorem pdq_spec (f : FuncId) (cmp : Nat → Nat → Int) (hc : Cmps f cmp) (l : List Nat) (hl : l.length ≤ 12) (hok : ∀ x ∈ l, x < 256) (m : Int) (st : St) :
    VCall D 71 [.slc st.length 0 0 l.length 1, .int .i64 0, .int .i64 l.length, .int .i64 m, .fn (.func f) []] (st ++ [.cells 0 (natsV l)]) (fun v st' => v = .tup [] ∧ st' = st ++ [.cells 0 (natsV (insS cmp l))]) := by
  refine VCall.of_WP (fn := Tryd.f71) (c := _) Tryd.func71 rfl (by decide +kernel) (Nat.le_of_ble_eq_true rfl) ?_
  refine wpF_sound ?_
  have w0 : IntKind.i64.wrap ((l.length : Int) - 0) = l.length := by rw [wrapI (by omega) (by omega)]; omega
  have d0 : decide ((l.length : Int) ≤ 12) = true := by simp; omega
  simp -implicitDefEqProofs only [s_s, argEnv, PastOK, PendOK, sel, isE, isSp, baseOK, opR, opnd, opnds, opndL, ofConst, look, putE, dstOK, guardL, binR, intOp, loadR, bad, bound, lenV, srcV, Ob.read, V.plain, V.one, V.cells, fillV, setMany, zeros, TK.agg, Sub, cellRes, loadV, bindE, Nat.reduceAdd, Nat.reduceEqDiff, Nat.reduceLT, Nat.reduceLeDiff, Nat.reduceMul, Nat.reduceSub, Nat.reduceDiv, Nat.reduceMod, Nat.reduceBEq, Nat.reduceBNe, reduceIte, reduceCtorEq, Int.reduceToNat, Int.reduceLT, Int.reduceLE, Int.reduceAdd, Int.reduceSub, Int.reduceMul, Int.reduceNeg, Int.reduceEq, Int.reduceNe, D_G, D_P, List.lookup, tys, intsV_len, Tryd.ntmps71, Tryd.f71]
  refine WP.loopF (ι := Unit) (fun _ => [(0, .slc st.length 0 0 l.length 1), (1, .int .i64 0), (2, .int .i64 l.length), (3, .int .i64 m), (4, .fn (.func f) [])]) (fun _ => st ++ [.cells 0 (natsV l)]) (fun _ => True) (fun _ => 0) () trivial (by simp -implicitDefEqProofs only [s_s, argEnv, PastOK, PendOK, sel, isE, isSp, baseOK, opR, opnd, opnds, opndL, ofConst, look, putE, dstOK, guardL, binR, intOp, loadR, bad, bound, lenV, srcV, Ob.read, V.plain, V.one, V.cells, fillV, setMany, zeros, TK.agg, Sub, cellRes, loadV, bindE, Nat.reduceAdd, Nat.reduceEqDiff, Nat.reduceLT, Nat.reduceLeDiff, Nat.reduceMul, Nat.reduceSub, Nat.reduceDiv, Nat.reduceMod, Nat.reduceBEq, Nat.reduceBNe, reduceIte, reduceCtorEq, Int.reduceToNat, Int.reduceLT, Int.reduceLE, Int.reduceAdd, Int.reduceSub, Int.reduceMul, Int.reduceNeg, Int.reduceEq, Int.reduceNe, D_G, D_P, List.lookup, tys, intsV_len]) rfl ?_
  intro _ _
  simp -implicitDefEqProofs only [s_s, argEnv, PastOK, PendOK, sel, isE, isSp, baseOK, opR, opnd, opnds, opndL, ofConst, look, putE, dstOK, guardL, binR, intOp, loadR, bad, bound, lenV, srcV, Ob.read, V.plain, V.one, V.cells, fillV, setMany, zeros, TK.agg, Sub, cellRes, loadV, bindE, Nat.reduceAdd, Nat.reduceEqDiff, Nat.reduceLT, Nat.reduceLeDiff, Nat.reduceMul, Nat.reduceSub, Nat.reduceDiv, Nat.reduceMod, Nat.reduceBEq, Nat.reduceBNe, reduceIte, reduceCtorEq, Int.reduceToNat, Int.reduceLT, Int.reduceLE, Int.reduceAdd, Int.reduceSub, Int.reduceMul, Int.reduceNeg, Int.reduceEq, Int.reduceNe, D_G, D_P, List.lookup, tys, intsV_len, w0, d0]
  refine Sp.call rfl rfl ((ins76_spec f cmp hc l (by omega) hok st).mono ?_)
  rintro v st' ⟨rfl, rfl⟩
  simp -implicitDefEqProofs only [s_s, argEnv, PastOK, PendOK, sel, isE, isSp, baseOK, opR, opnd, opnds, opndL, ofConst, look, putE, dstOK, guardL, binR, intOp, loadR, bad, bound, lenV, srcV, Ob.read, V.plain, V.one, V.cells, fillV, setMany, zeros, TK.agg, Sub, cellRes, loadV, bindE, Nat.reduceAdd, Nat.reduceEqDiff, Nat.reduceLT, Nat.reduceLeDiff, Nat.reduceMul, Nat.reduceSub, Nat.reduceDiv, Nat.reduceMod, Nat.reduceBEq, Nat.reduceBNe, reduceIte, reduceCtorEq, Int.reduceToNat, Int.reduceLT, Int.reduceLE, Int.reduceAdd, Int.reduceSub, Int.reduceMul, Int.reduceNeg, Int.reduceEq, Int.reduceNe, D_G, D_P, List.lookup, tys, intsV_len]
  exact Post.r0 ⟨rfl, rfl⟩

theorem SortFunc_spec (f : FuncId) (cmp : Nat → Nat → Int) (hc : Cmps f cmp) (l : List Nat) (hl : l.length ≤ 12) (hok : ∀ x ∈ l, x < 256) (st : St) :
    VCall D 67 [.slc st.length 0 0 l.length 1, .fn (.func f) []] (st ++ [.cells 0 (natsV l)]) (fun v st' => v = .tup [] ∧ st' = st ++ [.cells 0 (natsV (insS cmp l))]) := by
  refine VCall.of_WP (fn := Tryd.f67) (c := _) Tryd.func67 rfl (by decide +kernel) (Nat.le_of_ble_eq_true rfl) ?_
  refine wpF_sound ?_
  have w0 : IntKind.u64.wrap (l.length : Int) = l.length := wrapU (by omega) (by omega)
  simp -implicitDefEqProofs only [s_s, argEnv, PastOK, PendOK, sel, isE, isSp, baseOK, opR, opnd, opnds, opndL, ofConst, look, putE, dstOK, guardL, binR, intOp, loadR, bad, bound, lenV, srcV, Ob.read, V.plain, V.one, V.cells, fillV, setMany, zeros, TK.agg, Sub, cellRes, loadV, bindE, Nat.reduceAdd, Nat.reduceEqDiff, Nat.reduceLT, Nat.reduceLeDiff, Nat.reduceMul, Nat.reduceSub, Nat.reduceDiv, Nat.reduceMod, Nat.reduceBEq, Nat.reduceBNe, reduceIte, reduceCtorEq, Int.reduceToNat, Int.reduceLT, Int.reduceLE, Int.reduceAdd, Int.reduceSub, Int.reduceMul, Int.reduceNeg, Int.reduceEq, Int.reduceNe, D_G, D_P, List.lookup, tys, intsV_len, Tryd.ntmps67, Tryd.f67, w0]
  refine Sp.call rfl rfl (Len_spec l.length (by omega) _ fun m => ?_)
  simp -implicitDefEqProofs only [s_s, argEnv, PastOK, PendOK, sel, isE, isSp, baseOK, opR, opnd, opnds, opndL, ofConst, look, putE, dstOK, guardL, binR, intOp, loadR, bad, bound, lenV, srcV, Ob.read, V.plain, V.one, V.cells, fillV, setMany, zeros, TK.agg, Sub, cellRes, loadV, bindE, Nat.reduceAdd, Nat.reduceEqDiff, Nat.reduceLT, Nat.reduceLeDiff, Nat.reduceMul, Nat.reduceSub, Nat.reduceDiv, Nat.reduceMod, Nat.reduceBEq, Nat.reduceBNe, reduceIte, reduceCtorEq, Int.reduceToNat, Int.reduceLT, Int.reduceLE, Int.reduceAdd, Int.reduceSub, Int.reduceMul, Int.reduceNeg, Int.reduceEq, Int.reduceNe, D_G, D_P, List.lookup, tys, intsV_len]
  refine Sp.call rfl rfl ((pdq_spec f cmp hc l hl hok m st).mono ?_)
  rintro v st' ⟨rfl, rfl⟩
  simp -implicitDefEqProofs only [s_s, argEnv, PastOK, PendOK, sel, isE, isSp, baseOK, opR, opnd, opnds, opndL, ofConst, look, putE, dstOK, guardL, binR, intOp, loadR, bad, bound, lenV, srcV, Ob.read, V.plain, V.one, V.cells, fillV, setMany, zeros, TK.agg, Sub, cellRes, loadV, bindE, Nat.reduceAdd, Nat.reduceEqDiff, Nat.reduceLT, Nat.reduceLeDiff, Nat.reduceMul, Nat.reduceSub, Nat.reduceDiv, Nat.reduceMod, Nat.reduceBEq, Nat.reduceBNe, reduceIte, reduceCtorEq, Int.reduceToNat, Int.reduceLT, Int.reduceLE, Int.reduceAdd, Int.reduceSub, Int.reduceMul, Int.reduceNeg, Int.reduceEq, Int.reduceNe, D_G, D_P, List.lookup, tys, intsV_len]
  exact Post.n0 ⟨rfl, rfl⟩

theorem natsV_bdd (n : Nat) (l : List Nat) : bddL n (natsV l) = true := by
  rw [bddL_iff]; intro c hc; simp only [natsV, List.mem_map] at hc; obtain ⟨x, _, rfl⟩ := hc; rfl

theorem AppendSeq_spec (f : FuncId) (caps : List V) (l : List Nat) (hI : IterC D f caps (l.map fun s : Nat => V.int .u64 s)) (hne : l ≠ []) (hl : l.length ≤ 1000) (st : St) {K : V → St → Prop} (hK : K (.slc st.length 0 0 l.length 1) (st ++ [.cells 0 (natsV l)])) : VCall D 70 [.e0, .fn (.func f) caps] st K := by
  refine VCall.own ?_
  refine VCall.of_WP (fn := Tryd.f70) (c := _) Tryd.func70 rfl (by decide +kernel) (Nat.le_of_ble_eq_true rfl) ?_
  refine wpF_sound ?_
  simp -implicitDefEqProofs only [s_s, argEnv, PastOK, PendOK, sel, isE, isSp, baseOK, opR, opnd, opnds, opndL, ofConst, look, putE, dstOK, guardL, binR, intOp, loadR, bad, bound, lenV, srcV, Ob.read, V.plain, V.one, V.cells, fillV, setMany, zeros, TK.agg, Sub, cellRes, loadV, bindE, Nat.reduceAdd, Nat.reduceEqDiff, Nat.reduceLT, Nat.reduceLeDiff, Nat.reduceMul, Nat.reduceSub, Nat.reduceDiv, Nat.reduceMod, Nat.reduceBEq, Nat.reduceBNe, reduceIte, reduceCtorEq, Int.reduceToNat, Int.reduceLT, Int.reduceLE, Int.reduceAdd, Int.reduceSub, Int.reduceMul, Int.reduceNeg, Int.reduceEq, Int.reduceNe, D_G, D_P, List.lookup, tys, intsV_len, Tryd.ntmps70, Tryd.f70]
  refine WP.seed 1 (st.length + 1) [(2, .ptr st.length 0 0), (6, .fn (.func f) caps)] (st ++ [.cells 0 [.slc (st.length + 1) 0 0 0 1]]) (by simp) (by decide) (by simp [SeedE, SeedV, look]) (SeedS.app (.cells (.e0 .nil) .nil)) ?_
  simp -implicitDefEqProofs only [s_s, argEnv, PastOK, PendOK, sel, isE, isSp, baseOK, opR, opnd, opnds, opndL, ofConst, look, putE, dstOK, guardL, binR, intOp, loadR, bad, bound, lenV, srcV, Ob.read, V.plain, V.one, V.cells, fillV, setMany, zeros, TK.agg, Sub, cellRes, loadV, bindE, Nat.reduceAdd, Nat.reduceEqDiff, Nat.reduceLT, Nat.reduceLeDiff, Nat.reduceMul, Nat.reduceSub, Nat.reduceDiv, Nat.reduceMod, Nat.reduceBEq, Nat.reduceBNe, reduceIte, reduceCtorEq, Int.reduceToNat, Int.reduceLT, Int.reduceLE, Int.reduceAdd, Int.reduceSub, Int.reduceMul, Int.reduceNeg, Int.reduceEq, Int.reduceNe, D_G, D_P, List.lookup, tys, intsV_len]
  refine WP.rangeIter (l.map fun s : Nat => V.int .u64 s) (fun i lb => st ++ [.cells 0 [.slc (st.length + 1) i 0 i 1], .acc i (natsV (l.take i)), lb]) rfl hI (by decide) (fun ob => by simp [natsV]) (fun i ob => by simp) (fun i ob ob' => by simp) ?_ ?_
  · intro i x lr lb hx
    obtain ⟨s, hs, rfl⟩ : ∃ s, l[i]? = some s ∧ x = .int .u64 (s : Nat) := by
      simp only [List.getElem?_map, Option.map_eq_some_iff] at hx
      obtain ⟨s, h1, h2⟩ := hx
      exact ⟨s, h1, h2.symm⟩
    have hil := (List.getElem?_eq_some_iff.1 hs).1
    have hlen : (natsV (l.take i)).length = i := by simp [natsV]; omega
    have hst : natsV (l.take (i + 1)) = natsV (l.take i) ++ [.int .u64 s] := by rw [List.take_add_one, hs]; simp [natsV]
    refine wpF_sound ?_
    simp -implicitDefEqProofs only [s_s, argEnv, PastOK, PendOK, sel, isE, isSp, baseOK, opR, opnd, opnds, opndL, ofConst, look, putE, dstOK, guardL, binR, intOp, loadR, bad, bound, lenV, srcV, Ob.read, V.plain, V.one, V.cells, fillV, setMany, zeros, TK.agg, Sub, cellRes, loadV, bindE, Nat.reduceAdd, Nat.reduceEqDiff, Nat.reduceLT, Nat.reduceLeDiff, Nat.reduceMul, Nat.reduceSub, Nat.reduceDiv, Nat.reduceMod, Nat.reduceBEq, Nat.reduceBNe, reduceIte, reduceCtorEq, Int.reduceToNat, Int.reduceLT, Int.reduceLE, Int.reduceAdd, Int.reduceSub, Int.reduceMul, Int.reduceNeg, Int.reduceEq, Int.reduceNe, D_G, D_P, List.lookup, tys, intsV_len]
    refine ⟨rfl, rfl, WP.letgo (WP.withB fun hB2 => wpF_sound ?_)⟩
    simp -implicitDefEqProofs only [s_s, argEnv, PastOK, PendOK, sel, isE, isSp, baseOK, opR, opnd, opnds, opndL, ofConst, look, putE, dstOK, guardL, binR, intOp, loadR, bad, bound, lenV, srcV, Ob.read, V.plain, V.one, V.cells, fillV, setMany, zeros, TK.agg, Sub, cellRes, loadV, bindE, Nat.reduceAdd, Nat.reduceEqDiff, Nat.reduceLT, Nat.reduceLeDiff, Nat.reduceMul, Nat.reduceSub, Nat.reduceDiv, Nat.reduceMod, Nat.reduceBEq, Nat.reduceBNe, reduceIte, reduceCtorEq, Int.reduceToNat, Int.reduceLT, Int.reduceLE, Int.reduceAdd, Int.reduceSub, Int.reduceMul, Int.reduceNeg, Int.reduceEq, Int.reduceNe, D_G, D_P, List.lookup, tys, intsV_len, hlen]
    repeat (refine And.intro (by first | omega | rfl | trivial | (simp; done) | (simp; omega)) ?_)
    refine PostRC.done (st ++ [.cells 0 [.slc (st.length + 1) (i + 1) 0 (i + 1) 1], .acc (i + 1) (natsV (l.take (i + 1))), lb]) [.cells 0 [.int .u64 s]] (by simp [hst]) (by simp) ?_
    exact StConv.app (.cons (.keep (by simp [Ob.bdd, bddL, V.bdd])) (.cons (.keep (by simp only [Ob.bdd, natsV_bdd])) (.cons (.keep (hB2.at (k := 2) rfl (by simp))) .nil))) (hB2.pre (by simp))
  · simp -implicitDefEqProofs only [s_s, argEnv, PastOK, PendOK, sel, isE, isSp, baseOK, opR, opnd, opnds, opndL, ofConst, look, putE, dstOK, guardL, binR, intOp, loadR, bad, bound, lenV, srcV, Ob.read, V.plain, V.one, V.cells, fillV, setMany, zeros, TK.agg, Sub, cellRes, loadV, bindE, Nat.reduceAdd, Nat.reduceEqDiff, Nat.reduceLT, Nat.reduceLeDiff, Nat.reduceMul, Nat.reduceSub, Nat.reduceDiv, Nat.reduceMod, Nat.reduceBEq, Nat.reduceBNe, reduceIte, reduceCtorEq, Int.reduceToNat, Int.reduceLT, Int.reduceLE, Int.reduceAdd, Int.reduceSub, Int.reduceMul, Int.reduceNeg, Int.reduceEq, Int.reduceNe, D_G, D_P, List.lookup, tys, intsV_len, List.take_of_length_le]
    exact Post.r1 rfl (OwnK.solid _ 1 rfl (by simpa [natsV] using hne) (natsV_bdd _ _) hK)

theorem Collect_spec (f : FuncId) (caps : List V) (l : List Nat) (hI : IterC D f caps (l.map fun s : Nat => V.int .u64 s)) (hne : l ≠ []) (hl : l.length ≤ 1000) (st : St) {K : V → St → Prop} (hK : K (.slc st.length 0 0 l.length 1) (st ++ [.cells 0 (natsV l)])) : VCall D 66 [.fn (.func f) caps] st K := by
  refine VCall.of_WP (fn := Tryd.f66) (c := _) Tryd.func66 rfl (by decide +kernel) (Nat.le_of_ble_eq_true rfl) ?_
  refine wpF_sound ?_
  simp -implicitDefEqProofs only [s_s, argEnv, PastOK, PendOK, sel, isE, isSp, baseOK, opR, opnd, opnds, opndL, ofConst, look, putE, dstOK, guardL, binR, intOp, loadR, bad, bound, lenV, srcV, Ob.read, V.plain, V.one, V.cells, fillV, setMany, zeros, TK.agg, Sub, cellRes, loadV, bindE, Nat.reduceAdd, Nat.reduceEqDiff, Nat.reduceLT, Nat.reduceLeDiff, Nat.reduceMul, Nat.reduceSub, Nat.reduceDiv, Nat.reduceMod, Nat.reduceBEq, Nat.reduceBNe, reduceIte, reduceCtorEq, Int.reduceToNat, Int.reduceLT, Int.reduceLE, Int.reduceAdd, Int.reduceSub, Int.reduceMul, Int.reduceNeg, Int.reduceEq, Int.reduceNe, D_G, D_P, List.lookup, tys, intsV_len, Tryd.ntmps66, Tryd.f66]
  refine Sp.call rfl rfl (AppendSeq_spec f caps l hI hne hl _ ?_)
  simp -implicitDefEqProofs only [s_s, argEnv, PastOK, PendOK, sel, isE, isSp, baseOK, opR, opnd, opnds, opndL, ofConst, look, putE, dstOK, guardL, binR, intOp, loadR, bad, bound, lenV, srcV, Ob.read, V.plain, V.one, V.cells, fillV, setMany, zeros, TK.agg, Sub, cellRes, loadV, bindE, Nat.reduceAdd, Nat.reduceEqDiff, Nat.reduceLT, Nat.reduceLeDiff, Nat.reduceMul, Nat.reduceSub, Nat.reduceDiv, Nat.reduceMod, Nat.reduceBEq, Nat.reduceBNe, reduceIte, reduceCtorEq, Int.reduceToNat, Int.reduceLT, Int.reduceLE, Int.reduceAdd, Int.reduceSub, Int.reduceMul, Int.reduceNeg, Int.reduceEq, Int.reduceNe, D_G, D_P, List.lookup, tys, intsV_len]
  exact Post.r1 rfl hK

theorem SortedFunc_spec (f g : FuncId) (caps : List V) (cmp : Nat → Nat → Int) (hc : Cmps g cmp) (l : List Nat) (hI : IterC D f caps (l.map fun s : Nat => V.int .u64 s)) (hne : l ≠ []) (hl : l.length ≤ 12) (hok : ∀ x ∈ l, x < 256) (st : St) :
    VCall D 59 [.fn (.func f) caps, .fn (.func g) []] st (fun r st' => r = .lst 1 (natsV (insS cmp l)) ∧ st' = st) := by
  refine VCall.clean ?_
  refine VCall.of_WP (fn := Tryd.f59) (c := _) Tryd.func59 rfl (by decide +kernel) (Nat.le_of_ble_eq_true rfl) ?_
  refine wpF_sound ?_
  simp -implicitDefEqProofs only [s_s, argEnv, PastOK, PendOK, sel, isE, isSp, baseOK, opR, opnd, opnds, opndL, ofConst, look, putE, dstOK, guardL, binR, intOp, loadR, bad, bound, lenV, srcV, Ob.read, V.plain, V.one, V.cells, fillV, setMany, zeros, TK.agg, Sub, cellRes, loadV, bindE, Nat.reduceAdd, Nat.reduceEqDiff, Nat.reduceLT, Nat.reduceLeDiff, Nat.reduceMul, Nat.reduceSub, Nat.reduceDiv, Nat.reduceMod, Nat.reduceBEq, Nat.reduceBNe, reduceIte, reduceCtorEq, Int.reduceToNat, Int.reduceLT, Int.reduceLE, Int.reduceAdd, Int.reduceSub, Int.reduceMul, Int.reduceNeg, Int.reduceEq, Int.reduceNe, D_G, D_P, List.lookup, tys, intsV_len, Tryd.ntmps59, Tryd.f59]
  refine Sp.call rfl rfl (Collect_spec f caps l hI hne (by omega) _ ?_)
  simp -implicitDefEqProofs only [s_s, argEnv, PastOK, PendOK, sel, isE, isSp, baseOK, opR, opnd, opnds, opndL, ofConst, look, putE, dstOK, guardL, binR, intOp, loadR, bad, bound, lenV, srcV, Ob.read, V.plain, V.one, V.cells, fillV, setMany, zeros, TK.agg, Sub, cellRes, loadV, bindE, Nat.reduceAdd, Nat.reduceEqDiff, Nat.reduceLT, Nat.reduceLeDiff, Nat.reduceMul, Nat.reduceSub, Nat.reduceDiv, Nat.reduceMod, Nat.reduceBEq, Nat.reduceBNe, reduceIte, reduceCtorEq, Int.reduceToNat, Int.reduceLT, Int.reduceLE, Int.reduceAdd, Int.reduceSub, Int.reduceMul, Int.reduceNeg, Int.reduceEq, Int.reduceNe, D_G, D_P, List.lookup, tys, intsV_len]
  refine Sp.call rfl rfl ((SortFunc_spec g cmp hc l hl hok st).mono ?_)
  rintro v st' ⟨rfl, rfl⟩
  simp -implicitDefEqProofs only [s_s, argEnv, PastOK, PendOK, sel, isE, isSp, baseOK, opR, opnd, opnds, opndL, ofConst, look, putE, dstOK, guardL, binR, intOp, loadR, bad, bound, lenV, srcV, Ob.read, V.plain, V.one, V.cells, fillV, setMany, zeros, TK.agg, Sub, cellRes, loadV, bindE, Nat.reduceAdd, Nat.reduceEqDiff, Nat.reduceLT, Nat.reduceLeDiff, Nat.reduceMul, Nat.reduceSub, Nat.reduceDiv, Nat.reduceMod, Nat.reduceBEq, Nat.reduceBNe, reduceIte, reduceCtorEq, Int.reduceToNat, Int.reduceLT, Int.reduceLE, Int.reduceAdd, Int.reduceSub, Int.reduceMul, Int.reduceNeg, Int.reduceEq, Int.reduceNe, D_G, D_P, List.lookup, tys, intsV_len]
  have hlen : (insS cmp l).length = l.length := insO_len _ _ _
  exact Post.r1 rfl ⟨_, _, rfl, Conv.whole (by omega) (ob := .cells 0 (natsV (insS cmp l))) (by simp) (by simp [Ob.read]) (by simp [natsV, hlen]) (natsV_bdd _ _), rfl⟩
end Go.VL
end

/- The array seat: what a level gains. -/
section
set_option linter.unusedSimpArgs false
set_option linter.unusedVariables false
set_option maxRecDepth 4000
namespace Go.VL
open Go Go.Proofs

/-- A set counts for a column. -/
def gainP (r : List Int) (j set : Nat) (ks : List Key) (s : Nat) : Bool := s.testBit j && (decide (s &&& (set ||| 2 ^ j) = s) && !decide (comb r s ∈ ks))
def gainN (r : List Int) (t j set : Nat) (ks : List Key) : Nat := (setsL r.length t).countP (gainP r j set ks)

theorem scalar_cells (l : List (IntKind × Int)) : (V.agg (cellsI l)).scalar = true := by
  have : ∀ l : List (IntKind × Int), V.scalar.scalarAll (cellsI l) = true := by
    intro l
    induction l with
    | nil => rfl
    | cons p l ih => simp only [cellsI, List.map_cons, V.scalar.scalarAll, V.scalar, Bool.true_and]; exact ih
  exact this l

theorem of_slc (r : List Int) (s idr ver : Nat) (hl : r.length ≤ 8) (hr : ∀ x ∈ r, 0 ≤ x ∧ x < 8) (hs : s < 256) (st : St) (hrow : st[idr]? = some (.cells ver (intsV r))) :
    VCall D 45 [.slc idr ver 0 r.length 1, .int .u64 s] st (fun v st' => v = .agg (cellsI (combC r s 8)) ∧ st' = st) := by
  refine VCall.iso (args' := [rowV r, .int .u64 s]) (.cons (Conv.row (by omega) hrow (by simp [Ob.read]) rfl) (.cons (.keep rfl) .nil)) ?_
  refine (of_spec r s hl hr hs []).mono ?_
  rintro v st' ⟨rfl, rfl⟩
  exact ⟨rfl, scalar_cells _, rfl, rfl⟩

theorem gain_spec (r : List Int) (t j set : Nat) (ks : List Key) (m idr ver : Nat) (hl : r.length ≤ 8) (hr : ∀ x ∈ r, 0 ≤ x ∧ x < 8) (hj : j < r.length) (hset : set < 256) (st : St)
    (hm : st[m]? = some (.map (doneE ks))) (hrow : st[idr]? = some (.cells ver (intsV r))) (hks : ∀ q ∈ ks, okKey Tryd.prog 77 q) :
    VCall D 52 [.slc idr ver 0 r.length 1, .int .i64 t, .int .i64 j, .int .u64 set, .map m] st (fun v st' => v = .int .i64 (gainN r t j set ks) ∧ st' = st) := by
  have hp8 : 2 ^ j < 256 := by
    have : ∀ j, j < 8 → 2 ^ j < 256 := by decide
    exact this j (by omega)
  obtain ⟨o1, o2⟩ := or_at set (2 ^ j) hset hp8
  have s1 := shl_at j (by omega)
  refine VCall.clean ?_
  refine VCall.of_WP (fn := Tryd.f52) (c := _) Tryd.func52 rfl (by decide +kernel) (Nat.le_of_ble_eq_true rfl) ?_
  refine wpF_sound ?_
  simp -implicitDefEqProofs only [s_s, argEnv, PastOK, PendOK, sel, isE, isSp, baseOK, opR, opnd, opnds, opndL, ofConst, look, putE, dstOK, guardL, binR, intOp, loadR, bad, bound, lenV, srcV, Ob.read, V.plain, V.one, V.cells, fillV, setMany, zeros, TK.agg, Sub, cellRes, loadV, bindE, Nat.reduceAdd, Nat.reduceEqDiff, Nat.reduceLT, Nat.reduceLeDiff, Nat.reduceMul, Nat.reduceSub, Nat.reduceDiv, Nat.reduceMod, Nat.reduceBEq, Nat.reduceBNe, reduceIte, reduceCtorEq, Int.reduceToNat, Int.reduceLT, Int.reduceLE, Int.reduceAdd, Int.reduceSub, Int.reduceMul, Int.reduceNeg, Int.reduceEq, Int.reduceNe, D_G, D_P, List.lookup, tys, intsV_len, Tryd.ntmps52, Tryd.f52, st_old hrow]
  refine Sp.call rfl rfl ((sets_spec _ _ _).mono ?_)
  rintro v st' ⟨rfl, rfl⟩
  simp -implicitDefEqProofs only [s_s, argEnv, PastOK, PendOK, sel, isE, isSp, baseOK, opR, opnd, opnds, opndL, ofConst, look, putE, dstOK, guardL, binR, intOp, loadR, bad, bound, lenV, srcV, Ob.read, V.plain, V.one, V.cells, fillV, setMany, zeros, TK.agg, Sub, cellRes, loadV, bindE, Nat.reduceAdd, Nat.reduceEqDiff, Nat.reduceLT, Nat.reduceLeDiff, Nat.reduceMul, Nat.reduceSub, Nat.reduceDiv, Nat.reduceMod, Nat.reduceBEq, Nat.reduceBNe, reduceIte, reduceCtorEq, Int.reduceToNat, Int.reduceLT, Int.reduceLE, Int.reduceAdd, Int.reduceSub, Int.reduceMul, Int.reduceNeg, Int.reduceEq, Int.reduceNe, D_G, D_P, List.lookup, tys, intsV_len, setsV]
  refine WP.rangeIter ((setsL r.length t).map fun s : Nat => V.int .u64 s) (fun i lb => st ++ [.cells 0 [.slc idr ver 0 r.length 1], .cells 0 [.int .i64 j], .cells 0 [.int .u64 set], .cells 0 [.map m], .cells 0 [.int .i64 (((setsL r.length t).take i).countP (gainP r j set ks))], lb]) rfl (iter_sets r.length t hl) (by decide) (fun ob => by simp) (fun i ob => by simp) (fun i ob ob' => by simp) ?_ ?_
  · intro i x lr lb hx
    obtain ⟨s, hs, rfl⟩ : ∃ s, (setsL r.length t)[i]? = some s ∧ x = .int .u64 (s : Nat) := by
      simp only [List.getElem?_map, Option.map_eq_some_iff] at hx
      obtain ⟨s, h1, h2⟩ := hx
      exact ⟨s, h1, h2.symm⟩
    have hs256 : s < 256 := setsL_lt hl hs
    have hstep : ((setsL r.length t).take (i + 1)).countP (gainP r j set ks) = ((setsL r.length t).take i).countP (gainP r j set ks) + if gainP r j set ks s then 1 else 0 := by
      rw [List.take_add_one, hs, List.countP_append]; simp
    obtain ⟨c, hc⟩ : ∃ c, c = ((setsL r.length t).take i).countP (gainP r j set ks) := ⟨_, rfl⟩
    have hcn : c ≤ 256 := by
      have h1 := List.countP_le_length (p := gainP r j set ks) (l := (setsL r.length t).take i)
      have h2 := setsL_len (t := t) hl
      simp at h1; omega
    have wc := wrapI (n := (c : Int) + 1) (by omega) (by omega)
    have b1 := bit_at s j hs256 (by omega)
    have b2 := andNot_at s (set ||| 2 ^ j) hs256 o2
    have hck := comb_ok r s hr hs256
    have hkk := doneE_keys hks
    rw [hstep, ← hc]
    refine wpF_sound ?_
    simp -implicitDefEqProofs only [s_s, argEnv, PastOK, PendOK, sel, isE, isSp, baseOK, opR, opnd, opnds, opndL, ofConst, look, putE, dstOK, guardL, binR, intOp, loadR, bad, bound, lenV, srcV, Ob.read, V.plain, V.one, V.cells, fillV, setMany, zeros, TK.agg, Sub, cellRes, loadV, bindE, Nat.reduceAdd, Nat.reduceEqDiff, Nat.reduceLT, Nat.reduceLeDiff, Nat.reduceMul, Nat.reduceSub, Nat.reduceDiv, Nat.reduceMod, Nat.reduceBEq, Nat.reduceBNe, reduceIte, reduceCtorEq, Int.reduceToNat, Int.reduceLT, Int.reduceLE, Int.reduceAdd, Int.reduceSub, Int.reduceMul, Int.reduceNeg, Int.reduceEq, Int.reduceNe, D_G, D_P, List.lookup, tys, intsV_len]
    refine ⟨rfl, rfl, wpF_sound ?_⟩
    simp -implicitDefEqProofs only [s_s, argEnv, PastOK, PendOK, sel, isE, isSp, baseOK, opR, opnd, opnds, opndL, ofConst, look, putE, dstOK, guardL, binR, intOp, loadR, bad, bound, lenV, srcV, Ob.read, V.plain, V.one, V.cells, fillV, setMany, zeros, TK.agg, Sub, cellRes, loadV, bindE, Nat.reduceAdd, Nat.reduceEqDiff, Nat.reduceLT, Nat.reduceLeDiff, Nat.reduceMul, Nat.reduceSub, Nat.reduceDiv, Nat.reduceMod, Nat.reduceBEq, Nat.reduceBNe, reduceIte, reduceCtorEq, Int.reduceToNat, Int.reduceLT, Int.reduceLE, Int.reduceAdd, Int.reduceSub, Int.reduceMul, Int.reduceNeg, Int.reduceEq, Int.reduceNe, D_G, D_P, List.lookup, tys, intsV_len]
    refine WP.drawF [(0, 0, 0, [12]), (0, 0, 0, [7]), (3, 0, 0, [18, 19]), (7, 0, 0, [20]), (15, 0, 0, [21]), (31, 0, 0, [22]), (63, 0, 0, [12, 23]), (63, 0, 0, [8, 23]), (63, 0, 0, [7, 23]), (319, 0, 0, [26, 23]), (959, 0, 0, [25, 27, 23]), (2047, 0, 0, [24, 28, 23]), (4095, 0, 0, [29, 23]), (8191, 0, 0, [23, 30]), (16383, 0, 0, [31]), (32767, 0, 1, [9, 32]), (32767, 0, 0, [5, 32]), (32767, 0, 0, [12, 32]), (229375, 0, 1, [34, 35, 32]), (524287, 1, 1, [33, 36, 32]), (1048575, 1, 1, [37, 32]), (2097151, 1, 1, [32, 38])] D_mixed (by decide +kernel) ?_
    simp -implicitDefEqProofs only [s_s, argEnv, PastOK, PendOK, sel, isE, isSp, baseOK, opR, opnd, opnds, opndL, ofConst, look, putE, dstOK, guardL, binR, intOp, loadR, bad, bound, lenV, srcV, Ob.read, V.plain, V.one, V.cells, fillV, setMany, zeros, TK.agg, Sub, cellRes, loadV, bindE, Nat.reduceAdd, Nat.reduceEqDiff, Nat.reduceLT, Nat.reduceLeDiff, Nat.reduceMul, Nat.reduceSub, Nat.reduceDiv, Nat.reduceMod, Nat.reduceBEq, Nat.reduceBNe, reduceIte, reduceCtorEq, Int.reduceToNat, Int.reduceLT, Int.reduceLE, Int.reduceAdd, Int.reduceSub, Int.reduceMul, Int.reduceNeg, Int.reduceEq, Int.reduceNe, D_G, D_P, List.lookup, tys, intsV_len, b1, s1, o1, b2]
    refine And.intro (by omega) ?_
    refine DrawG.intro (fun c1 => ?_) (fun c1 => ?_)
    · simp -implicitDefEqProofs only [s_s, argEnv, PastOK, PendOK, sel, isE, isSp, baseOK, opR, opnd, opnds, opndL, ofConst, look, putE, dstOK, guardL, binR, intOp, loadR, bad, bound, lenV, srcV, Ob.read, V.plain, V.one, V.cells, fillV, setMany, zeros, TK.agg, Sub, cellRes, loadV, bindE, Nat.reduceAdd, Nat.reduceEqDiff, Nat.reduceLT, Nat.reduceLeDiff, Nat.reduceMul, Nat.reduceSub, Nat.reduceDiv, Nat.reduceMod, Nat.reduceBEq, Nat.reduceBNe, reduceIte, reduceCtorEq, Int.reduceToNat, Int.reduceLT, Int.reduceLE, Int.reduceAdd, Int.reduceSub, Int.reduceMul, Int.reduceNeg, Int.reduceEq, Int.reduceNe, D_G, D_P, List.lookup, tys, intsV_len, c1, s1, o1, b2]
      refine And.intro (by omega) ?_
      refine DrawG.intro (fun c2 => ?_) (fun c2 => ?_)
      · simp -implicitDefEqProofs only [s_s, argEnv, PastOK, PendOK, sel, isE, isSp, baseOK, opR, opnd, opnds, opndL, ofConst, look, putE, dstOK, guardL, binR, intOp, loadR, bad, bound, lenV, srcV, Ob.read, V.plain, V.one, V.cells, fillV, setMany, zeros, TK.agg, Sub, cellRes, loadV, bindE, Nat.reduceAdd, Nat.reduceEqDiff, Nat.reduceLT, Nat.reduceLeDiff, Nat.reduceMul, Nat.reduceSub, Nat.reduceDiv, Nat.reduceMod, Nat.reduceBEq, Nat.reduceBNe, reduceIte, reduceCtorEq, Int.reduceToNat, Int.reduceLT, Int.reduceLE, Int.reduceAdd, Int.reduceSub, Int.reduceMul, Int.reduceNeg, Int.reduceEq, Int.reduceNe, D_G, D_P, List.lookup, tys, intsV_len, c2, st_old hrow]
        refine SpD.call rfl rfl (of_slc r s idr ver hl hr hs256 _ (st_old hrow)) ?_
        simp -implicitDefEqProofs only [s_s, argEnv, PastOK, PendOK, sel, isE, isSp, baseOK, opR, opnd, opnds, opndL, ofConst, look, putE, dstOK, guardL, binR, intOp, loadR, bad, bound, lenV, srcV, Ob.read, V.plain, V.one, V.cells, fillV, setMany, zeros, TK.agg, Sub, cellRes, loadV, bindE, Nat.reduceAdd, Nat.reduceEqDiff, Nat.reduceLT, Nat.reduceLeDiff, Nat.reduceMul, Nat.reduceSub, Nat.reduceDiv, Nat.reduceMod, Nat.reduceBEq, Nat.reduceBNe, reduceIte, reduceCtorEq, Int.reduceToNat, Int.reduceLT, Int.reduceLE, Int.reduceAdd, Int.reduceSub, Int.reduceMul, Int.reduceNeg, Int.reduceEq, Int.reduceNe, D_G, D_P, List.lookup, tys, intsV_len, c2, st_old hm, keyV_comb, kg77, zv4, doneE_get]
        refine And.intro ⟨hkk, hck⟩ ?_
        refine Br.intro (fun c3 => ?_) (fun c3 => ?_)
        · have hg : gainP r j set ks s = true := by simp only [gainP, c1, c2, Bool.true_and]; exact c3
          simp -implicitDefEqProofs only [s_s, argEnv, PastOK, PendOK, sel, isE, isSp, baseOK, opR, opnd, opnds, opndL, ofConst, look, putE, dstOK, guardL, binR, intOp, loadR, bad, bound, lenV, srcV, Ob.read, V.plain, V.one, V.cells, fillV, setMany, zeros, TK.agg, Sub, cellRes, loadV, bindE, Nat.reduceAdd, Nat.reduceEqDiff, Nat.reduceLT, Nat.reduceLeDiff, Nat.reduceMul, Nat.reduceSub, Nat.reduceDiv, Nat.reduceMod, Nat.reduceBEq, Nat.reduceBNe, reduceIte, reduceCtorEq, Int.reduceToNat, Int.reduceLT, Int.reduceLE, Int.reduceAdd, Int.reduceSub, Int.reduceMul, Int.reduceNeg, Int.reduceEq, Int.reduceNe, D_G, D_P, List.lookup, tys, intsV_len, hg, wc]
          exact ⟨rfl, by simp⟩
        · have hg : gainP r j set ks s = false := by simp only [gainP, c1, c2, Bool.true_and]; exact c3
          simp -implicitDefEqProofs only [s_s, argEnv, PastOK, PendOK, sel, isE, isSp, baseOK, opR, opnd, opnds, opndL, ofConst, look, putE, dstOK, guardL, binR, intOp, loadR, bad, bound, lenV, srcV, Ob.read, V.plain, V.one, V.cells, fillV, setMany, zeros, TK.agg, Sub, cellRes, loadV, bindE, Nat.reduceAdd, Nat.reduceEqDiff, Nat.reduceLT, Nat.reduceLeDiff, Nat.reduceMul, Nat.reduceSub, Nat.reduceDiv, Nat.reduceMod, Nat.reduceBEq, Nat.reduceBNe, reduceIte, reduceCtorEq, Int.reduceToNat, Int.reduceLT, Int.reduceLE, Int.reduceAdd, Int.reduceSub, Int.reduceMul, Int.reduceNeg, Int.reduceEq, Int.reduceNe, D_G, D_P, List.lookup, tys, intsV_len, hg]
          exact ⟨rfl, by simp⟩
      · have hg : gainP r j set ks s = false := by simp only [gainP, c1, c2, Bool.true_and, Bool.false_and]
        simp -implicitDefEqProofs only [s_s, argEnv, PastOK, PendOK, sel, isE, isSp, baseOK, opR, opnd, opnds, opndL, ofConst, look, putE, dstOK, guardL, binR, intOp, loadR, bad, bound, lenV, srcV, Ob.read, V.plain, V.one, V.cells, fillV, setMany, zeros, TK.agg, Sub, cellRes, loadV, bindE, Nat.reduceAdd, Nat.reduceEqDiff, Nat.reduceLT, Nat.reduceLeDiff, Nat.reduceMul, Nat.reduceSub, Nat.reduceDiv, Nat.reduceMod, Nat.reduceBEq, Nat.reduceBNe, reduceIte, reduceCtorEq, Int.reduceToNat, Int.reduceLT, Int.reduceLE, Int.reduceAdd, Int.reduceSub, Int.reduceMul, Int.reduceNeg, Int.reduceEq, Int.reduceNe, D_G, D_P, List.lookup, tys, intsV_len, c2, hg]
        exact ⟨rfl, by simp⟩
    · have hg : gainP r j set ks s = false := by simp only [gainP, c1, Bool.false_and]
      simp -implicitDefEqProofs only [s_s, argEnv, PastOK, PendOK, sel, isE, isSp, baseOK, opR, opnd, opnds, opndL, ofConst, look, putE, dstOK, guardL, binR, intOp, loadR, bad, bound, lenV, srcV, Ob.read, V.plain, V.one, V.cells, fillV, setMany, zeros, TK.agg, Sub, cellRes, loadV, bindE, Nat.reduceAdd, Nat.reduceEqDiff, Nat.reduceLT, Nat.reduceLeDiff, Nat.reduceMul, Nat.reduceSub, Nat.reduceDiv, Nat.reduceMod, Nat.reduceBEq, Nat.reduceBNe, reduceIte, reduceCtorEq, Int.reduceToNat, Int.reduceLT, Int.reduceLE, Int.reduceAdd, Int.reduceSub, Int.reduceMul, Int.reduceNeg, Int.reduceEq, Int.reduceNe, D_G, D_P, List.lookup, tys, intsV_len, c1, hg]
      exact ⟨rfl, by simp⟩
  · simp -implicitDefEqProofs only [s_s, argEnv, PastOK, PendOK, sel, isE, isSp, baseOK, opR, opnd, opnds, opndL, ofConst, look, putE, dstOK, guardL, binR, intOp, loadR, bad, bound, lenV, srcV, Ob.read, V.plain, V.one, V.cells, fillV, setMany, zeros, TK.agg, Sub, cellRes, loadV, bindE, Nat.reduceAdd, Nat.reduceEqDiff, Nat.reduceLT, Nat.reduceLeDiff, Nat.reduceMul, Nat.reduceSub, Nat.reduceDiv, Nat.reduceMod, Nat.reduceBEq, Nat.reduceBNe, reduceIte, reduceCtorEq, Int.reduceToNat, Int.reduceLT, Int.reduceLE, Int.reduceAdd, Int.reduceSub, Int.reduceMul, Int.reduceNeg, Int.reduceEq, Int.reduceNe, D_G, D_P, List.lookup, tys, intsV_len, List.take_of_length_le]
    exact Post.r1 rfl ⟨_, _, rfl, .keep rfl, rfl⟩
end Go.VL
end

/- The array seat: the first combination that is missing. -/
section
set_option linter.unusedSimpArgs false
set_option linter.unusedVariables false
set_option maxRecDepth 4000
namespace Go.VL
open Go Go.Proofs

/-- The levels of a number in some columns, from the last column on. -/
def digL (l : List Int) (s t n : Nat) : Nat → List Int × Nat
  | 0 => (List.replicate 8 0, n)
  | m + 1 => ((digL l s t n m).1.set ((l[t - 1 - m]?).getD 0).toNat (((digL l s t n m).2 % s : Nat) : Int), (digL l s t n m).2 / s)
def cellK (set : Nat) (lv : List Int) : List (IntKind × Int) := (.u64, (set : Int)) :: lv.map fun x => (.i8, x)
def combN (set s t n : Nat) : List (IntKind × Int) := cellK set (digL (colsOf set) s t n t).1

def foundF (s t : Nat) (ks : List Key) (set : Nat) : Option (Nat × Nat) := ((List.range (s ^ t)).find? fun n => !decide (Key.cells (combN set s t n) ∈ ks)).map fun n => (set, n)
def firstF (k s t : Nat) (srt : List Nat) (ks : List Key) : Option (Nat × Nat) :=
  if (doneE ks).length = binom k t * s ^ t then none else srt.findSome? (foundF s t ks)
def firstV (s t : Nat) : Option (Nat × Nat) → V
  | none => .tup [.agg [.int .u64 0, .int .i8 0, .int .i8 0, .int .i8 0, .int .i8 0, .int .i8 0, .int .i8 0, .int .i8 0, .int .i8 0], .bool false]
  | some (set, n) => .tup [.agg (cellsI (combN set s t n)), .bool true]

theorem digL_ok (l : List Int) (s t n : Nat) (hs : 0 < s) (h8 : s ≤ 8) : ∀ m, (digL l s t n m).1.length = 8 ∧ (∀ x ∈ (digL l s t n m).1, 0 ≤ x ∧ x < 8) ∧ (digL l s t n m).2 ≤ n
  | 0 => by simp [digL]
  | m + 1 => by
    obtain ⟨h1, h2, h3⟩ := digL_ok l s t n hs h8 m
    refine ⟨by simp [digL, h1], fun x hx => ?_, Nat.le_trans (Nat.div_le_self _ _) h3⟩
    simp only [digL] at hx
    rcases List.mem_or_eq_of_mem_set hx with hx | rfl
    · exact h2 x hx
    · have := Nat.mod_lt (digL l s t n m).2 hs
      omega

theorem okK (set : Nat) (lv : List Int) (hs : set < 256) (hl : lv.length = 8) (h : ∀ x ∈ lv, 0 ≤ x ∧ x < 8) : okKey Tryd.prog 77 (.cells (cellK set lv)) := by
  match lv, hl with
  | [a0, a1, a2, a3, a4, a5, a6, a7], _ =>
    exact key_ok set hs a0 a1 a2 a3 a4 a5 a6 a7 (h _ (by simp)) (h _ (by simp)) (h _ (by simp)) (h _ (by simp)) (h _ (by simp)) (h _ (by simp)) (h _ (by simp)) (h _ (by simp))

theorem keyV_cells (set : Nat) (lv : List Int) : keyV (.agg (.int .u64 set :: lv.map (V.int .i8))) = some (.cells (cellK set lv)) := by
  have : (V.int .u64 (set : Int) :: lv.map (V.int .i8)) = cellsI (cellK set lv) := by simp [cellsI, cellK]
  rw [this]
  simp only [keyV, cellsI, intsOf_map]; rfl

theorem cols_at (s : Nat) (hs : s < 256) : (colsOf s).length = pop s ∧ ∀ x ∈ colsOf s, 0 ≤ x ∧ x < 8 := by
  have : ∀ s : Fin 256, (colsOf (s : Nat)).length = pop (s : Nat) ∧ ∀ x ∈ colsOf (s : Nat), 0 ≤ x ∧ x < 8 := by decide +kernel
  exact this ⟨s, hs⟩

theorem find_range {p : Nat → Bool} {n : Nat} (h : (List.range n).find? p = none) : (List.range (n + 1)).find? p = if p n then some n else none := by
  rw [List.range_succ, List.find?_append, h]
  cases hp : p n <;> simp [hp]

theorem find_more {p : Nat → Bool} {n N : Nat} (hn : n < N) (h : (List.range n).find? p = none) (hp : p n = true) : (List.range N).find? p = some n := by
  obtain ⟨d, rfl⟩ : ∃ d, N = n + 1 + d := ⟨N - n - 1, by omega⟩
  have := find_range h
  rw [if_pos hp] at this
  rw [List.range_add, List.find?_append, this]; rfl

theorem findSome_at {α β : Type} {F : α → Option β} {l : List α} {i : Nat} {x : α} {y : β} (h : (l.take i).findSome? F = none) (hx : l[i]? = some x) (hy : F x = some y) : l.findSome? F = some y := by
  have hlt := (List.getElem?_eq_some_iff.1 hx).1
  have e : l = l.take i ++ (x :: l.drop (i + 1)) := by
    rw [List.getElem?_eq_getElem hlt] at hx; cases hx
    rw [← List.drop_eq_getElem_cons hlt, List.take_append_drop]
  rw [e, List.findSome?_append, h]
  simp [hy]

theorem findSome_step {α β : Type} {F : α → Option β} {l : List α} {i : Nat} {x : α} (h : (l.take i).findSome? F = none) (hx : l[i]? = some x) (hy : F x = none) : (l.take (i + 1)).findSome? F = none := by
  rw [List.take_add_one, hx, List.findSome?_append, h]
  simp [hy]

theorem first_spec (k s t : Nat) (srt : List Nat) (ks : List Key) (m : Nat) (hk : k ≤ 8) (ht1 : 1 ≤ t) (htk : t ≤ k) (hs2 : 2 ≤ s) (hs8 : s ≤ 8) (hks : ∀ q ∈ ks, okKey Tryd.prog 77 q)
    (hsrt : ∀ st, VCall D 59 [setsV k t, .fn (.func 60) []] st (fun r st' => r = .lst 1 (natsV srt) ∧ st' = st)) (hsl : srt.length < 1000) (hse : ∀ x ∈ srt, x < 256 ∧ pop x = t)
    (st : St) (hm : st[m]? = some (.map (doneE ks))) :
    VCall D 51 [.int .i64 k, .int .i64 s, .int .i64 t, .map m] st (fun r st' => r = firstV s t (firstF k s t srt ks) ∧ st' = st) := by
  obtain ⟨p1, p2⟩ := pow_bound hs2 hs8 (show t ≤ 8 by omega)
  have bb := binom_lt k t (by omega) htk
  have bm : binom k t * s ^ t ≤ 1000 * 16777216 := Nat.mul_le_mul (by omega) p2
  have w1 : IntKind.i64.wrap ((binom k t : Int) * ((s ^ t : Nat) : Int)) = ((binom k t * s ^ t : Nat) : Int) := by rw [← Int.natCast_mul]; exact wrapI (by omega) (by omega)
  have hkk := doneE_keys hks
  have hmb : m < st.length + 1 := by have := (List.getElem?_eq_some_iff.1 hm).1; omega
  refine VCall.clean ?_
  refine VCall.of_WPB (fn := Tryd.f51) (c := _) Tryd.func51 rfl (by decide +kernel) (Nat.le_of_ble_eq_true rfl) fun hB => ?_
  refine wpF_sound ?_
  simp -implicitDefEqProofs only [s_s, argEnv, PastOK, PendOK, sel, isE, isSp, baseOK, opR, opnd, opnds, opndL, ofConst, look, putE, dstOK, guardL, binR, intOp, loadR, bad, bound, lenV, srcV, Ob.read, V.plain, V.one, V.cells, fillV, setMany, zeros, TK.agg, Sub, cellRes, loadV, bindE, Nat.reduceAdd, Nat.reduceEqDiff, Nat.reduceLT, Nat.reduceLeDiff, Nat.reduceMul, Nat.reduceSub, Nat.reduceDiv, Nat.reduceMod, Nat.reduceBEq, Nat.reduceBNe, reduceIte, reduceCtorEq, Int.reduceToNat, Int.reduceLT, Int.reduceLE, Int.reduceAdd, Int.reduceSub, Int.reduceMul, Int.reduceNeg, Int.reduceEq, Int.reduceNe, D_G, D_P, List.lookup, tys, intsV_len, Tryd.ntmps51, Tryd.f51, st_old hm]
  refine Sp.call rfl rfl ((choose_spec k t (by omega) htk _).mono ?_)
  rintro v st' ⟨rfl, rfl⟩
  simp -implicitDefEqProofs only [s_s, argEnv, PastOK, PendOK, sel, isE, isSp, baseOK, opR, opnd, opnds, opndL, ofConst, look, putE, dstOK, guardL, binR, intOp, loadR, bad, bound, lenV, srcV, Ob.read, V.plain, V.one, V.cells, fillV, setMany, zeros, TK.agg, Sub, cellRes, loadV, bindE, Nat.reduceAdd, Nat.reduceEqDiff, Nat.reduceLT, Nat.reduceLeDiff, Nat.reduceMul, Nat.reduceSub, Nat.reduceDiv, Nat.reduceMod, Nat.reduceBEq, Nat.reduceBNe, reduceIte, reduceCtorEq, Int.reduceToNat, Int.reduceLT, Int.reduceLE, Int.reduceAdd, Int.reduceSub, Int.reduceMul, Int.reduceNeg, Int.reduceEq, Int.reduceNe, D_G, D_P, List.lookup, tys, intsV_len]
  refine Sp.call rfl rfl ((power_spec s t (by omega) (by omega) (by omega) _).mono ?_)
  rintro v st' ⟨rfl, rfl⟩
  simp -implicitDefEqProofs only [s_s, argEnv, PastOK, PendOK, sel, isE, isSp, baseOK, opR, opnd, opnds, opndL, ofConst, look, putE, dstOK, guardL, binR, intOp, loadR, bad, bound, lenV, srcV, Ob.read, V.plain, V.one, V.cells, fillV, setMany, zeros, TK.agg, Sub, cellRes, loadV, bindE, Nat.reduceAdd, Nat.reduceEqDiff, Nat.reduceLT, Nat.reduceLeDiff, Nat.reduceMul, Nat.reduceSub, Nat.reduceDiv, Nat.reduceMod, Nat.reduceBEq, Nat.reduceBNe, reduceIte, reduceCtorEq, Int.reduceToNat, Int.reduceLT, Int.reduceLE, Int.reduceAdd, Int.reduceSub, Int.reduceMul, Int.reduceNeg, Int.reduceEq, Int.reduceNe, D_G, D_P, List.lookup, tys, intsV_len, w1]
  refine Br.intro (fun h => ?_) (fun h => ?_)
  · have h' : (doneE ks).length = binom k t * s ^ t := by have := of_decide_eq_true h; omega
    simp -implicitDefEqProofs only [s_s, argEnv, PastOK, PendOK, sel, isE, isSp, baseOK, opR, opnd, opnds, opndL, ofConst, look, putE, dstOK, guardL, binR, intOp, loadR, bad, bound, lenV, srcV, Ob.read, V.plain, V.one, V.cells, fillV, setMany, zeros, TK.agg, Sub, cellRes, loadV, bindE, Nat.reduceAdd, Nat.reduceEqDiff, Nat.reduceLT, Nat.reduceLeDiff, Nat.reduceMul, Nat.reduceSub, Nat.reduceDiv, Nat.reduceMod, Nat.reduceBEq, Nat.reduceBNe, reduceIte, reduceCtorEq, Int.reduceToNat, Int.reduceLT, Int.reduceLE, Int.reduceAdd, Int.reduceSub, Int.reduceMul, Int.reduceNeg, Int.reduceEq, Int.reduceNe, D_G, D_P, List.lookup, tys, intsV_len]
    exact Post.rct (v := .agg [.int .u64 0, .int .i8 0, .int .i8 0, .int .i8 0, .int .i8 0, .int .i8 0, .int .i8 0, .int .i8 0, .int .i8 0]) (x := .bool false) (by simp -implicitDefEqProofs only [s_s, argEnv, PastOK, PendOK, sel, isE, isSp, baseOK, opR, opnd, opnds, opndL, ofConst, look, putE, dstOK, guardL, binR, intOp, loadR, bad, bound, lenV, srcV, Ob.read, V.plain, V.one, V.cells, fillV, setMany, zeros, TK.agg, Sub, cellRes, loadV, bindE, Nat.reduceAdd, Nat.reduceEqDiff, Nat.reduceLT, Nat.reduceLeDiff, Nat.reduceMul, Nat.reduceSub, Nat.reduceDiv, Nat.reduceMod, Nat.reduceBEq, Nat.reduceBNe, reduceIte, reduceCtorEq, Int.reduceToNat, Int.reduceLT, Int.reduceLE, Int.reduceAdd, Int.reduceSub, Int.reduceMul, Int.reduceNeg, Int.reduceEq, Int.reduceNe, D_G, D_P, List.lookup, tys, intsV_len]) (by simp -implicitDefEqProofs only [s_s, argEnv, PastOK, PendOK, sel, isE, isSp, baseOK, opR, opnd, opnds, opndL, ofConst, look, putE, dstOK, guardL, binR, intOp, loadR, bad, bound, lenV, srcV, Ob.read, V.plain, V.one, V.cells, fillV, setMany, zeros, TK.agg, Sub, cellRes, loadV, bindE, Nat.reduceAdd, Nat.reduceEqDiff, Nat.reduceLT, Nat.reduceLeDiff, Nat.reduceMul, Nat.reduceSub, Nat.reduceDiv, Nat.reduceMod, Nat.reduceBEq, Nat.reduceBNe, reduceIte, reduceCtorEq, Int.reduceToNat, Int.reduceLT, Int.reduceLE, Int.reduceAdd, Int.reduceSub, Int.reduceMul, Int.reduceNeg, Int.reduceEq, Int.reduceNe, D_G, D_P, List.lookup, tys, intsV_len]) ⟨_, _, rfl, .keep (by simp [V.bdd, bddL]), by simp [firstF, h', firstV]⟩
  · have h' : ¬ (doneE ks).length = binom k t * s ^ t := by have := of_decide_eq_false h; omega
    have hF : firstF k s t srt ks = srt.findSome? (foundF s t ks) := by rw [firstF, if_neg h']
    rw [hF]
    simp -implicitDefEqProofs only [s_s, argEnv, PastOK, PendOK, sel, isE, isSp, baseOK, opR, opnd, opnds, opndL, ofConst, look, putE, dstOK, guardL, binR, intOp, loadR, bad, bound, lenV, srcV, Ob.read, V.plain, V.one, V.cells, fillV, setMany, zeros, TK.agg, Sub, cellRes, loadV, bindE, Nat.reduceAdd, Nat.reduceEqDiff, Nat.reduceLT, Nat.reduceLeDiff, Nat.reduceMul, Nat.reduceSub, Nat.reduceDiv, Nat.reduceMod, Nat.reduceBEq, Nat.reduceBNe, reduceIte, reduceCtorEq, Int.reduceToNat, Int.reduceLT, Int.reduceLE, Int.reduceAdd, Int.reduceSub, Int.reduceMul, Int.reduceNeg, Int.reduceEq, Int.reduceNe, D_G, D_P, List.lookup, tys, intsV_len]
    refine Sp.call rfl rfl ((sets_spec _ _ _).mono ?_)
    rintro v st' ⟨rfl, rfl⟩
    simp -implicitDefEqProofs only [s_s, argEnv, PastOK, PendOK, sel, isE, isSp, baseOK, opR, opnd, opnds, opndL, ofConst, look, putE, dstOK, guardL, binR, intOp, loadR, bad, bound, lenV, srcV, Ob.read, V.plain, V.one, V.cells, fillV, setMany, zeros, TK.agg, Sub, cellRes, loadV, bindE, Nat.reduceAdd, Nat.reduceEqDiff, Nat.reduceLT, Nat.reduceLeDiff, Nat.reduceMul, Nat.reduceSub, Nat.reduceDiv, Nat.reduceMod, Nat.reduceBEq, Nat.reduceBNe, reduceIte, reduceCtorEq, Int.reduceToNat, Int.reduceLT, Int.reduceLE, Int.reduceAdd, Int.reduceSub, Int.reduceMul, Int.reduceNeg, Int.reduceEq, Int.reduceNe, D_G, D_P, List.lookup, tys, intsV_len]
    refine Sp.call rfl rfl ((hsrt _).mono ?_)
    rintro v st' ⟨rfl, rfl⟩
    simp -implicitDefEqProofs only [s_s, argEnv, PastOK, PendOK, sel, isE, isSp, baseOK, opR, opnd, opnds, opndL, ofConst, look, putE, dstOK, guardL, binR, intOp, loadR, bad, bound, lenV, srcV, Ob.read, V.plain, V.one, V.cells, fillV, setMany, zeros, TK.agg, Sub, cellRes, loadV, bindE, Nat.reduceAdd, Nat.reduceEqDiff, Nat.reduceLT, Nat.reduceLeDiff, Nat.reduceMul, Nat.reduceSub, Nat.reduceDiv, Nat.reduceMod, Nat.reduceBEq, Nat.reduceBNe, reduceIte, reduceCtorEq, Int.reduceToNat, Int.reduceLT, Int.reduceLE, Int.reduceAdd, Int.reduceSub, Int.reduceMul, Int.reduceNeg, Int.reduceEq, Int.reduceNe, D_G, D_P, List.lookup, tys, intsV_len, natsV_len]
    refine WP.loopC (ι := Nat) (fun i => [(1, .int .i64 s), (2, .int .i64 t), (3, .map m), (8, .ptr st.length 0 0), (32, .lst 1 (natsV srt)), (33, .int .i64 srt.length), (34, .int .i64 i)])
      (fun i => st ++ [.cells 0 [.int .u64 0, .int .i8 0, .int .i8 0, .int .i8 0, .int .i8 0, .int .i8 0, .int .i8 0, .int .i8 0, .int .i8 0]]) (fun i => i ≤ srt.length ∧ (srt.take i).findSome? (foundF s t ks) = none) (fun i => srt.length - i) 0 ⟨by omega, rfl⟩ (by simp -implicitDefEqProofs only [s_s, argEnv, PastOK, PendOK, sel, isE, isSp, baseOK, opR, opnd, opnds, opndL, ofConst, look, putE, dstOK, guardL, binR, intOp, loadR, bad, bound, lenV, srcV, Ob.read, V.plain, V.one, V.cells, fillV, setMany, zeros, TK.agg, Sub, cellRes, loadV, bindE, Nat.reduceAdd, Nat.reduceEqDiff, Nat.reduceLT, Nat.reduceLeDiff, Nat.reduceMul, Nat.reduceSub, Nat.reduceDiv, Nat.reduceMod, Nat.reduceBEq, Nat.reduceBNe, reduceIte, reduceCtorEq, Int.reduceToNat, Int.reduceLT, Int.reduceLE, Int.reduceAdd, Int.reduceSub, Int.reduceMul, Int.reduceNeg, Int.reduceEq, Int.reduceNe, D_G, D_P, List.lookup, tys, intsV_len]; try simp) rfl (fun p => by simp -implicitDefEqProofs only [s_s, argEnv, PastOK, PendOK, sel, isE, isSp, baseOK, opR, opnd, opnds, opndL, ofConst, look, putE, dstOK, guardL, binR, intOp, loadR, bad, bound, lenV, srcV, Ob.read, V.plain, V.one, V.cells, fillV, setMany, zeros, TK.agg, Sub, cellRes, loadV, bindE, Nat.reduceAdd, Nat.reduceEqDiff, Nat.reduceLT, Nat.reduceLeDiff, Nat.reduceMul, Nat.reduceSub, Nat.reduceDiv, Nat.reduceMod, Nat.reduceBEq, Nat.reduceBNe, reduceIte, reduceCtorEq, Int.reduceToNat, Int.reduceLT, Int.reduceLE, Int.reduceAdd, Int.reduceSub, Int.reduceMul, Int.reduceNeg, Int.reduceEq, Int.reduceNe, D_G, D_P, List.lookup, tys, intsV_len]) ?_
    rintro i ⟨hi, hnone⟩
    simp -implicitDefEqProofs only [s_s, argEnv, PastOK, PendOK, sel, isE, isSp, baseOK, opR, opnd, opnds, opndL, ofConst, look, putE, dstOK, guardL, binR, intOp, loadR, bad, bound, lenV, srcV, Ob.read, V.plain, V.one, V.cells, fillV, setMany, zeros, TK.agg, Sub, cellRes, loadV, bindE, Nat.reduceAdd, Nat.reduceEqDiff, Nat.reduceLT, Nat.reduceLeDiff, Nat.reduceMul, Nat.reduceSub, Nat.reduceDiv, Nat.reduceMod, Nat.reduceBEq, Nat.reduceBNe, reduceIte, reduceCtorEq, Int.reduceToNat, Int.reduceLT, Int.reduceLE, Int.reduceAdd, Int.reduceSub, Int.reduceMul, Int.reduceNeg, Int.reduceEq, Int.reduceNe, D_G, D_P, List.lookup, tys, intsV_len]
    refine Br.intro (fun h => ?_) (fun h => ?_)
    · have hi' : i < srt.length := by have := of_decide_eq_true h; omega
      obtain ⟨x, hx⟩ : ∃ x, srt[i]? = some x := ⟨_, List.getElem?_eq_getElem hi'⟩
      obtain ⟨hx1, hx2⟩ := hse x (List.mem_of_getElem? hx)
      obtain ⟨c1, c2⟩ := cols_at x hx1
      rw [hx2] at c1
      have wi := wrapI (n := (i : Int) + 1) (by omega) (by omega)
      simp -implicitDefEqProofs only [s_s, argEnv, PastOK, PendOK, sel, isE, isSp, baseOK, opR, opnd, opnds, opndL, ofConst, look, putE, dstOK, guardL, binR, intOp, loadR, bad, bound, lenV, srcV, Ob.read, V.plain, V.one, V.cells, fillV, setMany, zeros, TK.agg, Sub, cellRes, loadV, bindE, Nat.reduceAdd, Nat.reduceEqDiff, Nat.reduceLT, Nat.reduceLeDiff, Nat.reduceMul, Nat.reduceSub, Nat.reduceDiv, Nat.reduceMod, Nat.reduceBEq, Nat.reduceBNe, reduceIte, reduceCtorEq, Int.reduceToNat, Int.reduceLT, Int.reduceLE, Int.reduceAdd, Int.reduceSub, Int.reduceMul, Int.reduceNeg, Int.reduceEq, Int.reduceNe, D_G, D_P, List.lookup, tys, intsV_len, natsV_len, natsV_get hx]
      repeat (refine And.intro (by first | omega | rfl | trivial | (simp; done) | (simp; omega)) ?_)
      refine Sp.call rfl rfl ((columns_spec x hx1 _).mono ?_)
      rintro v st' ⟨rfl, rfl⟩
      simp -implicitDefEqProofs only [s_s, argEnv, PastOK, PendOK, sel, isE, isSp, baseOK, opR, opnd, opnds, opndL, ofConst, look, putE, dstOK, guardL, binR, intOp, loadR, bad, bound, lenV, srcV, Ob.read, V.plain, V.one, V.cells, fillV, setMany, zeros, TK.agg, Sub, cellRes, loadV, bindE, Nat.reduceAdd, Nat.reduceEqDiff, Nat.reduceLT, Nat.reduceLeDiff, Nat.reduceMul, Nat.reduceSub, Nat.reduceDiv, Nat.reduceMod, Nat.reduceBEq, Nat.reduceBNe, reduceIte, reduceCtorEq, Int.reduceToNat, Int.reduceLT, Int.reduceLE, Int.reduceAdd, Int.reduceSub, Int.reduceMul, Int.reduceNeg, Int.reduceEq, Int.reduceNe, D_G, D_P, List.lookup, tys, intsV_len]
      refine Sp.call rfl rfl ((power_spec s t (by omega) (by omega) (by omega) _).mono ?_)
      rintro v st' ⟨rfl, rfl⟩
      simp -implicitDefEqProofs only [s_s, argEnv, PastOK, PendOK, sel, isE, isSp, baseOK, opR, opnd, opnds, opndL, ofConst, look, putE, dstOK, guardL, binR, intOp, loadR, bad, bound, lenV, srcV, Ob.read, V.plain, V.one, V.cells, fillV, setMany, zeros, TK.agg, Sub, cellRes, loadV, bindE, Nat.reduceAdd, Nat.reduceEqDiff, Nat.reduceLT, Nat.reduceLeDiff, Nat.reduceMul, Nat.reduceSub, Nat.reduceDiv, Nat.reduceMod, Nat.reduceBEq, Nat.reduceBNe, reduceIte, reduceCtorEq, Int.reduceToNat, Int.reduceLT, Int.reduceLE, Int.reduceAdd, Int.reduceSub, Int.reduceMul, Int.reduceNeg, Int.reduceEq, Int.reduceNe, D_G, D_P, List.lookup, tys, intsV_len]
      refine WP.loopC (ι := Nat) (fun n => [(1, .int .i64 s), (2, .int .i64 t), (3, .map m), (8, .ptr st.length 0 0), (32, .lst 1 (natsV srt)), (33, .int .i64 srt.length), (34, .int .i64 i), (12, .int .u64 x), (13, rowV (colsOf x)), (42, .int .i64 (s ^ t : Nat)), (43, .int .i64 n)])
        (fun n => st ++ [.cells 0 [.int .u64 0, .int .i8 0, .int .i8 0, .int .i8 0, .int .i8 0, .int .i8 0, .int .i8 0, .int .i8 0, .int .i8 0]]) (fun n => n ≤ s ^ t ∧ (List.range n).find? (fun n => !decide (Key.cells (combN x s t n) ∈ ks)) = none) (fun n => s ^ t - n) 0 ⟨by omega, rfl⟩ (by simp -implicitDefEqProofs only [s_s, argEnv, PastOK, PendOK, sel, isE, isSp, baseOK, opR, opnd, opnds, opndL, ofConst, look, putE, dstOK, guardL, binR, intOp, loadR, bad, bound, lenV, srcV, Ob.read, V.plain, V.one, V.cells, fillV, setMany, zeros, TK.agg, Sub, cellRes, loadV, bindE, Nat.reduceAdd, Nat.reduceEqDiff, Nat.reduceLT, Nat.reduceLeDiff, Nat.reduceMul, Nat.reduceSub, Nat.reduceDiv, Nat.reduceMod, Nat.reduceBEq, Nat.reduceBNe, reduceIte, reduceCtorEq, Int.reduceToNat, Int.reduceLT, Int.reduceLE, Int.reduceAdd, Int.reduceSub, Int.reduceMul, Int.reduceNeg, Int.reduceEq, Int.reduceNe, D_G, D_P, List.lookup, tys, intsV_len]; try simp) rfl (fun p => by simp -implicitDefEqProofs only [s_s, argEnv, PastOK, PendOK, sel, isE, isSp, baseOK, opR, opnd, opnds, opndL, ofConst, look, putE, dstOK, guardL, binR, intOp, loadR, bad, bound, lenV, srcV, Ob.read, V.plain, V.one, V.cells, fillV, setMany, zeros, TK.agg, Sub, cellRes, loadV, bindE, Nat.reduceAdd, Nat.reduceEqDiff, Nat.reduceLT, Nat.reduceLeDiff, Nat.reduceMul, Nat.reduceSub, Nat.reduceDiv, Nat.reduceMod, Nat.reduceBEq, Nat.reduceBNe, reduceIte, reduceCtorEq, Int.reduceToNat, Int.reduceLT, Int.reduceLE, Int.reduceAdd, Int.reduceSub, Int.reduceMul, Int.reduceNeg, Int.reduceEq, Int.reduceNe, D_G, D_P, List.lookup, tys, intsV_len]) ?_
      rintro n ⟨hn, hfn⟩
      simp -implicitDefEqProofs only [s_s, argEnv, PastOK, PendOK, sel, isE, isSp, baseOK, opR, opnd, opnds, opndL, ofConst, look, putE, dstOK, guardL, binR, intOp, loadR, bad, bound, lenV, srcV, Ob.read, V.plain, V.one, V.cells, fillV, setMany, zeros, TK.agg, Sub, cellRes, loadV, bindE, Nat.reduceAdd, Nat.reduceEqDiff, Nat.reduceLT, Nat.reduceLeDiff, Nat.reduceMul, Nat.reduceSub, Nat.reduceDiv, Nat.reduceMod, Nat.reduceBEq, Nat.reduceBNe, reduceIte, reduceCtorEq, Int.reduceToNat, Int.reduceLT, Int.reduceLE, Int.reduceAdd, Int.reduceSub, Int.reduceMul, Int.reduceNeg, Int.reduceEq, Int.reduceNe, D_G, D_P, List.lookup, tys, intsV_len]
      refine Br.intro (fun h => ?_) (fun h => ?_)
      · have hn' : n < s ^ t := by have := of_decide_eq_true h; omega
        have wn := wrapI (n := (n : Int) + 1) (by omega) (by omega)
        have wt : IntKind.i64.wrap ((t : Int) - 1) = (t : Int) - 1 := wrapI (by omega) (by omega)
        simp -implicitDefEqProofs only [s_s, argEnv, PastOK, PendOK, sel, isE, isSp, baseOK, opR, opnd, opnds, opndL, ofConst, look, putE, dstOK, guardL, binR, intOp, loadR, bad, bound, lenV, srcV, Ob.read, V.plain, V.one, V.cells, fillV, setMany, zeros, TK.agg, Sub, cellRes, loadV, bindE, Nat.reduceAdd, Nat.reduceEqDiff, Nat.reduceLT, Nat.reduceLeDiff, Nat.reduceMul, Nat.reduceSub, Nat.reduceDiv, Nat.reduceMod, Nat.reduceBEq, Nat.reduceBNe, reduceIte, reduceCtorEq, Int.reduceToNat, Int.reduceLT, Int.reduceLE, Int.reduceAdd, Int.reduceSub, Int.reduceMul, Int.reduceNeg, Int.reduceEq, Int.reduceNe, D_G, D_P, List.lookup, tys, intsV_len, wt]
        refine WP.loopF (ι := Nat) (fun q => [(1, .int .i64 s), (2, .int .i64 t), (3, .map m), (8, .ptr st.length 0 0), (32, .lst 1 (natsV srt)), (33, .int .i64 srt.length), (34, .int .i64 i), (12, .int .u64 x), (13, rowV (colsOf x)), (42, .int .i64 (s ^ t : Nat)), (43, .int .i64 n), (14, .int .i64 (digL (colsOf x) s t n q).2), (15, .ptr (st.length + 1) 0 0), (16, .int .i64 ((t : Int) - 1 - q))])
          (fun q => st ++ [.cells 0 [.int .u64 0, .int .i8 0, .int .i8 0, .int .i8 0, .int .i8 0, .int .i8 0, .int .i8 0, .int .i8 0, .int .i8 0], .cells 0 (.int .u64 x :: (digL (colsOf x) s t n q).1.map (V.int .i8))]) (fun q => q ≤ t) (fun q => t - q) 0 (by omega) (by simp -implicitDefEqProofs only [s_s, argEnv, PastOK, PendOK, sel, isE, isSp, baseOK, opR, opnd, opnds, opndL, ofConst, look, putE, dstOK, guardL, binR, intOp, loadR, bad, bound, lenV, srcV, Ob.read, V.plain, V.one, V.cells, fillV, setMany, zeros, TK.agg, Sub, cellRes, loadV, bindE, Nat.reduceAdd, Nat.reduceEqDiff, Nat.reduceLT, Nat.reduceLeDiff, Nat.reduceMul, Nat.reduceSub, Nat.reduceDiv, Nat.reduceMod, Nat.reduceBEq, Nat.reduceBNe, reduceIte, reduceCtorEq, Int.reduceToNat, Int.reduceLT, Int.reduceLE, Int.reduceAdd, Int.reduceSub, Int.reduceMul, Int.reduceNeg, Int.reduceEq, Int.reduceNe, D_G, D_P, List.lookup, tys, intsV_len, digL]; simp) (by simp [digL]) ?_
        intro q hq
        obtain ⟨g1, g2, g3⟩ := digL_ok (colsOf x) s t n (by omega) hs8 q
        obtain ⟨p, hp⟩ : ∃ p, p = (digL (colsOf x) s t n q).2 := ⟨_, rfl⟩
        obtain ⟨lv, hlv⟩ : ∃ lv, lv = (digL (colsOf x) s t n q).1 := ⟨_, rfl⟩
        rw [← hlv] at g1 g2
        rw [← hp] at g3
        simp -implicitDefEqProofs only [s_s, argEnv, PastOK, PendOK, sel, isE, isSp, baseOK, opR, opnd, opnds, opndL, ofConst, look, putE, dstOK, guardL, binR, intOp, loadR, bad, bound, lenV, srcV, Ob.read, V.plain, V.one, V.cells, fillV, setMany, zeros, TK.agg, Sub, cellRes, loadV, bindE, Nat.reduceAdd, Nat.reduceEqDiff, Nat.reduceLT, Nat.reduceLeDiff, Nat.reduceMul, Nat.reduceSub, Nat.reduceDiv, Nat.reduceMod, Nat.reduceBEq, Nat.reduceBNe, reduceIte, reduceCtorEq, Int.reduceToNat, Int.reduceLT, Int.reduceLE, Int.reduceAdd, Int.reduceSub, Int.reduceMul, Int.reduceNeg, Int.reduceEq, Int.reduceNe, D_G, D_P, List.lookup, tys, intsV_len, ← hp, ← hlv]
        refine Br.intro (fun h => ?_) (fun h => ?_)
        · have hq' : q < t := by have := of_decide_eq_true h; omega
          obtain ⟨c, hc⟩ : ∃ c, (colsOf x)[t - 1 - q]? = some c := ⟨_, List.getElem?_eq_getElem (by omega)⟩
          obtain ⟨c3, c4⟩ := c2 c (List.mem_of_getElem? hc)
          obtain ⟨c, rfl⟩ := Int.eq_ofNat_of_zero_le c3
          have ht' : ((t : Int) - 1 - q).toNat = t - 1 - q := by omega
          have v1 := tmodN p s
          have hps := Nat.mod_lt p (show 0 < s by omega)
          have v2 := wrap8 ((p % s : Nat) : Int) ⟨Int.natCast_nonneg _, by omega⟩
          have v3 : IntKind.i64.wrap ((p : Int).tdiv (s : Int)) = ((p / s : Nat) : Int) := by
            have hd := Nat.div_le_self p s
            rw [← Int.ofNat_tdiv]; exact wrapI (Int.le_trans (by decide) (Int.natCast_nonneg _)) (Int.le_trans (Int.ofNat_le.2 hd) (by omega))
          have v4 : IntKind.i64.wrap ((t : Int) - 1 - q - 1) = (t : Int) - 1 - ((q + 1 : Nat) : Int) := by rw [wrapI (by omega) (by omega)]; omega
          have d1 : digL (colsOf x) s t n (q + 1) = (lv.set c ((p % s : Nat) : Int), p / s) := by simp [digL, hc, ← hp, ← hlv]
          simp -implicitDefEqProofs only [s_s, argEnv, PastOK, PendOK, sel, isE, isSp, baseOK, opR, opnd, opnds, opndL, ofConst, look, putE, dstOK, guardL, binR, intOp, loadR, bad, bound, lenV, srcV, Ob.read, V.plain, V.one, V.cells, fillV, setMany, zeros, TK.agg, Sub, cellRes, loadV, bindE, Nat.reduceAdd, Nat.reduceEqDiff, Nat.reduceLT, Nat.reduceLeDiff, Nat.reduceMul, Nat.reduceSub, Nat.reduceDiv, Nat.reduceMod, Nat.reduceBEq, Nat.reduceBNe, reduceIte, reduceCtorEq, Int.reduceToNat, Int.reduceLT, Int.reduceLE, Int.reduceAdd, Int.reduceSub, Int.reduceMul, Int.reduceNeg, Int.reduceEq, Int.reduceNe, D_G, D_P, List.lookup, tys, intsV_len]
          refine WP.drawF [(0, 0, 0, [13]), (0, 0, 0, [16]), (3, 0, 0, [54, 55]), (7, 0, 0, [56]), (0, 0, 0, [14]), (0, 0, 0, [1]), (48, 0, 0, [58, 59]), (112, 0, 0, [60]), (0, 0, 0, [15]), (511, 0, 0, [62, 57]), (1023, 0, 1, [63, 61])] D_mixed (by decide +kernel) ?_
          simp -implicitDefEqProofs only [s_s, argEnv, PastOK, PendOK, sel, isE, isSp, baseOK, opR, opnd, opnds, opndL, ofConst, look, putE, dstOK, guardL, binR, intOp, loadR, bad, bound, lenV, srcV, Ob.read, V.plain, V.one, V.cells, fillV, setMany, zeros, TK.agg, Sub, cellRes, loadV, bindE, Nat.reduceAdd, Nat.reduceEqDiff, Nat.reduceLT, Nat.reduceLeDiff, Nat.reduceMul, Nat.reduceSub, Nat.reduceDiv, Nat.reduceMod, Nat.reduceBEq, Nat.reduceBNe, reduceIte, reduceCtorEq, Int.reduceToNat, Int.reduceLT, Int.reduceLE, Int.reduceAdd, Int.reduceSub, Int.reduceMul, Int.reduceNeg, Int.reduceEq, Int.reduceNe, D_G, D_P, List.lookup, tys, intsV_len, rowV, ht', intsV_get hc, v1, v2, v3, v4, c1]
          refine And.intro ⟨by omega, by omega⟩ (And.intro (by omega) (And.intro ⟨by omega, by omega⟩ (And.intro (by omega) (And.intro (by omega) ?_))))
          refine Kl.next (q + 1) (by omega) (by omega) (by simp -implicitDefEqProofs only [s_s, argEnv, PastOK, PendOK, sel, isE, isSp, baseOK, opR, opnd, opnds, opndL, ofConst, look, putE, dstOK, guardL, binR, intOp, loadR, bad, bound, lenV, srcV, Ob.read, V.plain, V.one, V.cells, fillV, setMany, zeros, TK.agg, Sub, cellRes, loadV, bindE, Nat.reduceAdd, Nat.reduceEqDiff, Nat.reduceLT, Nat.reduceLeDiff, Nat.reduceMul, Nat.reduceSub, Nat.reduceDiv, Nat.reduceMod, Nat.reduceBEq, Nat.reduceBNe, reduceIte, reduceCtorEq, Int.reduceToNat, Int.reduceLT, Int.reduceLE, Int.reduceAdd, Int.reduceSub, Int.reduceMul, Int.reduceNeg, Int.reduceEq, Int.reduceNe, D_G, D_P, List.lookup, tys, intsV_len, d1, rowV]) ?_
          rw [d1, Nat.add_comm 1 c, List.set_cons_succ, List.map_set]
        · have hq' : q = t := by have := of_decide_eq_false h; omega
          subst hq'
          have hkey := keyV_cells x lv
          have hokk := okK x lv hx1 g1 g2
          have hcN : combN x s q n = cellK x lv := by rw [combN, hlv]
          have h8 : (lv.map (V.int .i8)).take 8 = lv.map (V.int .i8) := List.take_of_length_le (by simp [g1])
          simp -implicitDefEqProofs only [s_s, argEnv, PastOK, PendOK, sel, isE, isSp, baseOK, opR, opnd, opnds, opndL, ofConst, look, putE, dstOK, guardL, binR, intOp, loadR, bad, bound, lenV, srcV, Ob.read, V.plain, V.one, V.cells, fillV, setMany, zeros, TK.agg, Sub, cellRes, loadV, bindE, Nat.reduceAdd, Nat.reduceEqDiff, Nat.reduceLT, Nat.reduceLeDiff, Nat.reduceMul, Nat.reduceSub, Nat.reduceDiv, Nat.reduceMod, Nat.reduceBEq, Nat.reduceBNe, reduceIte, reduceCtorEq, Int.reduceToNat, Int.reduceLT, Int.reduceLE, Int.reduceAdd, Int.reduceSub, Int.reduceMul, Int.reduceNeg, Int.reduceEq, Int.reduceNe, D_G, D_P, List.lookup, tys, intsV_len, h8, hkey, st_old hm, kg77, zv4, doneE_get]
          refine And.intro (by omega) (And.intro ⟨hkk, hokk⟩ ?_)
          refine Br.intro (fun h => ?_) (fun h => ?_)
          · have hnew : (fun n => !decide (Key.cells (combN x s q n) ∈ ks)) n = true := by simp only [hcN]; exact h
            have hF2 : foundF s q ks x = some (x, n) := by rw [foundF, find_more hn' hfn hnew]; rfl
            rw [findSome_at hnone hx hF2]
            have hV : firstV s q (some (x, n)) = .tup [.agg (.int .u64 x :: lv.map (V.int .i8)), .bool true] := by
              simp only [firstV, hcN]
              simp [cellsI, cellK]
            rw [hV]
            obtain ⟨a0, a1, a2, a3, a4, a5, a6, a7, rfl⟩ : ∃ a0 a1 a2 a3 a4 a5 a6 a7, lv = [a0, a1, a2, a3, a4, a5, a6, a7] := by
              match lv, g1 with
              | [a0, a1, a2, a3, a4, a5, a6, a7], _ => exact ⟨_, _, _, _, _, _, _, _, rfl⟩
            simp -implicitDefEqProofs only [s_s, argEnv, PastOK, PendOK, sel, isE, isSp, baseOK, opR, opnd, opnds, opndL, ofConst, look, putE, dstOK, guardL, binR, intOp, loadR, bad, bound, lenV, srcV, Ob.read, V.plain, V.one, V.cells, fillV, setMany, zeros, TK.agg, Sub, cellRes, loadV, bindE, Nat.reduceAdd, Nat.reduceEqDiff, Nat.reduceLT, Nat.reduceLeDiff, Nat.reduceMul, Nat.reduceSub, Nat.reduceDiv, Nat.reduceMod, Nat.reduceBEq, Nat.reduceBNe, reduceIte, reduceCtorEq, Int.reduceToNat, Int.reduceLT, Int.reduceLE, Int.reduceAdd, Int.reduceSub, Int.reduceMul, Int.reduceNeg, Int.reduceEq, Int.reduceNe, D_G, D_P, List.lookup, tys, intsV_len]
            exact Post.rct (v := .agg [.int .u64 x, .int .i8 a0, .int .i8 a1, .int .i8 a2, .int .i8 a3, .int .i8 a4, .int .i8 a5, .int .i8 a6, .int .i8 a7]) (x := .bool true) (by simp -implicitDefEqProofs only [s_s, argEnv, PastOK, PendOK, sel, isE, isSp, baseOK, opR, opnd, opnds, opndL, ofConst, look, putE, dstOK, guardL, binR, intOp, loadR, bad, bound, lenV, srcV, Ob.read, V.plain, V.one, V.cells, fillV, setMany, zeros, TK.agg, Sub, cellRes, loadV, bindE, Nat.reduceAdd, Nat.reduceEqDiff, Nat.reduceLT, Nat.reduceLeDiff, Nat.reduceMul, Nat.reduceSub, Nat.reduceDiv, Nat.reduceMod, Nat.reduceBEq, Nat.reduceBNe, reduceIte, reduceCtorEq, Int.reduceToNat, Int.reduceLT, Int.reduceLE, Int.reduceAdd, Int.reduceSub, Int.reduceMul, Int.reduceNeg, Int.reduceEq, Int.reduceNe, D_G, D_P, List.lookup, tys, intsV_len]) (by simp -implicitDefEqProofs only [s_s, argEnv, PastOK, PendOK, sel, isE, isSp, baseOK, opR, opnd, opnds, opndL, ofConst, look, putE, dstOK, guardL, binR, intOp, loadR, bad, bound, lenV, srcV, Ob.read, V.plain, V.one, V.cells, fillV, setMany, zeros, TK.agg, Sub, cellRes, loadV, bindE, Nat.reduceAdd, Nat.reduceEqDiff, Nat.reduceLT, Nat.reduceLeDiff, Nat.reduceMul, Nat.reduceSub, Nat.reduceDiv, Nat.reduceMod, Nat.reduceBEq, Nat.reduceBNe, reduceIte, reduceCtorEq, Int.reduceToNat, Int.reduceLT, Int.reduceLE, Int.reduceAdd, Int.reduceSub, Int.reduceMul, Int.reduceNeg, Int.reduceEq, Int.reduceNe, D_G, D_P, List.lookup, tys, intsV_len]) ⟨_, _, rfl, .keep (by simp [V.bdd, bddL]), rfl⟩
          · have hnew : ¬ (fun n => !decide (Key.cells (combN x s q n) ∈ ks)) n = true := by simp only [hcN]; rw [h]; decide
            simp -implicitDefEqProofs only [s_s, argEnv, PastOK, PendOK, sel, isE, isSp, baseOK, opR, opnd, opnds, opndL, ofConst, look, putE, dstOK, guardL, binR, intOp, loadR, bad, bound, lenV, srcV, Ob.read, V.plain, V.one, V.cells, fillV, setMany, zeros, TK.agg, Sub, cellRes, loadV, bindE, Nat.reduceAdd, Nat.reduceEqDiff, Nat.reduceLT, Nat.reduceLeDiff, Nat.reduceMul, Nat.reduceSub, Nat.reduceDiv, Nat.reduceMod, Nat.reduceBEq, Nat.reduceBNe, reduceIte, reduceCtorEq, Int.reduceToNat, Int.reduceLT, Int.reduceLE, Int.reduceAdd, Int.reduceSub, Int.reduceMul, Int.reduceNeg, Int.reduceEq, Int.reduceNe, D_G, D_P, List.lookup, tys, intsV_len, wn]
            refine Kc.next (n + 1) ⟨by omega, ?_⟩ (by omega) (st ++ [.cells 0 [.int .u64 0, .int .i8 0, .int .i8 0, .int .i8 0, .int .i8 0, .int .i8 0, .int .i8 0, .int .i8 0, .int .i8 0]]) [.cells 0 (.int .u64 x :: lv.map (V.int .i8))] (by simp) (by simp) ?_ ?_
            · rw [find_range hfn, if_neg hnew]
            · exact StConv.base hB (by simp) (.cons (.keep rfl) .nil)
            · refine EnvC.of_sub ?_ ?_
              · simp -implicitDefEqProofs only [s_s, argEnv, PastOK, PendOK, sel, isE, isSp, baseOK, opR, opnd, opnds, opndL, ofConst, look, putE, dstOK, guardL, binR, intOp, loadR, bad, bound, lenV, srcV, Ob.read, V.plain, V.one, V.cells, fillV, setMany, zeros, TK.agg, Sub, cellRes, loadV, bindE, Nat.reduceAdd, Nat.reduceEqDiff, Nat.reduceLT, Nat.reduceLeDiff, Nat.reduceMul, Nat.reduceSub, Nat.reduceDiv, Nat.reduceMod, Nat.reduceBEq, Nat.reduceBNe, reduceIte, reduceCtorEq, Int.reduceToNat, Int.reduceLT, Int.reduceLE, Int.reduceAdd, Int.reduceSub, Int.reduceMul, Int.reduceNeg, Int.reduceEq, Int.reduceNe, D_G, D_P, List.lookup, tys, intsV_len, rowV]
                try simp
              · simp [bddE, V.bdd, natsV_bdd, bdd_ints, rowV]
                exact hmb
      · have hn' : n = s ^ t := by have := of_decide_eq_false h; omega
        subst hn'
        have hF2 : foundF s t ks x = none := by rw [foundF, hfn]; rfl
        simp -implicitDefEqProofs only [s_s, argEnv, PastOK, PendOK, sel, isE, isSp, baseOK, opR, opnd, opnds, opndL, ofConst, look, putE, dstOK, guardL, binR, intOp, loadR, bad, bound, lenV, srcV, Ob.read, V.plain, V.one, V.cells, fillV, setMany, zeros, TK.agg, Sub, cellRes, loadV, bindE, Nat.reduceAdd, Nat.reduceEqDiff, Nat.reduceLT, Nat.reduceLeDiff, Nat.reduceMul, Nat.reduceSub, Nat.reduceDiv, Nat.reduceMod, Nat.reduceBEq, Nat.reduceBNe, reduceIte, reduceCtorEq, Int.reduceToNat, Int.reduceLT, Int.reduceLE, Int.reduceAdd, Int.reduceSub, Int.reduceMul, Int.reduceNeg, Int.reduceEq, Int.reduceNe, D_G, D_P, List.lookup, tys, intsV_len, wi]
        refine Kc.next (i + 1) ⟨by omega, findSome_step hnone hx hF2⟩ (by omega) (st ++ [.cells 0 [.int .u64 0, .int .i8 0, .int .i8 0, .int .i8 0, .int .i8 0, .int .i8 0, .int .i8 0, .int .i8 0, .int .i8 0]]) [] (by simp) (by simp) ?_ ?_
        · exact StConv.base hB (by simp) (.cons (.keep rfl) .nil)
        · refine EnvC.of_sub ?_ ?_
          · simp -implicitDefEqProofs only [s_s, argEnv, PastOK, PendOK, sel, isE, isSp, baseOK, opR, opnd, opnds, opndL, ofConst, look, putE, dstOK, guardL, binR, intOp, loadR, bad, bound, lenV, srcV, Ob.read, V.plain, V.one, V.cells, fillV, setMany, zeros, TK.agg, Sub, cellRes, loadV, bindE, Nat.reduceAdd, Nat.reduceEqDiff, Nat.reduceLT, Nat.reduceLeDiff, Nat.reduceMul, Nat.reduceSub, Nat.reduceDiv, Nat.reduceMod, Nat.reduceBEq, Nat.reduceBNe, reduceIte, reduceCtorEq, Int.reduceToNat, Int.reduceLT, Int.reduceLE, Int.reduceAdd, Int.reduceSub, Int.reduceMul, Int.reduceNeg, Int.reduceEq, Int.reduceNe, D_G, D_P, List.lookup, tys, intsV_len]
            try simp
          · simp [bddE, V.bdd, natsV_bdd, bdd_ints, rowV]
            exact hmb
    · have hi' : i = srt.length := by have := of_decide_eq_false h; omega
      rw [hi', List.take_length] at hnone
      rw [hnone]
      simp -implicitDefEqProofs only [s_s, argEnv, PastOK, PendOK, sel, isE, isSp, baseOK, opR, opnd, opnds, opndL, ofConst, look, putE, dstOK, guardL, binR, intOp, loadR, bad, bound, lenV, srcV, Ob.read, V.plain, V.one, V.cells, fillV, setMany, zeros, TK.agg, Sub, cellRes, loadV, bindE, Nat.reduceAdd, Nat.reduceEqDiff, Nat.reduceLT, Nat.reduceLeDiff, Nat.reduceMul, Nat.reduceSub, Nat.reduceDiv, Nat.reduceMod, Nat.reduceBEq, Nat.reduceBNe, reduceIte, reduceCtorEq, Int.reduceToNat, Int.reduceLT, Int.reduceLE, Int.reduceAdd, Int.reduceSub, Int.reduceMul, Int.reduceNeg, Int.reduceEq, Int.reduceNe, D_G, D_P, List.lookup, tys, intsV_len]
      exact Post.rct (v := .agg [.int .u64 0, .int .i8 0, .int .i8 0, .int .i8 0, .int .i8 0, .int .i8 0, .int .i8 0, .int .i8 0, .int .i8 0]) (x := .bool false) (by simp -implicitDefEqProofs only [s_s, argEnv, PastOK, PendOK, sel, isE, isSp, baseOK, opR, opnd, opnds, opndL, ofConst, look, putE, dstOK, guardL, binR, intOp, loadR, bad, bound, lenV, srcV, Ob.read, V.plain, V.one, V.cells, fillV, setMany, zeros, TK.agg, Sub, cellRes, loadV, bindE, Nat.reduceAdd, Nat.reduceEqDiff, Nat.reduceLT, Nat.reduceLeDiff, Nat.reduceMul, Nat.reduceSub, Nat.reduceDiv, Nat.reduceMod, Nat.reduceBEq, Nat.reduceBNe, reduceIte, reduceCtorEq, Int.reduceToNat, Int.reduceLT, Int.reduceLE, Int.reduceAdd, Int.reduceSub, Int.reduceMul, Int.reduceNeg, Int.reduceEq, Int.reduceNe, D_G, D_P, List.lookup, tys, intsV_len]) (by simp -implicitDefEqProofs only [s_s, argEnv, PastOK, PendOK, sel, isE, isSp, baseOK, opR, opnd, opnds, opndL, ofConst, look, putE, dstOK, guardL, binR, intOp, loadR, bad, bound, lenV, srcV, Ob.read, V.plain, V.one, V.cells, fillV, setMany, zeros, TK.agg, Sub, cellRes, loadV, bindE, Nat.reduceAdd, Nat.reduceEqDiff, Nat.reduceLT, Nat.reduceLeDiff, Nat.reduceMul, Nat.reduceSub, Nat.reduceDiv, Nat.reduceMod, Nat.reduceBEq, Nat.reduceBNe, reduceIte, reduceCtorEq, Int.reduceToNat, Int.reduceLT, Int.reduceLE, Int.reduceAdd, Int.reduceSub, Int.reduceMul, Int.reduceNeg, Int.reduceEq, Int.reduceNe, D_G, D_P, List.lookup, tys, intsV_len]) ⟨_, _, rfl, .keep (by simp [V.bdd, bddL]), rfl⟩
end Go.VL
end

/- The array seat: columns that are selected. -/
section
set_option linter.unusedSimpArgs false
set_option linter.unusedVariables false
set_option maxRecDepth 4000
namespace Go.VL
open Go Go.Proofs

/-- What is asked of columns. -/
def selOK (cols : List Int) (k : Nat) : Prop := 1 ≤ cols.length ∧ cols.length ≤ 8 ∧ 0 ≤ minL cols ∧ maxL cols < k
instance (cols : List Int) (k : Nat) : Decidable (selOK cols k) := inferInstanceAs (Decidable (_ ∧ _))

def selV (S : Int) (R : List (List Int)) (e : Int) : V := .tup [arrV S R, .int .i64 e]

theorem Select_spec (S : Nat) (R : List (List Int)) (k : Nat) (h : ArrOK S R k) (cols : List Int) (hc : cols.length < 1000) (hcr : selOK cols k → ∀ c ∈ cols, 0 ≤ c ∧ c < k) (st : St) :
    VCall D 36 [arrV S R, rowV cols] st (fun r st' => r = (if selOK cols k then selV S (R.map fun r => pick r cols) 0 else selV 0 [] 1) ∧ st' = st) := by
  obtain ⟨r0, hr0⟩ : ∃ r0, R[0]? = some r0 := ⟨_, List.getElem?_eq_getElem h.r1⟩
  have hk0 : r0.length = k := (h.row r0 (List.mem_of_getElem? hr0)).1
  have hv0 : (R.map rowV)[0]? = some (rowV r0) := by simp [hr0]
  have a3 := h.r1
  have a4 := h.r64
  refine VCall.clean ?_
  refine VCall.of_WPB (fn := Tryd.f36) (c := _) Tryd.func36 rfl (by decide +kernel) (Nat.le_of_ble_eq_true rfl) fun hB => ?_
  refine wpF_sound ?_
  simp -implicitDefEqProofs only [s_s, argEnv, PastOK, PendOK, sel, isE, isSp, baseOK, opR, opnd, opnds, opndL, ofConst, look, putE, dstOK, guardL, binR, intOp, loadR, bad, bound, lenV, srcV, Ob.read, V.plain, V.one, V.cells, fillV, setMany, zeros, TK.agg, Sub, cellRes, loadV, bindE, Nat.reduceAdd, Nat.reduceEqDiff, Nat.reduceLT, Nat.reduceLeDiff, Nat.reduceMul, Nat.reduceSub, Nat.reduceDiv, Nat.reduceMod, Nat.reduceBEq, Nat.reduceBNe, reduceIte, reduceCtorEq, Int.reduceToNat, Int.reduceLT, Int.reduceLE, Int.reduceAdd, Int.reduceSub, Int.reduceMul, Int.reduceNeg, Int.reduceEq, Int.reduceNe, D_G, D_P, List.lookup, tys, intsV_len, Tryd.ntmps36, Tryd.f36, arrV, hv0, rowV, hk0]
  repeat (refine And.intro (by first | omega | rfl | trivial | (simp; done) | (simp; omega)) ?_)
  by_cases c1 : cols.length < 1
  · have d1 : decide ((cols.length : Int) < 1) = true := by simp; omega
    simp -implicitDefEqProofs only [s_s, argEnv, PastOK, PendOK, sel, isE, isSp, baseOK, opR, opnd, opnds, opndL, ofConst, look, putE, dstOK, guardL, binR, intOp, loadR, bad, bound, lenV, srcV, Ob.read, V.plain, V.one, V.cells, fillV, setMany, zeros, TK.agg, Sub, cellRes, loadV, bindE, Nat.reduceAdd, Nat.reduceEqDiff, Nat.reduceLT, Nat.reduceLeDiff, Nat.reduceMul, Nat.reduceSub, Nat.reduceDiv, Nat.reduceMod, Nat.reduceBEq, Nat.reduceBNe, reduceIte, reduceCtorEq, Int.reduceToNat, Int.reduceLT, Int.reduceLE, Int.reduceAdd, Int.reduceSub, Int.reduceMul, Int.reduceNeg, Int.reduceEq, Int.reduceNe, D_G, D_P, List.lookup, tys, intsV_len, d1]
    exact Post.rct (v := .agg [.int .i64 0, .e0]) (x := .int .i64 1) (by simp -implicitDefEqProofs only [s_s, argEnv, PastOK, PendOK, sel, isE, isSp, baseOK, opR, opnd, opnds, opndL, ofConst, look, putE, dstOK, guardL, binR, intOp, loadR, bad, bound, lenV, srcV, Ob.read, V.plain, V.one, V.cells, fillV, setMany, zeros, TK.agg, Sub, cellRes, loadV, bindE, Nat.reduceAdd, Nat.reduceEqDiff, Nat.reduceLT, Nat.reduceLeDiff, Nat.reduceMul, Nat.reduceSub, Nat.reduceDiv, Nat.reduceMod, Nat.reduceBEq, Nat.reduceBNe, reduceIte, reduceCtorEq, Int.reduceToNat, Int.reduceLT, Int.reduceLE, Int.reduceAdd, Int.reduceSub, Int.reduceMul, Int.reduceNeg, Int.reduceEq, Int.reduceNe, D_G, D_P, List.lookup, tys, intsV_len]) (by simp -implicitDefEqProofs only [s_s, argEnv, PastOK, PendOK, sel, isE, isSp, baseOK, opR, opnd, opnds, opndL, ofConst, look, putE, dstOK, guardL, binR, intOp, loadR, bad, bound, lenV, srcV, Ob.read, V.plain, V.one, V.cells, fillV, setMany, zeros, TK.agg, Sub, cellRes, loadV, bindE, Nat.reduceAdd, Nat.reduceEqDiff, Nat.reduceLT, Nat.reduceLeDiff, Nat.reduceMul, Nat.reduceSub, Nat.reduceDiv, Nat.reduceMod, Nat.reduceBEq, Nat.reduceBNe, reduceIte, reduceCtorEq, Int.reduceToNat, Int.reduceLT, Int.reduceLE, Int.reduceAdd, Int.reduceSub, Int.reduceMul, Int.reduceNeg, Int.reduceEq, Int.reduceNe, D_G, D_P, List.lookup, tys, intsV_len]) ⟨selV 0 [] 1, _, rfl, .tup (.cons (.agg (.cons (.keep rfl) (.cons .e0 .nil))) (.cons (.keep rfl) .nil)), by rw [if_neg (fun hs => by have := hs.1; omega)]⟩
  have d1 : decide ((cols.length : Int) < 1) = false := by simp; omega
  by_cases c2 : 8 < cols.length
  · have d2 : decide ((8 : Int) < cols.length) = true := by simp; omega
    simp -implicitDefEqProofs only [s_s, argEnv, PastOK, PendOK, sel, isE, isSp, baseOK, opR, opnd, opnds, opndL, ofConst, look, putE, dstOK, guardL, binR, intOp, loadR, bad, bound, lenV, srcV, Ob.read, V.plain, V.one, V.cells, fillV, setMany, zeros, TK.agg, Sub, cellRes, loadV, bindE, Nat.reduceAdd, Nat.reduceEqDiff, Nat.reduceLT, Nat.reduceLeDiff, Nat.reduceMul, Nat.reduceSub, Nat.reduceDiv, Nat.reduceMod, Nat.reduceBEq, Nat.reduceBNe, reduceIte, reduceCtorEq, Int.reduceToNat, Int.reduceLT, Int.reduceLE, Int.reduceAdd, Int.reduceSub, Int.reduceMul, Int.reduceNeg, Int.reduceEq, Int.reduceNe, D_G, D_P, List.lookup, tys, intsV_len, d1, d2]
    exact Post.rct (v := .agg [.int .i64 0, .e0]) (x := .int .i64 1) (by simp -implicitDefEqProofs only [s_s, argEnv, PastOK, PendOK, sel, isE, isSp, baseOK, opR, opnd, opnds, opndL, ofConst, look, putE, dstOK, guardL, binR, intOp, loadR, bad, bound, lenV, srcV, Ob.read, V.plain, V.one, V.cells, fillV, setMany, zeros, TK.agg, Sub, cellRes, loadV, bindE, Nat.reduceAdd, Nat.reduceEqDiff, Nat.reduceLT, Nat.reduceLeDiff, Nat.reduceMul, Nat.reduceSub, Nat.reduceDiv, Nat.reduceMod, Nat.reduceBEq, Nat.reduceBNe, reduceIte, reduceCtorEq, Int.reduceToNat, Int.reduceLT, Int.reduceLE, Int.reduceAdd, Int.reduceSub, Int.reduceMul, Int.reduceNeg, Int.reduceEq, Int.reduceNe, D_G, D_P, List.lookup, tys, intsV_len]) (by simp -implicitDefEqProofs only [s_s, argEnv, PastOK, PendOK, sel, isE, isSp, baseOK, opR, opnd, opnds, opndL, ofConst, look, putE, dstOK, guardL, binR, intOp, loadR, bad, bound, lenV, srcV, Ob.read, V.plain, V.one, V.cells, fillV, setMany, zeros, TK.agg, Sub, cellRes, loadV, bindE, Nat.reduceAdd, Nat.reduceEqDiff, Nat.reduceLT, Nat.reduceLeDiff, Nat.reduceMul, Nat.reduceSub, Nat.reduceDiv, Nat.reduceMod, Nat.reduceBEq, Nat.reduceBNe, reduceIte, reduceCtorEq, Int.reduceToNat, Int.reduceLT, Int.reduceLE, Int.reduceAdd, Int.reduceSub, Int.reduceMul, Int.reduceNeg, Int.reduceEq, Int.reduceNe, D_G, D_P, List.lookup, tys, intsV_len]) ⟨selV 0 [] 1, _, rfl, .tup (.cons (.agg (.cons (.keep rfl) (.cons .e0 .nil))) (.cons (.keep rfl) .nil)), by rw [if_neg (fun hs => by have := hs.2.1; omega)]⟩
  have d2 : decide ((8 : Int) < cols.length) = false := by simp; omega
  simp -implicitDefEqProofs only [s_s, argEnv, PastOK, PendOK, sel, isE, isSp, baseOK, opR, opnd, opnds, opndL, ofConst, look, putE, dstOK, guardL, binR, intOp, loadR, bad, bound, lenV, srcV, Ob.read, V.plain, V.one, V.cells, fillV, setMany, zeros, TK.agg, Sub, cellRes, loadV, bindE, Nat.reduceAdd, Nat.reduceEqDiff, Nat.reduceLT, Nat.reduceLeDiff, Nat.reduceMul, Nat.reduceSub, Nat.reduceDiv, Nat.reduceMod, Nat.reduceBEq, Nat.reduceBNe, reduceIte, reduceCtorEq, Int.reduceToNat, Int.reduceLT, Int.reduceLE, Int.reduceAdd, Int.reduceSub, Int.reduceMul, Int.reduceNeg, Int.reduceEq, Int.reduceNe, D_G, D_P, List.lookup, tys, intsV_len, d1, d2]
  refine Sp.call rfl rfl ((Min_spec cols (by omega) hc _).mono ?_)
  rintro r st' ⟨rfl, rfl⟩
  simp -implicitDefEqProofs only [s_s, argEnv, PastOK, PendOK, sel, isE, isSp, baseOK, opR, opnd, opnds, opndL, ofConst, look, putE, dstOK, guardL, binR, intOp, loadR, bad, bound, lenV, srcV, Ob.read, V.plain, V.one, V.cells, fillV, setMany, zeros, TK.agg, Sub, cellRes, loadV, bindE, Nat.reduceAdd, Nat.reduceEqDiff, Nat.reduceLT, Nat.reduceLeDiff, Nat.reduceMul, Nat.reduceSub, Nat.reduceDiv, Nat.reduceMod, Nat.reduceBEq, Nat.reduceBNe, reduceIte, reduceCtorEq, Int.reduceToNat, Int.reduceLT, Int.reduceLE, Int.reduceAdd, Int.reduceSub, Int.reduceMul, Int.reduceNeg, Int.reduceEq, Int.reduceNe, D_G, D_P, List.lookup, tys, intsV_len]
  by_cases c3 : minL cols < 0
  · have d3 : decide (minL cols < 0) = true := by simp [c3]
    simp -implicitDefEqProofs only [s_s, argEnv, PastOK, PendOK, sel, isE, isSp, baseOK, opR, opnd, opnds, opndL, ofConst, look, putE, dstOK, guardL, binR, intOp, loadR, bad, bound, lenV, srcV, Ob.read, V.plain, V.one, V.cells, fillV, setMany, zeros, TK.agg, Sub, cellRes, loadV, bindE, Nat.reduceAdd, Nat.reduceEqDiff, Nat.reduceLT, Nat.reduceLeDiff, Nat.reduceMul, Nat.reduceSub, Nat.reduceDiv, Nat.reduceMod, Nat.reduceBEq, Nat.reduceBNe, reduceIte, reduceCtorEq, Int.reduceToNat, Int.reduceLT, Int.reduceLE, Int.reduceAdd, Int.reduceSub, Int.reduceMul, Int.reduceNeg, Int.reduceEq, Int.reduceNe, D_G, D_P, List.lookup, tys, intsV_len, d3]
    exact Post.rct (v := .agg [.int .i64 0, .e0]) (x := .int .i64 1) (by simp -implicitDefEqProofs only [s_s, argEnv, PastOK, PendOK, sel, isE, isSp, baseOK, opR, opnd, opnds, opndL, ofConst, look, putE, dstOK, guardL, binR, intOp, loadR, bad, bound, lenV, srcV, Ob.read, V.plain, V.one, V.cells, fillV, setMany, zeros, TK.agg, Sub, cellRes, loadV, bindE, Nat.reduceAdd, Nat.reduceEqDiff, Nat.reduceLT, Nat.reduceLeDiff, Nat.reduceMul, Nat.reduceSub, Nat.reduceDiv, Nat.reduceMod, Nat.reduceBEq, Nat.reduceBNe, reduceIte, reduceCtorEq, Int.reduceToNat, Int.reduceLT, Int.reduceLE, Int.reduceAdd, Int.reduceSub, Int.reduceMul, Int.reduceNeg, Int.reduceEq, Int.reduceNe, D_G, D_P, List.lookup, tys, intsV_len]) (by simp -implicitDefEqProofs only [s_s, argEnv, PastOK, PendOK, sel, isE, isSp, baseOK, opR, opnd, opnds, opndL, ofConst, look, putE, dstOK, guardL, binR, intOp, loadR, bad, bound, lenV, srcV, Ob.read, V.plain, V.one, V.cells, fillV, setMany, zeros, TK.agg, Sub, cellRes, loadV, bindE, Nat.reduceAdd, Nat.reduceEqDiff, Nat.reduceLT, Nat.reduceLeDiff, Nat.reduceMul, Nat.reduceSub, Nat.reduceDiv, Nat.reduceMod, Nat.reduceBEq, Nat.reduceBNe, reduceIte, reduceCtorEq, Int.reduceToNat, Int.reduceLT, Int.reduceLE, Int.reduceAdd, Int.reduceSub, Int.reduceMul, Int.reduceNeg, Int.reduceEq, Int.reduceNe, D_G, D_P, List.lookup, tys, intsV_len]) ⟨selV 0 [] 1, _, rfl, .tup (.cons (.agg (.cons (.keep rfl) (.cons .e0 .nil))) (.cons (.keep rfl) .nil)), by rw [if_neg (fun hs => by have := hs.2.2.1; omega)]⟩
  have d3 : decide (minL cols < 0) = false := by simp; omega
  simp -implicitDefEqProofs only [s_s, argEnv, PastOK, PendOK, sel, isE, isSp, baseOK, opR, opnd, opnds, opndL, ofConst, look, putE, dstOK, guardL, binR, intOp, loadR, bad, bound, lenV, srcV, Ob.read, V.plain, V.one, V.cells, fillV, setMany, zeros, TK.agg, Sub, cellRes, loadV, bindE, Nat.reduceAdd, Nat.reduceEqDiff, Nat.reduceLT, Nat.reduceLeDiff, Nat.reduceMul, Nat.reduceSub, Nat.reduceDiv, Nat.reduceMod, Nat.reduceBEq, Nat.reduceBNe, reduceIte, reduceCtorEq, Int.reduceToNat, Int.reduceLT, Int.reduceLE, Int.reduceAdd, Int.reduceSub, Int.reduceMul, Int.reduceNeg, Int.reduceEq, Int.reduceNe, D_G, D_P, List.lookup, tys, intsV_len, d3]
  refine Sp.call rfl rfl ((Max_spec cols (by omega) hc _).mono ?_)
  rintro r st' ⟨rfl, rfl⟩
  simp -implicitDefEqProofs only [s_s, argEnv, PastOK, PendOK, sel, isE, isSp, baseOK, opR, opnd, opnds, opndL, ofConst, look, putE, dstOK, guardL, binR, intOp, loadR, bad, bound, lenV, srcV, Ob.read, V.plain, V.one, V.cells, fillV, setMany, zeros, TK.agg, Sub, cellRes, loadV, bindE, Nat.reduceAdd, Nat.reduceEqDiff, Nat.reduceLT, Nat.reduceLeDiff, Nat.reduceMul, Nat.reduceSub, Nat.reduceDiv, Nat.reduceMod, Nat.reduceBEq, Nat.reduceBNe, reduceIte, reduceCtorEq, Int.reduceToNat, Int.reduceLT, Int.reduceLE, Int.reduceAdd, Int.reduceSub, Int.reduceMul, Int.reduceNeg, Int.reduceEq, Int.reduceNe, D_G, D_P, List.lookup, tys, intsV_len]
  by_cases c4 : (k : Int) ≤ maxL cols
  · have d4 : decide ((k : Int) ≤ maxL cols) = true := by simp [c4]
    simp -implicitDefEqProofs only [s_s, argEnv, PastOK, PendOK, sel, isE, isSp, baseOK, opR, opnd, opnds, opndL, ofConst, look, putE, dstOK, guardL, binR, intOp, loadR, bad, bound, lenV, srcV, Ob.read, V.plain, V.one, V.cells, fillV, setMany, zeros, TK.agg, Sub, cellRes, loadV, bindE, Nat.reduceAdd, Nat.reduceEqDiff, Nat.reduceLT, Nat.reduceLeDiff, Nat.reduceMul, Nat.reduceSub, Nat.reduceDiv, Nat.reduceMod, Nat.reduceBEq, Nat.reduceBNe, reduceIte, reduceCtorEq, Int.reduceToNat, Int.reduceLT, Int.reduceLE, Int.reduceAdd, Int.reduceSub, Int.reduceMul, Int.reduceNeg, Int.reduceEq, Int.reduceNe, D_G, D_P, List.lookup, tys, intsV_len, d4]
    exact Post.rct (v := .agg [.int .i64 0, .e0]) (x := .int .i64 1) (by simp -implicitDefEqProofs only [s_s, argEnv, PastOK, PendOK, sel, isE, isSp, baseOK, opR, opnd, opnds, opndL, ofConst, look, putE, dstOK, guardL, binR, intOp, loadR, bad, bound, lenV, srcV, Ob.read, V.plain, V.one, V.cells, fillV, setMany, zeros, TK.agg, Sub, cellRes, loadV, bindE, Nat.reduceAdd, Nat.reduceEqDiff, Nat.reduceLT, Nat.reduceLeDiff, Nat.reduceMul, Nat.reduceSub, Nat.reduceDiv, Nat.reduceMod, Nat.reduceBEq, Nat.reduceBNe, reduceIte, reduceCtorEq, Int.reduceToNat, Int.reduceLT, Int.reduceLE, Int.reduceAdd, Int.reduceSub, Int.reduceMul, Int.reduceNeg, Int.reduceEq, Int.reduceNe, D_G, D_P, List.lookup, tys, intsV_len]) (by simp -implicitDefEqProofs only [s_s, argEnv, PastOK, PendOK, sel, isE, isSp, baseOK, opR, opnd, opnds, opndL, ofConst, look, putE, dstOK, guardL, binR, intOp, loadR, bad, bound, lenV, srcV, Ob.read, V.plain, V.one, V.cells, fillV, setMany, zeros, TK.agg, Sub, cellRes, loadV, bindE, Nat.reduceAdd, Nat.reduceEqDiff, Nat.reduceLT, Nat.reduceLeDiff, Nat.reduceMul, Nat.reduceSub, Nat.reduceDiv, Nat.reduceMod, Nat.reduceBEq, Nat.reduceBNe, reduceIte, reduceCtorEq, Int.reduceToNat, Int.reduceLT, Int.reduceLE, Int.reduceAdd, Int.reduceSub, Int.reduceMul, Int.reduceNeg, Int.reduceEq, Int.reduceNe, D_G, D_P, List.lookup, tys, intsV_len]) ⟨selV 0 [] 1, _, rfl, .tup (.cons (.agg (.cons (.keep rfl) (.cons .e0 .nil))) (.cons (.keep rfl) .nil)), by rw [if_neg (fun hs => by have := hs.2.2.2; omega)]⟩
  have d4 : decide ((k : Int) ≤ maxL cols) = false := by simp; omega
  have hok : selOK cols k := ⟨by omega, by omega, by omega, by omega⟩
  have hcr := hcr hok
  rw [if_pos hok]
  simp -implicitDefEqProofs only [s_s, argEnv, PastOK, PendOK, sel, isE, isSp, baseOK, opR, opnd, opnds, opndL, ofConst, look, putE, dstOK, guardL, binR, intOp, loadR, bad, bound, lenV, srcV, Ob.read, V.plain, V.one, V.cells, fillV, setMany, zeros, TK.agg, Sub, cellRes, loadV, bindE, Nat.reduceAdd, Nat.reduceEqDiff, Nat.reduceLT, Nat.reduceLeDiff, Nat.reduceMul, Nat.reduceSub, Nat.reduceDiv, Nat.reduceMod, Nat.reduceBEq, Nat.reduceBNe, reduceIte, reduceCtorEq, Int.reduceToNat, Int.reduceLT, Int.reduceLE, Int.reduceAdd, Int.reduceSub, Int.reduceMul, Int.reduceNeg, Int.reduceEq, Int.reduceNe, D_G, D_P, List.lookup, tys, intsV_len, d4]
  refine WP.seed 1 (st.length + 3) [(1, .lst 1 (intsV cols)), (4, .ptr (st.length + 1) 0 0), (7, .ptr (st.length + 2) 0 0), (42, .lst 1 (R.map rowV)), (43, .int .i64 R.length), (44, .int .i64 0)] (st ++ [.cells 0 [.int .i64 S, .lst 1 (R.map rowV)], .cells 0 [.int .i64 0, .e0], .cells 0 [.int .i64 S, .slc (st.length + 3) 0 0 0 1]]) (by simp) (by decide) (by simp [SeedE, SeedV, look]) (SeedS.app (.keep (.keep (.cells (.keep (.e0 .nil)) .nil)))) ?_
  simp -implicitDefEqProofs only [s_s, argEnv, PastOK, PendOK, sel, isE, isSp, baseOK, opR, opnd, opnds, opndL, ofConst, look, putE, dstOK, guardL, binR, intOp, loadR, bad, bound, lenV, srcV, Ob.read, V.plain, V.one, V.cells, fillV, setMany, zeros, TK.agg, Sub, cellRes, loadV, bindE, Nat.reduceAdd, Nat.reduceEqDiff, Nat.reduceLT, Nat.reduceLeDiff, Nat.reduceMul, Nat.reduceSub, Nat.reduceDiv, Nat.reduceMod, Nat.reduceBEq, Nat.reduceBNe, reduceIte, reduceCtorEq, Int.reduceToNat, Int.reduceLT, Int.reduceLE, Int.reduceAdd, Int.reduceSub, Int.reduceMul, Int.reduceNeg, Int.reduceEq, Int.reduceNe, D_G, D_P, List.lookup, tys, intsV_len]
  refine WP.loopC (ι := Nat) (fun i => [(1, .lst 1 (intsV cols)), (4, .ptr (st.length + 1) 0 0), (7, .ptr (st.length + 2) 0 0), (42, .lst 1 (R.map rowV)), (43, .int .i64 R.length), (44, .int .i64 i)])
    (fun i => st ++ [.cells 0 [.int .i64 S, .lst 1 (R.map rowV)], .cells 0 [.int .i64 0, .e0], .cells 0 [.int .i64 S, .slc (st.length + 3) i 0 i 1], .acc i (((R.take i).map fun r => pick r cols).map rowV)]) (fun i => i ≤ R.length) (fun i => R.length - i) 0 (by omega) (by simp -implicitDefEqProofs only [s_s, argEnv, PastOK, PendOK, sel, isE, isSp, baseOK, opR, opnd, opnds, opndL, ofConst, look, putE, dstOK, guardL, binR, intOp, loadR, bad, bound, lenV, srcV, Ob.read, V.plain, V.one, V.cells, fillV, setMany, zeros, TK.agg, Sub, cellRes, loadV, bindE, Nat.reduceAdd, Nat.reduceEqDiff, Nat.reduceLT, Nat.reduceLeDiff, Nat.reduceMul, Nat.reduceSub, Nat.reduceDiv, Nat.reduceMod, Nat.reduceBEq, Nat.reduceBNe, reduceIte, reduceCtorEq, Int.reduceToNat, Int.reduceLT, Int.reduceLE, Int.reduceAdd, Int.reduceSub, Int.reduceMul, Int.reduceNeg, Int.reduceEq, Int.reduceNe, D_G, D_P, List.lookup, tys, intsV_len]; simp) (by simp) (fun p => by simp -implicitDefEqProofs only [s_s, argEnv, PastOK, PendOK, sel, isE, isSp, baseOK, opR, opnd, opnds, opndL, ofConst, look, putE, dstOK, guardL, binR, intOp, loadR, bad, bound, lenV, srcV, Ob.read, V.plain, V.one, V.cells, fillV, setMany, zeros, TK.agg, Sub, cellRes, loadV, bindE, Nat.reduceAdd, Nat.reduceEqDiff, Nat.reduceLT, Nat.reduceLeDiff, Nat.reduceMul, Nat.reduceSub, Nat.reduceDiv, Nat.reduceMod, Nat.reduceBEq, Nat.reduceBNe, reduceIte, reduceCtorEq, Int.reduceToNat, Int.reduceLT, Int.reduceLE, Int.reduceAdd, Int.reduceSub, Int.reduceMul, Int.reduceNeg, Int.reduceEq, Int.reduceNe, D_G, D_P, List.lookup, tys, intsV_len]) ?_
  intro i hi
  obtain ⟨RV, hRV⟩ : ∃ RV, RV = ((R.take i).map fun r => pick r cols).map rowV := ⟨_, rfl⟩
  have hRl : RV.length = i := by simp [hRV]; omega
  have hRb : ∀ m, bddL m RV = true := fun m => by rw [hRV]; exact bdd_rows _ _
  simp -implicitDefEqProofs only [s_s, argEnv, PastOK, PendOK, sel, isE, isSp, baseOK, opR, opnd, opnds, opndL, ofConst, look, putE, dstOK, guardL, binR, intOp, loadR, bad, bound, lenV, srcV, Ob.read, V.plain, V.one, V.cells, fillV, setMany, zeros, TK.agg, Sub, cellRes, loadV, bindE, Nat.reduceAdd, Nat.reduceEqDiff, Nat.reduceLT, Nat.reduceLeDiff, Nat.reduceMul, Nat.reduceSub, Nat.reduceDiv, Nat.reduceMod, Nat.reduceBEq, Nat.reduceBNe, reduceIte, reduceCtorEq, Int.reduceToNat, Int.reduceLT, Int.reduceLE, Int.reduceAdd, Int.reduceSub, Int.reduceMul, Int.reduceNeg, Int.reduceEq, Int.reduceNe, D_G, D_P, List.lookup, tys, intsV_len]
  refine Br.intro (fun hb => ?_) (fun hb => ?_)
  · have h' : i < R.length := by have := of_decide_eq_true hb; omega
    obtain ⟨r, hr⟩ : ∃ r, R[i]? = some r := ⟨_, List.getElem?_eq_getElem h'⟩
    have hvr : (R.map rowV)[i]? = some (.lst 1 (intsV r)) := by simp [hr, rowV]
    have hrk := (h.row r (List.mem_of_getElem? hr)).1
    rw [← hRV]
    simp -implicitDefEqProofs only [s_s, argEnv, PastOK, PendOK, sel, isE, isSp, baseOK, opR, opnd, opnds, opndL, ofConst, look, putE, dstOK, guardL, binR, intOp, loadR, bad, bound, lenV, srcV, Ob.read, V.plain, V.one, V.cells, fillV, setMany, zeros, TK.agg, Sub, cellRes, loadV, bindE, Nat.reduceAdd, Nat.reduceEqDiff, Nat.reduceLT, Nat.reduceLeDiff, Nat.reduceMul, Nat.reduceSub, Nat.reduceDiv, Nat.reduceMod, Nat.reduceBEq, Nat.reduceBNe, reduceIte, reduceCtorEq, Int.reduceToNat, Int.reduceLT, Int.reduceLE, Int.reduceAdd, Int.reduceSub, Int.reduceMul, Int.reduceNeg, Int.reduceEq, Int.reduceNe, D_G, D_P, List.lookup, tys, intsV_len, hvr]
    repeat (refine And.intro (by first | omega | rfl | trivial | (simp; done) | (simp; omega)) ?_)
    refine WP.seed 1 (st.length + 4) [(1, .lst 1 (intsV cols)), (4, .ptr (st.length + 1) 0 0), (7, .ptr (st.length + 2) 0 0), (42, .lst 1 (R.map rowV)), (43, .int .i64 R.length), (44, .int .i64 i), (9, .lst 1 (intsV r)), (10, .slc (st.length + 4) 0 0 0 1), (48, .lst 1 (intsV cols)), (49, .int .i64 cols.length), (50, .int .i64 0)] _ (by simp) (by decide) (by simp [SeedE, SeedV, look]) SeedS.refl ?_
    simp -implicitDefEqProofs only [s_s, argEnv, PastOK, PendOK, sel, isE, isSp, baseOK, opR, opnd, opnds, opndL, ofConst, look, putE, dstOK, guardL, binR, intOp, loadR, bad, bound, lenV, srcV, Ob.read, V.plain, V.one, V.cells, fillV, setMany, zeros, TK.agg, Sub, cellRes, loadV, bindE, Nat.reduceAdd, Nat.reduceEqDiff, Nat.reduceLT, Nat.reduceLeDiff, Nat.reduceMul, Nat.reduceSub, Nat.reduceDiv, Nat.reduceMod, Nat.reduceBEq, Nat.reduceBNe, reduceIte, reduceCtorEq, Int.reduceToNat, Int.reduceLT, Int.reduceLE, Int.reduceAdd, Int.reduceSub, Int.reduceMul, Int.reduceNeg, Int.reduceEq, Int.reduceNe, D_G, D_P, List.lookup, tys, intsV_len]
    refine WP.loopC (ι := Nat) (fun j => [(1, .lst 1 (intsV cols)), (4, .ptr (st.length + 1) 0 0), (7, .ptr (st.length + 2) 0 0), (42, .lst 1 (R.map rowV)), (43, .int .i64 R.length), (44, .int .i64 i), (9, .lst 1 (intsV r)), (10, .slc (st.length + 4) j 0 j 1), (48, .lst 1 (intsV cols)), (49, .int .i64 cols.length), (50, .int .i64 j)])
      (fun j => st ++ [.cells 0 [.int .i64 S, .lst 1 (R.map rowV)], .cells 0 [.int .i64 0, .e0], .cells 0 [.int .i64 S, .slc (st.length + 3) i 0 i 1], .acc i RV, .acc j (intsV (pick r (cols.take j)))]) (fun j => j ≤ cols.length) (fun j => cols.length - j) 0 (by omega) (by simp -implicitDefEqProofs only [s_s, argEnv, PastOK, PendOK, sel, isE, isSp, baseOK, opR, opnd, opnds, opndL, ofConst, look, putE, dstOK, guardL, binR, intOp, loadR, bad, bound, lenV, srcV, Ob.read, V.plain, V.one, V.cells, fillV, setMany, zeros, TK.agg, Sub, cellRes, loadV, bindE, Nat.reduceAdd, Nat.reduceEqDiff, Nat.reduceLT, Nat.reduceLeDiff, Nat.reduceMul, Nat.reduceSub, Nat.reduceDiv, Nat.reduceMod, Nat.reduceBEq, Nat.reduceBNe, reduceIte, reduceCtorEq, Int.reduceToNat, Int.reduceLT, Int.reduceLE, Int.reduceAdd, Int.reduceSub, Int.reduceMul, Int.reduceNeg, Int.reduceEq, Int.reduceNe, D_G, D_P, List.lookup, tys, intsV_len]; simp) (by simp [intsV, pick]) (fun p => by simp -implicitDefEqProofs only [s_s, argEnv, PastOK, PendOK, sel, isE, isSp, baseOK, opR, opnd, opnds, opndL, ofConst, look, putE, dstOK, guardL, binR, intOp, loadR, bad, bound, lenV, srcV, Ob.read, V.plain, V.one, V.cells, fillV, setMany, zeros, TK.agg, Sub, cellRes, loadV, bindE, Nat.reduceAdd, Nat.reduceEqDiff, Nat.reduceLT, Nat.reduceLeDiff, Nat.reduceMul, Nat.reduceSub, Nat.reduceDiv, Nat.reduceMod, Nat.reduceBEq, Nat.reduceBNe, reduceIte, reduceCtorEq, Int.reduceToNat, Int.reduceLT, Int.reduceLE, Int.reduceAdd, Int.reduceSub, Int.reduceMul, Int.reduceNeg, Int.reduceEq, Int.reduceNe, D_G, D_P, List.lookup, tys, intsV_len]) ?_
    intro j hj
    have hlen : (intsV (pick r (cols.take j))).length = j := by simp [intsV, pick]; omega
    simp -implicitDefEqProofs only [s_s, argEnv, PastOK, PendOK, sel, isE, isSp, baseOK, opR, opnd, opnds, opndL, ofConst, look, putE, dstOK, guardL, binR, intOp, loadR, bad, bound, lenV, srcV, Ob.read, V.plain, V.one, V.cells, fillV, setMany, zeros, TK.agg, Sub, cellRes, loadV, bindE, Nat.reduceAdd, Nat.reduceEqDiff, Nat.reduceLT, Nat.reduceLeDiff, Nat.reduceMul, Nat.reduceSub, Nat.reduceDiv, Nat.reduceMod, Nat.reduceBEq, Nat.reduceBNe, reduceIte, reduceCtorEq, Int.reduceToNat, Int.reduceLT, Int.reduceLE, Int.reduceAdd, Int.reduceSub, Int.reduceMul, Int.reduceNeg, Int.reduceEq, Int.reduceNe, D_G, D_P, List.lookup, tys, intsV_len]
    refine Br.intro (fun hb => ?_) (fun hb => ?_)
    · have hjk : j < cols.length := by have := of_decide_eq_true hb; omega
      obtain ⟨c, hcj⟩ : ∃ c, cols[j]? = some c := ⟨_, List.getElem?_eq_getElem hjk⟩
      obtain ⟨k1, k2⟩ := hcr c (List.mem_of_getElem? hcj)
      obtain ⟨c, rfl⟩ := Int.eq_ofNat_of_zero_le k1
      obtain ⟨x, hx⟩ : ∃ x, r[c]? = some x := ⟨_, List.getElem?_eq_getElem (by omega)⟩
      have v3 := wrapI (n := (j : Int) + 1) (by omega) (by omega)
      have hst : pick r (cols.take (j + 1)) = pick r (cols.take j) ++ [x] := by
        rw [List.take_add_one, hcj]; simp [pick, hx]
      simp -implicitDefEqProofs only [s_s, argEnv, PastOK, PendOK, sel, isE, isSp, baseOK, opR, opnd, opnds, opndL, ofConst, look, putE, dstOK, guardL, binR, intOp, loadR, bad, bound, lenV, srcV, Ob.read, V.plain, V.one, V.cells, fillV, setMany, zeros, TK.agg, Sub, cellRes, loadV, bindE, Nat.reduceAdd, Nat.reduceEqDiff, Nat.reduceLT, Nat.reduceLeDiff, Nat.reduceMul, Nat.reduceSub, Nat.reduceDiv, Nat.reduceMod, Nat.reduceBEq, Nat.reduceBNe, reduceIte, reduceCtorEq, Int.reduceToNat, Int.reduceLT, Int.reduceLE, Int.reduceAdd, Int.reduceSub, Int.reduceMul, Int.reduceNeg, Int.reduceEq, Int.reduceNe, D_G, D_P, List.lookup, tys, intsV_len, intsV_get hcj, intsV_get hx, v3, hlen]
      repeat (refine And.intro (by first | omega | rfl | trivial | (simp; done) | (simp; omega)) ?_)
      refine Kc.next (j + 1) (by omega) (by omega) (st ++ [.cells 0 [.int .i64 S, .lst 1 (R.map rowV)], .cells 0 [.int .i64 0, .e0], .cells 0 [.int .i64 S, .slc (st.length + 3) i 0 i 1], .acc i RV, .acc (j + 1) (intsV (pick r (cols.take (j + 1))))]) [.cells 0 [.int .i64 x]] (by simp [hst, intsV]) (by simp) ?_ ?_
      · exact StConv.base hB (by simp) (.cons (.keep (by simp [Ob.bdd, bddL, V.bdd, bdd_rows])) (.cons (.keep rfl) (.cons (.keep (by simp [Ob.bdd, bddL, V.bdd])) (.cons (.keep (hRb _)) (.cons (.keep (bdd_ints _ _)) .nil)))))
      · refine EnvC.of_sub ?_ ?_
        · simp -implicitDefEqProofs only [s_s, argEnv, PastOK, PendOK, sel, isE, isSp, baseOK, opR, opnd, opnds, opndL, ofConst, look, putE, dstOK, guardL, binR, intOp, loadR, bad, bound, lenV, srcV, Ob.read, V.plain, V.one, V.cells, fillV, setMany, zeros, TK.agg, Sub, cellRes, loadV, bindE, Nat.reduceAdd, Nat.reduceEqDiff, Nat.reduceLT, Nat.reduceLeDiff, Nat.reduceMul, Nat.reduceSub, Nat.reduceDiv, Nat.reduceMod, Nat.reduceBEq, Nat.reduceBNe, reduceIte, reduceCtorEq, Int.reduceToNat, Int.reduceLT, Int.reduceLE, Int.reduceAdd, Int.reduceSub, Int.reduceMul, Int.reduceNeg, Int.reduceEq, Int.reduceNe, D_G, D_P, List.lookup, tys, intsV_len]
          try simp
        · simp [bddE, V.bdd, bdd_ints, bdd_rows]
    · have hjk : j = cols.length := by have := of_decide_eq_false hb; omega
      have w2 := wrapI (n := (i : Int) + 1) (by omega) (by omega)
      have hrow : cols.take j = cols := by rw [hjk]; simp
      rw [hrow]
      rw [hrow] at hlen
      simp -implicitDefEqProofs only [s_s, argEnv, PastOK, PendOK, sel, isE, isSp, baseOK, opR, opnd, opnds, opndL, ofConst, look, putE, dstOK, guardL, binR, intOp, loadR, bad, bound, lenV, srcV, Ob.read, V.plain, V.one, V.cells, fillV, setMany, zeros, TK.agg, Sub, cellRes, loadV, bindE, Nat.reduceAdd, Nat.reduceEqDiff, Nat.reduceLT, Nat.reduceLeDiff, Nat.reduceMul, Nat.reduceSub, Nat.reduceDiv, Nat.reduceMod, Nat.reduceBEq, Nat.reduceBNe, reduceIte, reduceCtorEq, Int.reduceToNat, Int.reduceLT, Int.reduceLE, Int.reduceAdd, Int.reduceSub, Int.reduceMul, Int.reduceNeg, Int.reduceEq, Int.reduceNe, D_G, D_P, List.lookup, tys, intsV_len, w2, hRl]
      repeat (refine And.intro (by first | omega | rfl | trivial | (simp; done) | (simp; omega)) ?_)
      refine Kc.next (i + 1) (by omega) (by omega) (st ++ [.cells 0 [.int .i64 S, .lst 1 (R.map rowV)], .cells 0 [.int .i64 0, .e0], .cells 0 [.int .i64 S, .slc (st.length + 3) (i + 1) 0 (i + 1) 1], .acc (i + 1) (RV ++ [.slc (st.length + 4) j 0 j 1])]) [.acc j (intsV (pick r cols)), .cells 0 [.slc (st.length + 4) j 0 j 1]] (by simp) (by simp) ?_ ?_
      · simp only [List.take_add_one, hr, Option.toList_some, List.map_append, List.map_cons, List.map_nil, ← hRV]
        exact StConv.base hB (by simp) (.cons (.keep (by simp [Ob.bdd, bddL, V.bdd, bdd_rows])) (.cons (.keep rfl) (.cons (.keep (by simp [Ob.bdd, bddL, V.bdd])) (.cons (.acc (ConvL.snoc (hRb _) (Conv.row (by simp) (ob := .acc j (intsV (pick r cols))) (by simp) (by simp [Ob.read]) (by simpa [intsV] using hlen.symm)))) .nil))))
      · refine EnvC.of_sub ?_ ?_
        · simp -implicitDefEqProofs only [s_s, argEnv, PastOK, PendOK, sel, isE, isSp, baseOK, opR, opnd, opnds, opndL, ofConst, look, putE, dstOK, guardL, binR, intOp, loadR, bad, bound, lenV, srcV, Ob.read, V.plain, V.one, V.cells, fillV, setMany, zeros, TK.agg, Sub, cellRes, loadV, bindE, Nat.reduceAdd, Nat.reduceEqDiff, Nat.reduceLT, Nat.reduceLeDiff, Nat.reduceMul, Nat.reduceSub, Nat.reduceDiv, Nat.reduceMod, Nat.reduceBEq, Nat.reduceBNe, reduceIte, reduceCtorEq, Int.reduceToNat, Int.reduceLT, Int.reduceLE, Int.reduceAdd, Int.reduceSub, Int.reduceMul, Int.reduceNeg, Int.reduceEq, Int.reduceNe, D_G, D_P, List.lookup, tys, intsV_len]
          try simp
        · simp [bddE, V.bdd, bdd_ints, bdd_rows]
  · have h' : i = R.length := by have := of_decide_eq_false hb; omega
    rw [h', List.take_length]
    simp -implicitDefEqProofs only [s_s, argEnv, PastOK, PendOK, sel, isE, isSp, baseOK, opR, opnd, opnds, opndL, ofConst, look, putE, dstOK, guardL, binR, intOp, loadR, bad, bound, lenV, srcV, Ob.read, V.plain, V.one, V.cells, fillV, setMany, zeros, TK.agg, Sub, cellRes, loadV, bindE, Nat.reduceAdd, Nat.reduceEqDiff, Nat.reduceLT, Nat.reduceLeDiff, Nat.reduceMul, Nat.reduceSub, Nat.reduceDiv, Nat.reduceMod, Nat.reduceBEq, Nat.reduceBNe, reduceIte, reduceCtorEq, Int.reduceToNat, Int.reduceLT, Int.reduceLE, Int.reduceAdd, Int.reduceSub, Int.reduceMul, Int.reduceNeg, Int.reduceEq, Int.reduceNe, D_G, D_P, List.lookup, tys, intsV_len]
    refine Post.rct (v := .agg [.int .i64 S, .slc (st.length + 3) R.length 0 R.length 1]) (x := .int .i64 0) (by simp -implicitDefEqProofs only [s_s, argEnv, PastOK, PendOK, sel, isE, isSp, baseOK, opR, opnd, opnds, opndL, ofConst, look, putE, dstOK, guardL, binR, intOp, loadR, bad, bound, lenV, srcV, Ob.read, V.plain, V.one, V.cells, fillV, setMany, zeros, TK.agg, Sub, cellRes, loadV, bindE, Nat.reduceAdd, Nat.reduceEqDiff, Nat.reduceLT, Nat.reduceLeDiff, Nat.reduceMul, Nat.reduceSub, Nat.reduceDiv, Nat.reduceMod, Nat.reduceBEq, Nat.reduceBNe, reduceIte, reduceCtorEq, Int.reduceToNat, Int.reduceLT, Int.reduceLE, Int.reduceAdd, Int.reduceSub, Int.reduceMul, Int.reduceNeg, Int.reduceEq, Int.reduceNe, D_G, D_P, List.lookup, tys, intsV_len]) (by simp -implicitDefEqProofs only [s_s, argEnv, PastOK, PendOK, sel, isE, isSp, baseOK, opR, opnd, opnds, opndL, ofConst, look, putE, dstOK, guardL, binR, intOp, loadR, bad, bound, lenV, srcV, Ob.read, V.plain, V.one, V.cells, fillV, setMany, zeros, TK.agg, Sub, cellRes, loadV, bindE, Nat.reduceAdd, Nat.reduceEqDiff, Nat.reduceLT, Nat.reduceLeDiff, Nat.reduceMul, Nat.reduceSub, Nat.reduceDiv, Nat.reduceMod, Nat.reduceBEq, Nat.reduceBNe, reduceIte, reduceCtorEq, Int.reduceToNat, Int.reduceLT, Int.reduceLE, Int.reduceAdd, Int.reduceSub, Int.reduceMul, Int.reduceNeg, Int.reduceEq, Int.reduceNe, D_G, D_P, List.lookup, tys, intsV_len]) ⟨selV S (R.map fun r => pick r cols) 0, _, rfl, ?_, rfl⟩
    exact .tup (.cons (.agg (.cons (.keep rfl) (.cons (Conv.whole (by simp) (ob := .acc R.length ((R.map fun r => pick r cols).map rowV)) (by simp) (by simp [Ob.read]) (by simp) (bdd_rows _ _)) .nil))) (.cons (.keep rfl) .nil))

theorem selected_spec (S : Nat) (R : List (List Int)) (k : Nat) (h : ArrOK S R k) (cols : List Int) (hc : cols.length < 1000) (hcr : selOK cols k → ∀ c ∈ cols, 0 ≤ c ∧ c < k) (st : St) :
    VCall D 16 [arrV S R, rowV cols] st (fun r st' => r = (if selOK cols k then gotV S (R.map fun r => pick r cols) 0 else gotV 0 [] 1) ∧ st' = st) := by
  refine VCall.clean ?_
  refine VCall.of_WP (fn := Tryd.f16) (c := _) Tryd.func16 rfl (by decide +kernel) (Nat.le_of_ble_eq_true rfl) ?_
  refine wpF_sound ?_
  simp -implicitDefEqProofs only [s_s, argEnv, PastOK, PendOK, sel, isE, isSp, baseOK, opR, opnd, opnds, opndL, ofConst, look, putE, dstOK, guardL, binR, intOp, loadR, bad, bound, lenV, srcV, Ob.read, V.plain, V.one, V.cells, fillV, setMany, zeros, TK.agg, Sub, cellRes, loadV, bindE, Nat.reduceAdd, Nat.reduceEqDiff, Nat.reduceLT, Nat.reduceLeDiff, Nat.reduceMul, Nat.reduceSub, Nat.reduceDiv, Nat.reduceMod, Nat.reduceBEq, Nat.reduceBNe, reduceIte, reduceCtorEq, Int.reduceToNat, Int.reduceLT, Int.reduceLE, Int.reduceAdd, Int.reduceSub, Int.reduceMul, Int.reduceNeg, Int.reduceEq, Int.reduceNe, D_G, D_P, List.lookup, tys, intsV_len, Tryd.ntmps16, Tryd.f16, arrV]
  have hsel := Select_spec S R k h cols hc hcr (st ++ [.cells 0 [.int .i64 S, .lst 1 (R.map rowV)], .cells 0 [.int .i64 0, .e0, .int .i64 0]])
  by_cases hok : selOK cols k
  · rw [if_pos hok] at hsel ⊢
    refine Sp.call rfl rfl (hsel.mono ?_)
    rintro r st' ⟨rfl, rfl⟩
    simp -implicitDefEqProofs only [s_s, argEnv, PastOK, PendOK, sel, isE, isSp, baseOK, opR, opnd, opnds, opndL, ofConst, look, putE, dstOK, guardL, binR, intOp, loadR, bad, bound, lenV, srcV, Ob.read, V.plain, V.one, V.cells, fillV, setMany, zeros, TK.agg, Sub, cellRes, loadV, bindE, Nat.reduceAdd, Nat.reduceEqDiff, Nat.reduceLT, Nat.reduceLeDiff, Nat.reduceMul, Nat.reduceSub, Nat.reduceDiv, Nat.reduceMod, Nat.reduceBEq, Nat.reduceBNe, reduceIte, reduceCtorEq, Int.reduceToNat, Int.reduceLT, Int.reduceLE, Int.reduceAdd, Int.reduceSub, Int.reduceMul, Int.reduceNeg, Int.reduceEq, Int.reduceNe, D_G, D_P, List.lookup, tys, intsV_len, selV, gotV, arrV]
    refine Post.rc (v := gotV S (R.map fun r => pick r cols) 0) (by simp -implicitDefEqProofs only [s_s, argEnv, PastOK, PendOK, sel, isE, isSp, baseOK, opR, opnd, opnds, opndL, ofConst, look, putE, dstOK, guardL, binR, intOp, loadR, bad, bound, lenV, srcV, Ob.read, V.plain, V.one, V.cells, fillV, setMany, zeros, TK.agg, Sub, cellRes, loadV, bindE, Nat.reduceAdd, Nat.reduceEqDiff, Nat.reduceLT, Nat.reduceLeDiff, Nat.reduceMul, Nat.reduceSub, Nat.reduceDiv, Nat.reduceMod, Nat.reduceBEq, Nat.reduceBNe, reduceIte, reduceCtorEq, Int.reduceToNat, Int.reduceLT, Int.reduceLE, Int.reduceAdd, Int.reduceSub, Int.reduceMul, Int.reduceNeg, Int.reduceEq, Int.reduceNe, D_G, D_P, List.lookup, tys, intsV_len, gotV]) ⟨gotV S (R.map fun r => pick r cols) 0, _, rfl, .keep (by simp only [gotV, V.bdd, bddL, bdd_rows, Bool.true_and, Bool.and_self]), rfl⟩
  · rw [if_neg hok] at hsel ⊢
    refine Sp.call rfl rfl (hsel.mono ?_)
    rintro r st' ⟨rfl, rfl⟩
    simp -implicitDefEqProofs only [s_s, argEnv, PastOK, PendOK, sel, isE, isSp, baseOK, opR, opnd, opnds, opndL, ofConst, look, putE, dstOK, guardL, binR, intOp, loadR, bad, bound, lenV, srcV, Ob.read, V.plain, V.one, V.cells, fillV, setMany, zeros, TK.agg, Sub, cellRes, loadV, bindE, Nat.reduceAdd, Nat.reduceEqDiff, Nat.reduceLT, Nat.reduceLeDiff, Nat.reduceMul, Nat.reduceSub, Nat.reduceDiv, Nat.reduceMod, Nat.reduceBEq, Nat.reduceBNe, reduceIte, reduceCtorEq, Int.reduceToNat, Int.reduceLT, Int.reduceLE, Int.reduceAdd, Int.reduceSub, Int.reduceMul, Int.reduceNeg, Int.reduceEq, Int.reduceNe, D_G, D_P, List.lookup, tys, intsV_len, selV, gotV, arrV]
    exact Post.rc (v := gotV 0 [] 1) (by simp -implicitDefEqProofs only [s_s, argEnv, PastOK, PendOK, sel, isE, isSp, baseOK, opR, opnd, opnds, opndL, ofConst, look, putE, dstOK, guardL, binR, intOp, loadR, bad, bound, lenV, srcV, Ob.read, V.plain, V.one, V.cells, fillV, setMany, zeros, TK.agg, Sub, cellRes, loadV, bindE, Nat.reduceAdd, Nat.reduceEqDiff, Nat.reduceLT, Nat.reduceLeDiff, Nat.reduceMul, Nat.reduceSub, Nat.reduceDiv, Nat.reduceMod, Nat.reduceBEq, Nat.reduceBNe, reduceIte, reduceCtorEq, Int.reduceToNat, Int.reduceLT, Int.reduceLE, Int.reduceAdd, Int.reduceSub, Int.reduceMul, Int.reduceNeg, Int.reduceEq, Int.reduceNe, D_G, D_P, List.lookup, tys, intsV_len, gotV]) ⟨gotV 0 [] 1, _, rfl, .keep rfl, rfl⟩
end Go.VL
end

