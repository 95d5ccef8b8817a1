/- This text proves contracts of validity, unrolling, words, tapes and labels. No condition but those that each theorem states. -/
import Derived.Test.YtpenfogoolkaeaaWb
set_option linter.unusedSimpArgs false
set_option linter.unusedVariables false
set_option maxHeartbeats 4000000
namespace GV
open Go
abbrev bD (b : Bool) : D := .v (.bool b)
theorem reg_ok (x : Int) : CallOk Go.Proofs.Try.prog gl0 118 [.c (iD x)] ⟨[.c (bD (decide (GC.isReg x)))], []⟩ := by
  refine okFn (fn := Go.Proofs.Try.f118) [.tmp 2] 1 5 (by kernel_rfl) (by kernel_rfl) rfl (by kernel_rfl) (by decide) rfl rfl rfl ?_
  simp (config := { maxSteps := 1000000 }) only [push_cast, ↓reduceIte, ↓normL_data, ↓frzL_data, Nat.reduceEqDiff, Nat.reduceLT, reduceCtorEq, Nat.reduceAdd, Nat.reduceMul, Nat.reduceDiv, Nat.reduceMod, Nat.reduceSub, Nat.reduceLeDiff, Nat.reduceBEq, Int.reduceLE, Int.reduceLT, Int.reduceToNat, Int.reduceAdd, Int.reduceSub, Int.reduceMul, Int.reduceEq, Int.reduceBEq, Int.reduceNeg, Int.reduceGT, Int.natCast_pos]
  refine vcall_by false (in_ok x 0 7) ?_
  simp (config := { maxSteps := 1000000 }) only [push_cast, ↓reduceIte, ↓normL_data, ↓frzL_data, Nat.reduceEqDiff, Nat.reduceLT, reduceCtorEq, Nat.reduceAdd, Nat.reduceMul, Nat.reduceDiv, Nat.reduceMod, Nat.reduceSub, Nat.reduceLeDiff, Nat.reduceBEq, Int.reduceLE, Int.reduceLT, Int.reduceToNat, Int.reduceAdd, Int.reduceSub, Int.reduceMul, Int.reduceEq, Int.reduceBEq, Int.reduceNeg, Int.reduceGT, Int.natCast_pos]
  rfl
theorem okSt_plain {s : GC.St} (h : GC.okSt s) : plainM s = s := by
  obtain ⟨op, dst, a, b, c, n⟩ := s
  unfold GC.okSt at h
  unfold plainM
  simp only at *
  repeat' split at h
  all_goals simp_all
theorem okSt_iff (s : GC.St) : GC.okSt s ↔ s = plainM s ∧ GC.isReg s.dst ∧ GC.isReg s.a ∧ GC.isReg s.b ∧ GC.isReg s.c ∧ (if s.op = 1 then 0 ≤ s.n ∧ s.n ≤ 15 else if s.op = 2 then s.a < 5 ∧ 0 ≤ s.n ∧ s.n ≤ 3 else if s.op = 12 then 1 ≤ s.n ∧ s.n ≤ 8 else 3 ≤ s.op ∧ s.op ≤ 13) := by
  obtain ⟨op, dst, a, b, c, n⟩ := s
  constructor
  · intro h
    refine ⟨(okSt_plain h).symm, ?_⟩
    unfold GC.okSt at h
    unfold GC.isReg at *
    simp only at *
    repeat' split at h
    all_goals simp_all
    all_goals try omega
  · rintro ⟨h, h1, h2, h3, h4, h5⟩
    unfold plainM at h
    unfold GC.okSt
    unfold GC.isReg at *
    simp only at *
    by_cases e1 : op = 1
    · simp_all
    by_cases e2 : op = 2
    · simp_all; omega
    by_cases e3 : 3 ≤ op ∧ op ≤ 9
    · simp_all
    by_cases e4 : op = 10
    · simp_all
    by_cases e5 : op = 11
    · simp_all
    by_cases e6 : op = 12
    · simp_all
    · simp_all; omega
set_option maxRecDepth 100000 in
theorem stmtOk_ok (s : GC.St) : CallOk Go.Proofs.Try.prog gl0 96 [.ag (sE s)] ⟨[.c (bD (decide (GC.okSt s)))], []⟩ := by
  have hc := plain_ok s
  have hiff := okSt_iff s
  obtain ⟨op, dst, a, b, c, n⟩ := s
  have hb : decide (GC.okSt ⟨op, dst, a, b, c, n⟩) = @decide _ (Classical.propDecidable _) := (@decide_eq_decide _ _ _ (Classical.propDecidable _)).2 hiff
  rw [hb]
  simp only
  clear hb hiff
  generalize plainM ⟨op, dst, a, b, c, n⟩ = s' at *
  obtain ⟨op', dst', a', b', c', n'⟩ := s'
  have he : ((⟨op, dst, a, b, c, n⟩ : GC.St) = ⟨op', dst', a', b', c', n'⟩) = ([op, dst, a, b, c, n] = [op', dst', a', b', c', n']) := by simp
  rw [he]
  clear he
  refine okFn (fn := Go.Proofs.Try.f96) [.tmp 2] 1 56 (by kernel_rfl) (by kernel_rfl) rfl (by kernel_rfl) (by decide) rfl rfl rfl ?_
  simp (config := { maxSteps := 1000000 }) only [push_cast, ↓reduceIte, ↓normL_data, ↓frzL_data, Nat.reduceEqDiff, Nat.reduceLT, reduceCtorEq, Nat.reduceAdd, Nat.reduceMul, Nat.reduceDiv, Nat.reduceMod, Nat.reduceSub, Nat.reduceLeDiff, Nat.reduceBEq, Int.reduceLE, Int.reduceLT, Int.reduceToNat, Int.reduceAdd, Int.reduceSub, Int.reduceMul, Int.reduceEq, Int.reduceBEq, Int.reduceNeg, Int.reduceGT, Int.natCast_pos, sE]
  refine VD.plan tab_ok (by kernel_rfl) [] (.takes [0, 1] (.one 2 (.takes [3, 4, 5] (.one 6 (.one 7 (.takes [8, 9, 10, 11] (.one 12 (.one 13 (.takes [14, 15, 16, 17] (.one 18 (.one 19 (.takes [20, 21, 22, 23] (.one 24 (.one 25 (.takes [26, 27] (.done)))))))))))))))) (by kernel_rfl) ?_
  simp (config := { maxSteps := 1000000 }) only [push_cast, ↓reduceIte, ↓normL_data, ↓frzL_data, Nat.reduceEqDiff, Nat.reduceLT, reduceCtorEq, Nat.reduceAdd, Nat.reduceMul, Nat.reduceDiv, Nat.reduceMod, Nat.reduceSub, Nat.reduceLeDiff, Nat.reduceBEq, Int.reduceLE, Int.reduceLT, Int.reduceToNat, Int.reduceAdd, Int.reduceSub, Int.reduceMul, Int.reduceEq, Int.reduceBEq, Int.reduceNeg, Int.reduceGT, Int.natCast_pos]
  refine vcall_by false hc ?_
  by_cases hp : [op, dst, a, b, c, n] = [op', dst', a', b', c', n']
  · simp (config := { maxSteps := 1000000 }) only [push_cast, ↓reduceIte, ↓normL_data, ↓frzL_data, Nat.reduceEqDiff, Nat.reduceLT, reduceCtorEq, Nat.reduceAdd, Nat.reduceMul, Nat.reduceDiv, Nat.reduceMod, Nat.reduceSub, Nat.reduceLeDiff, Nat.reduceBEq, Int.reduceLE, Int.reduceLT, Int.reduceToNat, Int.reduceAdd, Int.reduceSub, Int.reduceMul, Int.reduceEq, Int.reduceBEq, Int.reduceNeg, Int.reduceGT, Int.natCast_pos, sE, hp]
    refine vcall_by false (reg_ok dst) ?_
    by_cases r1 : GC.isReg dst
    · simp (config := { maxSteps := 1000000 }) only [push_cast, ↓reduceIte, ↓normL_data, ↓frzL_data, Nat.reduceEqDiff, Nat.reduceLT, reduceCtorEq, Nat.reduceAdd, Nat.reduceMul, Nat.reduceDiv, Nat.reduceMod, Nat.reduceSub, Nat.reduceLeDiff, Nat.reduceBEq, Int.reduceLE, Int.reduceLT, Int.reduceToNat, Int.reduceAdd, Int.reduceSub, Int.reduceMul, Int.reduceEq, Int.reduceBEq, Int.reduceNeg, Int.reduceGT, Int.natCast_pos, r1]
      refine vcall_by false (reg_ok a) ?_
      by_cases r2 : GC.isReg a
      · simp (config := { maxSteps := 1000000 }) only [push_cast, ↓reduceIte, ↓normL_data, ↓frzL_data, Nat.reduceEqDiff, Nat.reduceLT, reduceCtorEq, Nat.reduceAdd, Nat.reduceMul, Nat.reduceDiv, Nat.reduceMod, Nat.reduceSub, Nat.reduceLeDiff, Nat.reduceBEq, Int.reduceLE, Int.reduceLT, Int.reduceToNat, Int.reduceAdd, Int.reduceSub, Int.reduceMul, Int.reduceEq, Int.reduceBEq, Int.reduceNeg, Int.reduceGT, Int.natCast_pos, r2]
        refine vcall_by false (reg_ok b) ?_
        by_cases r3 : GC.isReg b
        · simp (config := { maxSteps := 1000000 }) only [push_cast, ↓reduceIte, ↓normL_data, ↓frzL_data, Nat.reduceEqDiff, Nat.reduceLT, reduceCtorEq, Nat.reduceAdd, Nat.reduceMul, Nat.reduceDiv, Nat.reduceMod, Nat.reduceSub, Nat.reduceLeDiff, Nat.reduceBEq, Int.reduceLE, Int.reduceLT, Int.reduceToNat, Int.reduceAdd, Int.reduceSub, Int.reduceMul, Int.reduceEq, Int.reduceBEq, Int.reduceNeg, Int.reduceGT, Int.natCast_pos, r3]
          refine vcall_by false (reg_ok c) ?_
          by_cases r4 : GC.isReg c
          · by_cases e1 : op = 1
            · subst e1
              simp (config := { maxSteps := 1000000 }) only [push_cast, ↓reduceIte, ↓normL_data, ↓frzL_data, Nat.reduceEqDiff, Nat.reduceLT, reduceCtorEq, Nat.reduceAdd, Nat.reduceMul, Nat.reduceDiv, Nat.reduceMod, Nat.reduceSub, Nat.reduceLeDiff, Nat.reduceBEq, Int.reduceLE, Int.reduceLT, Int.reduceToNat, Int.reduceAdd, Int.reduceSub, Int.reduceMul, Int.reduceEq, Int.reduceBEq, Int.reduceNeg, Int.reduceGT, Int.natCast_pos, r4]
              refine vcall_by false (in_ok n 0 15) ?_
              simp (config := { maxSteps := 1000000 }) only [push_cast, ↓reduceIte, ↓normL_data, ↓frzL_data, Nat.reduceEqDiff, Nat.reduceLT, reduceCtorEq, Nat.reduceAdd, Nat.reduceMul, Nat.reduceDiv, Nat.reduceMod, Nat.reduceSub, Nat.reduceLeDiff, Nat.reduceBEq, Int.reduceLE, Int.reduceLT, Int.reduceToNat, Int.reduceAdd, Int.reduceSub, Int.reduceMul, Int.reduceEq, Int.reduceBEq, Int.reduceNeg, Int.reduceGT, Int.natCast_pos, hp, r1, r2, r3, r4]
            by_cases e2 : op = 2
            · subst e2
              by_cases e3 : a < 5
              · simp (config := { maxSteps := 1000000 }) only [push_cast, ↓reduceIte, ↓normL_data, ↓frzL_data, Nat.reduceEqDiff, Nat.reduceLT, reduceCtorEq, Nat.reduceAdd, Nat.reduceMul, Nat.reduceDiv, Nat.reduceMod, Nat.reduceSub, Nat.reduceLeDiff, Nat.reduceBEq, Int.reduceLE, Int.reduceLT, Int.reduceToNat, Int.reduceAdd, Int.reduceSub, Int.reduceMul, Int.reduceEq, Int.reduceBEq, Int.reduceNeg, Int.reduceGT, Int.natCast_pos, r4, e3]
                refine vcall_by false (in_ok n 0 3) ?_
                simp (config := { maxSteps := 1000000 }) only [push_cast, ↓reduceIte, ↓normL_data, ↓frzL_data, Nat.reduceEqDiff, Nat.reduceLT, reduceCtorEq, Nat.reduceAdd, Nat.reduceMul, Nat.reduceDiv, Nat.reduceMod, Nat.reduceSub, Nat.reduceLeDiff, Nat.reduceBEq, Int.reduceLE, Int.reduceLT, Int.reduceToNat, Int.reduceAdd, Int.reduceSub, Int.reduceMul, Int.reduceEq, Int.reduceBEq, Int.reduceNeg, Int.reduceGT, Int.natCast_pos, hp, r1, r2, r3, r4, e3]
              · simp (config := { maxSteps := 1000000 }) only [push_cast, ↓reduceIte, ↓normL_data, ↓frzL_data, Nat.reduceEqDiff, Nat.reduceLT, reduceCtorEq, Nat.reduceAdd, Nat.reduceMul, Nat.reduceDiv, Nat.reduceMod, Nat.reduceSub, Nat.reduceLeDiff, Nat.reduceBEq, Int.reduceLE, Int.reduceLT, Int.reduceToNat, Int.reduceAdd, Int.reduceSub, Int.reduceMul, Int.reduceEq, Int.reduceBEq, Int.reduceNeg, Int.reduceGT, Int.natCast_pos, r4, e3, hp, r1, r2, r3]
            by_cases e3 : op = 12
            · subst e3
              simp (config := { maxSteps := 1000000 }) only [push_cast, ↓reduceIte, ↓normL_data, ↓frzL_data, Nat.reduceEqDiff, Nat.reduceLT, reduceCtorEq, Nat.reduceAdd, Nat.reduceMul, Nat.reduceDiv, Nat.reduceMod, Nat.reduceSub, Nat.reduceLeDiff, Nat.reduceBEq, Int.reduceLE, Int.reduceLT, Int.reduceToNat, Int.reduceAdd, Int.reduceSub, Int.reduceMul, Int.reduceEq, Int.reduceBEq, Int.reduceNeg, Int.reduceGT, Int.natCast_pos, r4]
              refine vcall_by false (in_ok n 1 8) ?_
              simp (config := { maxSteps := 1000000 }) only [push_cast, ↓reduceIte, ↓normL_data, ↓frzL_data, Nat.reduceEqDiff, Nat.reduceLT, reduceCtorEq, Nat.reduceAdd, Nat.reduceMul, Nat.reduceDiv, Nat.reduceMod, Nat.reduceSub, Nat.reduceLeDiff, Nat.reduceBEq, Int.reduceLE, Int.reduceLT, Int.reduceToNat, Int.reduceAdd, Int.reduceSub, Int.reduceMul, Int.reduceEq, Int.reduceBEq, Int.reduceNeg, Int.reduceGT, Int.natCast_pos, hp, r1, r2, r3, r4]
            simp (config := { maxSteps := 1000000 }) only [push_cast, ↓reduceIte, ↓normL_data, ↓frzL_data, Nat.reduceEqDiff, Nat.reduceLT, reduceCtorEq, Nat.reduceAdd, Nat.reduceMul, Nat.reduceDiv, Nat.reduceMod, Nat.reduceSub, Nat.reduceLeDiff, Nat.reduceBEq, Int.reduceLE, Int.reduceLT, Int.reduceToNat, Int.reduceAdd, Int.reduceSub, Int.reduceMul, Int.reduceEq, Int.reduceBEq, Int.reduceNeg, Int.reduceGT, Int.natCast_pos, r4, e1, e2, e3]
            refine vcall_by false (in_ok op 3 13) ?_
            simp (config := { maxSteps := 1000000 }) only [push_cast, ↓reduceIte, ↓normL_data, ↓frzL_data, Nat.reduceEqDiff, Nat.reduceLT, reduceCtorEq, Nat.reduceAdd, Nat.reduceMul, Nat.reduceDiv, Nat.reduceMod, Nat.reduceSub, Nat.reduceLeDiff, Nat.reduceBEq, Int.reduceLE, Int.reduceLT, Int.reduceToNat, Int.reduceAdd, Int.reduceSub, Int.reduceMul, Int.reduceEq, Int.reduceBEq, Int.reduceNeg, Int.reduceGT, Int.natCast_pos, hp, r1, r2, r3, r4, e1, e2, e3]
          · simp (config := { maxSteps := 1000000 }) only [push_cast, ↓reduceIte, ↓normL_data, ↓frzL_data, Nat.reduceEqDiff, Nat.reduceLT, reduceCtorEq, Nat.reduceAdd, Nat.reduceMul, Nat.reduceDiv, Nat.reduceMod, Nat.reduceSub, Nat.reduceLeDiff, Nat.reduceBEq, Int.reduceLE, Int.reduceLT, Int.reduceToNat, Int.reduceAdd, Int.reduceSub, Int.reduceMul, Int.reduceEq, Int.reduceBEq, Int.reduceNeg, Int.reduceGT, Int.natCast_pos, r4]
        · simp (config := { maxSteps := 1000000 }) only [push_cast, ↓reduceIte, ↓normL_data, ↓frzL_data, Nat.reduceEqDiff, Nat.reduceLT, reduceCtorEq, Nat.reduceAdd, Nat.reduceMul, Nat.reduceDiv, Nat.reduceMod, Nat.reduceSub, Nat.reduceLeDiff, Nat.reduceBEq, Int.reduceLE, Int.reduceLT, Int.reduceToNat, Int.reduceAdd, Int.reduceSub, Int.reduceMul, Int.reduceEq, Int.reduceBEq, Int.reduceNeg, Int.reduceGT, Int.natCast_pos, r3]
      · simp (config := { maxSteps := 1000000 }) only [push_cast, ↓reduceIte, ↓normL_data, ↓frzL_data, Nat.reduceEqDiff, Nat.reduceLT, reduceCtorEq, Nat.reduceAdd, Nat.reduceMul, Nat.reduceDiv, Nat.reduceMod, Nat.reduceSub, Nat.reduceLeDiff, Nat.reduceBEq, Int.reduceLE, Int.reduceLT, Int.reduceToNat, Int.reduceAdd, Int.reduceSub, Int.reduceMul, Int.reduceEq, Int.reduceBEq, Int.reduceNeg, Int.reduceGT, Int.natCast_pos, r2]
    · simp (config := { maxSteps := 1000000 }) only [push_cast, ↓reduceIte, ↓normL_data, ↓frzL_data, Nat.reduceEqDiff, Nat.reduceLT, reduceCtorEq, Nat.reduceAdd, Nat.reduceMul, Nat.reduceDiv, Nat.reduceMod, Nat.reduceSub, Nat.reduceLeDiff, Nat.reduceBEq, Int.reduceLE, Int.reduceLT, Int.reduceToNat, Int.reduceAdd, Int.reduceSub, Int.reduceMul, Int.reduceEq, Int.reduceBEq, Int.reduceNeg, Int.reduceGT, Int.natCast_pos, r1]
  · simp (config := { maxSteps := 1000000 }) only [push_cast, ↓reduceIte, ↓normL_data, ↓frzL_data, Nat.reduceEqDiff, Nat.reduceLT, reduceCtorEq, Nat.reduceAdd, Nat.reduceMul, Nat.reduceDiv, Nat.reduceMod, Nat.reduceSub, Nat.reduceLeDiff, Nat.reduceBEq, Int.reduceLE, Int.reduceLT, Int.reduceToNat, Int.reduceAdd, Int.reduceSub, Int.reduceMul, Int.reduceEq, Int.reduceBEq, Int.reduceNeg, Int.reduceGT, Int.natCast_pos, sE, hp]
end GV

set_option linter.unusedSimpArgs false
set_option linter.unusedVariables false
set_option maxHeartbeats 4000000
namespace GV
open Go
theorem ss_get (l : List GC.St) (k : Nat) (s : GC.St) (h : k < l.length) (e : l.getD k dS = s) : (ssE l).getD k [] = sE s := by rw [ssE_get l k h, e]
theorem ss_drop (l : List GC.St) (i : Nat) (h : i < l.length) : l.drop i = l.getD i dS :: l.drop (i + 1) := by
  rw [List.drop_eq_getElem_cons h, List.getD_eq_getElem?_getD, List.getElem?_eq_getElem h]; rfl
def pRest (l : List GC.St) (i : Nat) (d : Int) : Prop := (∀ x ∈ l.drop i, GC.okSt x) ∧ GC.depOk d (l.drop i) ∧ l.length ≤ 40
theorem pRest_step {l : List GC.St} {i : Nat} {d : Int} (h : i < l.length) (s : GC.St) (e : l.getD i dS = s) : pRest l i d ↔ GC.okSt s ∧ (0 ≤ d + GC.depS s ∧ d + GC.depS s ≤ 3) ∧ pRest l (i + 1) (d + GC.depS s) := by
  unfold pRest
  rw [ss_drop l i h, e]
  simp only [List.mem_cons, forall_eq_or_imp, GC.depOk]
  constructor
  · rintro ⟨⟨h1, h2⟩, ⟨h3, h4⟩, h5⟩; exact ⟨h1, h3, h2, h4, h5⟩
  · rintro ⟨h1, h3, h2, h4, h5⟩; exact ⟨⟨h1, h2⟩, ⟨h3, h4⟩, h5⟩
structure OkI (l : List GC.St) where
  i : Nat
  d : Int
  h1 : i ≤ l.length
  h2 : 0 ≤ d ∧ d ≤ 3
  h3 : GC.okP l ↔ pRest l i d
theorem programOk_ok (l : List GC.St) (hl : l.length ≤ 1000000000) : CallOk Go.Proofs.Try.prog gl0 64 [.c (ssS l)] ⟨[.c (bD (decide (GC.okP l)))], []⟩ := by
  refine okFn (fn := Go.Proofs.Try.f64) [.tmp 2] 1 43 (by kernel_rfl) (by kernel_rfl) rfl (by kernel_rfl) (by decide) rfl rfl rfl ?_
  simp (config := { maxSteps := 1000000 }) only [push_cast, ↓reduceIte, ↓normL_data, ↓frzL_data, Nat.reduceEqDiff, Nat.reduceLT, reduceCtorEq, Nat.reduceAdd, Nat.reduceMul, Nat.reduceDiv, Nat.reduceMod, Nat.reduceSub, Nat.reduceLeDiff, Nat.reduceBEq, Int.reduceLE, Int.reduceLT, Int.reduceToNat, Int.reduceAdd, Int.reduceSub, Int.reduceMul, Int.reduceEq, Int.reduceBEq, Int.reduceNeg, Int.reduceGT, Int.natCast_pos]
  refine VC.loop' tab_ok (σ := OkI l) (fun x => St.of gl0 [(0, .c (.d (ssS l))), (3, .c (.d (iD x.d))), (4, .c (.d (iD x.i)))] [] []) (fun x => l.length - x.i) ⟨0, 0, by omega, by omega, Iff.rfl⟩ (St.le_of ?_) ?_
  · simp (config := { maxSteps := 1000000 }) only [push_cast, ↓reduceIte, ↓normL_data, ↓frzL_data, Nat.reduceEqDiff, Nat.reduceLT, reduceCtorEq, Nat.reduceAdd, Nat.reduceMul, Nat.reduceDiv, Nat.reduceMod, Nat.reduceSub, Nat.reduceLeDiff, Nat.reduceBEq, Int.reduceLE, Int.reduceLT, Int.reduceToNat, Int.reduceAdd, Int.reduceSub, Int.reduceMul, Int.reduceEq, Int.reduceBEq, Int.reduceNeg, Int.reduceGT, Int.natCast_pos]
  · intro x
    obtain ⟨i, d, q1, q2, q3⟩ := x
    have ew : IntKind.i64.wrap ((i : Int) + 1) = ((i + 1 : Nat) : Int) := by rw [w64 _ (by omega) (by omega)]; omega
    have e1 : IntKind.i64.wrap (d + 1) = d + 1 := w64 _ (by omega) (by omega)
    have e2 : IntKind.i64.wrap (d - 1) = d - 1 := w64 _ (by omega) (by omega)
    by_cases hi : i < l.length
    · obtain ⟨s, hs⟩ : ∃ s, l.getD i dS = s := ⟨_, rfl⟩
      have hst := pRest_step (d := d) hi s hs
      have hg := ss_get l i s hi hs
      have hok := stmtOk_ok s
      obtain ⟨op, dst, a, b, c, n⟩ := s
      simp (config := { maxSteps := 1000000 }) only [push_cast, ↓reduceIte, ↓normL_data, ↓frzL_data, Nat.reduceEqDiff, Nat.reduceLT, reduceCtorEq, Nat.reduceAdd, Nat.reduceMul, Nat.reduceDiv, Nat.reduceMod, Nat.reduceSub, Nat.reduceLeDiff, Nat.reduceBEq, Int.reduceLE, Int.reduceLT, Int.reduceToNat, Int.reduceAdd, Int.reduceSub, Int.reduceMul, Int.reduceEq, Int.reduceBEq, Int.reduceNeg, Int.reduceGT, Int.natCast_pos, hi, hg, sE]
      refine vcall_by false hok ?_
      by_cases k1 : GC.okSt ⟨op, dst, a, b, c, n⟩
      · by_cases k2 : op = 12
        · subst k2
          have hd : GC.depS ⟨12, dst, a, b, c, n⟩ = 1 := by simp [GC.depS]
          rw [hd] at hst
          simp (config := { maxSteps := 1000000 }) only [push_cast, ↓reduceIte, ↓normL_data, ↓frzL_data, Nat.reduceEqDiff, Nat.reduceLT, reduceCtorEq, Nat.reduceAdd, Nat.reduceMul, Nat.reduceDiv, Nat.reduceMod, Nat.reduceSub, Nat.reduceLeDiff, Nat.reduceBEq, Int.reduceLE, Int.reduceLT, Int.reduceToNat, Int.reduceAdd, Int.reduceSub, Int.reduceMul, Int.reduceEq, Int.reduceBEq, Int.reduceNeg, Int.reduceGT, Int.natCast_pos, sE, k1, hi, hg, e1]
          refine vcall_by false (in_ok (d + 1) 0 3) ?_
          by_cases k3 : 0 ≤ d + 1 ∧ d + 1 ≤ 3
          · simp (config := { maxSteps := 1000000 }) only [push_cast, ↓reduceIte, ↓normL_data, ↓frzL_data, Nat.reduceEqDiff, Nat.reduceLT, reduceCtorEq, Nat.reduceAdd, Nat.reduceMul, Nat.reduceDiv, Nat.reduceMod, Nat.reduceSub, Nat.reduceLeDiff, Nat.reduceBEq, Int.reduceLE, Int.reduceLT, Int.reduceToNat, Int.reduceAdd, Int.reduceSub, Int.reduceMul, Int.reduceEq, Int.reduceBEq, Int.reduceNeg, Int.reduceGT, Int.natCast_pos, k3]
            refine kloop_next ⟨i + 1, d + 1, by omega, k3, q3.trans (hst.trans ⟨fun h => h.2.2, fun h => ⟨k1, k3, h⟩⟩)⟩ (St.le_of ?_) (by simp only; omega)
            simp (config := { maxSteps := 1000000 }) only [push_cast, ↓reduceIte, ↓normL_data, ↓frzL_data, Nat.reduceEqDiff, Nat.reduceLT, reduceCtorEq, Nat.reduceAdd, Nat.reduceMul, Nat.reduceDiv, Nat.reduceMod, Nat.reduceSub, Nat.reduceLeDiff, Nat.reduceBEq, Int.reduceLE, Int.reduceLT, Int.reduceToNat, Int.reduceAdd, Int.reduceSub, Int.reduceMul, Int.reduceEq, Int.reduceBEq, Int.reduceNeg, Int.reduceGT, Int.natCast_pos, ew]
          · have hn : ¬ GC.okP l := fun h => k3 (by have := (hst.1 (q3.1 h)).2.1; omega)
            simp (config := { maxSteps := 1000000 }) only [push_cast, ↓reduceIte, ↓normL_data, ↓frzL_data, Nat.reduceEqDiff, Nat.reduceLT, reduceCtorEq, Nat.reduceAdd, Nat.reduceMul, Nat.reduceDiv, Nat.reduceMod, Nat.reduceSub, Nat.reduceLeDiff, Nat.reduceBEq, Int.reduceLE, Int.reduceLT, Int.reduceToNat, Int.reduceAdd, Int.reduceSub, Int.reduceMul, Int.reduceEq, Int.reduceBEq, Int.reduceNeg, Int.reduceGT, Int.natCast_pos, k3, hn]
        · by_cases k4 : op = 13
          · subst k4
            have hd : GC.depS ⟨13, dst, a, b, c, n⟩ = -1 := by simp [GC.depS]
            rw [hd, show d + -1 = d - 1 by omega] at hst
            simp (config := { maxSteps := 1000000 }) only [push_cast, ↓reduceIte, ↓normL_data, ↓frzL_data, Nat.reduceEqDiff, Nat.reduceLT, reduceCtorEq, Nat.reduceAdd, Nat.reduceMul, Nat.reduceDiv, Nat.reduceMod, Nat.reduceSub, Nat.reduceLeDiff, Nat.reduceBEq, Int.reduceLE, Int.reduceLT, Int.reduceToNat, Int.reduceAdd, Int.reduceSub, Int.reduceMul, Int.reduceEq, Int.reduceBEq, Int.reduceNeg, Int.reduceGT, Int.natCast_pos, sE, k1, hi, hg, e2]
            refine vcall_by false (in_ok (d - 1) 0 3) ?_
            by_cases k3 : 0 ≤ d - 1 ∧ d - 1 ≤ 3
            · simp (config := { maxSteps := 1000000 }) only [push_cast, ↓reduceIte, ↓normL_data, ↓frzL_data, Nat.reduceEqDiff, Nat.reduceLT, reduceCtorEq, Nat.reduceAdd, Nat.reduceMul, Nat.reduceDiv, Nat.reduceMod, Nat.reduceSub, Nat.reduceLeDiff, Nat.reduceBEq, Int.reduceLE, Int.reduceLT, Int.reduceToNat, Int.reduceAdd, Int.reduceSub, Int.reduceMul, Int.reduceEq, Int.reduceBEq, Int.reduceNeg, Int.reduceGT, Int.natCast_pos, k3]
              refine kloop_next ⟨i + 1, d - 1, by omega, k3, q3.trans (hst.trans ⟨fun h => by simpa using h.2.2, fun h => ⟨k1, by omega, by simpa using h⟩⟩)⟩ (St.le_of ?_) (by simp only; omega)
              simp (config := { maxSteps := 1000000 }) only [push_cast, ↓reduceIte, ↓normL_data, ↓frzL_data, Nat.reduceEqDiff, Nat.reduceLT, reduceCtorEq, Nat.reduceAdd, Nat.reduceMul, Nat.reduceDiv, Nat.reduceMod, Nat.reduceSub, Nat.reduceLeDiff, Nat.reduceBEq, Int.reduceLE, Int.reduceLT, Int.reduceToNat, Int.reduceAdd, Int.reduceSub, Int.reduceMul, Int.reduceEq, Int.reduceBEq, Int.reduceNeg, Int.reduceGT, Int.natCast_pos, ew]
            · have hn : ¬ GC.okP l := fun h => k3 (by have := (hst.1 (q3.1 h)).2.1; omega)
              simp (config := { maxSteps := 1000000 }) only [push_cast, ↓reduceIte, ↓normL_data, ↓frzL_data, Nat.reduceEqDiff, Nat.reduceLT, reduceCtorEq, Nat.reduceAdd, Nat.reduceMul, Nat.reduceDiv, Nat.reduceMod, Nat.reduceSub, Nat.reduceLeDiff, Nat.reduceBEq, Int.reduceLE, Int.reduceLT, Int.reduceToNat, Int.reduceAdd, Int.reduceSub, Int.reduceMul, Int.reduceEq, Int.reduceBEq, Int.reduceNeg, Int.reduceGT, Int.natCast_pos, k3, hn]
          have hd : GC.depS ⟨op, dst, a, b, c, n⟩ = 0 := by simp [GC.depS, k2, k4]
          rw [hd] at hst
          simp (config := { maxSteps := 1000000 }) only [push_cast, ↓reduceIte, ↓normL_data, ↓frzL_data, Nat.reduceEqDiff, Nat.reduceLT, reduceCtorEq, Nat.reduceAdd, Nat.reduceMul, Nat.reduceDiv, Nat.reduceMod, Nat.reduceSub, Nat.reduceLeDiff, Nat.reduceBEq, Int.reduceLE, Int.reduceLT, Int.reduceToNat, Int.reduceAdd, Int.reduceSub, Int.reduceMul, Int.reduceEq, Int.reduceBEq, Int.reduceNeg, Int.reduceGT, Int.natCast_pos, sE, k1, hi, hg, k2, k4]
          refine vcall_by false (in_ok (d) 0 3) ?_
          by_cases k3 : 0 ≤ d ∧ d ≤ 3
          · simp (config := { maxSteps := 1000000 }) only [push_cast, ↓reduceIte, ↓normL_data, ↓frzL_data, Nat.reduceEqDiff, Nat.reduceLT, reduceCtorEq, Nat.reduceAdd, Nat.reduceMul, Nat.reduceDiv, Nat.reduceMod, Nat.reduceSub, Nat.reduceLeDiff, Nat.reduceBEq, Int.reduceLE, Int.reduceLT, Int.reduceToNat, Int.reduceAdd, Int.reduceSub, Int.reduceMul, Int.reduceEq, Int.reduceBEq, Int.reduceNeg, Int.reduceGT, Int.natCast_pos, k3]
            refine kloop_next ⟨i + 1, d, by omega, k3, q3.trans (hst.trans ⟨fun h => by simpa using h.2.2, fun h => ⟨k1, by omega, by simpa using h⟩⟩)⟩ (St.le_of ?_) (by simp only; omega)
            simp (config := { maxSteps := 1000000 }) only [push_cast, ↓reduceIte, ↓normL_data, ↓frzL_data, Nat.reduceEqDiff, Nat.reduceLT, reduceCtorEq, Nat.reduceAdd, Nat.reduceMul, Nat.reduceDiv, Nat.reduceMod, Nat.reduceSub, Nat.reduceLeDiff, Nat.reduceBEq, Int.reduceLE, Int.reduceLT, Int.reduceToNat, Int.reduceAdd, Int.reduceSub, Int.reduceMul, Int.reduceEq, Int.reduceBEq, Int.reduceNeg, Int.reduceGT, Int.natCast_pos, ew]
          · have hn : ¬ GC.okP l := fun h => k3 (by have := (hst.1 (q3.1 h)).2.1; omega)
            simp (config := { maxSteps := 1000000 }) only [push_cast, ↓reduceIte, ↓normL_data, ↓frzL_data, Nat.reduceEqDiff, Nat.reduceLT, reduceCtorEq, Nat.reduceAdd, Nat.reduceMul, Nat.reduceDiv, Nat.reduceMod, Nat.reduceSub, Nat.reduceLeDiff, Nat.reduceBEq, Int.reduceLE, Int.reduceLT, Int.reduceToNat, Int.reduceAdd, Int.reduceSub, Int.reduceMul, Int.reduceEq, Int.reduceBEq, Int.reduceNeg, Int.reduceGT, Int.natCast_pos, k3, hn]
      · have hn : ¬ GC.okP l := fun h => k1 (hst.1 (q3.1 h)).1
        simp (config := { maxSteps := 1000000 }) only [push_cast, ↓reduceIte, ↓normL_data, ↓frzL_data, Nat.reduceEqDiff, Nat.reduceLT, reduceCtorEq, Nat.reduceAdd, Nat.reduceMul, Nat.reduceDiv, Nat.reduceMod, Nat.reduceSub, Nat.reduceLeDiff, Nat.reduceBEq, Int.reduceLE, Int.reduceLT, Int.reduceToNat, Int.reduceAdd, Int.reduceSub, Int.reduceMul, Int.reduceEq, Int.reduceBEq, Int.reduceNeg, Int.reduceGT, Int.natCast_pos, sE, k1, hn]
    · have hlen : i = l.length := by omega
      have hfin : GC.okP l ↔ d = 0 ∧ l.length ≤ 40 := by
        rw [q3]; unfold pRest
        rw [List.drop_of_length_le (by omega)]
        simp [GC.depOk]
      by_cases k1 : d = 0
      · have hd : decide (GC.okP l) = decide (((l.length : Int)) ≤ 40) := decide_eq_decide.2 (hfin.trans ⟨fun h => by omega, fun h => ⟨k1, by omega⟩⟩)
        subst k1
        simp (config := { maxSteps := 1000000 }) only [push_cast, ↓reduceIte, ↓normL_data, ↓frzL_data, Nat.reduceEqDiff, Nat.reduceLT, reduceCtorEq, Nat.reduceAdd, Nat.reduceMul, Nat.reduceDiv, Nat.reduceMod, Nat.reduceSub, Nat.reduceLeDiff, Nat.reduceBEq, Int.reduceLE, Int.reduceLT, Int.reduceToNat, Int.reduceAdd, Int.reduceSub, Int.reduceMul, Int.reduceEq, Int.reduceBEq, Int.reduceNeg, Int.reduceGT, Int.natCast_pos, hi, hd]
      · have hn : ¬ GC.okP l := fun h => k1 (hfin.1 h).1
        simp (config := { maxSteps := 1000000 }) only [push_cast, ↓reduceIte, ↓normL_data, ↓frzL_data, Nat.reduceEqDiff, Nat.reduceLT, reduceCtorEq, Nat.reduceAdd, Nat.reduceMul, Nat.reduceDiv, Nat.reduceMod, Nat.reduceSub, Nat.reduceLeDiff, Nat.reduceBEq, Int.reduceLE, Int.reduceLT, Int.reduceToNat, Int.reduceAdd, Int.reduceSub, Int.reduceMul, Int.reduceEq, Int.reduceBEq, Int.reduceNeg, Int.reduceGT, Int.natCast_pos, hi, k1, hn]
end GV

set_option linter.unusedSimpArgs false
set_option linter.unusedVariables false
set_option maxHeartbeats 4000000
namespace GV
open Go
open GC (Tr flatT unT OkT endS)
theorem drop_head {l t : List GC.St} {k : Nat} {s : GC.St} (h : l.drop k = s :: t) : k < l.length ∧ l.getD k dS = s ∧ l.drop (k + 1) = t := by
  have hk : k < l.length := by
    rcases Nat.lt_or_ge k l.length with h' | h'
    · exact h'
    · rw [List.drop_of_length_le h'] at h; cases h
  rw [ss_drop l k hk] at h
  simp only [List.cons.injEq] at h
  exact ⟨hk, h.1, h.2⟩
theorem drop_nil {l : List GC.St} {k : Nat} (h : l.drop k = []) : l.length ≤ k := by
  simpa using h
theorem drop_app {l a b : List GC.St} {k : Nat} (h : l.drop k = a ++ b) : l.drop (k + a.length) = b := by
  rw [← List.drop_drop, h]; simp
/-- What follows a block. -/
def tailOk (r : List GC.St) : Prop := r = [] ∨ ∃ q, r = endS :: q
theorem OkT.right : ∀ {h : Nat} {f g : List Tr}, OkT h (f ++ g) → OkT h g
  | h, [], g, k => k
  | h, t :: f, g, k => by
    cases k with
    | s _ x _ hx h1 h2 hf => exact OkT.right (f := f) hf
    | l _ x b _ hx h1 hb hf => exact OkT.right (f := f) hf
theorem OkT.left : ∀ {h : Nat} {f g : List Tr}, OkT h (f ++ g) → OkT h f
  | h, [], g, k => .nil h
  | h, t :: f, g, k => by
    cases k with
    | s _ x _ hx h1 h2 hf => exact .s _ x f hx h1 h2 (OkT.left (f := f) hf)
    | l _ x b _ hx h1 hb hf => exact .l _ x b f hx h1 hb (OkT.left (f := f) hf)
theorem un_le {h : Nat} {f : List Tr} (k : OkT h f) (h3 : h ≤ 3) (n : (flatT f).length ≤ 40) : (unT f).length ≤ 20480 := by
  have := GC.unT_len k
  have e : 8 ^ h ≤ 8 ^ 3 := Nat.pow_le_pow_right (by omega) h3
  have := Nat.mul_le_mul e n
  omega
structure BkI (f : List Tr) where
  f1 : List Tr
  f2 : List Tr
  h : f = f1 ++ f2
theorem flat_snoc (f : List Tr) (t : Tr) : flatT (f ++ [t]) = flatT f ++ t.flat := by rw [GC.flatT_append]; simp [flatT]
theorem un_snoc (f : List Tr) (t : Tr) : unT (f ++ [t]) = unT f ++ t.un := by rw [GC.unT_append]; simp [unT]
theorem size_ok (l : List GC.St) (hl : l.length ≤ 40) : ∀ (N : Nat) (h : Nat) (f : List Tr) (k : Nat) (r : List GC.St), (flatT f).length < N → l.drop k = flatT f ++ r → tailOk r → OkT h f → h ≤ 3 → k ≤ 41 →
    CallOk Go.Proofs.Try.prog gl0 65 [.c (ssS l), .c (iD k)] ⟨[.c (iD (unT f).length), .c (iD (k + (flatT f).length : Nat))], []⟩ := by
  intro N
  induction N with
  | zero => intro h f k r hN; omega
  | succ N ih =>
    intro h f k r hN hd hr hf h3 hk
    have hfl : (flatT f).length ≤ 40 := by have := congrArg List.length hd; simp at this; omega
    refine okFn (fn := Go.Proofs.Try.f65) [.tmp 4, .tmp 5] 2 51 (by kernel_rfl) (by kernel_rfl) rfl (by kernel_rfl) (by decide) rfl rfl rfl ?_
    simp (config := { maxSteps := 1000000 }) only [push_cast, ↓reduceIte, ↓normL_data, ↓frzL_data, Nat.reduceEqDiff, Nat.reduceLT, reduceCtorEq, Nat.reduceAdd, Nat.reduceMul, Nat.reduceDiv, Nat.reduceMod, Nat.reduceSub, Nat.reduceLeDiff, Nat.reduceBEq, Int.reduceLE, Int.reduceLT, Int.reduceToNat, Int.reduceAdd, Int.reduceSub, Int.reduceMul, Int.reduceEq, Int.reduceBEq, Int.reduceNeg, Int.reduceGT, Int.natCast_pos]
    refine VC.loop' tab_ok (σ := BkI f) (fun x => St.of gl0 [(0, .c (.d (ssS l))), (1, .c (.d (iD (k + (flatT x.f1).length : Nat)))), (6, .c (.d (iD (unT x.f1).length)))] [] []) (fun x => x.f2.length) ⟨[], f, rfl⟩ (St.le_of ?_) ?_
    · simp (config := { maxSteps := 1000000 }) only [push_cast, ↓reduceIte, ↓normL_data, ↓frzL_data, Nat.reduceEqDiff, Nat.reduceLT, reduceCtorEq, Nat.reduceAdd, Nat.reduceMul, Nat.reduceDiv, Nat.reduceMod, Nat.reduceSub, Nat.reduceLeDiff, Nat.reduceBEq, Int.reduceLE, Int.reduceLT, Int.reduceToNat, Int.reduceAdd, Int.reduceSub, Int.reduceMul, Int.reduceEq, Int.reduceBEq, Int.reduceNeg, Int.reduceGT, Int.natCast_pos, flatT, unT, Int.add_zero, Nat.add_zero]
    · intro x
      obtain ⟨f1, f2, hx⟩ := x
      subst hx
      rw [GC.flatT_append] at hd hfl hN
      have u1 := un_le (OkT.left hf) h3 (by simp at hfl; omega)
      have u0 := un_le hf h3 (by rw [GC.flatT_append]; exact hfl)
      rw [GC.unT_append, List.length_append] at u0
      have hd2 : l.drop (k + (flatT f1).length) = flatT f2 ++ r := drop_app (by rw [hd, List.append_assoc])
      obtain ⟨p, hp⟩ : ∃ p, k + (flatT f1).length = p := ⟨_, rfl⟩
      have hp' : (k : Int) + ((flatT f1).length : Int) = p := by omega
      have hpl : p ≤ 81 := by simp at hfl; omega
      have ep : IntKind.i64.wrap ((p : Int) + 1) = ((p + 1 : Nat) : Int) := by rw [w64 _ (by omega) (by omega)]; omega
      rw [hp] at hd2
      cases f2 with
      | nil =>
        simp only [List.append_nil] at *
        rcases hr with rfl | ⟨q, rfl⟩
        · have hn : ¬ p < l.length := by have := drop_nil (by simpa [flatT] using hd2); omega
          simp (config := { maxSteps := 1000000 }) only [push_cast, ↓reduceIte, ↓normL_data, ↓frzL_data, Nat.reduceEqDiff, Nat.reduceLT, reduceCtorEq, Nat.reduceAdd, Nat.reduceMul, Nat.reduceDiv, Nat.reduceMod, Nat.reduceSub, Nat.reduceLeDiff, Nat.reduceBEq, Int.reduceLE, Int.reduceLT, Int.reduceToNat, Int.reduceAdd, Int.reduceSub, Int.reduceMul, Int.reduceEq, Int.reduceBEq, Int.reduceNeg, Int.reduceGT, Int.natCast_pos, hp', hn]
        · obtain ⟨g1, g2, g3⟩ := drop_head (by simpa [flatT] using hd2)
          have hg := ss_get l p _ g1 g2
          simp (config := { maxSteps := 1000000 }) only [push_cast, ↓reduceIte, ↓normL_data, ↓frzL_data, Nat.reduceEqDiff, Nat.reduceLT, reduceCtorEq, Nat.reduceAdd, Nat.reduceMul, Nat.reduceDiv, Nat.reduceMod, Nat.reduceSub, Nat.reduceLeDiff, Nat.reduceBEq, Int.reduceLE, Int.reduceLT, Int.reduceToNat, Int.reduceAdd, Int.reduceSub, Int.reduceMul, Int.reduceEq, Int.reduceBEq, Int.reduceNeg, Int.reduceGT, Int.natCast_pos, hp', g1, hg, sE, endS]
      | cons t f2 =>
        cases t with
        | s x =>
          have hfx := OkT.right hf
          cases hfx with
          | s _ _ _ hx o1 o2 hf2 =>
          obtain ⟨g1, g2, g3⟩ := drop_head (s := x) (t := flatT f2 ++ r) (by simpa [flatT, Tr.flat] using hd2)
          have hg := ss_get l p _ g1 g2
          have e1 : IntKind.i64.wrap (((unT f1).length : Int) + 1) = ((unT f1).length : Int) + 1 := w64 _ (by omega) (by omega)
          obtain ⟨op, dst, a, b, c, n⟩ := x
          simp only at o1 o2
          simp (config := { maxSteps := 1000000 }) only [push_cast, ↓reduceIte, ↓normL_data, ↓frzL_data, Nat.reduceEqDiff, Nat.reduceLT, reduceCtorEq, Nat.reduceAdd, Nat.reduceMul, Nat.reduceDiv, Nat.reduceMod, Nat.reduceSub, Nat.reduceLeDiff, Nat.reduceBEq, Int.reduceLE, Int.reduceLT, Int.reduceToNat, Int.reduceAdd, Int.reduceSub, Int.reduceMul, Int.reduceEq, Int.reduceBEq, Int.reduceNeg, Int.reduceGT, Int.natCast_pos, hp', g1, hg, sE, o1, o2, ep]
          refine kloop_next ⟨f1 ++ [.s ⟨op, dst, a, b, c, n⟩], f2, by simp⟩ (St.le_of ?_) (by simp)
          simp (config := { maxSteps := 1000000 }) only [push_cast, ↓reduceIte, ↓normL_data, ↓frzL_data, Nat.reduceEqDiff, Nat.reduceLT, reduceCtorEq, Nat.reduceAdd, Nat.reduceMul, Nat.reduceDiv, Nat.reduceMod, Nat.reduceSub, Nat.reduceLeDiff, Nat.reduceBEq, Int.reduceLE, Int.reduceLT, Int.reduceToNat, Int.reduceAdd, Int.reduceSub, Int.reduceMul, Int.reduceEq, Int.reduceBEq, Int.reduceNeg, Int.reduceGT, Int.natCast_pos, flat_snoc, un_snoc, Tr.flat, Tr.un, List.length_append, e1, ← hp', Int.add_assoc, Nat.zero_add, and_self]
        | l x b =>
          have hfx := OkT.right hf
          cases hfx with
          | l h' _ _ _ hx o1 hb hf2 =>
          obtain ⟨g1, g2, g3⟩ := drop_head (s := x) (t := flatT b ++ (endS :: (flatT f2 ++ r))) (by simpa [flatT, Tr.flat] using hd2)
          have hg := ss_get l p _ g1 g2
          have hlen : (flatT b).length + 2 + (flatT f2).length ≤ 40 - (flatT f1).length ∧ (flatT b).length < N := by
            simp [flatT, Tr.flat] at hfl hN; omega
          have ub := un_le hb (by omega) (by omega)
          have hrec := ih h' b (p + 1) (endS :: (flatT f2 ++ r)) hlen.2 g3 (.inr ⟨_, rfl⟩) hb (by omega) (by omega)
          obtain ⟨n0, n1⟩ := GC.okSt_loop hx o1
          obtain ⟨op, dst, a, b', c, n⟩ := x
          simp only at o1 n0 n1
          subst o1
          have hn : ((unT b).length : Int) * n = ((n.toNat * (unT b).length : Nat) : Int) := by
            rw [Int.natCast_mul, Int.mul_comm]; congr 1; omega
          have hm : n.toNat * (unT b).length ≤ 8 * 20480 := Nat.mul_le_mul (by omega) ub
          have e1 : IntKind.i64.wrap (((unT b).length : Int) * n) = ((n.toNat * (unT b).length : Nat) : Int) := by rw [hn, w64 _ (by omega) (by omega)]
          have e2 : IntKind.i64.wrap (((unT f1).length : Int) + ((n.toNat * (unT b).length : Nat) : Int)) = ((unT f1).length : Int) + ((n.toNat * (unT b).length : Nat) : Int) := w64 _ (by omega) (by omega)
          have e3 : IntKind.i64.wrap ((p : Int) + 1 + ((flatT b).length : Int) + 1) = (p : Int) + 1 + ((flatT b).length : Int) + 1 := w64 _ (by omega) (by omega)
          have e5 : IntKind.i64.wrap (((unT f1).length : Int) + (n.toNat : Int) * ((unT b).length : Int)) = ((unT f1).length : Int) + (n.toNat : Int) * ((unT b).length : Int) := by rw [← Int.natCast_mul]; exact e2
          have e4 : (k : Int) + ((flatT f1).length : Int) + 1 + ((flatT b).length : Int) + 1 = (k : Int) + (((flatT f1).length : Int) + (((flatT b).length : Int) + 1 + 1)) := by omega
          simp (config := { maxSteps := 1000000 }) only [push_cast, ↓reduceIte, ↓normL_data, ↓frzL_data, Nat.reduceEqDiff, Nat.reduceLT, reduceCtorEq, Nat.reduceAdd, Nat.reduceMul, Nat.reduceDiv, Nat.reduceMod, Nat.reduceSub, Nat.reduceLeDiff, Nat.reduceBEq, Int.reduceLE, Int.reduceLT, Int.reduceToNat, Int.reduceAdd, Int.reduceSub, Int.reduceMul, Int.reduceEq, Int.reduceBEq, Int.reduceNeg, Int.reduceGT, Int.natCast_pos, hp', g1, hg, sE, ep]
          refine vcall_by false hrec ?_
          simp (config := { maxSteps := 1000000 }) only [push_cast, ↓reduceIte, ↓normL_data, ↓frzL_data, Nat.reduceEqDiff, Nat.reduceLT, reduceCtorEq, Nat.reduceAdd, Nat.reduceMul, Nat.reduceDiv, Nat.reduceMod, Nat.reduceSub, Nat.reduceLeDiff, Nat.reduceBEq, Int.reduceLE, Int.reduceLT, Int.reduceToNat, Int.reduceAdd, Int.reduceSub, Int.reduceMul, Int.reduceEq, Int.reduceBEq, Int.reduceNeg, Int.reduceGT, Int.natCast_pos, g1, hg, sE, e1, e2, e3]
          refine kloop_next ⟨f1 ++ [.l ⟨12, dst, a, b', c, n⟩ b], f2, by simp⟩ (St.le_of ?_) (by simp)
          simp (config := { maxSteps := 1000000 }) only [push_cast, ↓reduceIte, ↓normL_data, ↓frzL_data, Nat.reduceEqDiff, Nat.reduceLT, reduceCtorEq, Nat.reduceAdd, Nat.reduceMul, Nat.reduceDiv, Nat.reduceMod, Nat.reduceSub, Nat.reduceLeDiff, Nat.reduceBEq, Int.reduceLE, Int.reduceLT, Int.reduceToNat, Int.reduceAdd, Int.reduceSub, Int.reduceMul, Int.reduceEq, Int.reduceBEq, Int.reduceNeg, Int.reduceGT, Int.natCast_pos, flat_snoc, un_snoc, Tr.flat, Tr.un, List.length_append, GC.repL_len, ← hp', List.length_cons, List.length_nil, e5, e4, and_self]
theorem unrolledSize_ok (l : List GC.St) (hl : l.length ≤ 1000000000) : CallOk Go.Proofs.Try.prog gl0 37 [.c (ssS l)] ⟨[.c (iD (if GC.okP l then ((GC.unrollM l).length : Int) else -1))], []⟩ := by
  refine okFn (fn := Go.Proofs.Try.f37) [.tmp 2] 1 14 (by kernel_rfl) (by kernel_rfl) rfl (by kernel_rfl) (by decide) rfl rfl rfl ?_
  simp (config := { maxSteps := 1000000 }) only [push_cast, ↓reduceIte, ↓normL_data, ↓frzL_data, Nat.reduceEqDiff, Nat.reduceLT, reduceCtorEq, Nat.reduceAdd, Nat.reduceMul, Nat.reduceDiv, Nat.reduceMod, Nat.reduceSub, Nat.reduceLeDiff, Nat.reduceBEq, Int.reduceLE, Int.reduceLT, Int.reduceToNat, Int.reduceAdd, Int.reduceSub, Int.reduceMul, Int.reduceEq, Int.reduceBEq, Int.reduceNeg, Int.reduceGT, Int.natCast_pos]
  refine vcall_by false (programOk_ok l hl) ?_
  by_cases h : GC.okP l
  · obtain ⟨f, e1, e2⟩ := GC.okP_tree h
    have hs := size_ok l h.2.2 ((flatT f).length + 1) 3 f 0 [] (by omega) (by simpa using e1) (.inl rfl) e2 (by omega) (by omega)
    rw [← GC.unroll_eq h e1 e2] at hs
    simp (config := { maxSteps := 1000000 }) only [push_cast, ↓reduceIte, ↓normL_data, ↓frzL_data, Nat.reduceEqDiff, Nat.reduceLT, reduceCtorEq, Nat.reduceAdd, Nat.reduceMul, Nat.reduceDiv, Nat.reduceMod, Nat.reduceSub, Nat.reduceLeDiff, Nat.reduceBEq, Int.reduceLE, Int.reduceLT, Int.reduceToNat, Int.reduceAdd, Int.reduceSub, Int.reduceMul, Int.reduceEq, Int.reduceBEq, Int.reduceNeg, Int.reduceGT, Int.natCast_pos, h]
    refine vcall_by false hs ?_
    simp (config := { maxSteps := 1000000 }) only [push_cast, ↓reduceIte, ↓normL_data, ↓frzL_data, Nat.reduceEqDiff, Nat.reduceLT, reduceCtorEq, Nat.reduceAdd, Nat.reduceMul, Nat.reduceDiv, Nat.reduceMod, Nat.reduceSub, Nat.reduceLeDiff, Nat.reduceBEq, Int.reduceLE, Int.reduceLT, Int.reduceToNat, Int.reduceAdd, Int.reduceSub, Int.reduceMul, Int.reduceEq, Int.reduceBEq, Int.reduceNeg, Int.reduceGT, Int.natCast_pos]
  · simp (config := { maxSteps := 1000000 }) only [push_cast, ↓reduceIte, ↓normL_data, ↓frzL_data, Nat.reduceEqDiff, Nat.reduceLT, reduceCtorEq, Nat.reduceAdd, Nat.reduceMul, Nat.reduceDiv, Nat.reduceMod, Nat.reduceSub, Nat.reduceLeDiff, Nat.reduceBEq, Int.reduceLE, Int.reduceLT, Int.reduceToNat, Int.reduceAdd, Int.reduceSub, Int.reduceMul, Int.reduceEq, Int.reduceBEq, Int.reduceNeg, Int.reduceGT, Int.natCast_pos, h]
theorem blk_ok (l : List GC.St) (hl : l.length ≤ 40) : ∀ (N : Nat) (h : Nat) (f : List Tr) (k : Nat) (r : List GC.St), (flatT f).length < N → l.drop k = flatT f ++ r → tailOk r → OkT h f → h ≤ 3 → k ≤ 41 →
    CallOk Go.Proofs.Try.prog gl0 38 [.c (ssS l), .c (iD k)] ⟨[.rr (ssR (unT f)), .c (iD (k + (flatT f).length : Nat))], []⟩ := by
  intro N
  induction N with
  | zero => intro h f k r hN; omega
  | succ N ih =>
    intro h f k r hN hd hr hf h3 hk
    have hfl : (flatT f).length ≤ 40 := by have := congrArg List.length hd; simp at this; omega
    refine okFn (fn := Go.Proofs.Try.f38) [.tmp 4, .tmp 5] 2 61 (by kernel_rfl) (by kernel_rfl) rfl (by kernel_rfl) (by decide) rfl rfl rfl ?_
    simp (config := { maxSteps := 1000000 }) only [push_cast, ↓reduceIte, ↓normL_data, ↓frzL_data, Nat.reduceEqDiff, Nat.reduceLT, reduceCtorEq, Nat.reduceAdd, Nat.reduceMul, Nat.reduceDiv, Nat.reduceMod, Nat.reduceSub, Nat.reduceLeDiff, Nat.reduceBEq, Int.reduceLE, Int.reduceLT, Int.reduceToNat, Int.reduceAdd, Int.reduceSub, Int.reduceMul, Int.reduceEq, Int.reduceBEq, Int.reduceNeg, Int.reduceGT, Int.natCast_pos]
    refine VC.loop' tab_ok (σ := BkI f) (fun x => St.of gl0 [(0, .c (.d (ssS l))), (1, .c (.d (iD (k + (flatT x.f1).length : Nat)))), (6, .c (.own 6))] [(6, ssR (unT x.f1))] []) (fun x => x.f2.length) ⟨[], f, rfl⟩ (St.le_of ?_) ?_
    · simp (config := { maxSteps := 1000000 }) only [push_cast, ↓reduceIte, ↓normL_data, ↓frzL_data, Nat.reduceEqDiff, Nat.reduceLT, reduceCtorEq, Nat.reduceAdd, Nat.reduceMul, Nat.reduceDiv, Nat.reduceMod, Nat.reduceSub, Nat.reduceLeDiff, Nat.reduceBEq, Int.reduceLE, Int.reduceLT, Int.reduceToNat, Int.reduceAdd, Int.reduceSub, Int.reduceMul, Int.reduceEq, Int.reduceBEq, Int.reduceNeg, Int.reduceGT, Int.natCast_pos, flatT, unT, Int.add_zero, Nat.add_zero]
    · intro x
      obtain ⟨f1, f2, hx⟩ := x
      subst hx
      rw [GC.flatT_append] at hd hfl hN
      have u1 := un_le (OkT.left hf) h3 (by simp at hfl; omega)
      have u0 := un_le hf h3 (by rw [GC.flatT_append]; exact hfl)
      rw [GC.unT_append, List.length_append] at u0
      have hd2 : l.drop (k + (flatT f1).length) = flatT f2 ++ r := drop_app (by rw [hd, List.append_assoc])
      obtain ⟨p, hp⟩ : ∃ p, k + (flatT f1).length = p := ⟨_, rfl⟩
      have hp' : (k : Int) + ((flatT f1).length : Int) = p := by omega
      have hpl : p ≤ 81 := by simp at hfl; omega
      have ep : IntKind.i64.wrap ((p : Int) + 1) = ((p + 1 : Nat) : Int) := by rw [w64 _ (by omega) (by omega)]; omega
      rw [hp] at hd2
      cases f2 with
      | nil =>
        simp only [List.append_nil] at *
        rcases hr with rfl | ⟨q, rfl⟩
        · have hn : ¬ p < l.length := by have := drop_nil (by simpa [flatT] using hd2); omega
          simp (config := { maxSteps := 1000000 }) only [push_cast, ↓reduceIte, ↓normL_data, ↓frzL_data, Nat.reduceEqDiff, Nat.reduceLT, reduceCtorEq, Nat.reduceAdd, Nat.reduceMul, Nat.reduceDiv, Nat.reduceMod, Nat.reduceSub, Nat.reduceLeDiff, Nat.reduceBEq, Int.reduceLE, Int.reduceLT, Int.reduceToNat, Int.reduceAdd, Int.reduceSub, Int.reduceMul, Int.reduceEq, Int.reduceBEq, Int.reduceNeg, Int.reduceGT, Int.natCast_pos, hp', hn]
        · obtain ⟨g1, g2, g3⟩ := drop_head (by simpa [flatT] using hd2)
          have hg := ss_get l p _ g1 g2
          simp (config := { maxSteps := 1000000 }) only [push_cast, ↓reduceIte, ↓normL_data, ↓frzL_data, Nat.reduceEqDiff, Nat.reduceLT, reduceCtorEq, Nat.reduceAdd, Nat.reduceMul, Nat.reduceDiv, Nat.reduceMod, Nat.reduceSub, Nat.reduceLeDiff, Nat.reduceBEq, Int.reduceLE, Int.reduceLT, Int.reduceToNat, Int.reduceAdd, Int.reduceSub, Int.reduceMul, Int.reduceEq, Int.reduceBEq, Int.reduceNeg, Int.reduceGT, Int.natCast_pos, hp', g1, hg, sE, endS]
      | cons t f2 =>
        cases t with
        | s x =>
          have hfx := OkT.right hf
          cases hfx with
          | s _ _ _ hx o1 o2 hf2 =>
          obtain ⟨g1, g2, g3⟩ := drop_head (s := x) (t := flatT f2 ++ r) (by simpa [flatT, Tr.flat] using hd2)
          have hg := ss_get l p _ g1 g2
          obtain ⟨op, dst, a, b, c, n⟩ := x
          simp only at o1 o2
          simp (config := { maxSteps := 1000000 }) only [push_cast, ↓reduceIte, ↓normL_data, ↓frzL_data, Nat.reduceEqDiff, Nat.reduceLT, reduceCtorEq, Nat.reduceAdd, Nat.reduceMul, Nat.reduceDiv, Nat.reduceMod, Nat.reduceSub, Nat.reduceLeDiff, Nat.reduceBEq, Int.reduceLE, Int.reduceLT, Int.reduceToNat, Int.reduceAdd, Int.reduceSub, Int.reduceMul, Int.reduceEq, Int.reduceBEq, Int.reduceNeg, Int.reduceGT, Int.natCast_pos, hp', g1, hg, sE, o1, o2, ep]
          refine ⟨by omega, kloop_next ⟨f1 ++ [.s ⟨op, dst, a, b, c, n⟩], f2, by simp⟩ (St.le_of ?_) (by simp)⟩
          simp (config := { maxSteps := 1000000 }) only [push_cast, ↓reduceIte, ↓normL_data, ↓frzL_data, Nat.reduceEqDiff, Nat.reduceLT, reduceCtorEq, Nat.reduceAdd, Nat.reduceMul, Nat.reduceDiv, Nat.reduceMod, Nat.reduceSub, Nat.reduceLeDiff, Nat.reduceBEq, Int.reduceLE, Int.reduceLT, Int.reduceToNat, Int.reduceAdd, Int.reduceSub, Int.reduceMul, Int.reduceEq, Int.reduceBEq, Int.reduceNeg, Int.reduceGT, Int.natCast_pos, flat_snoc, un_snoc, Tr.flat, Tr.un, List.length_append, ← hp', Int.add_assoc, Nat.zero_add, and_self]
        | l x b =>
          have hfx := OkT.right hf
          cases hfx with
          | l h' _ _ _ hx o1 hb hf2 =>
          obtain ⟨g1, g2, g3⟩ := drop_head (s := x) (t := flatT b ++ (endS :: (flatT f2 ++ r))) (by simpa [flatT, Tr.flat] using hd2)
          have hg := ss_get l p _ g1 g2
          have hlen : (flatT b).length + 2 + (flatT f2).length ≤ 40 - (flatT f1).length ∧ (flatT b).length < N := by
            simp [flatT, Tr.flat] at hfl hN; omega
          have ub := un_le hb (by omega) (by omega)
          have hrec := ih h' b (p + 1) (endS :: (flatT f2 ++ r)) hlen.2 g3 (.inr ⟨_, rfl⟩) hb (by omega) (by omega)
          obtain ⟨n0, n1⟩ := GC.okSt_loop hx o1
          obtain ⟨op, dst, a, b', c, n⟩ := x
          simp only at o1 n0 n1
          subst o1
          have e3 : IntKind.i64.wrap ((p : Int) + 1 + ((flatT b).length : Int) + 1) = (p : Int) + 1 + ((flatT b).length : Int) + 1 := w64 _ (by omega) (by omega)
          have e4 : (k : Int) + ((flatT f1).length : Int) + 1 + ((flatT b).length : Int) + 1 = (k : Int) + (((flatT f1).length : Int) + (((flatT b).length : Int) + 1 + 1)) := by omega
          obtain ⟨m, rfl⟩ : ∃ m : Nat, n = m := ⟨n.toNat, by omega⟩
          simp (config := { maxSteps := 1000000 }) only [push_cast, ↓reduceIte, ↓normL_data, ↓frzL_data, Nat.reduceEqDiff, Nat.reduceLT, reduceCtorEq, Nat.reduceAdd, Nat.reduceMul, Nat.reduceDiv, Nat.reduceMod, Nat.reduceSub, Nat.reduceLeDiff, Nat.reduceBEq, Int.reduceLE, Int.reduceLT, Int.reduceToNat, Int.reduceAdd, Int.reduceSub, Int.reduceMul, Int.reduceEq, Int.reduceBEq, Int.reduceNeg, Int.reduceGT, Int.natCast_pos, hp', g1, hg, sE, ep]
          refine vcall_by false hrec ?_
          simp (config := { maxSteps := 1000000 }) only [push_cast, ↓reduceIte, ↓normL_data, ↓frzL_data, Nat.reduceEqDiff, Nat.reduceLT, reduceCtorEq, Nat.reduceAdd, Nat.reduceMul, Nat.reduceDiv, Nat.reduceMod, Nat.reduceSub, Nat.reduceLeDiff, Nat.reduceBEq, Int.reduceLE, Int.reduceLT, Int.reduceToNat, Int.reduceAdd, Int.reduceSub, Int.reduceMul, Int.reduceEq, Int.reduceBEq, Int.reduceNeg, Int.reduceGT, Int.natCast_pos, g1, hg, sE, e3]
          refine VC.loop' tab_ok (σ := Fin (m + 1)) (fun x => St.of gl0 [(0, .c (.d (ssS l))), (1, .c (.d (iD p))), (6, .c (.own 6)), (7, .c (.own 7)), (8, .c (.d (iD (p + 1 + (flatT b).length : Nat)))), (9, .c (.d (iD x.1)))] [(6, ssR (unT f1 ++ GC.repL x.1 (unT b))), (7, ssR (unT b))] []) (fun x => m - x.1) ⟨0, by omega⟩ (St.le_of ?_) ?_
          · simp (config := { maxSteps := 1000000 }) only [push_cast, ↓reduceIte, ↓normL_data, ↓frzL_data, Nat.reduceEqDiff, Nat.reduceLT, reduceCtorEq, Nat.reduceAdd, Nat.reduceMul, Nat.reduceDiv, Nat.reduceMod, Nat.reduceSub, Nat.reduceLeDiff, Nat.reduceBEq, Int.reduceLE, Int.reduceLT, Int.reduceToNat, Int.reduceAdd, Int.reduceSub, Int.reduceMul, Int.reduceEq, Int.reduceBEq, Int.reduceNeg, Int.reduceGT, Int.natCast_pos, hp', GC.repL, Int.natCast_zero]
          · intro x
            obtain ⟨j, hj⟩ := x
            have ej : IntKind.i64.wrap ((j : Int) + 1) = ((j + 1 : Nat) : Int) := by rw [w64 _ (by omega) (by omega)]; omega
            have hm : j * (unT b).length ≤ 8 * 20480 := Nat.mul_le_mul (by omega) ub
            have hb1 : ((unT f1 ++ GC.repL j (unT b)).length + (unT b).length) * 48 ≤ 140737488355328 := by rw [List.length_append, GC.repL_len]; omega
            by_cases hjm : (j : Int) < m
            · simp (config := { maxSteps := 1000000 }) only [push_cast, ↓reduceIte, ↓normL_data, ↓frzL_data, Nat.reduceEqDiff, Nat.reduceLT, reduceCtorEq, Nat.reduceAdd, Nat.reduceMul, Nat.reduceDiv, Nat.reduceMod, Nat.reduceSub, Nat.reduceLeDiff, Nat.reduceBEq, Int.reduceLE, Int.reduceLT, Int.reduceToNat, Int.reduceAdd, Int.reduceSub, Int.reduceMul, Int.reduceEq, Int.reduceBEq, Int.reduceNeg, Int.reduceGT, Int.natCast_pos, g1, hg, sE, hjm]
              refine ⟨hb1, kloop_next ⟨j + 1, by omega⟩ (St.le_of ?_) (by simp only; omega)⟩
              simp (config := { maxSteps := 1000000 }) only [push_cast, ↓reduceIte, ↓normL_data, ↓frzL_data, Nat.reduceEqDiff, Nat.reduceLT, reduceCtorEq, Nat.reduceAdd, Nat.reduceMul, Nat.reduceDiv, Nat.reduceMod, Nat.reduceSub, Nat.reduceLeDiff, Nat.reduceBEq, Int.reduceLE, Int.reduceLT, Int.reduceToNat, Int.reduceAdd, Int.reduceSub, Int.reduceMul, Int.reduceEq, Int.reduceBEq, Int.reduceNeg, Int.reduceGT, Int.natCast_pos, ej, GC.repL_snoc, List.append_assoc]
            · have ejm : j = m := by omega
              subst ejm
              simp (config := { maxSteps := 1000000 }) only [push_cast, ↓reduceIte, ↓normL_data, ↓frzL_data, Nat.reduceEqDiff, Nat.reduceLT, reduceCtorEq, Nat.reduceAdd, Nat.reduceMul, Nat.reduceDiv, Nat.reduceMod, Nat.reduceSub, Nat.reduceLeDiff, Nat.reduceBEq, Int.reduceLE, Int.reduceLT, Int.reduceToNat, Int.reduceAdd, Int.reduceSub, Int.reduceMul, Int.reduceEq, Int.reduceBEq, Int.reduceNeg, Int.reduceGT, Int.natCast_pos, g1, hg, sE, hjm, e3]
              refine kloop_next ⟨f1 ++ [.l ⟨12, dst, a, b', c, j⟩ b], f2, by simp⟩ (St.le_of ?_) (by simp)
              simp (config := { maxSteps := 1000000 }) only [push_cast, ↓reduceIte, ↓normL_data, ↓frzL_data, Nat.reduceEqDiff, Nat.reduceLT, reduceCtorEq, Nat.reduceAdd, Nat.reduceMul, Nat.reduceDiv, Nat.reduceMod, Nat.reduceSub, Nat.reduceLeDiff, Nat.reduceBEq, Int.reduceLE, Int.reduceLT, Int.reduceToNat, Int.reduceAdd, Int.reduceSub, Int.reduceMul, Int.reduceEq, Int.reduceBEq, Int.reduceNeg, Int.reduceGT, Int.natCast_pos, flat_snoc, un_snoc, Tr.flat, Tr.un, List.length_append, ← hp', List.length_cons, List.length_nil, e4, and_self]
theorem unroll_ok (l : List GC.St) (hl : l.length ≤ 1000000000) : CallOk Go.Proofs.Try.prog gl0 11 [.c (ssS l)] ⟨[.c (ssS (if GC.okP l ∧ (GC.unrollM l).length ≤ 120 then GC.unrollM l else [])), .c (bD (decide (GC.okP l ∧ (GC.unrollM l).length ≤ 120)))], []⟩ := by
  refine okFn (fn := Go.Proofs.Try.f11) [.tmp 2, .tmp 3] 1 22 (by kernel_rfl) (by kernel_rfl) rfl (by kernel_rfl) (by decide) rfl rfl rfl ?_
  simp (config := { maxSteps := 1000000 }) only [push_cast, ↓reduceIte, ↓normL_data, ↓frzL_data, Nat.reduceEqDiff, Nat.reduceLT, reduceCtorEq, Nat.reduceAdd, Nat.reduceMul, Nat.reduceDiv, Nat.reduceMod, Nat.reduceSub, Nat.reduceLeDiff, Nat.reduceBEq, Int.reduceLE, Int.reduceLT, Int.reduceToNat, Int.reduceAdd, Int.reduceSub, Int.reduceMul, Int.reduceEq, Int.reduceBEq, Int.reduceNeg, Int.reduceGT, Int.natCast_pos]
  refine vcall_by false (unrolledSize_ok l hl) ?_
  by_cases h : GC.okP l
  · obtain ⟨f, e1, e2⟩ := GC.okP_tree h
    have hs := blk_ok l h.2.2 ((flatT f).length + 1) 3 f 0 [] (by omega) (by simpa using e1) (.inl rfl) e2 (by omega) (by omega)
    rw [← GC.unroll_eq h e1 e2] at hs
    have h0 : ¬ ((GC.unrollM l).length : Int) < 0 := by omega
    by_cases h1 : (GC.unrollM l).length ≤ 120
    · have h1' : ¬ (120 < ((GC.unrollM l).length : Int)) := by omega
      simp (config := { maxSteps := 1000000 }) only [push_cast, ↓reduceIte, ↓normL_data, ↓frzL_data, Nat.reduceEqDiff, Nat.reduceLT, reduceCtorEq, Nat.reduceAdd, Nat.reduceMul, Nat.reduceDiv, Nat.reduceMod, Nat.reduceSub, Nat.reduceLeDiff, Nat.reduceBEq, Int.reduceLE, Int.reduceLT, Int.reduceToNat, Int.reduceAdd, Int.reduceSub, Int.reduceMul, Int.reduceEq, Int.reduceBEq, Int.reduceNeg, Int.reduceGT, Int.natCast_pos, h, h0, h1, h1']
      refine vcall_by false hs ?_
      simp (config := { maxSteps := 1000000 }) only [push_cast, ↓reduceIte, ↓normL_data, ↓frzL_data, Nat.reduceEqDiff, Nat.reduceLT, reduceCtorEq, Nat.reduceAdd, Nat.reduceMul, Nat.reduceDiv, Nat.reduceMod, Nat.reduceSub, Nat.reduceLeDiff, Nat.reduceBEq, Int.reduceLE, Int.reduceLT, Int.reduceToNat, Int.reduceAdd, Int.reduceSub, Int.reduceMul, Int.reduceEq, Int.reduceBEq, Int.reduceNeg, Int.reduceGT, Int.natCast_pos, h, h1]
    · have h1' : (120 < ((GC.unrollM l).length : Int)) := by omega
      simp (config := { maxSteps := 1000000 }) only [push_cast, ↓reduceIte, ↓normL_data, ↓frzL_data, Nat.reduceEqDiff, Nat.reduceLT, reduceCtorEq, Nat.reduceAdd, Nat.reduceMul, Nat.reduceDiv, Nat.reduceMod, Nat.reduceSub, Nat.reduceLeDiff, Nat.reduceBEq, Int.reduceLE, Int.reduceLT, Int.reduceToNat, Int.reduceAdd, Int.reduceSub, Int.reduceMul, Int.reduceEq, Int.reduceBEq, Int.reduceNeg, Int.reduceGT, Int.natCast_pos, h, h0, h1, h1']
  · simp (config := { maxSteps := 1000000 }) only [push_cast, ↓reduceIte, ↓normL_data, ↓frzL_data, Nat.reduceEqDiff, Nat.reduceLT, reduceCtorEq, Nat.reduceAdd, Nat.reduceMul, Nat.reduceDiv, Nat.reduceMod, Nat.reduceSub, Nat.reduceLeDiff, Nat.reduceBEq, Int.reduceLE, Int.reduceLT, Int.reduceToNat, Int.reduceAdd, Int.reduceSub, Int.reduceMul, Int.reduceEq, Int.reduceBEq, Int.reduceNeg, Int.reduceGT, Int.natCast_pos, h]
end GV

set_option linter.unusedSimpArgs false
set_option linter.unusedVariables false
set_option maxHeartbeats 4000000
namespace GV
open Go
theorem and_mask (x : Int) (k : Nat) (hk : k ≤ 62) (h0 : 0 ≤ x) (h1 : x < 9223372036854775808) (m : Int) (hm : m = 2 ^ k - 1) : bits .and .i64 x m = x % 2 ^ k := by
  obtain ⟨X, rfl⟩ := Int.eq_ofNat_of_zero_le h0
  have hp : 0 < 2 ^ k := Nat.pow_pos (by omega)
  have hle : 2 ^ k ≤ 2 ^ 62 := Nat.pow_le_pow_right (by omega) hk
  have h3 : ((2 ^ k : Nat) : Int) = (2 : Int) ^ k := by simp
  have e : m = ((2 ^ k - 1 : Nat) : Int) := by omega
  rw [e, GC.bits_and_i64 _ _ (by omega) h1 (by omega) (by omega), GC.an, Int.toNat_natCast, Int.toNat_natCast, Nat.and_two_pow_sub_one_eq_mod]
  push_cast; rfl
theorem or_one (x : Int) (h0 : 0 ≤ x) (h1 : x < 4611686018427387904) : bits .or .i64 x 1 = x + 1 - x % 2 := by
  obtain ⟨X, rfl⟩ := Int.eq_ofNat_of_zero_le h0
  have hx : X ||| 1 < 2 ^ 63 := Nat.or_lt_two_pow (by omega) (by omega)
  have e : bits .or .i64 (X : Int) 1 = IntKind.i64.wrap ((X ||| 1 : Nat) : Int) := by
    show IntKind.i64.wrap ((BitVec.ofInt 64 (X : Int) ||| BitVec.ofInt 64 ((1 : Nat) : Int)).toNat : Int) = _
    rw [BitVec.toNat_or, BitVec.ofInt_natCast, BitVec.ofInt_natCast, BitVec.toNat_ofNat, BitVec.toNat_ofNat, Nat.mod_eq_of_lt (by omega), Nat.mod_eq_of_lt (by omega)]
  rw [e, GC.i64_in _ (by omega) (by omega)]
  have h2 : (X ||| 1) / 2 = X / 2 := by
    have := Nat.or_div_two_pow (a := X) (b := 1) (n := 1)
    simpa using this
  have h3 : (X ||| 1) % 2 = 1 := by simp
  omega
theorem isWord_ok (x : Int) : CallOk Go.Proofs.Try.prog gl0 92 [.c (iD x)] ⟨[.c (bD (decide (GC.isW x)))], []⟩ := by
  refine okFn (fn := Go.Proofs.Try.f92) [.tmp 2] 1 5 (by kernel_rfl) (by kernel_rfl) rfl (by kernel_rfl) (by decide) rfl rfl rfl ?_
  simp (config := { maxSteps := 1000000 }) only [push_cast, ↓reduceIte, ↓normL_data, ↓frzL_data, Nat.reduceEqDiff, Nat.reduceLT, reduceCtorEq, Nat.reduceAdd, Nat.reduceMul, Nat.reduceDiv, Nat.reduceMod, Nat.reduceSub, Nat.reduceLeDiff, Nat.reduceBEq, Int.reduceLE, Int.reduceLT, Int.reduceToNat, Int.reduceAdd, Int.reduceSub, Int.reduceMul, Int.reduceEq, Int.reduceBEq, Int.reduceNeg, Int.reduceGT, Int.natCast_pos]
  refine vcall_by false (in_ok x 0 4294967295) ?_
  simp (config := { maxSteps := 1000000 }) only [push_cast, ↓reduceIte, ↓normL_data, ↓frzL_data, Nat.reduceEqDiff, Nat.reduceLT, reduceCtorEq, Nat.reduceAdd, Nat.reduceMul, Nat.reduceDiv, Nat.reduceMod, Nat.reduceSub, Nat.reduceLeDiff, Nat.reduceBEq, Int.reduceLE, Int.reduceLT, Int.reduceToNat, Int.reduceAdd, Int.reduceSub, Int.reduceMul, Int.reduceEq, Int.reduceBEq, Int.reduceNeg, Int.reduceGT, Int.natCast_pos]
  rfl
def mixI (x : Int) : Nat → Int
  | 0 => x
  | k + 1 => GC.mixS (mixI x k)
theorem mixI_w {x : Int} (h : GC.isW x) : ∀ k, GC.isW (mixI x k)
  | 0 => h
  | k + 1 => GC.mixS_w _
theorem mix_step {v : Int} (h : GC.isW v) : bits .and .i64 (IntKind.i64.wrap (bits .xor .i64 v (v / 2 ^ 16) * 73244475)) 4294967295 = GC.mixS v ∧ bits .xor .i64 v (v / 2 ^ 16) = GC.xr v (v / 65536) := by
  have h1 := GC.xr_w h (GC.shr_w h)
  unfold GC.isW at h h1
  have e : bits .xor .i64 v (v / 2 ^ 16) = GC.xr v (v / 65536) := by
    rw [show (2 : Int) ^ 16 = 65536 by rfl]
    exact GC.bits_xor_i64 _ _ h.1 (by omega) (by omega) (by omega)
  rw [e]
  refine ⟨?_, rfl⟩
  rw [w64 _ (by omega) (by omega), and_mask _ 32 (by omega) (by omega) (by omega) _ (by rfl)]
  rfl
theorem mix_ok (x : Int) (h : GC.isW x) : CallOk Go.Proofs.Try.prog gl0 94 [.c (iD x)] ⟨[.c (iD (GC.mixM x))], []⟩ := by
  refine okFn (fn := Go.Proofs.Try.f94) [.tmp 2] 1 21 (by kernel_rfl) (by kernel_rfl) rfl (by kernel_rfl) (by decide) rfl rfl rfl ?_
  simp (config := { maxSteps := 1000000 }) only [push_cast, ↓reduceIte, ↓normL_data, ↓frzL_data, Nat.reduceEqDiff, Nat.reduceLT, reduceCtorEq, Nat.reduceAdd, Nat.reduceMul, Nat.reduceDiv, Nat.reduceMod, Nat.reduceSub, Nat.reduceLeDiff, Nat.reduceBEq, Int.reduceLE, Int.reduceLT, Int.reduceToNat, Int.reduceAdd, Int.reduceSub, Int.reduceMul, Int.reduceEq, Int.reduceBEq, Int.reduceNeg, Int.reduceGT, Int.natCast_pos]
  refine vcall_by false (isWord_ok x) ?_
  simp (config := { maxSteps := 1000000 }) only [push_cast, ↓reduceIte, ↓normL_data, ↓frzL_data, Nat.reduceEqDiff, Nat.reduceLT, reduceCtorEq, Nat.reduceAdd, Nat.reduceMul, Nat.reduceDiv, Nat.reduceMod, Nat.reduceSub, Nat.reduceLeDiff, Nat.reduceBEq, Int.reduceLE, Int.reduceLT, Int.reduceToNat, Int.reduceAdd, Int.reduceSub, Int.reduceMul, Int.reduceEq, Int.reduceBEq, Int.reduceNeg, Int.reduceGT, Int.natCast_pos, h]
  refine VC.loop' tab_ok (σ := Fin 3) (fun k => St.of gl0 [(0, .c (.d (iD (mixI x k.1)))), (3, .c (.d (iD k.1)))] [] []) (fun k => 3 - k.1) ⟨0, by omega⟩ (St.le_of ?_) ?_
  · simp (config := { maxSteps := 1000000 }) only [push_cast, ↓reduceIte, ↓normL_data, ↓frzL_data, Nat.reduceEqDiff, Nat.reduceLT, reduceCtorEq, Nat.reduceAdd, Nat.reduceMul, Nat.reduceDiv, Nat.reduceMod, Nat.reduceSub, Nat.reduceLeDiff, Nat.reduceBEq, Int.reduceLE, Int.reduceLT, Int.reduceToNat, Int.reduceAdd, Int.reduceSub, Int.reduceMul, Int.reduceEq, Int.reduceBEq, Int.reduceNeg, Int.reduceGT, Int.natCast_pos, mixI, Int.natCast_zero]
  · intro k
    obtain ⟨k, hk⟩ := k
    have hw := mixI_w h k
    obtain ⟨e1, e2⟩ := mix_step hw
    have ek : IntKind.i64.wrap ((k : Int) + 1) = ((k + 1 : Nat) : Int) := by rw [w64 _ (by omega) (by omega)]; omega
    by_cases h2 : (k : Int) < 2
    · simp (config := { maxSteps := 1000000 }) only [push_cast, ↓reduceIte, ↓normL_data, ↓frzL_data, Nat.reduceEqDiff, Nat.reduceLT, reduceCtorEq, Nat.reduceAdd, Nat.reduceMul, Nat.reduceDiv, Nat.reduceMod, Nat.reduceSub, Nat.reduceLeDiff, Nat.reduceBEq, Int.reduceLE, Int.reduceLT, Int.reduceToNat, Int.reduceAdd, Int.reduceSub, Int.reduceMul, Int.reduceEq, Int.reduceBEq, Int.reduceNeg, Int.reduceGT, Int.natCast_pos, h2, e1]
      refine kloop_next ⟨k + 1, by omega⟩ (St.le_of ?_) (by simp only; omega)
      simp (config := { maxSteps := 1000000 }) only [push_cast, ↓reduceIte, ↓normL_data, ↓frzL_data, Nat.reduceEqDiff, Nat.reduceLT, reduceCtorEq, Nat.reduceAdd, Nat.reduceMul, Nat.reduceDiv, Nat.reduceMod, Nat.reduceSub, Nat.reduceLeDiff, Nat.reduceBEq, Int.reduceLE, Int.reduceLT, Int.reduceToNat, Int.reduceAdd, Int.reduceSub, Int.reduceMul, Int.reduceEq, Int.reduceBEq, Int.reduceNeg, Int.reduceGT, Int.natCast_pos, ek, mixI]
    · have hk2 : k = 2 := by omega
      subst hk2
      simp (config := { maxSteps := 1000000 }) only [push_cast, ↓reduceIte, ↓normL_data, ↓frzL_data, Nat.reduceEqDiff, Nat.reduceLT, reduceCtorEq, Nat.reduceAdd, Nat.reduceMul, Nat.reduceDiv, Nat.reduceMod, Nat.reduceSub, Nat.reduceLeDiff, Nat.reduceBEq, Int.reduceLE, Int.reduceLT, Int.reduceToNat, Int.reduceAdd, Int.reduceSub, Int.reduceMul, Int.reduceEq, Int.reduceBEq, Int.reduceNeg, Int.reduceGT, Int.natCast_pos, h2, e2]
      rfl
theorem keyed_ok (k a b : Int) (hk : GC.isW k) (ha : GC.isW a) (hb : GC.isW b) : CallOk Go.Proofs.Try.prog gl0 62 [.c (iD k), .c (iD a), .c (iD b)] ⟨[.c (iD (GC.keyM k a b))], []⟩ := by
  have w1 := GC.xr_w (GC.mixM_w k) ha
  have w2 := GC.xr_w (GC.mixM_w (GC.xr (GC.mixM k) a)) hb
  have v1 := GC.mixM_w k
  have v2 := GC.mixM_w (GC.xr (GC.mixM k) a)
  have e1 : bits .xor .i64 (GC.mixM k) a = GC.xr (GC.mixM k) a := by unfold GC.isW at *; exact GC.bits_xor_i64 _ _ (by omega) (by omega) (by omega) (by omega)
  have e2 : bits .xor .i64 (GC.mixM (GC.xr (GC.mixM k) a)) b = GC.xr (GC.mixM (GC.xr (GC.mixM k) a)) b := by unfold GC.isW at *; exact GC.bits_xor_i64 _ _ (by omega) (by omega) (by omega) (by omega)
  refine okFn (fn := Go.Proofs.Try.f62) [.tmp 6] 3 28 (by kernel_rfl) (by kernel_rfl) rfl (by kernel_rfl) (by decide) rfl rfl rfl ?_
  simp (config := { maxSteps := 1000000 }) only [push_cast, ↓reduceIte, ↓normL_data, ↓frzL_data, Nat.reduceEqDiff, Nat.reduceLT, reduceCtorEq, Nat.reduceAdd, Nat.reduceMul, Nat.reduceDiv, Nat.reduceMod, Nat.reduceSub, Nat.reduceLeDiff, Nat.reduceBEq, Int.reduceLE, Int.reduceLT, Int.reduceToNat, Int.reduceAdd, Int.reduceSub, Int.reduceMul, Int.reduceEq, Int.reduceBEq, Int.reduceNeg, Int.reduceGT, Int.natCast_pos]
  refine vcall_by false (isWord_ok k) ?_
  simp (config := { maxSteps := 1000000 }) only [push_cast, ↓reduceIte, ↓normL_data, ↓frzL_data, Nat.reduceEqDiff, Nat.reduceLT, reduceCtorEq, Nat.reduceAdd, Nat.reduceMul, Nat.reduceDiv, Nat.reduceMod, Nat.reduceSub, Nat.reduceLeDiff, Nat.reduceBEq, Int.reduceLE, Int.reduceLT, Int.reduceToNat, Int.reduceAdd, Int.reduceSub, Int.reduceMul, Int.reduceEq, Int.reduceBEq, Int.reduceNeg, Int.reduceGT, Int.natCast_pos, hk]
  refine vcall_by false (isWord_ok a) ?_
  simp (config := { maxSteps := 1000000 }) only [push_cast, ↓reduceIte, ↓normL_data, ↓frzL_data, Nat.reduceEqDiff, Nat.reduceLT, reduceCtorEq, Nat.reduceAdd, Nat.reduceMul, Nat.reduceDiv, Nat.reduceMod, Nat.reduceSub, Nat.reduceLeDiff, Nat.reduceBEq, Int.reduceLE, Int.reduceLT, Int.reduceToNat, Int.reduceAdd, Int.reduceSub, Int.reduceMul, Int.reduceEq, Int.reduceBEq, Int.reduceNeg, Int.reduceGT, Int.natCast_pos, ha]
  refine vcall_by false (isWord_ok b) ?_
  simp (config := { maxSteps := 1000000 }) only [push_cast, ↓reduceIte, ↓normL_data, ↓frzL_data, Nat.reduceEqDiff, Nat.reduceLT, reduceCtorEq, Nat.reduceAdd, Nat.reduceMul, Nat.reduceDiv, Nat.reduceMod, Nat.reduceSub, Nat.reduceLeDiff, Nat.reduceBEq, Int.reduceLE, Int.reduceLT, Int.reduceToNat, Int.reduceAdd, Int.reduceSub, Int.reduceMul, Int.reduceEq, Int.reduceBEq, Int.reduceNeg, Int.reduceGT, Int.natCast_pos, hb]
  refine vcall_by false (mix_ok k hk) ?_
  simp (config := { maxSteps := 1000000 }) only [push_cast, ↓reduceIte, ↓normL_data, ↓frzL_data, Nat.reduceEqDiff, Nat.reduceLT, reduceCtorEq, Nat.reduceAdd, Nat.reduceMul, Nat.reduceDiv, Nat.reduceMod, Nat.reduceSub, Nat.reduceLeDiff, Nat.reduceBEq, Int.reduceLE, Int.reduceLT, Int.reduceToNat, Int.reduceAdd, Int.reduceSub, Int.reduceMul, Int.reduceEq, Int.reduceBEq, Int.reduceNeg, Int.reduceGT, Int.natCast_pos, e1]
  refine vcall_by false (mix_ok _ w1) ?_
  simp (config := { maxSteps := 1000000 }) only [push_cast, ↓reduceIte, ↓normL_data, ↓frzL_data, Nat.reduceEqDiff, Nat.reduceLT, reduceCtorEq, Nat.reduceAdd, Nat.reduceMul, Nat.reduceDiv, Nat.reduceMod, Nat.reduceSub, Nat.reduceLeDiff, Nat.reduceBEq, Int.reduceLE, Int.reduceLT, Int.reduceToNat, Int.reduceAdd, Int.reduceSub, Int.reduceMul, Int.reduceEq, Int.reduceBEq, Int.reduceNeg, Int.reduceGT, Int.natCast_pos, e2]
  refine vcall_by false (mix_ok _ w2) ?_
  simp (config := { maxSteps := 1000000 }) only [push_cast, ↓reduceIte, ↓normL_data, ↓frzL_data, Nat.reduceEqDiff, Nat.reduceLT, reduceCtorEq, Nat.reduceAdd, Nat.reduceMul, Nat.reduceDiv, Nat.reduceMod, Nat.reduceSub, Nat.reduceLeDiff, Nat.reduceBEq, Int.reduceLE, Int.reduceLT, Int.reduceToNat, Int.reduceAdd, Int.reduceSub, Int.reduceMul, Int.reduceEq, Int.reduceBEq, Int.reduceNeg, Int.reduceGT, Int.natCast_pos]
  rfl
instance (t : GC.Tp) (m : Int) : Decidable (GC.okT t m) := inferInstanceAs (Decidable (_ ∧ _ ∧ _))
theorem tapeOk_ok (s p : Int) : CallOk Go.Proofs.Try.prog gl0 58 [.ag [iD s, iD p]] ⟨[.c (bD (decide (GC.okT ⟨s, p⟩ 1000000)))], []⟩ := by
  refine okFn (fn := Go.Proofs.Try.f58) [.tmp 2] 1 11 (by kernel_rfl) (by kernel_rfl) rfl (by kernel_rfl) (by decide) rfl rfl rfl ?_
  unfold GC.okT
  simp (config := { maxSteps := 1000000 }) only [push_cast, ↓reduceIte, ↓normL_data, ↓frzL_data, Nat.reduceEqDiff, Nat.reduceLT, reduceCtorEq, Nat.reduceAdd, Nat.reduceMul, Nat.reduceDiv, Nat.reduceMod, Nat.reduceSub, Nat.reduceLeDiff, Nat.reduceBEq, Int.reduceLE, Int.reduceLT, Int.reduceToNat, Int.reduceAdd, Int.reduceSub, Int.reduceMul, Int.reduceEq, Int.reduceBEq, Int.reduceNeg, Int.reduceGT, Int.natCast_pos]
  refine vcall_by false (isWord_ok s) ?_
  by_cases h : GC.isW s
  · simp (config := { maxSteps := 1000000 }) only [push_cast, ↓reduceIte, ↓normL_data, ↓frzL_data, Nat.reduceEqDiff, Nat.reduceLT, reduceCtorEq, Nat.reduceAdd, Nat.reduceMul, Nat.reduceDiv, Nat.reduceMod, Nat.reduceSub, Nat.reduceLeDiff, Nat.reduceBEq, Int.reduceLE, Int.reduceLT, Int.reduceToNat, Int.reduceAdd, Int.reduceSub, Int.reduceMul, Int.reduceEq, Int.reduceBEq, Int.reduceNeg, Int.reduceGT, Int.natCast_pos, h]
    refine vcall_by false (in_ok p 0 1000000) ?_
    simp (config := { maxSteps := 1000000 }) only [push_cast, ↓reduceIte, ↓normL_data, ↓frzL_data, Nat.reduceEqDiff, Nat.reduceLT, reduceCtorEq, Nat.reduceAdd, Nat.reduceMul, Nat.reduceDiv, Nat.reduceMod, Nat.reduceSub, Nat.reduceLeDiff, Nat.reduceBEq, Int.reduceLE, Int.reduceLT, Int.reduceToNat, Int.reduceAdd, Int.reduceSub, Int.reduceMul, Int.reduceEq, Int.reduceBEq, Int.reduceNeg, Int.reduceGT, Int.natCast_pos, h]
  · simp (config := { maxSteps := 1000000 }) only [push_cast, ↓reduceIte, ↓normL_data, ↓frzL_data, Nat.reduceEqDiff, Nat.reduceLT, reduceCtorEq, Nat.reduceAdd, Nat.reduceMul, Nat.reduceDiv, Nat.reduceMod, Nat.reduceSub, Nat.reduceLeDiff, Nat.reduceBEq, Int.reduceLE, Int.reduceLT, Int.reduceToNat, Int.reduceAdd, Int.reduceSub, Int.reduceMul, Int.reduceEq, Int.reduceBEq, Int.reduceNeg, Int.reduceGT, Int.natCast_pos, h]
theorem l06_ok (s p : Int) : CallOk Go.Proofs.Try.prog gl0 31 [.ag [iD s, iD p]] ⟨[.c (bD (decide (GC.okT ⟨s, p⟩ 900000)))], []⟩ := by
  refine okFn (fn := Go.Proofs.Try.f31) [.tmp 2] 1 10 (by kernel_rfl) (by kernel_rfl) rfl (by kernel_rfl) (by decide) rfl rfl rfl ?_
  simp (config := { maxSteps := 1000000 }) only [push_cast, ↓reduceIte, ↓normL_data, ↓frzL_data, Nat.reduceEqDiff, Nat.reduceLT, reduceCtorEq, Nat.reduceAdd, Nat.reduceMul, Nat.reduceDiv, Nat.reduceMod, Nat.reduceSub, Nat.reduceLeDiff, Nat.reduceBEq, Int.reduceLE, Int.reduceLT, Int.reduceToNat, Int.reduceAdd, Int.reduceSub, Int.reduceMul, Int.reduceEq, Int.reduceBEq, Int.reduceNeg, Int.reduceGT, Int.natCast_pos]
  refine vcall_by false (tapeOk_ok s p) ?_
  by_cases h : GC.okT ⟨s, p⟩ 1000000
  · have e : decide (GC.okT ⟨s, p⟩ 900000) = decide (p ≤ 900000) := decide_eq_decide.2 (by unfold GC.okT at *; simp only at *; constructor; exact fun h => h.2.2; exact fun h' => ⟨h.1, h.2.1, h'⟩)
    simp (config := { maxSteps := 1000000 }) only [push_cast, ↓reduceIte, ↓normL_data, ↓frzL_data, Nat.reduceEqDiff, Nat.reduceLT, reduceCtorEq, Nat.reduceAdd, Nat.reduceMul, Nat.reduceDiv, Nat.reduceMod, Nat.reduceSub, Nat.reduceLeDiff, Nat.reduceBEq, Int.reduceLE, Int.reduceLT, Int.reduceToNat, Int.reduceAdd, Int.reduceSub, Int.reduceMul, Int.reduceEq, Int.reduceBEq, Int.reduceNeg, Int.reduceGT, Int.natCast_pos, h, e]
  · have e : ¬ GC.okT ⟨s, p⟩ 900000 := fun h' => h (by unfold GC.okT at *; simp only at *; exact ⟨h'.1, h'.2.1, by omega⟩)
    simp (config := { maxSteps := 1000000 }) only [push_cast, ↓reduceIte, ↓normL_data, ↓frzL_data, Nat.reduceEqDiff, Nat.reduceLT, reduceCtorEq, Nat.reduceAdd, Nat.reduceMul, Nat.reduceDiv, Nat.reduceMod, Nat.reduceSub, Nat.reduceLeDiff, Nat.reduceBEq, Int.reduceLE, Int.reduceLT, Int.reduceToNat, Int.reduceAdd, Int.reduceSub, Int.reduceMul, Int.reduceEq, Int.reduceBEq, Int.reduceNeg, Int.reduceGT, Int.natCast_pos, h, e]
theorem tapeWord_ok (s p : Int) (hs : GC.isW s) (h0 : 0 ≤ p) (h1 : p < 1000000) : CallOk Go.Proofs.Try.prog gl0 93 [.ag [iD s, iD p]] ⟨[.c (iD (GC.keyM s 7 p)), .ag [iD s, iD (p + 1)]], []⟩ := by
  have hok : GC.okT ⟨s, p⟩ 1000000 := ⟨hs, h0, by simp only; omega⟩
  have hp : ¬ p = 1000000 := by omega
  have ew : IntKind.i64.wrap (p + 1) = p + 1 := w64 _ (by omega) (by omega)
  refine okFn (fn := Go.Proofs.Try.f93) [.tmp 2, .cell 3 29] 1 24 (by kernel_rfl) (by kernel_rfl) rfl (by kernel_rfl) (by decide) rfl rfl rfl ?_
  simp (config := { maxSteps := 1000000 }) only [push_cast, ↓reduceIte, ↓normL_data, ↓frzL_data, Nat.reduceEqDiff, Nat.reduceLT, reduceCtorEq, Nat.reduceAdd, Nat.reduceMul, Nat.reduceDiv, Nat.reduceMod, Nat.reduceSub, Nat.reduceLeDiff, Nat.reduceBEq, Int.reduceLE, Int.reduceLT, Int.reduceToNat, Int.reduceAdd, Int.reduceSub, Int.reduceMul, Int.reduceEq, Int.reduceBEq, Int.reduceNeg, Int.reduceGT, Int.natCast_pos]
  refine vcall_by false (tapeOk_ok s p) ?_
  simp (config := { maxSteps := 1000000 }) only [push_cast, ↓reduceIte, ↓normL_data, ↓frzL_data, Nat.reduceEqDiff, Nat.reduceLT, reduceCtorEq, Nat.reduceAdd, Nat.reduceMul, Nat.reduceDiv, Nat.reduceMod, Nat.reduceSub, Nat.reduceLeDiff, Nat.reduceBEq, Int.reduceLE, Int.reduceLT, Int.reduceToNat, Int.reduceAdd, Int.reduceSub, Int.reduceMul, Int.reduceEq, Int.reduceBEq, Int.reduceNeg, Int.reduceGT, Int.natCast_pos, hok, hp]
  refine VD.plan tab_ok (by kernel_rfl) [12] (.takes [0, 1, 2, 3, 5, 6, 7, 8, 9, 10] (.one 4 (.takes [11] (.one 12 (.done))))) (by kernel_rfl) ?_
  simp (config := { maxSteps := 1000000 }) only [push_cast, ↓reduceIte, ↓normL_data, ↓frzL_data, Nat.reduceEqDiff, Nat.reduceLT, reduceCtorEq, Nat.reduceAdd, Nat.reduceMul, Nat.reduceDiv, Nat.reduceMod, Nat.reduceSub, Nat.reduceLeDiff, Nat.reduceBEq, Int.reduceLE, Int.reduceLT, Int.reduceToNat, Int.reduceAdd, Int.reduceSub, Int.reduceMul, Int.reduceEq, Int.reduceBEq, Int.reduceNeg, Int.reduceGT, Int.natCast_pos]
  repeat' apply And.intro
  all_goals
    refine vcall_by false (keyed_ok s 7 p hs (by decide) (by unfold GC.isW; omega)) ?_
    simp (config := { maxSteps := 1000000 }) only [push_cast, ↓reduceIte, ↓normL_data, ↓frzL_data, Nat.reduceEqDiff, Nat.reduceLT, reduceCtorEq, Nat.reduceAdd, Nat.reduceMul, Nat.reduceDiv, Nat.reduceMod, Nat.reduceSub, Nat.reduceLeDiff, Nat.reduceBEq, Int.reduceLE, Int.reduceLT, Int.reduceToNat, Int.reduceAdd, Int.reduceSub, Int.reduceMul, Int.reduceEq, Int.reduceBEq, Int.reduceNeg, Int.reduceGT, Int.natCast_pos, ew]
theorem mul_in {w n : Int} (hw : GC.isW w) (hn : 0 < n) : (w.tdiv 256).tmod n = w / 256 % n := by
  rw [tdiv_e _ _ hw.1, tmod_e _ _ (by unfold GC.isW at hw; omega)]
theorem tbelow_ok (s p n : Int) (hs : GC.isW s) (h0 : 0 ≤ p) (h1 : p < 1000000) (n0 : 1 ≤ n) (n1 : n ≤ 65536) : CallOk Go.Proofs.Try.prog gl0 59 [.ag [iD s, iD p], .c (iD n)] ⟨[.c (iD (GC.belowM ⟨s, p⟩ n)), .ag [iD s, iD (p + 1)]], []⟩ := by
  have hw := GC.keyM_w s 7 p
  have e1 := mul_in hw (by omega : 0 < n)
  have e2 : IntKind.i64.wrap ((GC.keyM s 7 p).tdiv 256) = (GC.keyM s 7 p).tdiv 256 := by
    rw [tdiv_e _ _ hw.1]; unfold GC.isW at hw; exact w64 _ (by omega) (by omega)
  have hn : (1 ≤ n ∧ n ≤ 65536) = True := by simp [n0, n1]
  have hne : ¬ n = 0 := by omega
  refine okFn (fn := Go.Proofs.Try.f59) [.tmp 4, .cell 5 29] 2 22 (by kernel_rfl) (by kernel_rfl) rfl (by kernel_rfl) (by decide) rfl rfl rfl ?_
  simp (config := { maxSteps := 1000000 }) only [push_cast, ↓reduceIte, ↓normL_data, ↓frzL_data, Nat.reduceEqDiff, Nat.reduceLT, reduceCtorEq, Nat.reduceAdd, Nat.reduceMul, Nat.reduceDiv, Nat.reduceMod, Nat.reduceSub, Nat.reduceLeDiff, Nat.reduceBEq, Int.reduceLE, Int.reduceLT, Int.reduceToNat, Int.reduceAdd, Int.reduceSub, Int.reduceMul, Int.reduceEq, Int.reduceBEq, Int.reduceNeg, Int.reduceGT, Int.natCast_pos]
  refine vcall_by false (in_ok n 1 65536) ?_
  simp (config := { maxSteps := 1000000 }) only [push_cast, ↓reduceIte, ↓normL_data, ↓frzL_data, Nat.reduceEqDiff, Nat.reduceLT, reduceCtorEq, Nat.reduceAdd, Nat.reduceMul, Nat.reduceDiv, Nat.reduceMod, Nat.reduceSub, Nat.reduceLeDiff, Nat.reduceBEq, Int.reduceLE, Int.reduceLT, Int.reduceToNat, Int.reduceAdd, Int.reduceSub, Int.reduceMul, Int.reduceEq, Int.reduceBEq, Int.reduceNeg, Int.reduceGT, Int.natCast_pos, hn, n0, n1]
  refine vcall_by false (tapeWord_ok s p hs h0 h1) ?_
  simp (config := { maxSteps := 1000000 }) only [push_cast, ↓reduceIte, ↓normL_data, ↓frzL_data, Nat.reduceEqDiff, Nat.reduceLT, reduceCtorEq, Nat.reduceAdd, Nat.reduceMul, Nat.reduceDiv, Nat.reduceMod, Nat.reduceSub, Nat.reduceLeDiff, Nat.reduceBEq, Int.reduceLE, Int.reduceLT, Int.reduceToNat, Int.reduceAdd, Int.reduceSub, Int.reduceMul, Int.reduceEq, Int.reduceBEq, Int.reduceNeg, Int.reduceGT, Int.natCast_pos]
  refine VD.plan tab_ok (by kernel_rfl) [6] (.takes [0, 1, 2, 3, 4, 5] (.one 6 (.done))) (by kernel_rfl) ?_
  simp (config := { maxSteps := 1000000 }) only [push_cast, ↓reduceIte, ↓normL_data, ↓frzL_data, Nat.reduceEqDiff, Nat.reduceLT, reduceCtorEq, Nat.reduceAdd, Nat.reduceMul, Nat.reduceDiv, Nat.reduceMod, Nat.reduceSub, Nat.reduceLeDiff, Nat.reduceBEq, Int.reduceLE, Int.reduceLT, Int.reduceToNat, Int.reduceAdd, Int.reduceSub, Int.reduceMul, Int.reduceEq, Int.reduceBEq, Int.reduceNeg, Int.reduceGT, Int.natCast_pos, e2, hne, e1]
  rfl
theorem fork_ok (s p n : Int) (hs : GC.isW s) (h0 : 0 ≤ p) (h1 : p ≤ 1000000) (n0 : 0 ≤ n) (n1 : n ≤ 1000000) : CallOk Go.Proofs.Try.prog gl0 60 [.ag [iD s, iD p], .c (iD n)] ⟨[.ag [iD (GC.keyM s 9 n), iD 0]], []⟩ := by
  have hok : GC.okT ⟨s, p⟩ 1000000 := ⟨hs, h0, h1⟩
  have hn : (0 ≤ n ∧ n ≤ 1000000) = True := by simp [n0, n1]
  refine okFn (fn := Go.Proofs.Try.f60) [.cell 4 29] 2 19 (by kernel_rfl) (by kernel_rfl) rfl (by kernel_rfl) (by decide) rfl rfl rfl ?_
  simp (config := { maxSteps := 1000000 }) only [push_cast, ↓reduceIte, ↓normL_data, ↓frzL_data, Nat.reduceEqDiff, Nat.reduceLT, reduceCtorEq, Nat.reduceAdd, Nat.reduceMul, Nat.reduceDiv, Nat.reduceMod, Nat.reduceSub, Nat.reduceLeDiff, Nat.reduceBEq, Int.reduceLE, Int.reduceLT, Int.reduceToNat, Int.reduceAdd, Int.reduceSub, Int.reduceMul, Int.reduceEq, Int.reduceBEq, Int.reduceNeg, Int.reduceGT, Int.natCast_pos]
  refine vcall_by false (tapeOk_ok s p) ?_
  simp (config := { maxSteps := 1000000 }) only [push_cast, ↓reduceIte, ↓normL_data, ↓frzL_data, Nat.reduceEqDiff, Nat.reduceLT, reduceCtorEq, Nat.reduceAdd, Nat.reduceMul, Nat.reduceDiv, Nat.reduceMod, Nat.reduceSub, Nat.reduceLeDiff, Nat.reduceBEq, Int.reduceLE, Int.reduceLT, Int.reduceToNat, Int.reduceAdd, Int.reduceSub, Int.reduceMul, Int.reduceEq, Int.reduceBEq, Int.reduceNeg, Int.reduceGT, Int.natCast_pos, hok]
  refine vcall_by false (in_ok n 0 1000000) ?_
  simp (config := { maxSteps := 1000000 }) only [push_cast, ↓reduceIte, ↓normL_data, ↓frzL_data, Nat.reduceEqDiff, Nat.reduceLT, reduceCtorEq, Nat.reduceAdd, Nat.reduceMul, Nat.reduceDiv, Nat.reduceMod, Nat.reduceSub, Nat.reduceLeDiff, Nat.reduceBEq, Int.reduceLE, Int.reduceLT, Int.reduceToNat, Int.reduceAdd, Int.reduceSub, Int.reduceMul, Int.reduceEq, Int.reduceBEq, Int.reduceNeg, Int.reduceGT, Int.natCast_pos, hn, n0, n1]
  refine vcall_by false (keyed_ok s 9 n hs (by decide) (by unfold GC.isW; omega)) ?_
  simp (config := { maxSteps := 1000000 }) only [push_cast, ↓reduceIte, ↓normL_data, ↓frzL_data, Nat.reduceEqDiff, Nat.reduceLT, reduceCtorEq, Nat.reduceAdd, Nat.reduceMul, Nat.reduceDiv, Nat.reduceMod, Nat.reduceSub, Nat.reduceLeDiff, Nat.reduceBEq, Int.reduceLE, Int.reduceLT, Int.reduceToNat, Int.reduceAdd, Int.reduceSub, Int.reduceMul, Int.reduceEq, Int.reduceBEq, Int.reduceNeg, Int.reduceGT, Int.natCast_pos]
theorem delta_ok (s p : Int) (hs : GC.isW s) (h0 : 0 ≤ p) (h1 : p ≤ 900000) : CallOk Go.Proofs.Try.prog gl0 32 [.ag [iD s, iD p]] ⟨[.c (iD (GC.deltaM ⟨s, p⟩)), .ag [iD s, iD (p + 1)]], []⟩ := by
  have hok : GC.okT ⟨s, p⟩ 900000 := ⟨hs, h0, h1⟩
  have hb := GC.belowM_lt ⟨s, p⟩ 65536 (by omega)
  have e1 := or_one (GC.belowM ⟨s, p⟩ 65536) hb.1 (by omega)
  refine okFn (fn := Go.Proofs.Try.f32) [.tmp 2, .cell 3 29] 1 18 (by kernel_rfl) (by kernel_rfl) rfl (by kernel_rfl) (by decide) rfl rfl rfl ?_
  simp (config := { maxSteps := 1000000 }) only [push_cast, ↓reduceIte, ↓normL_data, ↓frzL_data, Nat.reduceEqDiff, Nat.reduceLT, reduceCtorEq, Nat.reduceAdd, Nat.reduceMul, Nat.reduceDiv, Nat.reduceMod, Nat.reduceSub, Nat.reduceLeDiff, Nat.reduceBEq, Int.reduceLE, Int.reduceLT, Int.reduceToNat, Int.reduceAdd, Int.reduceSub, Int.reduceMul, Int.reduceEq, Int.reduceBEq, Int.reduceNeg, Int.reduceGT, Int.natCast_pos]
  refine vcall_by false (l06_ok s p) ?_
  simp (config := { maxSteps := 1000000 }) only [push_cast, ↓reduceIte, ↓normL_data, ↓frzL_data, Nat.reduceEqDiff, Nat.reduceLT, reduceCtorEq, Nat.reduceAdd, Nat.reduceMul, Nat.reduceDiv, Nat.reduceMod, Nat.reduceSub, Nat.reduceLeDiff, Nat.reduceBEq, Int.reduceLE, Int.reduceLT, Int.reduceToNat, Int.reduceAdd, Int.reduceSub, Int.reduceMul, Int.reduceEq, Int.reduceBEq, Int.reduceNeg, Int.reduceGT, Int.natCast_pos, hok]
  refine vcall_by false (tbelow_ok s p 65536 hs h0 (by omega) (by omega) (by omega)) ?_
  simp (config := { maxSteps := 1000000 }) only [push_cast, ↓reduceIte, ↓normL_data, ↓frzL_data, Nat.reduceEqDiff, Nat.reduceLT, reduceCtorEq, Nat.reduceAdd, Nat.reduceMul, Nat.reduceDiv, Nat.reduceMod, Nat.reduceSub, Nat.reduceLeDiff, Nat.reduceBEq, Int.reduceLE, Int.reduceLT, Int.reduceToNat, Int.reduceAdd, Int.reduceSub, Int.reduceMul, Int.reduceEq, Int.reduceBEq, Int.reduceNeg, Int.reduceGT, Int.natCast_pos]
  refine VD.plan tab_ok (by kernel_rfl) [4] (.takes [0, 1, 2, 3] (.one 4 (.done))) (by kernel_rfl) ?_
  simp (config := { maxSteps := 1000000 }) only [push_cast, ↓reduceIte, ↓normL_data, ↓frzL_data, Nat.reduceEqDiff, Nat.reduceLT, reduceCtorEq, Nat.reduceAdd, Nat.reduceMul, Nat.reduceDiv, Nat.reduceMod, Nat.reduceSub, Nat.reduceLeDiff, Nat.reduceBEq, Int.reduceLE, Int.reduceLT, Int.reduceToNat, Int.reduceAdd, Int.reduceSub, Int.reduceMul, Int.reduceEq, Int.reduceBEq, Int.reduceNeg, Int.reduceGT, Int.natCast_pos, e1]
  rfl
theorem inputZero_ok (s p k : Int) (hs : GC.isW s) (h0 : 0 ≤ p) (h1 : p ≤ 1000000) (n0 : 0 ≤ k) (n1 : k ≤ 1000000) : CallOk Go.Proofs.Try.prog gl0 33 [.ag [iD s, iD p], .c (iD k)] ⟨[.c (iD (GC.zeroM ⟨s, p⟩ k))], []⟩ := by
  have hok : GC.okT ⟨s, p⟩ 1000000 := ⟨hs, h0, h1⟩
  have hn : (0 ≤ k ∧ k ≤ 1000000) = True := by simp [n0, n1]
  refine okFn (fn := Go.Proofs.Try.f33) [.tmp 4] 2 23 (by kernel_rfl) (by kernel_rfl) rfl (by kernel_rfl) (by decide) rfl rfl rfl ?_
  simp (config := { maxSteps := 1000000 }) only [push_cast, ↓reduceIte, ↓normL_data, ↓frzL_data, Nat.reduceEqDiff, Nat.reduceLT, reduceCtorEq, Nat.reduceAdd, Nat.reduceMul, Nat.reduceDiv, Nat.reduceMod, Nat.reduceSub, Nat.reduceLeDiff, Nat.reduceBEq, Int.reduceLE, Int.reduceLT, Int.reduceToNat, Int.reduceAdd, Int.reduceSub, Int.reduceMul, Int.reduceEq, Int.reduceBEq, Int.reduceNeg, Int.reduceGT, Int.natCast_pos]
  refine vcall_by false (tapeOk_ok s p) ?_
  simp (config := { maxSteps := 1000000 }) only [push_cast, ↓reduceIte, ↓normL_data, ↓frzL_data, Nat.reduceEqDiff, Nat.reduceLT, reduceCtorEq, Nat.reduceAdd, Nat.reduceMul, Nat.reduceDiv, Nat.reduceMod, Nat.reduceSub, Nat.reduceLeDiff, Nat.reduceBEq, Int.reduceLE, Int.reduceLT, Int.reduceToNat, Int.reduceAdd, Int.reduceSub, Int.reduceMul, Int.reduceEq, Int.reduceBEq, Int.reduceNeg, Int.reduceGT, Int.natCast_pos, hok]
  refine vcall_by false (in_ok k 0 1000000) ?_
  simp (config := { maxSteps := 1000000 }) only [push_cast, ↓reduceIte, ↓normL_data, ↓frzL_data, Nat.reduceEqDiff, Nat.reduceLT, reduceCtorEq, Nat.reduceAdd, Nat.reduceMul, Nat.reduceDiv, Nat.reduceMod, Nat.reduceSub, Nat.reduceLeDiff, Nat.reduceBEq, Int.reduceLE, Int.reduceLT, Int.reduceToNat, Int.reduceAdd, Int.reduceSub, Int.reduceMul, Int.reduceEq, Int.reduceBEq, Int.reduceNeg, Int.reduceGT, Int.natCast_pos, hn, n0, n1]
  refine vcall_by false (fork_ok s p k hs h0 h1 n0 n1) ?_
  simp (config := { maxSteps := 1000000 }) only [push_cast, ↓reduceIte, ↓normL_data, ↓frzL_data, Nat.reduceEqDiff, Nat.reduceLT, reduceCtorEq, Nat.reduceAdd, Nat.reduceMul, Nat.reduceDiv, Nat.reduceMod, Nat.reduceSub, Nat.reduceLeDiff, Nat.reduceBEq, Int.reduceLE, Int.reduceLT, Int.reduceToNat, Int.reduceAdd, Int.reduceSub, Int.reduceMul, Int.reduceEq, Int.reduceBEq, Int.reduceNeg, Int.reduceGT, Int.natCast_pos]
  refine vcall_by false (tbelow_ok (GC.keyM s 9 k) 0 65536 (GC.keyM_w _ _ _) (by omega) (by omega) (by omega) (by omega)) ?_
  simp (config := { maxSteps := 1000000 }) only [push_cast, ↓reduceIte, ↓normL_data, ↓frzL_data, Nat.reduceEqDiff, Nat.reduceLT, reduceCtorEq, Nat.reduceAdd, Nat.reduceMul, Nat.reduceDiv, Nat.reduceMod, Nat.reduceSub, Nat.reduceLeDiff, Nat.reduceBEq, Int.reduceLE, Int.reduceLT, Int.reduceToNat, Int.reduceAdd, Int.reduceSub, Int.reduceMul, Int.reduceEq, Int.reduceBEq, Int.reduceNeg, Int.reduceGT, Int.natCast_pos]
  rfl
theorem isLabel_ok (x : Int) : CallOk Go.Proofs.Try.prog gl0 61 [.c (iD x)] ⟨[.c (bD (decide (GC.isL x)))], []⟩ := by
  refine okFn (fn := Go.Proofs.Try.f61) [.tmp 2] 1 5 (by kernel_rfl) (by kernel_rfl) rfl (by kernel_rfl) (by decide) rfl rfl rfl ?_
  simp (config := { maxSteps := 1000000 }) only [push_cast, ↓reduceIte, ↓normL_data, ↓frzL_data, Nat.reduceEqDiff, Nat.reduceLT, reduceCtorEq, Nat.reduceAdd, Nat.reduceMul, Nat.reduceDiv, Nat.reduceMod, Nat.reduceSub, Nat.reduceLeDiff, Nat.reduceBEq, Int.reduceLE, Int.reduceLT, Int.reduceToNat, Int.reduceAdd, Int.reduceSub, Int.reduceMul, Int.reduceEq, Int.reduceBEq, Int.reduceNeg, Int.reduceGT, Int.natCast_pos]
  refine vcall_by false (in_ok x 0 65535) ?_
  simp (config := { maxSteps := 1000000 }) only [push_cast, ↓reduceIte, ↓normL_data, ↓frzL_data, Nat.reduceEqDiff, Nat.reduceLT, reduceCtorEq, Nat.reduceAdd, Nat.reduceMul, Nat.reduceDiv, Nat.reduceMod, Nat.reduceSub, Nat.reduceLeDiff, Nat.reduceBEq, Int.reduceLE, Int.reduceLT, Int.reduceToNat, Int.reduceAdd, Int.reduceSub, Int.reduceMul, Int.reduceEq, Int.reduceBEq, Int.reduceNeg, Int.reduceGT, Int.natCast_pos]
  rfl
theorem hash_ok (x n : Int) (hx : GC.isL x) (n0 : 0 ≤ n) (n1 : n ≤ 1000000) : CallOk Go.Proofs.Try.prog gl0 34 [.c (iD x), .c (iD n)] ⟨[.c (iD (GC.hashM x n))], []⟩ := by
  have hn : (0 ≤ n ∧ n ≤ 1000000) = True := by simp [n0, n1]
  have hw := GC.keyM_w 77 n x
  have e1 : bits .and .i64 (GC.keyM 77 n x) 65535 = GC.keyM 77 n x % 65536 := and_mask _ 16 (by omega) hw.1 (by unfold GC.isW at hw; omega) _ (by rfl)
  refine okFn (fn := Go.Proofs.Try.f34) [.tmp 4] 2 17 (by kernel_rfl) (by kernel_rfl) rfl (by kernel_rfl) (by decide) rfl rfl rfl ?_
  simp (config := { maxSteps := 1000000 }) only [push_cast, ↓reduceIte, ↓normL_data, ↓frzL_data, Nat.reduceEqDiff, Nat.reduceLT, reduceCtorEq, Nat.reduceAdd, Nat.reduceMul, Nat.reduceDiv, Nat.reduceMod, Nat.reduceSub, Nat.reduceLeDiff, Nat.reduceBEq, Int.reduceLE, Int.reduceLT, Int.reduceToNat, Int.reduceAdd, Int.reduceSub, Int.reduceMul, Int.reduceEq, Int.reduceBEq, Int.reduceNeg, Int.reduceGT, Int.natCast_pos]
  refine vcall_by false (isLabel_ok x) ?_
  simp (config := { maxSteps := 1000000 }) only [push_cast, ↓reduceIte, ↓normL_data, ↓frzL_data, Nat.reduceEqDiff, Nat.reduceLT, reduceCtorEq, Nat.reduceAdd, Nat.reduceMul, Nat.reduceDiv, Nat.reduceMod, Nat.reduceSub, Nat.reduceLeDiff, Nat.reduceBEq, Int.reduceLE, Int.reduceLT, Int.reduceToNat, Int.reduceAdd, Int.reduceSub, Int.reduceMul, Int.reduceEq, Int.reduceBEq, Int.reduceNeg, Int.reduceGT, Int.natCast_pos, hx]
  refine vcall_by false (in_ok n 0 1000000) ?_
  simp (config := { maxSteps := 1000000 }) only [push_cast, ↓reduceIte, ↓normL_data, ↓frzL_data, Nat.reduceEqDiff, Nat.reduceLT, reduceCtorEq, Nat.reduceAdd, Nat.reduceMul, Nat.reduceDiv, Nat.reduceMod, Nat.reduceSub, Nat.reduceLeDiff, Nat.reduceBEq, Int.reduceLE, Int.reduceLT, Int.reduceToNat, Int.reduceAdd, Int.reduceSub, Int.reduceMul, Int.reduceEq, Int.reduceBEq, Int.reduceNeg, Int.reduceGT, Int.natCast_pos, hn, n0, n1]
  refine vcall_by false (keyed_ok 77 n x (by decide) (by unfold GC.isW; omega) (by unfold GC.isL at hx; unfold GC.isW; omega)) ?_
  simp (config := { maxSteps := 1000000 }) only [push_cast, ↓reduceIte, ↓normL_data, ↓frzL_data, Nat.reduceEqDiff, Nat.reduceLT, reduceCtorEq, Nat.reduceAdd, Nat.reduceMul, Nat.reduceDiv, Nat.reduceMod, Nat.reduceSub, Nat.reduceLeDiff, Nat.reduceBEq, Int.reduceLE, Int.reduceLT, Int.reduceToNat, Int.reduceAdd, Int.reduceSub, Int.reduceMul, Int.reduceEq, Int.reduceBEq, Int.reduceNeg, Int.reduceGT, Int.natCast_pos, e1]
  rfl
theorem if_ok (b x : Int) : CallOk Go.Proofs.Try.prog gl0 35 [.c (iD b), .c (iD x)] ⟨[.c (iD (GC.tm b x))], []⟩ := by
  refine okFn (fn := Go.Proofs.Try.f35) [.tmp 4] 2 8 (by kernel_rfl) (by kernel_rfl) rfl (by kernel_rfl) (by decide) rfl rfl rfl ?_
  unfold GC.tm
  by_cases h : b = 1
  · simp (config := { maxSteps := 1000000 }) only [push_cast, ↓reduceIte, ↓normL_data, ↓frzL_data, Nat.reduceEqDiff, Nat.reduceLT, reduceCtorEq, Nat.reduceAdd, Nat.reduceMul, Nat.reduceDiv, Nat.reduceMod, Nat.reduceSub, Nat.reduceLeDiff, Nat.reduceBEq, Int.reduceLE, Int.reduceLT, Int.reduceToNat, Int.reduceAdd, Int.reduceSub, Int.reduceMul, Int.reduceEq, Int.reduceBEq, Int.reduceNeg, Int.reduceGT, Int.natCast_pos, h]
  · simp (config := { maxSteps := 1000000 }) only [push_cast, ↓reduceIte, ↓normL_data, ↓frzL_data, Nat.reduceEqDiff, Nat.reduceLT, reduceCtorEq, Nat.reduceAdd, Nat.reduceMul, Nat.reduceDiv, Nat.reduceMod, Nat.reduceSub, Nat.reduceLeDiff, Nat.reduceBEq, Int.reduceLE, Int.reduceLT, Int.reduceToNat, Int.reduceAdd, Int.reduceSub, Int.reduceMul, Int.reduceEq, Int.reduceBEq, Int.reduceNeg, Int.reduceGT, Int.natCast_pos, h]
end GV

