/- This text proves contracts of garbling, compiling and gates. No condition but those that each theorem states. -/
import Derived.Test.YtpenfogoolkaeaaWc
set_option linter.unusedSimpArgs false
set_option linter.unusedVariables false
set_option maxHeartbeats 4000000
namespace GV
open Go
theorem tt {p : Prop} (h : p) : p = True := by simp [h]
set_option maxRecDepth 100000 in
theorem gateOk_ok (g : GC.Gt) (n : Nat) (h : GC.okG n g) : CallOk Go.Proofs.Try.prog gl0 56 [.ag (gE g), .c (iD n)] ⟨[.c (bD true)], []⟩ := by
  obtain ⟨k, a, b⟩ := g
  unfold GC.okG at h
  simp only at h
  refine okFn (fn := Go.Proofs.Try.f56) [.tmp 4] 2 66 (by kernel_rfl) (by kernel_rfl) rfl (by kernel_rfl) (by decide) rfl rfl rfl ?_
  by_cases h1 : k = 1
  · subst h1
    simp only [if_true] at h
    obtain ⟨x1, x2, x3⟩ := h
    subst x3
    simp (config := { maxSteps := 1000000 }) only [push_cast, ↓reduceIte, ↓normL_data, ↓frzL_data, Nat.reduceEqDiff, Nat.reduceLT, reduceCtorEq, Nat.reduceAdd, Nat.reduceMul, Nat.reduceDiv, Nat.reduceMod, Nat.reduceSub, Nat.reduceLeDiff, Nat.reduceBEq, Int.reduceLE, Int.reduceLT, Int.reduceToNat, Int.reduceAdd, Int.reduceSub, Int.reduceMul, Int.reduceEq, Int.reduceBEq, Int.reduceNeg, Int.reduceGT, Int.natCast_pos, gE]
    refine vcall_by false (in_ok a 0 79) ?_
    simp (config := { maxSteps := 1000000 }) only [push_cast, ↓reduceIte, ↓normL_data, ↓frzL_data, Nat.reduceEqDiff, Nat.reduceLT, reduceCtorEq, Nat.reduceAdd, Nat.reduceMul, Nat.reduceDiv, Nat.reduceMod, Nat.reduceSub, Nat.reduceLeDiff, Nat.reduceBEq, Int.reduceLE, Int.reduceLT, Int.reduceToNat, Int.reduceAdd, Int.reduceSub, Int.reduceMul, Int.reduceEq, Int.reduceBEq, Int.reduceNeg, Int.reduceGT, Int.natCast_pos, x1, x2]
  rw [if_neg h1] at h
  by_cases h2 : k = 2
  · subst h2
    simp only [if_true] at h
    obtain ⟨x1, x2, x3⟩ := h
    subst x3
    simp (config := { maxSteps := 1000000 }) only [push_cast, ↓reduceIte, ↓normL_data, ↓frzL_data, Nat.reduceEqDiff, Nat.reduceLT, reduceCtorEq, Nat.reduceAdd, Nat.reduceMul, Nat.reduceDiv, Nat.reduceMod, Nat.reduceSub, Nat.reduceLeDiff, Nat.reduceBEq, Int.reduceLE, Int.reduceLT, Int.reduceToNat, Int.reduceAdd, Int.reduceSub, Int.reduceMul, Int.reduceEq, Int.reduceBEq, Int.reduceNeg, Int.reduceGT, Int.natCast_pos, gE]
    refine vcall_by false (in_ok a 0 1) ?_
    simp (config := { maxSteps := 1000000 }) only [push_cast, ↓reduceIte, ↓normL_data, ↓frzL_data, Nat.reduceEqDiff, Nat.reduceLT, reduceCtorEq, Nat.reduceAdd, Nat.reduceMul, Nat.reduceDiv, Nat.reduceMod, Nat.reduceSub, Nat.reduceLeDiff, Nat.reduceBEq, Int.reduceLE, Int.reduceLT, Int.reduceToNat, Int.reduceAdd, Int.reduceSub, Int.reduceMul, Int.reduceEq, Int.reduceBEq, Int.reduceNeg, Int.reduceGT, Int.natCast_pos, x1, x2]
  rw [if_neg h2] at h
  by_cases h3 : k = 3
  · subst h3
    simp only [true_or, if_true] at h
    obtain ⟨x1, x2, x3, x4⟩ := h
    simp (config := { maxSteps := 1000000 }) only [push_cast, ↓reduceIte, ↓normL_data, ↓frzL_data, Nat.reduceEqDiff, Nat.reduceLT, reduceCtorEq, Nat.reduceAdd, Nat.reduceMul, Nat.reduceDiv, Nat.reduceMod, Nat.reduceSub, Nat.reduceLeDiff, Nat.reduceBEq, Int.reduceLE, Int.reduceLT, Int.reduceToNat, Int.reduceAdd, Int.reduceSub, Int.reduceMul, Int.reduceEq, Int.reduceBEq, Int.reduceNeg, Int.reduceGT, Int.natCast_pos, gE, x1, x2, x3, x4]
  by_cases h4 : k = 4
  · subst h4
    simp only [or_true, if_true] at h
    obtain ⟨x1, x2, x3, x4⟩ := h
    simp (config := { maxSteps := 1000000 }) only [push_cast, ↓reduceIte, ↓normL_data, ↓frzL_data, Nat.reduceEqDiff, Nat.reduceLT, reduceCtorEq, Nat.reduceAdd, Nat.reduceMul, Nat.reduceDiv, Nat.reduceMod, Nat.reduceSub, Nat.reduceLeDiff, Nat.reduceBEq, Int.reduceLE, Int.reduceLT, Int.reduceToNat, Int.reduceAdd, Int.reduceSub, Int.reduceMul, Int.reduceEq, Int.reduceBEq, Int.reduceNeg, Int.reduceGT, Int.natCast_pos, gE, x1, x2, x3, x4]
  rw [if_neg (fun e => e.elim h3 h4)] at h
  by_cases h5 : k = 5
  · subst h5
    simp only [if_true] at h
    obtain ⟨x1, x2, x3⟩ := h
    subst x3
    simp (config := { maxSteps := 1000000 }) only [push_cast, ↓reduceIte, ↓normL_data, ↓frzL_data, Nat.reduceEqDiff, Nat.reduceLT, reduceCtorEq, Nat.reduceAdd, Nat.reduceMul, Nat.reduceDiv, Nat.reduceMod, Nat.reduceSub, Nat.reduceLeDiff, Nat.reduceBEq, Int.reduceLE, Int.reduceLT, Int.reduceToNat, Int.reduceAdd, Int.reduceSub, Int.reduceMul, Int.reduceEq, Int.reduceBEq, Int.reduceNeg, Int.reduceGT, Int.natCast_pos, gE, x1, x2]
  · rw [if_neg h5] at h; exact h.elim
def okC (gs : List GC.Gt) (outs : List Int) : Prop := GC.okGs gs ∧ (∀ w ∈ outs, 0 ≤ w ∧ w < gs.length) ∧ gs.length ≤ 6000 ∧ outs.length ≤ 1000000
theorem okGs_at {gs : List GC.Gt} (h : GC.okGs gs) (i : Nat) (hi : i < gs.length) : GC.okG i (gs.getD i ⟨0, 0, 0⟩) := GC.okG_at h hi
theorem circuitOk_ok (gs : List GC.Gt) (outs : List Int) (h : okC gs outs) : CallOk Go.Proofs.Try.prog gl0 30 [.ag [gsS gs, iS outs]] ⟨[.c (bD true)], []⟩ := by
  obtain ⟨h1, h2, h3, h4⟩ := h
  refine okFn (fn := Go.Proofs.Try.f30) [.tmp 2] 1 42 (by kernel_rfl) (by kernel_rfl) rfl (by kernel_rfl) (by decide) rfl rfl rfl ?_
  simp (config := { maxSteps := 1000000 }) only [push_cast, ↓reduceIte, ↓normL_data, ↓frzL_data, Nat.reduceEqDiff, Nat.reduceLT, reduceCtorEq, Nat.reduceAdd, Nat.reduceMul, Nat.reduceDiv, Nat.reduceMod, Nat.reduceSub, Nat.reduceLeDiff, Nat.reduceBEq, Int.reduceLE, Int.reduceLT, Int.reduceToNat, Int.reduceAdd, Int.reduceSub, Int.reduceMul, Int.reduceEq, Int.reduceBEq, Int.reduceNeg, Int.reduceGT, Int.natCast_pos]
  refine VC.loop' tab_ok (σ := Fin (gs.length + 1)) (fun k => St.of gl0 [(1, .c (.ptr 1 0)), (3, .c (.d (iD k.1)))] [] [(1, [.d (gsS gs), .d (iS outs)])]) (fun k => gs.length - k.1) ⟨0, by omega⟩ (St.le_of ?_) ?_
  · simp (config := { maxSteps := 1000000 }) only [push_cast, ↓reduceIte, ↓normL_data, ↓frzL_data, Nat.reduceEqDiff, Nat.reduceLT, reduceCtorEq, Nat.reduceAdd, Nat.reduceMul, Nat.reduceDiv, Nat.reduceMod, Nat.reduceSub, Nat.reduceLeDiff, Nat.reduceBEq, Int.reduceLE, Int.reduceLT, Int.reduceToNat, Int.reduceAdd, Int.reduceSub, Int.reduceMul, Int.reduceEq, Int.reduceBEq, Int.reduceNeg, Int.reduceGT, Int.natCast_pos, Int.natCast_zero]
  · intro k
    obtain ⟨k, hk⟩ := k
    have ek : IntKind.i64.wrap ((k : Int) + 1) = ((k + 1 : Nat) : Int) := by rw [w64 _ (by omega) (by omega)]; omega
    by_cases hl : k < gs.length
    · have hg := gsE_get gs k hl
      have hok := okGs_at h1 k hl
      obtain ⟨g, hgg⟩ : ∃ g, gs.getD k ⟨0, 0, 0⟩ = g := ⟨_, rfl⟩
      rw [hgg] at hg hok
      have hc := gateOk_ok g k hok
      obtain ⟨gk, ga, gb⟩ := g
      simp (config := { maxSteps := 1000000 }) only [push_cast, ↓reduceIte, ↓normL_data, ↓frzL_data, Nat.reduceEqDiff, Nat.reduceLT, reduceCtorEq, Nat.reduceAdd, Nat.reduceMul, Nat.reduceDiv, Nat.reduceMod, Nat.reduceSub, Nat.reduceLeDiff, Nat.reduceBEq, Int.reduceLE, Int.reduceLT, Int.reduceToNat, Int.reduceAdd, Int.reduceSub, Int.reduceMul, Int.reduceEq, Int.reduceBEq, Int.reduceNeg, Int.reduceGT, Int.natCast_pos, hl, hg, gE]
      refine vcall_by false hc ?_
      simp (config := { maxSteps := 1000000 }) only [push_cast, ↓reduceIte, ↓normL_data, ↓frzL_data, Nat.reduceEqDiff, Nat.reduceLT, reduceCtorEq, Nat.reduceAdd, Nat.reduceMul, Nat.reduceDiv, Nat.reduceMod, Nat.reduceSub, Nat.reduceLeDiff, Nat.reduceBEq, Int.reduceLE, Int.reduceLT, Int.reduceToNat, Int.reduceAdd, Int.reduceSub, Int.reduceMul, Int.reduceEq, Int.reduceBEq, Int.reduceNeg, Int.reduceGT, Int.natCast_pos, gE]
      refine kloop_next ⟨k + 1, by omega⟩ (St.le_of ?_) (by simp only; omega)
      simp (config := { maxSteps := 1000000 }) only [push_cast, ↓reduceIte, ↓normL_data, ↓frzL_data, Nat.reduceEqDiff, Nat.reduceLT, reduceCtorEq, Nat.reduceAdd, Nat.reduceMul, Nat.reduceDiv, Nat.reduceMod, Nat.reduceSub, Nat.reduceLeDiff, Nat.reduceBEq, Int.reduceLE, Int.reduceLT, Int.reduceToNat, Int.reduceAdd, Int.reduceSub, Int.reduceMul, Int.reduceEq, Int.reduceBEq, Int.reduceNeg, Int.reduceGT, Int.natCast_pos, ek]
    · simp (config := { maxSteps := 1000000 }) only [push_cast, ↓reduceIte, ↓normL_data, ↓frzL_data, Nat.reduceEqDiff, Nat.reduceLT, reduceCtorEq, Nat.reduceAdd, Nat.reduceMul, Nat.reduceDiv, Nat.reduceMod, Nat.reduceSub, Nat.reduceLeDiff, Nat.reduceBEq, Int.reduceLE, Int.reduceLT, Int.reduceToNat, Int.reduceAdd, Int.reduceSub, Int.reduceMul, Int.reduceEq, Int.reduceBEq, Int.reduceNeg, Int.reduceGT, Int.natCast_pos, hl]
      refine VC.loop' tab_ok (σ := Fin (outs.length + 1)) (fun k => St.of gl0 [(1, .c (.ptr 1 0)), (4, .c (.d (iD k.1)))] [] [(1, [.d (gsS gs), .d (iS outs)])]) (fun k => outs.length - k.1) ⟨0, by omega⟩ (St.le_of ?_) ?_
      · simp (config := { maxSteps := 1000000 }) only [push_cast, ↓reduceIte, ↓normL_data, ↓frzL_data, Nat.reduceEqDiff, Nat.reduceLT, reduceCtorEq, Nat.reduceAdd, Nat.reduceMul, Nat.reduceDiv, Nat.reduceMod, Nat.reduceSub, Nat.reduceLeDiff, Nat.reduceBEq, Int.reduceLE, Int.reduceLT, Int.reduceToNat, Int.reduceAdd, Int.reduceSub, Int.reduceMul, Int.reduceEq, Int.reduceBEq, Int.reduceNeg, Int.reduceGT, Int.natCast_pos, Int.natCast_zero]
      · intro m
        obtain ⟨m, hm⟩ := m
        have em : IntKind.i64.wrap ((m : Int) + 1) = ((m + 1 : Nat) : Int) := by rw [w64 _ (by omega) (by omega)]; omega
        by_cases hl2 : m < outs.length
        · have ho := iE_get outs m hl2
          have hw := h2 _ (getD_mem hl2)
          have e1 : IntKind.i64.wrap ((gs.length : Int) - 1) = (gs.length : Int) - 1 := w64 _ (by omega) (by omega)
          have e2 : outs.getD m 0 ≤ (gs.length : Int) - 1 := by omega
          simp (config := { maxSteps := 1000000 }) only [push_cast, ↓reduceIte, ↓normL_data, ↓frzL_data, Nat.reduceEqDiff, Nat.reduceLT, reduceCtorEq, Nat.reduceAdd, Nat.reduceMul, Nat.reduceDiv, Nat.reduceMod, Nat.reduceSub, Nat.reduceLeDiff, Nat.reduceBEq, Int.reduceLE, Int.reduceLT, Int.reduceToNat, Int.reduceAdd, Int.reduceSub, Int.reduceMul, Int.reduceEq, Int.reduceBEq, Int.reduceNeg, Int.reduceGT, Int.natCast_pos, hl2]
          refine VD.plan tab_ok (by kernel_rfl) [] (.takes [0, 1, 2, 3, 4, 5, 6, 7, 8] (.one 9 (.takes [10] (.done)))) (by kernel_rfl) ?_
          simp (config := { maxSteps := 1000000 }) only [push_cast, ↓reduceIte, ↓normL_data, ↓frzL_data, Nat.reduceEqDiff, Nat.reduceLT, reduceCtorEq, Nat.reduceAdd, Nat.reduceMul, Nat.reduceDiv, Nat.reduceMod, Nat.reduceSub, Nat.reduceLeDiff, Nat.reduceBEq, Int.reduceLE, Int.reduceLT, Int.reduceToNat, Int.reduceAdd, Int.reduceSub, Int.reduceMul, Int.reduceEq, Int.reduceBEq, Int.reduceNeg, Int.reduceGT, Int.natCast_pos, ho, hl2, e1]
          refine vcall_by false (in_ok (outs.getD m 0) 0 ((gs.length : Int) - 1)) ?_
          simp (config := { maxSteps := 1000000 }) only [push_cast, ↓reduceIte, ↓normL_data, ↓frzL_data, Nat.reduceEqDiff, Nat.reduceLT, reduceCtorEq, Nat.reduceAdd, Nat.reduceMul, Nat.reduceDiv, Nat.reduceMod, Nat.reduceSub, Nat.reduceLeDiff, Nat.reduceBEq, Int.reduceLE, Int.reduceLT, Int.reduceToNat, Int.reduceAdd, Int.reduceSub, Int.reduceMul, Int.reduceEq, Int.reduceBEq, Int.reduceNeg, Int.reduceGT, Int.natCast_pos, hw.1, e2]
          refine kloop_next ⟨m + 1, by omega⟩ (St.le_of ?_) (by simp only; omega)
          simp (config := { maxSteps := 1000000 }) only [push_cast, ↓reduceIte, ↓normL_data, ↓frzL_data, Nat.reduceEqDiff, Nat.reduceLT, reduceCtorEq, Nat.reduceAdd, Nat.reduceMul, Nat.reduceDiv, Nat.reduceMod, Nat.reduceSub, Nat.reduceLeDiff, Nat.reduceBEq, Int.reduceLE, Int.reduceLT, Int.reduceToNat, Int.reduceAdd, Int.reduceSub, Int.reduceMul, Int.reduceEq, Int.reduceBEq, Int.reduceNeg, Int.reduceGT, Int.natCast_pos, em]
        · have h6 : (gs.length : Int) ≤ 6000 := by omega
          simp (config := { maxSteps := 1000000 }) only [push_cast, ↓reduceIte, ↓normL_data, ↓frzL_data, Nat.reduceEqDiff, Nat.reduceLT, reduceCtorEq, Nat.reduceAdd, Nat.reduceMul, Nat.reduceDiv, Nat.reduceMod, Nat.reduceSub, Nat.reduceLeDiff, Nat.reduceBEq, Int.reduceLE, Int.reduceLT, Int.reduceToNat, Int.reduceAdd, Int.reduceSub, Int.reduceMul, Int.reduceEq, Int.reduceBEq, Int.reduceNeg, Int.reduceGT, Int.natCast_pos, hl2, h6]
end GV

set_option linter.unusedSimpArgs false
set_option linter.unusedVariables false
set_option maxHeartbeats 4000000
namespace GV
open Go
theorem xl {x y : Int} (hx : GC.isL x) (hy : GC.isL y) : bits .xor .i64 x y = GC.xr x y := by
  unfold GC.isL at *
  exact GC.bits_xor_i64 _ _ hx.1 (by omega) hy.1 (by omega)
theorem bit1 {x : Int} (hx : GC.isL x) : bits .and .i64 x 1 = x % 2 := and_mask x 1 (by omega) hx.1 (by unfold GC.isL at hx; omega) _ (by rfl)
theorem take_succ' (gs : List GC.Gt) (k : Nat) (h : k < gs.length) : gs.take (k + 1) = gs.take k ++ [gs.getD k ⟨0, 0, 0⟩] := by
  rw [List.take_succ_eq_append_getElem h, List.getD_eq_getElem?_getD, List.getElem?_eq_getElem h]; rfl
def garbE (gs : List GC.Gt) (t : GC.Tp) : List D := [iD (GC.deltaM t), iS (GC.garbM gs t).z, iS (GC.garbM gs t).tb]
set_option maxRecDepth 100000 in
theorem garble_ok (gs : List GC.Gt) (outs : List Int) (s p : Int) (h : okC gs outs) (hs : GC.isW s) (h0 : 0 ≤ p) (h1 : p ≤ 900000) :
    CallOk Go.Proofs.Try.prog gl0 9 [.ag [gsS gs, iS outs], .ag [iD s, iD p]] ⟨[.ag (garbE gs ⟨s, p⟩), .c (bD true)], []⟩ := by
  have hcir := circuitOk_ok gs outs h
  have hok : GC.okT ⟨s, p⟩ 900000 := ⟨hs, h0, h1⟩
  have hlen := h.2.2.1
  obtain ⟨d, hd⟩ : ∃ d, GC.deltaM ⟨s, p⟩ = d := ⟨_, rfl⟩
  have hdl := (GC.deltaM_l ⟨s, p⟩).1
  have hdelta := delta_ok s p hs h0 h1
  unfold garbE
  rw [hd] at hdl hdelta ⊢
  refine okFn (fn := Go.Proofs.Try.f9) [.cell 4 36, .tmp 5] 2 165 (by kernel_rfl) (by kernel_rfl) rfl (by kernel_rfl) (by decide) rfl rfl rfl ?_
  simp (config := { maxSteps := 1000000 }) only [push_cast, ↓reduceIte, ↓normL_data, ↓frzL_data, Nat.reduceEqDiff, Nat.reduceLT, reduceCtorEq, Nat.reduceAdd, Nat.reduceMul, Nat.reduceDiv, Nat.reduceMod, Nat.reduceSub, Nat.reduceLeDiff, Nat.reduceBEq, Int.reduceLE, Int.reduceLT, Int.reduceToNat, Int.reduceAdd, Int.reduceSub, Int.reduceMul, Int.reduceEq, Int.reduceBEq, Int.reduceNeg, Int.reduceGT, Int.natCast_pos]
  refine vcall_by false hcir ?_
  simp (config := { maxSteps := 1000000 }) only [push_cast, ↓reduceIte, ↓normL_data, ↓frzL_data, Nat.reduceEqDiff, Nat.reduceLT, reduceCtorEq, Nat.reduceAdd, Nat.reduceMul, Nat.reduceDiv, Nat.reduceMod, Nat.reduceSub, Nat.reduceLeDiff, Nat.reduceBEq, Int.reduceLE, Int.reduceLT, Int.reduceToNat, Int.reduceAdd, Int.reduceSub, Int.reduceMul, Int.reduceEq, Int.reduceBEq, Int.reduceNeg, Int.reduceGT, Int.natCast_pos]
  refine vcall_by false (l06_ok s p) ?_
  simp (config := { maxSteps := 1000000 }) only [push_cast, ↓reduceIte, ↓normL_data, ↓frzL_data, Nat.reduceEqDiff, Nat.reduceLT, reduceCtorEq, Nat.reduceAdd, Nat.reduceMul, Nat.reduceDiv, Nat.reduceMod, Nat.reduceSub, Nat.reduceLeDiff, Nat.reduceBEq, Int.reduceLE, Int.reduceLT, Int.reduceToNat, Int.reduceAdd, Int.reduceSub, Int.reduceMul, Int.reduceEq, Int.reduceBEq, Int.reduceNeg, Int.reduceGT, Int.natCast_pos, hok]
  refine vcall_by false hdelta ?_
  simp (config := { maxSteps := 1000000 }) only [push_cast, ↓reduceIte, ↓normL_data, ↓frzL_data, Nat.reduceEqDiff, Nat.reduceLT, reduceCtorEq, Nat.reduceAdd, Nat.reduceMul, Nat.reduceDiv, Nat.reduceMod, Nat.reduceSub, Nat.reduceLeDiff, Nat.reduceBEq, Int.reduceLE, Int.reduceLT, Int.reduceToNat, Int.reduceAdd, Int.reduceSub, Int.reduceMul, Int.reduceEq, Int.reduceBEq, Int.reduceNeg, Int.reduceGT, Int.natCast_pos]
  refine VC.loop' tab_ok (σ := Fin (gs.length + 1)) (fun k => St.of gl0 [(2, .c (.ptr 2 0)), (3, .c (.ptr 3 0)), (4, .c (.ptr 4 0)), (6, .c (.ptr 6 0)), (7, .c (.d (iD d))), (9, .c (.d (iD k.1)))]
    [(5001, iR []), (5002, iR []), (7001, iR (GC.garbM (gs.take k.1) ⟨s, p⟩).z), (7002, iR (GC.garbM (gs.take k.1) ⟨s, p⟩).tb)]
    [(2, [.d (gsS gs), .d (iS outs)]), (3, [.d (iD s), .d (iD p)]), (4, [.d (iD 0), .own 5001, .own 5002]), (6, [.d (iD d), .own 7001, .own 7002])]) (fun k => gs.length - k.1) ⟨0, by omega⟩ (St.le_of ?_) ?_
  · simp (config := { maxSteps := 1000000 }) only [push_cast, ↓reduceIte, ↓normL_data, ↓frzL_data, Nat.reduceEqDiff, Nat.reduceLT, reduceCtorEq, Nat.reduceAdd, Nat.reduceMul, Nat.reduceDiv, Nat.reduceMod, Nat.reduceSub, Nat.reduceLeDiff, Nat.reduceBEq, Int.reduceLE, Int.reduceLT, Int.reduceToNat, Int.reduceAdd, Int.reduceSub, Int.reduceMul, Int.reduceEq, Int.reduceBEq, Int.reduceNeg, Int.reduceGT, Int.natCast_pos, Int.natCast_zero]
    exact ⟨rfl, rfl⟩
  · intro k
    obtain ⟨k, hk⟩ := k
    have ek : IntKind.i64.wrap ((k : Int) + 1) = ((k + 1 : Nat) : Int) := by rw [w64 _ (by omega) (by omega)]; omega
    by_cases hl : k < gs.length
    · have hg := gsE_get gs k hl
      have hgk := okGs_at h.1 k hl
      have hts := take_succ' gs k hl
      obtain ⟨g, hgg⟩ : ∃ g, gs.getD k ⟨0, 0, 0⟩ = g := ⟨_, rfl⟩
      rw [hgg] at hg hgk hts
      have hst := GC.garbM_snoc (gs.take k) g ⟨s, p⟩
      rw [← hts] at hst
      have hz := GC.garbM_z (gs.take k) ⟨s, p⟩
      have htb := GC.garbM_tb (gs.take k) ⟨s, p⟩
      have hkl : (gs.take k).length = k := by rw [List.length_take]; omega
      have hlab := (GC.garbM_l (gs.take k) ⟨s, p⟩).1
      have hcnt : GC.cnt 4 (gs.take k) ≤ 6000 := by
        have : GC.cnt 4 (gs.take k) ≤ (gs.take k).length := List.length_filter_le _ _
        omega
      rw [hkl] at hz
      obtain ⟨S, hS⟩ : ∃ S, GC.garbM (gs.take k) ⟨s, p⟩ = S := ⟨_, rfl⟩
      rw [hS] at hst hz htb hlab
      obtain ⟨gk, ga, gb⟩ := g
      unfold GC.okG at hgk
      simp only at hgk
      unfold GC.garbS at hst
      simp only [hz, hd] at hst
      by_cases c1 : gk = 1
      · subst c1
        simp only [if_true] at hgk hst
        obtain ⟨x1, x2, x3⟩ := hgk
        simp (config := { maxSteps := 1000000 }) only [push_cast, ↓reduceIte, ↓normL_data, ↓frzL_data, Nat.reduceEqDiff, Nat.reduceLT, reduceCtorEq, Nat.reduceAdd, Nat.reduceMul, Nat.reduceDiv, Nat.reduceMod, Nat.reduceSub, Nat.reduceLeDiff, Nat.reduceBEq, Int.reduceLE, Int.reduceLT, Int.reduceToNat, Int.reduceAdd, Int.reduceSub, Int.reduceMul, Int.reduceEq, Int.reduceBEq, Int.reduceNeg, Int.reduceGT, Int.natCast_pos, hl, hg, gE, hS]
        refine vcall_by false (inputZero_ok s p ga hs h0 (by omega) x1 (by omega)) ?_
        simp (config := { maxSteps := 1000000 }) only [push_cast, ↓reduceIte, ↓normL_data, ↓frzL_data, Nat.reduceEqDiff, Nat.reduceLT, reduceCtorEq, Nat.reduceAdd, Nat.reduceMul, Nat.reduceDiv, Nat.reduceMod, Nat.reduceSub, Nat.reduceLeDiff, Nat.reduceBEq, Int.reduceLE, Int.reduceLT, Int.reduceToNat, Int.reduceAdd, Int.reduceSub, Int.reduceMul, Int.reduceEq, Int.reduceBEq, Int.reduceNeg, Int.reduceGT, Int.natCast_pos]
        refine ⟨by omega, kloop_next ⟨k + 1, by omega⟩ (St.le_of ?_) (by simp only; omega)⟩
        simp (config := { maxSteps := 1000000 }) only [push_cast, ↓reduceIte, ↓normL_data, ↓frzL_data, Nat.reduceEqDiff, Nat.reduceLT, reduceCtorEq, Nat.reduceAdd, Nat.reduceMul, Nat.reduceDiv, Nat.reduceMod, Nat.reduceSub, Nat.reduceLeDiff, Nat.reduceBEq, Int.reduceLE, Int.reduceLT, Int.reduceToNat, Int.reduceAdd, Int.reduceSub, Int.reduceMul, Int.reduceEq, Int.reduceBEq, Int.reduceNeg, Int.reduceGT, Int.natCast_pos, ek, hst, and_self]
      rw [if_neg c1] at hgk hst
      by_cases c2 : gk = 2
      · subst c2
        simp only [if_true] at hgk hst
        have e1 : IntKind.i64.wrap (1000 + (k : Int)) = 1000 + (k : Int) := w64 _ (by omega) (by omega)
        simp (config := { maxSteps := 1000000 }) only [push_cast, ↓reduceIte, ↓normL_data, ↓frzL_data, Nat.reduceEqDiff, Nat.reduceLT, reduceCtorEq, Nat.reduceAdd, Nat.reduceMul, Nat.reduceDiv, Nat.reduceMod, Nat.reduceSub, Nat.reduceLeDiff, Nat.reduceBEq, Int.reduceLE, Int.reduceLT, Int.reduceToNat, Int.reduceAdd, Int.reduceSub, Int.reduceMul, Int.reduceEq, Int.reduceBEq, Int.reduceNeg, Int.reduceGT, Int.natCast_pos, hl, hg, gE, e1, hS]
        refine vcall_by false (inputZero_ok s p (1000 + (k : Int)) hs h0 (by omega) (by omega) (by omega)) ?_
        simp (config := { maxSteps := 1000000 }) only [push_cast, ↓reduceIte, ↓normL_data, ↓frzL_data, Nat.reduceEqDiff, Nat.reduceLT, reduceCtorEq, Nat.reduceAdd, Nat.reduceMul, Nat.reduceDiv, Nat.reduceMod, Nat.reduceSub, Nat.reduceLeDiff, Nat.reduceBEq, Int.reduceLE, Int.reduceLT, Int.reduceToNat, Int.reduceAdd, Int.reduceSub, Int.reduceMul, Int.reduceEq, Int.reduceBEq, Int.reduceNeg, Int.reduceGT, Int.natCast_pos]
        refine ⟨by omega, kloop_next ⟨k + 1, by omega⟩ (St.le_of ?_) (by simp only; omega)⟩
        simp (config := { maxSteps := 1000000 }) only [push_cast, ↓reduceIte, ↓normL_data, ↓frzL_data, Nat.reduceEqDiff, Nat.reduceLT, reduceCtorEq, Nat.reduceAdd, Nat.reduceMul, Nat.reduceDiv, Nat.reduceMod, Nat.reduceSub, Nat.reduceLeDiff, Nat.reduceBEq, Int.reduceLE, Int.reduceLT, Int.reduceToNat, Int.reduceAdd, Int.reduceSub, Int.reduceMul, Int.reduceEq, Int.reduceBEq, Int.reduceNeg, Int.reduceGT, Int.natCast_pos, ek, hst, and_self]
      rw [if_neg c2] at hgk hst
      by_cases c3 : gk = 3
      · subst c3
        simp only [true_or, if_true] at hgk hst
        obtain ⟨x1, x2, x3, x4⟩ := hgk
        have i1 : ga.toNat < S.z.length := by omega
        have i2 : gb.toNat < S.z.length := by omega
        have f1 : ga < (S.z.length : Int) := by omega
        have f2 : gb < (S.z.length : Int) := by omega
        have ex : bits .xor .i64 (S.z.getD ga.toNat 0) (S.z.getD gb.toNat 0) = GC.xr (GC.zAt S.z ga) (GC.zAt S.z gb) := xl (GC.zAt_l hlab ga) (GC.zAt_l hlab gb)
        simp (config := { maxSteps := 1000000 }) only [push_cast, ↓reduceIte, ↓normL_data, ↓frzL_data, Nat.reduceEqDiff, Nat.reduceLT, reduceCtorEq, Nat.reduceAdd, Nat.reduceMul, Nat.reduceDiv, Nat.reduceMod, Nat.reduceSub, Nat.reduceLeDiff, Nat.reduceBEq, Int.reduceLE, Int.reduceLT, Int.reduceToNat, Int.reduceAdd, Int.reduceSub, Int.reduceMul, Int.reduceEq, Int.reduceBEq, Int.reduceNeg, Int.reduceGT, Int.natCast_pos, hl, hg, gE, hS]
        refine VD.plan tab_ok (by kernel_rfl) [] (.takes [0, 1, 2, 3, 4, 5, 6, 7, 8, 9, 10, 11, 12, 13] (.done)) (by kernel_rfl) ?_
        simp (config := { maxSteps := 1000000 }) only [push_cast, ↓reduceIte, ↓normL_data, ↓frzL_data, Nat.reduceEqDiff, Nat.reduceLT, reduceCtorEq, Nat.reduceAdd, Nat.reduceMul, Nat.reduceDiv, Nat.reduceMod, Nat.reduceSub, Nat.reduceLeDiff, Nat.reduceBEq, Int.reduceLE, Int.reduceLT, Int.reduceToNat, Int.reduceAdd, Int.reduceSub, Int.reduceMul, Int.reduceEq, Int.reduceBEq, Int.reduceNeg, Int.reduceGT, Int.natCast_pos, iE_get _ _ i1, iE_get _ _ i2, i1, i2, x1, x3, f1, f2, ex]
        refine ⟨by omega, kloop_next ⟨k + 1, by omega⟩ (St.le_of ?_) (by simp only; omega)⟩
        simp (config := { maxSteps := 1000000 }) only [push_cast, ↓reduceIte, ↓normL_data, ↓frzL_data, Nat.reduceEqDiff, Nat.reduceLT, reduceCtorEq, Nat.reduceAdd, Nat.reduceMul, Nat.reduceDiv, Nat.reduceMod, Nat.reduceSub, Nat.reduceLeDiff, Nat.reduceBEq, Int.reduceLE, Int.reduceLT, Int.reduceToNat, Int.reduceAdd, Int.reduceSub, Int.reduceMul, Int.reduceEq, Int.reduceBEq, Int.reduceNeg, Int.reduceGT, Int.natCast_pos, ek, hst, and_self]
      rw [if_neg c3] at hst
      by_cases c4 : gk = 4
      · subst c4
        simp only [or_true, if_true] at hgk hst
        obtain ⟨x1, x2, x3, x4⟩ := hgk
        have i1 : ga.toNat < S.z.length := by omega
        have i2 : gb.toNat < S.z.length := by omega
        have f1 : ga < (S.z.length : Int) := by omega
        have f2 : gb < (S.z.length : Int) := by omega
        have la := GC.zAt_l hlab ga
        have lb := GC.zAt_l hlab gb
        have da : S.z.getD ga.toNat 0 = GC.zAt S.z ga := rfl
        have db : S.z.getD gb.toNat 0 = GC.zAt S.z gb := rfl
        generalize GC.zAt S.z ga = a at *
        generalize GC.zAt S.z gb = b at *
        have w1 : IntKind.i64.wrap (2 * (k : Int)) = 2 * (k : Int) := w64 _ (by omega) (by omega)
        have w2 : IntKind.i64.wrap (2 * (k : Int) + 1) = 2 * (k : Int) + 1 := w64 _ (by omega) (by omega)
        have lad := GC.xr_l la hdl
        have lbd := GC.xr_l lb hdl
        have h1a := GC.hashM_l a (2 * (k : Int))
        have h1d := GC.hashM_l (GC.xr a d) (2 * (k : Int))
        have h2b := GC.hashM_l b (2 * (k : Int) + 1)
        have h2d := GC.hashM_l (GC.xr b d) (2 * (k : Int) + 1)
        have lG := GC.gG_l (a := a) (b := b) (n := k) hdl
        have lE := GC.gE_l (d := d) (b := b) (n := k) la
        have v1 := xl la hdl
        have v2 := xl h1a h1d
        have v3 : bits .xor .i64 (GC.xr (GC.hashM a (2 * (k : Int))) (GC.hashM (GC.xr a d) (2 * (k : Int)))) (GC.tm (b % 2) d) = GC.gG d a b k := xl (GC.xr_l h1a h1d) (GC.tm_l (b := b % 2) hdl)
        have v4 := xl lb hdl
        have v5 := xl h2b h2d
        have v6 : bits .xor .i64 (GC.xr (GC.hashM b (2 * (k : Int) + 1)) (GC.hashM (GC.xr b d) (2 * (k : Int) + 1))) a = GC.gE d a b k := xl (GC.xr_l h2b h2d) la
        have v7 := xl h1a h2b
        have v8 := xl (GC.xr_l h1a h2b) (GC.tm_l (b := a % 2) lG)
        have v9 := xl lE la
        have v10 : bits .xor .i64 (GC.xr (GC.xr (GC.hashM a (2 * (k : Int))) (GC.hashM b (2 * (k : Int) + 1))) (GC.tm (a % 2) (GC.gG d a b k))) (GC.tm (b % 2) (GC.xr (GC.gE d a b k) a)) = GC.gZ d a b k := xl (GC.xr_l (GC.xr_l h1a h2b) (GC.tm_l (b := a % 2) lG)) (GC.tm_l (b := b % 2) (GC.xr_l lE la))
        have b1 := bit1 la
        have b2 := bit1 lb
        simp (config := { maxSteps := 1000000 }) only [push_cast, ↓reduceIte, ↓normL_data, ↓frzL_data, Nat.reduceEqDiff, Nat.reduceLT, reduceCtorEq, Nat.reduceAdd, Nat.reduceMul, Nat.reduceDiv, Nat.reduceMod, Nat.reduceSub, Nat.reduceLeDiff, Nat.reduceBEq, Int.reduceLE, Int.reduceLT, Int.reduceToNat, Int.reduceAdd, Int.reduceSub, Int.reduceMul, Int.reduceEq, Int.reduceBEq, Int.reduceNeg, Int.reduceGT, Int.natCast_pos, hl, hg, gE, hS, iE_get _ _ i1, iE_get _ _ i2, i1, i2, x1, x3, f1, f2, da, db, w1]
        refine vcall_by false (hash_ok a (2 * (k : Int)) la (by omega) (by omega)) ?_
        simp (config := { maxSteps := 1000000 }) only [push_cast, ↓reduceIte, ↓normL_data, ↓frzL_data, Nat.reduceEqDiff, Nat.reduceLT, reduceCtorEq, Nat.reduceAdd, Nat.reduceMul, Nat.reduceDiv, Nat.reduceMod, Nat.reduceSub, Nat.reduceLeDiff, Nat.reduceBEq, Int.reduceLE, Int.reduceLT, Int.reduceToNat, Int.reduceAdd, Int.reduceSub, Int.reduceMul, Int.reduceEq, Int.reduceBEq, Int.reduceNeg, Int.reduceGT, Int.natCast_pos, v1, w1]
        refine vcall_by false (hash_ok (GC.xr a d) (2 * (k : Int)) lad (by omega) (by omega)) ?_
        simp (config := { maxSteps := 1000000 }) only [push_cast, ↓reduceIte, ↓normL_data, ↓frzL_data, Nat.reduceEqDiff, Nat.reduceLT, reduceCtorEq, Nat.reduceAdd, Nat.reduceMul, Nat.reduceDiv, Nat.reduceMod, Nat.reduceSub, Nat.reduceLeDiff, Nat.reduceBEq, Int.reduceLE, Int.reduceLT, Int.reduceToNat, Int.reduceAdd, Int.reduceSub, Int.reduceMul, Int.reduceEq, Int.reduceBEq, Int.reduceNeg, Int.reduceGT, Int.natCast_pos, v2, b2]
        refine vcall_by false (if_ok (b % 2) d) ?_
        simp (config := { maxSteps := 1000000 }) only [push_cast, ↓reduceIte, ↓normL_data, ↓frzL_data, Nat.reduceEqDiff, Nat.reduceLT, reduceCtorEq, Nat.reduceAdd, Nat.reduceMul, Nat.reduceDiv, Nat.reduceMod, Nat.reduceSub, Nat.reduceLeDiff, Nat.reduceBEq, Int.reduceLE, Int.reduceLT, Int.reduceToNat, Int.reduceAdd, Int.reduceSub, Int.reduceMul, Int.reduceEq, Int.reduceBEq, Int.reduceNeg, Int.reduceGT, Int.natCast_pos, v3, w1, w2]
        refine vcall_by false (hash_ok b (2 * (k : Int) + 1) lb (by omega) (by omega)) ?_
        simp (config := { maxSteps := 1000000 }) only [push_cast, ↓reduceIte, ↓normL_data, ↓frzL_data, Nat.reduceEqDiff, Nat.reduceLT, reduceCtorEq, Nat.reduceAdd, Nat.reduceMul, Nat.reduceDiv, Nat.reduceMod, Nat.reduceSub, Nat.reduceLeDiff, Nat.reduceBEq, Int.reduceLE, Int.reduceLT, Int.reduceToNat, Int.reduceAdd, Int.reduceSub, Int.reduceMul, Int.reduceEq, Int.reduceBEq, Int.reduceNeg, Int.reduceGT, Int.natCast_pos, v4, w1, w2]
        refine vcall_by false (hash_ok (GC.xr b d) (2 * (k : Int) + 1) lbd (by omega) (by omega)) ?_
        simp (config := { maxSteps := 1000000 }) only [push_cast, ↓reduceIte, ↓normL_data, ↓frzL_data, Nat.reduceEqDiff, Nat.reduceLT, reduceCtorEq, Nat.reduceAdd, Nat.reduceMul, Nat.reduceDiv, Nat.reduceMod, Nat.reduceSub, Nat.reduceLeDiff, Nat.reduceBEq, Int.reduceLE, Int.reduceLT, Int.reduceToNat, Int.reduceAdd, Int.reduceSub, Int.reduceMul, Int.reduceEq, Int.reduceBEq, Int.reduceNeg, Int.reduceGT, Int.natCast_pos, v5, v6, w1, w2]
        refine ⟨by omega, ?_⟩
        refine vcall_by false (hash_ok a (2 * (k : Int)) la (by omega) (by omega)) ?_
        simp (config := { maxSteps := 1000000 }) only [push_cast, ↓reduceIte, ↓normL_data, ↓frzL_data, Nat.reduceEqDiff, Nat.reduceLT, reduceCtorEq, Nat.reduceAdd, Nat.reduceMul, Nat.reduceDiv, Nat.reduceMod, Nat.reduceSub, Nat.reduceLeDiff, Nat.reduceBEq, Int.reduceLE, Int.reduceLT, Int.reduceToNat, Int.reduceAdd, Int.reduceSub, Int.reduceMul, Int.reduceEq, Int.reduceBEq, Int.reduceNeg, Int.reduceGT, Int.natCast_pos, w1, w2]
        refine vcall_by false (hash_ok b (2 * (k : Int) + 1) lb (by omega) (by omega)) ?_
        simp (config := { maxSteps := 1000000 }) only [push_cast, ↓reduceIte, ↓normL_data, ↓frzL_data, Nat.reduceEqDiff, Nat.reduceLT, reduceCtorEq, Nat.reduceAdd, Nat.reduceMul, Nat.reduceDiv, Nat.reduceMod, Nat.reduceSub, Nat.reduceLeDiff, Nat.reduceBEq, Int.reduceLE, Int.reduceLT, Int.reduceToNat, Int.reduceAdd, Int.reduceSub, Int.reduceMul, Int.reduceEq, Int.reduceBEq, Int.reduceNeg, Int.reduceGT, Int.natCast_pos, v7, b1]
        refine vcall_by false (if_ok (a % 2) (GC.gG d a b k)) ?_
        simp (config := { maxSteps := 1000000 }) only [push_cast, ↓reduceIte, ↓normL_data, ↓frzL_data, Nat.reduceEqDiff, Nat.reduceLT, reduceCtorEq, Nat.reduceAdd, Nat.reduceMul, Nat.reduceDiv, Nat.reduceMod, Nat.reduceSub, Nat.reduceLeDiff, Nat.reduceBEq, Int.reduceLE, Int.reduceLT, Int.reduceToNat, Int.reduceAdd, Int.reduceSub, Int.reduceMul, Int.reduceEq, Int.reduceBEq, Int.reduceNeg, Int.reduceGT, Int.natCast_pos, v8, b2, v9]
        refine vcall_by false (if_ok (b % 2) (GC.xr (GC.gE d a b k) a)) ?_
        simp (config := { maxSteps := 1000000 }) only [push_cast, ↓reduceIte, ↓normL_data, ↓frzL_data, Nat.reduceEqDiff, Nat.reduceLT, reduceCtorEq, Nat.reduceAdd, Nat.reduceMul, Nat.reduceDiv, Nat.reduceMod, Nat.reduceSub, Nat.reduceLeDiff, Nat.reduceBEq, Int.reduceLE, Int.reduceLT, Int.reduceToNat, Int.reduceAdd, Int.reduceSub, Int.reduceMul, Int.reduceEq, Int.reduceBEq, Int.reduceNeg, Int.reduceGT, Int.natCast_pos, v10]
        refine ⟨by omega, kloop_next ⟨k + 1, by omega⟩ (St.le_of ?_) (by simp only; omega)⟩
        simp (config := { maxSteps := 1000000 }) only [push_cast, ↓reduceIte, ↓normL_data, ↓frzL_data, Nat.reduceEqDiff, Nat.reduceLT, reduceCtorEq, Nat.reduceAdd, Nat.reduceMul, Nat.reduceDiv, Nat.reduceMod, Nat.reduceSub, Nat.reduceLeDiff, Nat.reduceBEq, Int.reduceLE, Int.reduceLT, Int.reduceToNat, Int.reduceAdd, Int.reduceSub, Int.reduceMul, Int.reduceEq, Int.reduceBEq, Int.reduceNeg, Int.reduceGT, Int.natCast_pos, ek, hst, and_self]
      rw [if_neg (fun e => e.elim c3 c4)] at hgk
      rw [if_neg c4] at hst
      by_cases c5 : gk = 5
      · subst c5
        simp only [if_true] at hgk
        obtain ⟨x1, x2, x3⟩ := hgk
        have i1 : ga.toNat < S.z.length := by omega
        have f1 : ga < (S.z.length : Int) := by omega
        have ex : bits .xor .i64 (S.z.getD ga.toNat 0) d = GC.xr (GC.zAt S.z ga) d := xl (GC.zAt_l hlab ga) hdl
        simp (config := { maxSteps := 1000000 }) only [push_cast, ↓reduceIte, ↓normL_data, ↓frzL_data, Nat.reduceEqDiff, Nat.reduceLT, reduceCtorEq, Nat.reduceAdd, Nat.reduceMul, Nat.reduceDiv, Nat.reduceMod, Nat.reduceSub, Nat.reduceLeDiff, Nat.reduceBEq, Int.reduceLE, Int.reduceLT, Int.reduceToNat, Int.reduceAdd, Int.reduceSub, Int.reduceMul, Int.reduceEq, Int.reduceBEq, Int.reduceNeg, Int.reduceGT, Int.natCast_pos, hl, hg, gE, hS, iE_get _ _ i1, i1, x1, f1, ex]
        refine ⟨by omega, kloop_next ⟨k + 1, by omega⟩ (St.le_of ?_) (by simp only; omega)⟩
        simp (config := { maxSteps := 1000000 }) only [push_cast, ↓reduceIte, ↓normL_data, ↓frzL_data, Nat.reduceEqDiff, Nat.reduceLT, reduceCtorEq, Nat.reduceAdd, Nat.reduceMul, Nat.reduceDiv, Nat.reduceMod, Nat.reduceSub, Nat.reduceLeDiff, Nat.reduceBEq, Int.reduceLE, Int.reduceLT, Int.reduceToNat, Int.reduceAdd, Int.reduceSub, Int.reduceMul, Int.reduceEq, Int.reduceBEq, Int.reduceNeg, Int.reduceGT, Int.natCast_pos, ek, hst, and_self]
      · rw [if_neg c5] at hgk; exact hgk.elim
    · have hkk : k = gs.length := by omega
      subst hkk
      simp (config := { maxSteps := 1000000 }) only [push_cast, ↓reduceIte, ↓normL_data, ↓frzL_data, Nat.reduceEqDiff, Nat.reduceLT, reduceCtorEq, Nat.reduceAdd, Nat.reduceMul, Nat.reduceDiv, Nat.reduceMod, Nat.reduceSub, Nat.reduceLeDiff, Nat.reduceBEq, Int.reduceLE, Int.reduceLT, Int.reduceToNat, Int.reduceAdd, Int.reduceSub, Int.reduceMul, Int.reduceEq, Int.reduceBEq, Int.reduceNeg, Int.reduceGT, Int.natCast_pos, hl, List.take_length]
end GV

set_option linter.unusedSimpArgs false
set_option linter.unusedVariables false
set_option maxHeartbeats 4000000
namespace GV
open Go
def wE (l : List (List Int)) : List (List D) := l.map fun w => [iS w]
def wsS (l : List (List Int)) : D := .sl 1 (wE l)
def wsR (l : List (List Int)) : Row := ⟨25, 1, wE l⟩
attribute [push_cast] wsS
@[push_cast] theorem wsR_e (l : List (List Int)) : (wsR l).e = 25 := rfl
@[push_cast] theorem wsR_sz (l : List (List Int)) : (wsR l).sz = 1 := rfl
@[push_cast] theorem wsR_els (l : List (List Int)) : (wsR l).els = wE l := rfl
@[push_cast] theorem wE_len (l : List (List Int)) : (wE l).length = l.length := by simp [wE]
theorem wE_get (l : List (List Int)) (k : Nat) (h : k < l.length) : (wE l).getD k [] = [iS (l.getD k [])] := by
  simp [wE, List.getD_eq_getElem?_getD, List.getElem?_eq_getElem h]
@[push_cast] theorem wE_app (l r : List (List Int)) : wE l ++ wE r = wE (l ++ r) := by simp [wE]
@[push_cast] theorem wE_one (w : List Int) : [[D.sl 1 (iE w)]] = wE [w] := rfl
@[push_cast] theorem wsR_mk (l : List (List Int)) : Row.mk 25 1 (wE l) = wsR l := rfl
@[push_cast] theorem wsR_nil : Row.mk 25 1 [] = wsR [] := rfl
structure InWI (gs : List GC.Gt) (i0 : Int) where
  i : Nat
  gi : List GC.Gt
  oi : List Int
  h1 : i ≤ 4
  h2 : gi.length = gs.length + i
  h3 : oi.length = i
  h4 : oi ++ (GC.inputL gi (i0 + i) (4 - i)).1 = (GC.inputL gs i0 4).1
  h5 : (GC.inputL gi (i0 + i) (4 - i)).2 = (GC.inputL gs i0 4).2
def InWI.next {gs : List GC.Gt} {i0 : Int} (x : InWI gs i0) (h : x.i < 4) : InWI gs i0 :=
  have e : GC.inputL x.gi (i0 + x.i) (4 - x.i) = ((GC.put x.gi 1 (i0 + x.i) 0).1 :: (GC.inputL (GC.put x.gi 1 (i0 + x.i) 0).2 (i0 + (x.i + 1 : Nat)) (4 - (x.i + 1))).1, (GC.inputL (GC.put x.gi 1 (i0 + x.i) 0).2 (i0 + (x.i + 1 : Nat)) (4 - (x.i + 1))).2) := by
    rw [show 4 - x.i = (4 - (x.i + 1)) + 1 by omega, GC.inputL, show i0 + (x.i : Int) + 1 = i0 + ((x.i + 1 : Nat) : Int) by omega]
  ⟨x.i + 1, (GC.put x.gi 1 (i0 + x.i) 0).2, x.oi ++ [(GC.put x.gi 1 (i0 + x.i) 0).1], by omega, by rw [put_len]; have := x.h2; omega, by simp [x.h3],
    by rw [← x.h4, e]; simp, by rw [← x.h5, e]⟩
theorem okSt_b {s : GC.St} (hs : GC.okSt s) : 0 ≤ s.a ∧ s.a < 8 ∧ (0 ≤ s.b ∧ s.b < 8) ∧ (0 ≤ s.c ∧ s.c < 8) ∧ 1 ≤ s.op := by
  unfold GC.okSt GC.isReg at hs
  repeat' split at hs
  all_goals omega
set_option maxRecDepth 100000 in
theorem word_ok' (gs : List GC.Gt) (outs : List Int) (regs : List (List Int)) (s : GC.St) (zero : Int) (h : gs.length ≤ 60000) (hr : regs.length = 8) (hw : ∀ i, i < 8 → (regs.getD i []).length = 4) (hs : GC.okSt s) (ho : s.op < 11) :
    CallOk Go.Proofs.Try.prog gl0 41 [bR gs outs, .c (wsS regs), .ag (sE s), .c (iD zero)] ⟨[.rr (iR (GC.wordOf gs regs s zero).1)], [bR (GC.wordOf gs regs s zero).2 outs]⟩ := by
  obtain ⟨op, dst, a, b, c, n⟩ := s
  have wg : ∀ k, k < 8 → (wE regs).getD k [] = [iS (regs.getD k [])] := fun k hk => wE_get _ _ (by omega)
  obtain ⟨ha, ha8, hb, hc, hop⟩ : 0 ≤ a ∧ a < 8 ∧ (0 ≤ b ∧ b < 8) ∧ (0 ≤ c ∧ c < 8) ∧ 1 ≤ op := okSt_b hs
  have h7 : bits .and .i64 a 7 = a := by rw [and_mask a 3 (by omega) ha (by omega) 7 (by rfl)]; omega
  obtain ⟨a, rfl⟩ := Int.eq_ofNat_of_zero_le ha
  obtain ⟨b, rfl⟩ := Int.eq_ofNat_of_zero_le hb.1
  obtain ⟨c, rfl⟩ := Int.eq_ofNat_of_zero_le hc.1
  have a8 : a < 8 := by omega
  have b8 : b < 8 := by omega
  have c8 : c < 8 := by omega
  have la := hw a a8
  have lb := hw b b8
  have lc := hw c c8
  simp only at ho
  have ops : op = 1 ∨ op = 2 ∨ op = 3 ∨ op = 4 ∨ op = 5 ∨ op = 6 ∨ op = 7 ∨ op = 8 ∨ op = 9 ∨ op = 10 := by omega
  refine okFn (fn := Go.Proofs.Try.f41) [.tmp 8] 4 117 (by kernel_rfl) (by kernel_rfl) rfl (by kernel_rfl) (by decide) rfl rfl rfl ?_
  rcases ops with rfl | rfl | rfl | rfl | rfl | rfl | rfl | rfl | rfl | rfl
  · have hn : 0 ≤ n ∧ n ≤ 15 := by unfold GC.okSt GC.isReg at hs; simp at hs; omega
    obtain ⟨n, rfl⟩ := Int.eq_ofNat_of_zero_le hn.1
    simp (config := { maxSteps := 1000000 }) only [push_cast, ↓reduceIte, ↓normL_data, ↓frzL_data, Nat.reduceEqDiff, Nat.reduceLT, reduceCtorEq, Nat.reduceAdd, Nat.reduceMul, Nat.reduceDiv, Nat.reduceMod, Nat.reduceSub, Nat.reduceLeDiff, Nat.reduceBEq, Int.reduceLE, Int.reduceLT, Int.reduceToNat, Int.reduceAdd, Int.reduceSub, Int.reduceMul, Int.reduceEq, Int.reduceBEq, Int.reduceNeg, Int.reduceGT, Int.natCast_pos, sE, h7, hr, wg _ a8, wg _ b8, ha8, hb.2]
    refine vcall_by true (const_ok gs outs n (by omega) (by omega)) ?_
    simp (config := { maxSteps := 1000000 }) only [push_cast, ↓reduceIte, ↓normL_data, ↓frzL_data, Nat.reduceEqDiff, Nat.reduceLT, reduceCtorEq, Nat.reduceAdd, Nat.reduceMul, Nat.reduceDiv, Nat.reduceMod, Nat.reduceSub, Nat.reduceLeDiff, Nat.reduceBEq, Int.reduceLE, Int.reduceLT, Int.reduceToNat, Int.reduceAdd, Int.reduceSub, Int.reduceMul, Int.reduceEq, Int.reduceBEq, Int.reduceNeg, Int.reduceGT, Int.natCast_pos, GC.wordOf, Int.toNat_natCast]
  · have hn : 0 ≤ n ∧ n ≤ 3 := by unfold GC.okSt GC.isReg at hs; simp at hs; omega
    simp (config := { maxSteps := 1000000 }) only [push_cast, ↓reduceIte, ↓normL_data, ↓frzL_data, Nat.reduceEqDiff, Nat.reduceLT, reduceCtorEq, Nat.reduceAdd, Nat.reduceMul, Nat.reduceDiv, Nat.reduceMod, Nat.reduceSub, Nat.reduceLeDiff, Nat.reduceBEq, Int.reduceLE, Int.reduceLT, Int.reduceToNat, Int.reduceAdd, Int.reduceSub, Int.reduceMul, Int.reduceEq, Int.reduceBEq, Int.reduceNeg, Int.reduceGT, Int.natCast_pos, sE, h7, hr, wg _ a8, wg _ b8, ha8, hb.2]
    refine VC.loop' tab_ok (σ := InWI gs (((a : Int) * 4 + n) * 4)) (fun x => St.of gl0 [(0, .c (.ptr 0 0)), (6, .c (.ptr 6 0)), (11, .c (.own 11)), (12, .c (.d (iD x.i)))]
      [(11, iR x.oi), (1000, gsR x.gi), (1001, iR outs)] [(0, [.own 1000, .own 1001]), (6, [.d (iD 2), .d (iD dst), .d (iD a), .d (iD b), .d (iD c), .d (iD n)])]) (fun x => 4 - x.i) ⟨0, gs, [], by omega, rfl, rfl, by simp, by simp⟩ (St.le_of ?_) ?_
    · simp (config := { maxSteps := 1000000 }) only [push_cast, ↓reduceIte, ↓normL_data, ↓frzL_data, Nat.reduceEqDiff, Nat.reduceLT, reduceCtorEq, Nat.reduceAdd, Nat.reduceMul, Nat.reduceDiv, Nat.reduceMod, Nat.reduceSub, Nat.reduceLeDiff, Nat.reduceBEq, Int.reduceLE, Int.reduceLT, Int.reduceToNat, Int.reduceAdd, Int.reduceSub, Int.reduceMul, Int.reduceEq, Int.reduceBEq, Int.reduceNeg, Int.reduceGT, Int.natCast_pos]
    · intro x
      simp (config := { maxSteps := 1000000 }) only [push_cast, ↓reduceIte, ↓normL_data, ↓frzL_data, Nat.reduceEqDiff, Nat.reduceLT, reduceCtorEq, Nat.reduceAdd, Nat.reduceMul, Nat.reduceDiv, Nat.reduceMod, Nat.reduceSub, Nat.reduceLeDiff, Nat.reduceBEq, Int.reduceLE, Int.reduceLT, Int.reduceToNat, Int.reduceAdd, Int.reduceSub, Int.reduceMul, Int.reduceEq, Int.reduceBEq, Int.reduceNeg, Int.reduceGT, Int.natCast_pos]
      have b1 := x.h1
      have b2 := x.h2
      have b3 := x.h3
      refine ⟨fun hi => ?_, fun hi => ?_⟩
      · have w1 : IntKind.i64.wrap ((a : Int) * 4) = a * 4 := w64 _ (by omega) (by omega)
        have w2 : IntKind.i64.wrap ((a : Int) * 4 + n) = a * 4 + n := w64 _ (by omega) (by omega)
        have w3 : IntKind.i64.wrap (((a : Int) * 4 + n) * 4) = (a * 4 + n) * 4 := w64 _ (by omega) (by omega)
        have w4 : IntKind.i64.wrap (((a : Int) * 4 + n) * 4 + x.i) = (a * 4 + n) * 4 + x.i := w64 _ (by omega) (by omega)
        simp (config := { maxSteps := 1000000 }) only [push_cast, ↓reduceIte, ↓normL_data, ↓frzL_data, Nat.reduceEqDiff, Nat.reduceLT, reduceCtorEq, Nat.reduceAdd, Nat.reduceMul, Nat.reduceDiv, Nat.reduceMod, Nat.reduceSub, Nat.reduceLeDiff, Nat.reduceBEq, Int.reduceLE, Int.reduceLT, Int.reduceToNat, Int.reduceAdd, Int.reduceSub, Int.reduceMul, Int.reduceEq, Int.reduceBEq, Int.reduceNeg, Int.reduceGT, Int.natCast_pos, w1, w2, w3, w4]
        refine vcall_by true (put_ok x.gi outs 1 (((a : Int) * 4 + n) * 4 + x.i) 0 (by omega)) ?_
        simp (config := { maxSteps := 1000000 }) only [push_cast, ↓reduceIte, ↓normL_data, ↓frzL_data, Nat.reduceEqDiff, Nat.reduceLT, reduceCtorEq, Nat.reduceAdd, Nat.reduceMul, Nat.reduceDiv, Nat.reduceMod, Nat.reduceSub, Nat.reduceLeDiff, Nat.reduceBEq, Int.reduceLE, Int.reduceLT, Int.reduceToNat, Int.reduceAdd, Int.reduceSub, Int.reduceMul, Int.reduceEq, Int.reduceBEq, Int.reduceNeg, Int.reduceGT, Int.natCast_pos]
        refine ⟨by omega, kloop_next (x.next (by omega)) (St.le_of ?_) (by simp only [InWI.next]; omega)⟩
        simp (config := { maxSteps := 1000000 }) only [push_cast, ↓reduceIte, ↓normL_data, ↓frzL_data, Nat.reduceEqDiff, Nat.reduceLT, reduceCtorEq, Nat.reduceAdd, Nat.reduceMul, Nat.reduceDiv, Nat.reduceMod, Nat.reduceSub, Nat.reduceLeDiff, Nat.reduceBEq, Int.reduceLE, Int.reduceLT, Int.reduceToNat, Int.reduceAdd, Int.reduceSub, Int.reduceMul, Int.reduceEq, Int.reduceBEq, Int.reduceNeg, Int.reduceGT, Int.natCast_pos, InWI.next]
        rw [w64 _ (by omega) (by omega)]
      · have hi4 : x.i = 4 := by omega
        have h4 := x.h4
        have h5 := x.h5
        rw [hi4] at h4 h5
        have hz : ∀ g i, GC.inputL g i 0 = ([], g) := fun _ _ => rfl
        rw [Nat.sub_self, hz] at h4 h5
        simp only [List.append_nil] at h4 h5
        simp (config := { maxSteps := 1000000 }) only [push_cast, ↓reduceIte, ↓normL_data, ↓frzL_data, Nat.reduceEqDiff, Nat.reduceLT, reduceCtorEq, Nat.reduceAdd, Nat.reduceMul, Nat.reduceDiv, Nat.reduceMod, Nat.reduceSub, Nat.reduceLeDiff, Nat.reduceBEq, Int.reduceLE, Int.reduceLT, Int.reduceToNat, Int.reduceAdd, Int.reduceSub, Int.reduceMul, Int.reduceEq, Int.reduceBEq, Int.reduceNeg, Int.reduceGT, Int.natCast_pos, GC.wordOf, h4, h5]
  · simp (config := { maxSteps := 1000000 }) only [push_cast, ↓reduceIte, ↓normL_data, ↓frzL_data, Nat.reduceEqDiff, Nat.reduceLT, reduceCtorEq, Nat.reduceAdd, Nat.reduceMul, Nat.reduceDiv, Nat.reduceMod, Nat.reduceSub, Nat.reduceLeDiff, Nat.reduceBEq, Int.reduceLE, Int.reduceLT, Int.reduceToNat, Int.reduceAdd, Int.reduceSub, Int.reduceMul, Int.reduceEq, Int.reduceBEq, Int.reduceNeg, Int.reduceGT, Int.natCast_pos, sE, h7, hr, wg _ a8, wg _ b8, ha8, hb.2]
    refine vcall_by true (sum_ok gs outs (regs.getD a []) (regs.getD b []) 0 (by omega) (by omega) (by omega) (by omega)) ?_
    simp (config := { maxSteps := 1000000 }) only [push_cast, ↓reduceIte, ↓normL_data, ↓frzL_data, Nat.reduceEqDiff, Nat.reduceLT, reduceCtorEq, Nat.reduceAdd, Nat.reduceMul, Nat.reduceDiv, Nat.reduceMod, Nat.reduceSub, Nat.reduceLeDiff, Nat.reduceBEq, Int.reduceLE, Int.reduceLT, Int.reduceToNat, Int.reduceAdd, Int.reduceSub, Int.reduceMul, Int.reduceEq, Int.reduceBEq, Int.reduceNeg, Int.reduceGT, Int.natCast_pos, GC.wordOf, Int.toNat_natCast]
    exact ⟨rfl, rfl⟩
  · simp (config := { maxSteps := 1000000 }) only [push_cast, ↓reduceIte, ↓normL_data, ↓frzL_data, Nat.reduceEqDiff, Nat.reduceLT, reduceCtorEq, Nat.reduceAdd, Nat.reduceMul, Nat.reduceDiv, Nat.reduceMod, Nat.reduceSub, Nat.reduceLeDiff, Nat.reduceBEq, Int.reduceLE, Int.reduceLT, Int.reduceToNat, Int.reduceAdd, Int.reduceSub, Int.reduceMul, Int.reduceEq, Int.reduceBEq, Int.reduceNeg, Int.reduceGT, Int.natCast_pos, sE, h7, hr, wg _ a8, wg _ b8, ha8, hb.2]
    refine vcall_by true (nots_ok gs outs (regs.getD b []) (by omega) (by omega)) ?_
    obtain ⟨n1, n2⟩ := nots_len (regs.getD b []) gs
    simp (config := { maxSteps := 1000000 }) only [push_cast, ↓reduceIte, ↓normL_data, ↓frzL_data, Nat.reduceEqDiff, Nat.reduceLT, reduceCtorEq, Nat.reduceAdd, Nat.reduceMul, Nat.reduceDiv, Nat.reduceMod, Nat.reduceSub, Nat.reduceLeDiff, Nat.reduceBEq, Int.reduceLE, Int.reduceLT, Int.reduceToNat, Int.reduceAdd, Int.reduceSub, Int.reduceMul, Int.reduceEq, Int.reduceBEq, Int.reduceNeg, Int.reduceGT, Int.natCast_pos]
    refine vcall_by true (sum_ok (GC.notsM gs (regs.getD b [])).2 outs (regs.getD a []) (GC.notsM gs (regs.getD b [])).1 1 (by omega) (by omega) (by omega) (by omega)) ?_
    simp (config := { maxSteps := 1000000 }) only [push_cast, ↓reduceIte, ↓normL_data, ↓frzL_data, Nat.reduceEqDiff, Nat.reduceLT, reduceCtorEq, Nat.reduceAdd, Nat.reduceMul, Nat.reduceDiv, Nat.reduceMod, Nat.reduceSub, Nat.reduceLeDiff, Nat.reduceBEq, Int.reduceLE, Int.reduceLT, Int.reduceToNat, Int.reduceAdd, Int.reduceSub, Int.reduceMul, Int.reduceEq, Int.reduceBEq, Int.reduceNeg, Int.reduceGT, Int.natCast_pos, GC.wordOf, Int.toNat_natCast]
    exact ⟨rfl, rfl⟩
  · simp (config := { maxSteps := 1000000 }) only [push_cast, ↓reduceIte, ↓normL_data, ↓frzL_data, Nat.reduceEqDiff, Nat.reduceLT, reduceCtorEq, Nat.reduceAdd, Nat.reduceMul, Nat.reduceDiv, Nat.reduceMod, Nat.reduceSub, Nat.reduceLeDiff, Nat.reduceBEq, Int.reduceLE, Int.reduceLT, Int.reduceToNat, Int.reduceAdd, Int.reduceSub, Int.reduceMul, Int.reduceEq, Int.reduceBEq, Int.reduceNeg, Int.reduceGT, Int.natCast_pos, sE, h7, hr, wg _ a8, wg _ b8, ha8, hb.2]
    refine vcall_by true (mul_ok gs outs (regs.getD a []) (regs.getD b []) (by omega) la lb) ?_
    simp (config := { maxSteps := 1000000 }) only [push_cast, ↓reduceIte, ↓normL_data, ↓frzL_data, Nat.reduceEqDiff, Nat.reduceLT, reduceCtorEq, Nat.reduceAdd, Nat.reduceMul, Nat.reduceDiv, Nat.reduceMod, Nat.reduceSub, Nat.reduceLeDiff, Nat.reduceBEq, Int.reduceLE, Int.reduceLT, Int.reduceToNat, Int.reduceAdd, Int.reduceSub, Int.reduceMul, Int.reduceEq, Int.reduceBEq, Int.reduceNeg, Int.reduceGT, Int.natCast_pos, GC.wordOf, Int.toNat_natCast]
  · simp (config := { maxSteps := 1000000 }) only [push_cast, ↓reduceIte, ↓normL_data, ↓frzL_data, Nat.reduceEqDiff, Nat.reduceLT, reduceCtorEq, Nat.reduceAdd, Nat.reduceMul, Nat.reduceDiv, Nat.reduceMod, Nat.reduceSub, Nat.reduceLeDiff, Nat.reduceBEq, Int.reduceLE, Int.reduceLT, Int.reduceToNat, Int.reduceAdd, Int.reduceSub, Int.reduceMul, Int.reduceEq, Int.reduceBEq, Int.reduceNeg, Int.reduceGT, Int.natCast_pos, sE, h7, hr, wg _ a8, wg _ b8, ha8, hb.2]
    refine vcall_by true (bits_ok gs outs (regs.getD a []) (regs.getD b []) 4 (by omega) la lb) ?_
    simp (config := { maxSteps := 1000000 }) only [push_cast, ↓reduceIte, ↓normL_data, ↓frzL_data, Nat.reduceEqDiff, Nat.reduceLT, reduceCtorEq, Nat.reduceAdd, Nat.reduceMul, Nat.reduceDiv, Nat.reduceMod, Nat.reduceSub, Nat.reduceLeDiff, Nat.reduceBEq, Int.reduceLE, Int.reduceLT, Int.reduceToNat, Int.reduceAdd, Int.reduceSub, Int.reduceMul, Int.reduceEq, Int.reduceBEq, Int.reduceNeg, Int.reduceGT, Int.natCast_pos, GC.wordOf, Int.toNat_natCast]
  · simp (config := { maxSteps := 1000000 }) only [push_cast, ↓reduceIte, ↓normL_data, ↓frzL_data, Nat.reduceEqDiff, Nat.reduceLT, reduceCtorEq, Nat.reduceAdd, Nat.reduceMul, Nat.reduceDiv, Nat.reduceMod, Nat.reduceSub, Nat.reduceLeDiff, Nat.reduceBEq, Int.reduceLE, Int.reduceLT, Int.reduceToNat, Int.reduceAdd, Int.reduceSub, Int.reduceMul, Int.reduceEq, Int.reduceBEq, Int.reduceNeg, Int.reduceGT, Int.natCast_pos, sE, h7, hr, wg _ a8, wg _ b8, ha8, hb.2]
    refine vcall_by true (bits_ok gs outs (regs.getD a []) (regs.getD b []) 3 (by omega) la lb) ?_
    simp (config := { maxSteps := 1000000 }) only [push_cast, ↓reduceIte, ↓normL_data, ↓frzL_data, Nat.reduceEqDiff, Nat.reduceLT, reduceCtorEq, Nat.reduceAdd, Nat.reduceMul, Nat.reduceDiv, Nat.reduceMod, Nat.reduceSub, Nat.reduceLeDiff, Nat.reduceBEq, Int.reduceLE, Int.reduceLT, Int.reduceToNat, Int.reduceAdd, Int.reduceSub, Int.reduceMul, Int.reduceEq, Int.reduceBEq, Int.reduceNeg, Int.reduceGT, Int.natCast_pos, GC.wordOf, Int.toNat_natCast]
  · simp (config := { maxSteps := 1000000 }) only [push_cast, ↓reduceIte, ↓normL_data, ↓frzL_data, Nat.reduceEqDiff, Nat.reduceLT, reduceCtorEq, Nat.reduceAdd, Nat.reduceMul, Nat.reduceDiv, Nat.reduceMod, Nat.reduceSub, Nat.reduceLeDiff, Nat.reduceBEq, Int.reduceLE, Int.reduceLT, Int.reduceToNat, Int.reduceAdd, Int.reduceSub, Int.reduceMul, Int.reduceEq, Int.reduceBEq, Int.reduceNeg, Int.reduceGT, Int.natCast_pos, sE, h7, hr, wg _ a8, wg _ b8, ha8, hb.2]
    refine vcall_by true (less_ok gs outs (regs.getD a []) (regs.getD b []) (by omega) la lb) ?_
    simp (config := { maxSteps := 1000000 }) only [push_cast, ↓reduceIte, ↓normL_data, ↓frzL_data, Nat.reduceEqDiff, Nat.reduceLT, reduceCtorEq, Nat.reduceAdd, Nat.reduceMul, Nat.reduceDiv, Nat.reduceMod, Nat.reduceSub, Nat.reduceLeDiff, Nat.reduceBEq, Int.reduceLE, Int.reduceLT, Int.reduceToNat, Int.reduceAdd, Int.reduceSub, Int.reduceMul, Int.reduceEq, Int.reduceBEq, Int.reduceNeg, Int.reduceGT, Int.natCast_pos, GC.wordOf, Int.toNat_natCast]
  · simp (config := { maxSteps := 1000000 }) only [push_cast, ↓reduceIte, ↓normL_data, ↓frzL_data, Nat.reduceEqDiff, Nat.reduceLT, reduceCtorEq, Nat.reduceAdd, Nat.reduceMul, Nat.reduceDiv, Nat.reduceMod, Nat.reduceSub, Nat.reduceLeDiff, Nat.reduceBEq, Int.reduceLE, Int.reduceLT, Int.reduceToNat, Int.reduceAdd, Int.reduceSub, Int.reduceMul, Int.reduceEq, Int.reduceBEq, Int.reduceNeg, Int.reduceGT, Int.natCast_pos, sE, h7, hr, wg _ a8, wg _ b8, ha8, hb.2]
    refine vcall_by true (equal_ok gs outs (regs.getD a []) (regs.getD b []) (by omega) la lb) ?_
    simp (config := { maxSteps := 1000000 }) only [push_cast, ↓reduceIte, ↓normL_data, ↓frzL_data, Nat.reduceEqDiff, Nat.reduceLT, reduceCtorEq, Nat.reduceAdd, Nat.reduceMul, Nat.reduceDiv, Nat.reduceMod, Nat.reduceSub, Nat.reduceLeDiff, Nat.reduceBEq, Int.reduceLE, Int.reduceLT, Int.reduceToNat, Int.reduceAdd, Int.reduceSub, Int.reduceMul, Int.reduceEq, Int.reduceBEq, Int.reduceNeg, Int.reduceGT, Int.natCast_pos, GC.wordOf, Int.toNat_natCast]
  · simp (config := { maxSteps := 1000000 }) only [push_cast, ↓reduceIte, ↓normL_data, ↓frzL_data, Nat.reduceEqDiff, Nat.reduceLT, reduceCtorEq, Nat.reduceAdd, Nat.reduceMul, Nat.reduceDiv, Nat.reduceMod, Nat.reduceSub, Nat.reduceLeDiff, Nat.reduceBEq, Int.reduceLE, Int.reduceLT, Int.reduceToNat, Int.reduceAdd, Int.reduceSub, Int.reduceMul, Int.reduceEq, Int.reduceBEq, Int.reduceNeg, Int.reduceGT, Int.natCast_pos, sE, h7, hr, wg _ a8, wg _ b8, ha8, hb.2]
    refine VD.plan tab_ok (by kernel_rfl) [10] (.takes [0, 1, 2, 3, 4, 5, 6, 7, 8, 9] (.one 10 (.takes [11] (.done)))) (by kernel_rfl) ?_
    have e0 : 0 < (regs.getD a []).length := by omega
    have e0' : (0 : Int) < ((regs.getD a []).length : Int) := by omega
    simp (config := { maxSteps := 1000000 }) only [push_cast, ↓reduceIte, ↓normL_data, ↓frzL_data, Nat.reduceEqDiff, Nat.reduceLT, reduceCtorEq, Nat.reduceAdd, Nat.reduceMul, Nat.reduceDiv, Nat.reduceMod, Nat.reduceSub, Nat.reduceLeDiff, Nat.reduceBEq, Int.reduceLE, Int.reduceLT, Int.reduceToNat, Int.reduceAdd, Int.reduceSub, Int.reduceMul, Int.reduceEq, Int.reduceBEq, Int.reduceNeg, Int.reduceGT, Int.natCast_pos, hr, wg _ c8, hc.2, iE_get _ _ e0, e0']
    refine vcall_by true (mux_ok gs outs (regs.getD b []) (regs.getD c []) ((regs.getD a []).getD 0 0) (by omega) lb lc) ?_
    simp (config := { maxSteps := 1000000 }) only [push_cast, ↓reduceIte, ↓normL_data, ↓frzL_data, Nat.reduceEqDiff, Nat.reduceLT, reduceCtorEq, Nat.reduceAdd, Nat.reduceMul, Nat.reduceDiv, Nat.reduceMod, Nat.reduceSub, Nat.reduceLeDiff, Nat.reduceBEq, Int.reduceLE, Int.reduceLT, Int.reduceToNat, Int.reduceAdd, Int.reduceSub, Int.reduceMul, Int.reduceEq, Int.reduceBEq, Int.reduceNeg, Int.reduceGT, Int.natCast_pos, GC.wordOf, Int.toNat_natCast]
end GV

set_option linter.unusedSimpArgs false
set_option linter.unusedVariables false
set_option maxHeartbeats 4000000
namespace GV
open Go
section
variable {c : Cf} {Q : Exit → St → Prop} {s : St}
theorem Run.frz {w0 : World} {own0 : Nat → Prop} {g0 g : Gh} {a : Act} {w : World} (t : Nat) (r : Row) (hr : s.rows t = some r) (h : Run c.m c.n w0 own0 g0 s g a w) :
    Run c.m c.n w0 own0 g0 (s.frR t r) { g with F := fun b => g.F b ∨ (g.hv t).ownBlock = some b } a w :=
  ⟨h.rel.frR t r hr, h.tmps, h.ga, fun b hb => .inl (h.F b hb), fun b hb => hb.elim (h.F' b) (fun hb => .inr (h.rel.rowF t r b hr hb).2)⟩
theorem VC.frz {code : Code} (t : Nat) (r : Row) (hr : s.rows t = some r) (h : VC c code Q (s.frR t r)) : VC c code Q s :=
  fun w0 own0 g0 g a w hw => h w0 own0 g0 _ a w (hw.frz t r hr)
end
theorem okSt_d {s : GC.St} (hs : GC.okSt s) : 0 ≤ s.dst ∧ s.dst < 8 := by
  unfold GC.okSt GC.isReg at hs
  repeat' split at hs
  all_goals omega
@[push_cast] theorem wE_set (l : List (List Int)) (k : Nat) (w : List Int) : (wE l).set k [D.sl 1 (iE w)] = wE (l.set k w) := by simp [wE, iS]
theorem compileL_snoc (l : List GC.St) (s : GC.St) : GC.compileL (l ++ [s]) = GC.stepC (GC.compileL l) s := by simp [GC.compileL]
theorem compileL_facts {l : List GC.St} (h : ∀ s ∈ l, GC.plain s) : GC.okGs (GC.compileL l).gs ∧ (GC.compileL l).gs.length ≤ 4 + 34 * l.length ∧ (GC.compileL l).regs.length = 8 ∧ (∀ i, i < 8 → ((GC.compileL l).regs.getD i []).length = 4) ∧ (∀ w ∈ (GC.compileL l).outs, 0 ≤ w ∧ w < (GC.compileL l).gs.length) ∧ GC.cnt 4 (GC.compileL l).gs ≤ (l.map GC.andsOf).sum := by
  have hb : GC.Bits (fun _ _ => 0) (fun _ => false) := by
    intro p n hp hn
    refine ⟨by show 0 < 16; omega, fun j hj => ?_⟩
    have : j = 0 ∨ j = 1 ∨ j = 2 ∨ j = 3 := by omega
    have e : ∀ j : Nat, j < 4 → (GC.b4 0).getD j false = false := by decide
    exact (e j hj).symm
  have := GC.CR.all hb l h
  exact ⟨this.ok, this.len, this.rep.l1, fun i hi => this.rep.len i hi, (GC.hasL_outs this.outs).1, this.ands⟩
theorem compileL_outs : ∀ (l : List GC.St), (∀ s ∈ l, GC.plain s) → (GC.compileL l).outs.length ≤ 4 * l.length := by
  intro l
  induction l using GC.snoc_ind with
  | h0 => intro _; exact Nat.le_refl _
  | h1 l s ih =>
    intro h
    have h' : ∀ s ∈ l, GC.plain s := fun x hx => h x (by simp [hx])
    have := ih h'
    obtain ⟨_, _, _, f, _⟩ := compileL_facts h'
    rw [compileL_snoc, GC.stepC]
    split
    · have hs := h s (by simp)
      rename_i e
      have hr := okSt_b hs.1
      have := f s.a.toNat (by omega)
      simp only [List.length_append, List.length_cons, List.length_nil]
      omega
    · simp only [List.length_append, List.length_cons, List.length_nil]
      omega
theorem take_plain {l : List GC.St} (h : ∀ s ∈ l, GC.plain s) (k : Nat) : ∀ s ∈ l.take k, GC.plain s := fun s hs => h s (List.mem_of_mem_take hs)
theorem take_snoc {l : List GC.St} {k : Nat} (h : k < l.length) : l.take (k + 1) = l.take k ++ [l.getD k dS] := by
  rw [List.take_add_one, List.getElem?_eq_getElem h, List.getD_eq_getElem?_getD, List.getElem?_eq_getElem h]; rfl
theorem rep_snoc {w : List Int} (k : Nat) : List.replicate k w ++ [w] = List.replicate (k + 1) w := by
  rw [List.replicate_succ']
set_option maxRecDepth 100000 in
theorem compile_ok (l : List GC.St) (hl : l.length ≤ 1000000000) (h : GC.okP l) (hu : (GC.unrollM l).length ≤ 120) (hp : ∀ s ∈ GC.unrollM l, GC.plain s) : CallOk Go.Proofs.Try.prog gl0 13 [.c (ssS l)]
    ⟨[.ra [.r (gsR (GC.compileL (GC.unrollM l)).gs), .r (iR (GC.compileL (GC.unrollM l)).outs)], .c (bD true)], []⟩ := by
  refine okFn (fn := Go.Proofs.Try.f13) [.cell 2 27, .tmp 3] 1 71 (by kernel_rfl) (by kernel_rfl) rfl (by kernel_rfl) (by decide) rfl rfl rfl ?_
  simp (config := { maxSteps := 1000000 }) only [push_cast, ↓reduceIte, ↓normL_data, ↓frzL_data, Nat.reduceEqDiff, Nat.reduceLT, reduceCtorEq, Nat.reduceAdd, Nat.reduceMul, Nat.reduceDiv, Nat.reduceMod, Nat.reduceSub, Nat.reduceLeDiff, Nat.reduceBEq, Int.reduceLE, Int.reduceLT, Int.reduceToNat, Int.reduceAdd, Int.reduceSub, Int.reduceMul, Int.reduceEq, Int.reduceBEq, Int.reduceNeg, Int.reduceGT, Int.natCast_pos]
  refine vcall_by false (unroll_ok l hl) ?_
  simp (config := { maxSteps := 1000000 }) only [push_cast, ↓reduceIte, ↓normL_data, ↓frzL_data, Nat.reduceEqDiff, Nat.reduceLT, reduceCtorEq, Nat.reduceAdd, Nat.reduceMul, Nat.reduceDiv, Nat.reduceMod, Nat.reduceSub, Nat.reduceLeDiff, Nat.reduceBEq, Int.reduceLE, Int.reduceLT, Int.reduceToNat, Int.reduceAdd, Int.reduceSub, Int.reduceMul, Int.reduceEq, Int.reduceBEq, Int.reduceNeg, Int.reduceGT, Int.natCast_pos, h, hu]
  obtain ⟨L, hL⟩ : ∃ L, GC.unrollM l = L := ⟨_, rfl⟩
  rw [hL] at hu hp
  simp (config := { maxSteps := 1000000 }) only [push_cast, ↓reduceIte, ↓normL_data, ↓frzL_data, Nat.reduceEqDiff, Nat.reduceLT, reduceCtorEq, Nat.reduceAdd, Nat.reduceMul, Nat.reduceDiv, Nat.reduceMod, Nat.reduceSub, Nat.reduceLeDiff, Nat.reduceBEq, Int.reduceLE, Int.reduceLT, Int.reduceToNat, Int.reduceAdd, Int.reduceSub, Int.reduceMul, Int.reduceEq, Int.reduceBEq, Int.reduceNeg, Int.reduceGT, Int.natCast_pos, hL]
  refine vcall_by true (const_ok [] [] 0 (by simp) (by omega)) ?_
  simp (config := { maxSteps := 1000000 }) only [push_cast, ↓reduceIte, ↓normL_data, ↓frzL_data, Nat.reduceEqDiff, Nat.reduceLT, reduceCtorEq, Nat.reduceAdd, Nat.reduceMul, Nat.reduceDiv, Nat.reduceMod, Nat.reduceSub, Nat.reduceLeDiff, Nat.reduceBEq, Int.reduceLE, Int.reduceLT, Int.reduceToNat, Int.reduceAdd, Int.reduceSub, Int.reduceMul, Int.reduceEq, Int.reduceBEq, Int.reduceNeg, Int.reduceGT, Int.natCast_pos]
  refine VC.frz 7 (iR (GC.constL [] (GC.b4 0)).1) (by simp (config := { maxSteps := 1000000 }) only [push_cast, ↓reduceIte, ↓normL_data, ↓frzL_data, Nat.reduceEqDiff, Nat.reduceLT, reduceCtorEq, Nat.reduceAdd, Nat.reduceMul, Nat.reduceDiv, Nat.reduceMod, Nat.reduceSub, Nat.reduceLeDiff, Nat.reduceBEq, Int.reduceLE, Int.reduceLT, Int.reduceToNat, Int.reduceAdd, Int.reduceSub, Int.reduceMul, Int.reduceEq, Int.reduceBEq, Int.reduceNeg, Int.reduceGT, Int.natCast_pos]) ?_
  refine VC.loop' tab_ok (σ := Fin 9) (fun k => St.of gl0 [(2, .c (.ptr 2 0)), (4, .c (.d (ssS L))), (6, .c (.ptr 6 0)), (7, .c (.d (iS (GC.constL [] (GC.b4 0)).1))), (8, .c (.own 8)), (9, .c (.d (iD k.1)))]
    [(8, wsR (List.replicate k.1 (GC.constL [] (GC.b4 0)).1)), (3000, gsR []), (3001, iR []), (7000, gsR (GC.constL [] (GC.b4 0)).2), (7001, iR [])] [(2, [.own 3000, .own 3001]), (6, [.own 7000, .own 7001])]) (fun k => 8 - k.1) ⟨0, by omega⟩ (St.le_of ?_) ?_
  · simp (config := { maxSteps := 1000000 }) only [push_cast, ↓reduceIte, ↓normL_data, ↓frzL_data, Nat.reduceEqDiff, Nat.reduceLT, reduceCtorEq, Nat.reduceAdd, Nat.reduceMul, Nat.reduceDiv, Nat.reduceMod, Nat.reduceSub, Nat.reduceLeDiff, Nat.reduceBEq, Int.reduceLE, Int.reduceLT, Int.reduceToNat, Int.reduceAdd, Int.reduceSub, Int.reduceMul, Int.reduceEq, Int.reduceBEq, Int.reduceNeg, Int.reduceGT, Int.natCast_pos, List.replicate_zero]
  · intro k
    obtain ⟨k, hk⟩ := k
    have ek : IntKind.i64.wrap ((k : Int) + 1) = ((k + 1 : Nat) : Int) := by rw [w64 _ (by omega) (by omega)]; omega
    simp (config := { maxSteps := 1000000 }) only [push_cast, ↓reduceIte, ↓normL_data, ↓frzL_data, Nat.reduceEqDiff, Nat.reduceLT, reduceCtorEq, Nat.reduceAdd, Nat.reduceMul, Nat.reduceDiv, Nat.reduceMod, Nat.reduceSub, Nat.reduceLeDiff, Nat.reduceBEq, Int.reduceLE, Int.reduceLT, Int.reduceToNat, Int.reduceAdd, Int.reduceSub, Int.reduceMul, Int.reduceEq, Int.reduceBEq, Int.reduceNeg, Int.reduceGT, Int.natCast_pos, List.length_replicate]
    refine ⟨fun hi => ?_, fun hi => ?_⟩
    · refine ⟨by omega, kloop_next ⟨k + 1, by omega⟩ (St.le_of ?_) (by simp only; omega)⟩
      simp (config := { maxSteps := 1000000 }) only [push_cast, ↓reduceIte, ↓normL_data, ↓frzL_data, Nat.reduceEqDiff, Nat.reduceLT, reduceCtorEq, Nat.reduceAdd, Nat.reduceMul, Nat.reduceDiv, Nat.reduceMod, Nat.reduceSub, Nat.reduceLeDiff, Nat.reduceBEq, Int.reduceLE, Int.reduceLT, Int.reduceToNat, Int.reduceAdd, Int.reduceSub, Int.reduceMul, Int.reduceEq, Int.reduceBEq, Int.reduceNeg, Int.reduceGT, Int.natCast_pos, ek, rep_snoc]
    · have e8 : k = 8 := by omega
      subst e8
      refine VC.loop' tab_ok (σ := Fin (L.length + 1)) (fun k => St.of gl0 [(2, .c (.ptr 2 0)), (4, .c (.d (ssS L))), (6, .c (.ptr 6 0)), (7, .c (.d (iS (GC.constL [] (GC.b4 0)).1))), (8, .c (.own 8)), (10, .c (.d (iD k.1)))]
        [(8, wsR (GC.compileL (L.take k.1)).regs), (3000, gsR []), (3001, iR []), (7000, gsR (GC.compileL (L.take k.1)).gs), (7001, iR (GC.compileL (L.take k.1)).outs)] [(2, [.own 3000, .own 3001]), (6, [.own 7000, .own 7001])]) (fun k => L.length - k.1) ⟨0, by omega⟩ (St.le_of ?_) ?_
      · simp (config := { maxSteps := 1000000 }) only [push_cast, ↓reduceIte, ↓normL_data, ↓frzL_data, Nat.reduceEqDiff, Nat.reduceLT, reduceCtorEq, Nat.reduceAdd, Nat.reduceMul, Nat.reduceDiv, Nat.reduceMod, Nat.reduceSub, Nat.reduceLeDiff, Nat.reduceBEq, Int.reduceLE, Int.reduceLT, Int.reduceToNat, Int.reduceAdd, Int.reduceSub, Int.reduceMul, Int.reduceEq, Int.reduceBEq, Int.reduceNeg, Int.reduceGT, Int.natCast_pos, List.take_zero]
        exact ⟨rfl, rfl, rfl⟩
      · intro k
        obtain ⟨k, hk⟩ := k
        obtain ⟨f1, f2, f3, f4, f5, _⟩ := compileL_facts (take_plain hp k)
        have f6 := compileL_outs (L.take k) (take_plain hp k)
        have lt : (L.take k).length = k := by rw [List.length_take]; omega
        rw [lt] at f2 f6
        have ek : IntKind.i64.wrap ((k : Int) + 1) = ((k + 1 : Nat) : Int) := by rw [w64 _ (by omega) (by omega)]; omega
        obtain ⟨c, hc⟩ : ∃ c, GC.compileL (L.take k) = c := ⟨_, rfl⟩
        rw [hc] at f1 f2 f3 f4 f5 f6
        by_cases hi : (k : Int) < (L.length : Int)
        · have hi' : k < L.length := by omega
          obtain ⟨s, hs⟩ : ∃ s, L.getD k dS = s := ⟨_, rfl⟩
          have hps : GC.plain s := hp s (by rw [← hs, List.getD_eq_getElem?_getD, List.getElem?_eq_getElem hi']; exact List.getElem_mem hi')
          have hst : GC.compileL (L.take (k + 1)) = GC.stepC c s := by rw [take_snoc hi', hs, compileL_snoc, hc]
          have hb := okSt_b hps.1
          obtain ⟨op, dst, a, b, c', n⟩ := s
          simp only at hb
          obtain ⟨b1, b2, b3, b4, b5⟩ := hb
          have wg := wE_get c.regs a.toNat (by omega)
          have sg := ss_get L k _ hi' hs
          by_cases e11 : op = 11
          · subst e11
            simp (config := { maxSteps := 1000000 }) only [push_cast, ↓reduceIte, ↓normL_data, ↓frzL_data, Nat.reduceEqDiff, Nat.reduceLT, reduceCtorEq, Nat.reduceAdd, Nat.reduceMul, Nat.reduceDiv, Nat.reduceMod, Nat.reduceSub, Nat.reduceLeDiff, Nat.reduceBEq, Int.reduceLE, Int.reduceLT, Int.reduceToNat, Int.reduceAdd, Int.reduceSub, Int.reduceMul, Int.reduceEq, Int.reduceBEq, Int.reduceNeg, Int.reduceGT, Int.natCast_pos, hc, hi, sg, sE]
            refine VD.plan tab_ok (by kernel_rfl) [10, 12] (.takes [0, 1, 2, 3, 4, 5, 6, 7, 8, 9] (.one 10 (.takes [11] (.one 12 (.done))))) (by kernel_rfl) ?_
            have g1 : a.toNat < c.regs.length := by omega
            have g2 : a < (c.regs.length : Int) := by omega
            have g3 := f4 a.toNat (by omega)
            have g4 : (c.outs.length + (c.regs.getD a.toNat []).length) * 8 ≤ 140737488355328 := by omega
            simp (config := { maxSteps := 1000000 }) only [push_cast, ↓reduceIte, ↓normL_data, ↓frzL_data, Nat.reduceEqDiff, Nat.reduceLT, reduceCtorEq, Nat.reduceAdd, Nat.reduceMul, Nat.reduceDiv, Nat.reduceMod, Nat.reduceSub, Nat.reduceLeDiff, Nat.reduceBEq, Int.reduceLE, Int.reduceLT, Int.reduceToNat, Int.reduceAdd, Int.reduceSub, Int.reduceMul, Int.reduceEq, Int.reduceBEq, Int.reduceNeg, Int.reduceGT, Int.natCast_pos, hc, hi, sg, sE, b1, g1, g2, wg]
            refine ⟨by omega, kloop_next ⟨k + 1, by omega⟩ (St.le_of ?_) (by simp only; omega)⟩
            simp (config := { maxSteps := 1000000 }) only [push_cast, ↓reduceIte, ↓normL_data, ↓frzL_data, Nat.reduceEqDiff, Nat.reduceLT, reduceCtorEq, Nat.reduceAdd, Nat.reduceMul, Nat.reduceDiv, Nat.reduceMod, Nat.reduceSub, Nat.reduceLeDiff, Nat.reduceBEq, Int.reduceLE, Int.reduceLT, Int.reduceToNat, Int.reduceAdd, Int.reduceSub, Int.reduceMul, Int.reduceEq, Int.reduceBEq, Int.reduceNeg, Int.reduceGT, Int.natCast_pos, ek, hst, GC.stepC, and_self]
          · simp (config := { maxSteps := 1000000 }) only [push_cast, ↓reduceIte, ↓normL_data, ↓frzL_data, Nat.reduceEqDiff, Nat.reduceLT, reduceCtorEq, Nat.reduceAdd, Nat.reduceMul, Nat.reduceDiv, Nat.reduceMod, Nat.reduceSub, Nat.reduceLeDiff, Nat.reduceBEq, Int.reduceLE, Int.reduceLT, Int.reduceToNat, Int.reduceAdd, Int.reduceSub, Int.reduceMul, Int.reduceEq, Int.reduceBEq, Int.reduceNeg, Int.reduceGT, Int.natCast_pos, hc, hi, sg, sE, e11]
            refine VD.plan tab_ok (by kernel_rfl) [14, 16] (.takes [0, 1, 2, 3, 4, 6, 7, 8, 9, 10, 11, 12, 13] (.two 5 (.one 14 (.takes [15] (.one 16 (.done)))) 14 (.one 5 (.takes [15] (.one 16 (.done)))))) (by kernel_rfl) ?_
            have hop : op < 11 := by have := hps.2; simp only at this; omega
            have e0 : 0 < (GC.constL [] (GC.b4 0)).1.length := by decide
            have z0 : (GC.constL [] (GC.b4 0)).1.getD 0 0 = 0 := by decide
            have z1 : (iE (GC.constL [] (GC.b4 0)).1).getD 0 [] = [iD 0] := by rw [iE_get _ _ e0, z0]
            simp (config := { maxSteps := 1000000 }) only [push_cast, ↓reduceIte, ↓normL_data, ↓frzL_data, Nat.reduceEqDiff, Nat.reduceLT, reduceCtorEq, Nat.reduceAdd, Nat.reduceMul, Nat.reduceDiv, Nat.reduceMod, Nat.reduceSub, Nat.reduceLeDiff, Nat.reduceBEq, Int.reduceLE, Int.reduceLT, Int.reduceToNat, Int.reduceAdd, Int.reduceSub, Int.reduceMul, Int.reduceEq, Int.reduceBEq, Int.reduceNeg, Int.reduceGT, Int.natCast_pos, hc, hi, sg, sE, e0, z1]
            have hd : 0 ≤ dst ∧ dst < 8 := okSt_d hps.1
            have hd2 : dst < (c.regs.length : Int) := by omega
            have wd := wE_get c.regs dst.toNat (by omega)
            refine ⟨?_, ?_⟩
            all_goals
              refine vcall_by true (word_ok' c.gs c.outs c.regs ⟨op, dst, a, b, c', n⟩ 0 (by omega) f3 f4 hps.1 hop) ?_
              simp (config := { maxSteps := 1000000 }) only [push_cast, ↓reduceIte, ↓normL_data, ↓frzL_data, Nat.reduceEqDiff, Nat.reduceLT, reduceCtorEq, Nat.reduceAdd, Nat.reduceMul, Nat.reduceDiv, Nat.reduceMod, Nat.reduceSub, Nat.reduceLeDiff, Nat.reduceBEq, Int.reduceLE, Int.reduceLT, Int.reduceToNat, Int.reduceAdd, Int.reduceSub, Int.reduceMul, Int.reduceEq, Int.reduceBEq, Int.reduceNeg, Int.reduceGT, Int.natCast_pos, sE, hd.1, hd2, e11]
              refine ⟨by omega, kloop_next ⟨k + 1, by omega⟩ (St.le_of ?_) (by simp only; omega)⟩
              simp (config := { maxSteps := 1000000 }) only [push_cast, ↓reduceIte, ↓normL_data, ↓frzL_data, Nat.reduceEqDiff, Nat.reduceLT, reduceCtorEq, Nat.reduceAdd, Nat.reduceMul, Nat.reduceDiv, Nat.reduceMod, Nat.reduceSub, Nat.reduceLeDiff, Nat.reduceBEq, Int.reduceLE, Int.reduceLT, Int.reduceToNat, Int.reduceAdd, Int.reduceSub, Int.reduceMul, Int.reduceEq, Int.reduceBEq, Int.reduceNeg, Int.reduceGT, Int.natCast_pos, ek, hst, GC.stepC, e11, and_self, wd, List.drop_succ_cons, List.drop_zero]
        · have hkk : k = L.length := by omega
          subst hkk
          rw [List.take_length] at hc
          subst hc
          simp (config := { maxSteps := 1000000 }) only [push_cast, ↓reduceIte, ↓normL_data, ↓frzL_data, Nat.reduceEqDiff, Nat.reduceLT, reduceCtorEq, Nat.reduceAdd, Nat.reduceMul, Nat.reduceDiv, Nat.reduceMod, Nat.reduceSub, Nat.reduceLeDiff, Nat.reduceBEq, Int.reduceLE, Int.reduceLT, Int.reduceToNat, Int.reduceAdd, Int.reduceSub, Int.reduceMul, Int.reduceEq, Int.reduceBEq, Int.reduceNeg, Int.reduceGT, Int.natCast_pos, List.take_length, hi]
end GV

set_option linter.unusedSimpArgs false
set_option linter.unusedVariables false
set_option maxHeartbeats 4000000
namespace GV
open Go
abbrev dG : GC.Gt := ⟨0, 0, 0⟩
theorem idx_hit {gs : List GC.Gt} {g : GC.Gt} {i : Nat} (hi : i < gs.length) (h : gs.getD i dG = g) (hn : ∀ j, j < i → gs.getD j dG ≠ g) : gs.idxOf g = i := by
  have e : gs[i] = g := by rw [← h, List.getD_eq_getElem?_getD, List.getElem?_eq_getElem hi]; rfl
  unfold List.idxOf
  rw [List.findIdx_eq hi]
  refine ⟨by rw [e]; simp, fun j hj => ?_⟩
  have := hn j hj
  rw [List.getD_eq_getElem?_getD, List.getElem?_eq_getElem (by omega)] at this
  simpa using this
theorem idx_miss {gs : List GC.Gt} {g : GC.Gt} (hn : ∀ j, j < gs.length → gs.getD j dG ≠ g) : ¬ gs.idxOf g < gs.length := by
  intro h
  have := List.findIdx_getElem (xs := gs) (p := (· == g)) (w := h)
  apply hn _ h
  rw [List.getD_eq_getElem?_getD, List.getElem?_eq_getElem h]
  exact beq_iff_eq.1 this
structure FindI (gs : List GC.Gt) (g : GC.Gt) where
  i : Nat
  h1 : i ≤ gs.length
  h2 : ∀ j, j < i → gs.getD j dG ≠ g
theorem gate16_ok (gs : List GC.Gt) (outs : List Int) (k a b : Int) (h : gs.length ≤ 100000) : CallOk Go.Proofs.Try.prog gl0 82 [bR gs outs, .c (iD k), .c (iD a), .c (iD b)]
    ⟨[.c (iD (GC.gateM gs ⟨k, if b < a ∧ (k = 3 ∨ k = 4) then b else a, if b < a ∧ (k = 3 ∨ k = 4) then a else b⟩).1)], [bR (GC.gateM gs ⟨k, if b < a ∧ (k = 3 ∨ k = 4) then b else a, if b < a ∧ (k = 3 ∨ k = 4) then a else b⟩).2 outs]⟩ := by
  refine okFn (fn := Go.Proofs.Try.f82) [.tmp 8] 4 52 (by kernel_rfl) (by kernel_rfl) rfl (by kernel_rfl) (by decide) rfl rfl rfl ?_
  by_cases c1 : b < a
  · by_cases c2 : k = 3
    · subst c2
      simp (config := { maxSteps := 1000000 }) only [push_cast, ↓reduceIte, ↓normL_data, ↓frzL_data, Nat.reduceEqDiff, Nat.reduceLT, reduceCtorEq, Nat.reduceAdd, Nat.reduceMul, Nat.reduceDiv, Nat.reduceMod, Nat.reduceSub, Nat.reduceLeDiff, Nat.reduceBEq, Int.reduceLE, Int.reduceLT, Int.reduceToNat, Int.reduceAdd, Int.reduceSub, Int.reduceMul, Int.reduceEq, Int.reduceBEq, Int.reduceNeg, Int.reduceGT, Int.natCast_pos, c1]
      refine VC.loop' tab_ok (σ := FindI gs ⟨3, b, a⟩) (fun x => St.of gl0 [(0, .c (.ptr 0 0)), (1, .c (.d (iD 3))), (2, .c (.d (iD b))), (3, .c (.d (iD a))), (9, .c (.ptr 9 0)), (10, .c (.d (iD x.i)))]
        [(1000, gsR gs), (1001, iR outs)] [(0, [.own 1000, .own 1001]), (9, [.d (iD 3), .d (iD b), .d (iD a)])]) (fun x => gs.length - x.i) ⟨0, by omega, fun j hj => by omega⟩ (St.le_of ?_) ?_
      · simp (config := { maxSteps := 1000000 }) only [push_cast, ↓reduceIte, ↓normL_data, ↓frzL_data, Nat.reduceEqDiff, Nat.reduceLT, reduceCtorEq, Nat.reduceAdd, Nat.reduceMul, Nat.reduceDiv, Nat.reduceMod, Nat.reduceSub, Nat.reduceLeDiff, Nat.reduceBEq, Int.reduceLE, Int.reduceLT, Int.reduceToNat, Int.reduceAdd, Int.reduceSub, Int.reduceMul, Int.reduceEq, Int.reduceBEq, Int.reduceNeg, Int.reduceGT, Int.natCast_pos]
      · intro x
        obtain ⟨i, q1, q2⟩ := x
        have ei : IntKind.i64.wrap ((i : Int) + 1) = ((i + 1 : Nat) : Int) := by rw [w64 _ (by omega) (by omega)]; omega
        by_cases hi : (i : Int) < (gs.length : Int)
        · have hi' : i < gs.length := by omega
          have hg := gsE_get gs i hi'
          obtain ⟨⟨gk, ga, gb⟩, hgi⟩ : ∃ g, gs.getD i dG = g := ⟨_, rfl⟩
          rw [hgi] at hg
          by_cases he : gk = 3 ∧ ga = b ∧ gb = a
          · rw [he.1, he.2.1, he.2.2] at hgi hg
            have e2 := idx_hit hi' hgi q2
            have e3 : GC.gateM gs ⟨3, b, a⟩ = ((i : Int), gs) := by unfold GC.gateM; rw [e2, if_pos hi']
            simp (config := { maxSteps := 1000000 }) only [push_cast, ↓reduceIte, ↓normL_data, ↓frzL_data, Nat.reduceEqDiff, Nat.reduceLT, reduceCtorEq, Nat.reduceAdd, Nat.reduceMul, Nat.reduceDiv, Nat.reduceMod, Nat.reduceSub, Nat.reduceLeDiff, Nat.reduceBEq, Int.reduceLE, Int.reduceLT, Int.reduceToNat, Int.reduceAdd, Int.reduceSub, Int.reduceMul, Int.reduceEq, Int.reduceBEq, Int.reduceNeg, Int.reduceGT, Int.natCast_pos, hi]
            refine VD.plan tab_ok (by kernel_rfl) [] (.takes [0, 1, 2, 3, 4, 5, 6, 7, 8] (.done)) (by kernel_rfl) ?_
            simp (config := { maxSteps := 1000000 }) only [push_cast, ↓reduceIte, ↓normL_data, ↓frzL_data, Nat.reduceEqDiff, Nat.reduceLT, reduceCtorEq, Nat.reduceAdd, Nat.reduceMul, Nat.reduceDiv, Nat.reduceMod, Nat.reduceSub, Nat.reduceLeDiff, Nat.reduceBEq, Int.reduceLE, Int.reduceLT, Int.reduceToNat, Int.reduceAdd, Int.reduceSub, Int.reduceMul, Int.reduceEq, Int.reduceBEq, Int.reduceNeg, Int.reduceGT, Int.natCast_pos, hi, hg, gE, hi', List.cons.injEq, and_self, e3, or_self]
          · have e4 : ([gk, ga, gb] = [3, b, a]) = False := by simp only [List.cons.injEq, and_true, eq_iff_iff, iff_false]; exact he
            simp (config := { maxSteps := 1000000 }) only [push_cast, ↓reduceIte, ↓normL_data, ↓frzL_data, Nat.reduceEqDiff, Nat.reduceLT, reduceCtorEq, Nat.reduceAdd, Nat.reduceMul, Nat.reduceDiv, Nat.reduceMod, Nat.reduceSub, Nat.reduceLeDiff, Nat.reduceBEq, Int.reduceLE, Int.reduceLT, Int.reduceToNat, Int.reduceAdd, Int.reduceSub, Int.reduceMul, Int.reduceEq, Int.reduceBEq, Int.reduceNeg, Int.reduceGT, Int.natCast_pos, hi]
            refine VD.plan tab_ok (by kernel_rfl) [] (.takes [0, 1, 2, 3, 4, 5, 6, 7, 8] (.done)) (by kernel_rfl) ?_
            simp (config := { maxSteps := 1000000 }) only [push_cast, ↓reduceIte, ↓normL_data, ↓frzL_data, Nat.reduceEqDiff, Nat.reduceLT, reduceCtorEq, Nat.reduceAdd, Nat.reduceMul, Nat.reduceDiv, Nat.reduceMod, Nat.reduceSub, Nat.reduceLeDiff, Nat.reduceBEq, Int.reduceLE, Int.reduceLT, Int.reduceToNat, Int.reduceAdd, Int.reduceSub, Int.reduceMul, Int.reduceEq, Int.reduceBEq, Int.reduceNeg, Int.reduceGT, Int.natCast_pos, hi, hg, gE, hi', List.map_cons, List.map_nil, e4]
            refine kloop_next ⟨i + 1, by omega, fun j hj => ?_⟩ (St.le_of ?_) (by simp only; omega)
            · by_cases e : j = i
              · rw [e, hgi]; intro e; apply he; cases e; exact ⟨rfl, rfl, rfl⟩
              · exact q2 j (by omega)
            · simp (config := { maxSteps := 1000000 }) only [push_cast, ↓reduceIte, ↓normL_data, ↓frzL_data, Nat.reduceEqDiff, Nat.reduceLT, reduceCtorEq, Nat.reduceAdd, Nat.reduceMul, Nat.reduceDiv, Nat.reduceMod, Nat.reduceSub, Nat.reduceLeDiff, Nat.reduceBEq, Int.reduceLE, Int.reduceLT, Int.reduceToNat, Int.reduceAdd, Int.reduceSub, Int.reduceMul, Int.reduceEq, Int.reduceBEq, Int.reduceNeg, Int.reduceGT, Int.natCast_pos, ei]
        · have hii : i = gs.length := by omega
          subst hii
          have e3 : GC.gateM gs ⟨3, b, a⟩ = GC.put gs 3 b a := by unfold GC.gateM; rw [if_neg (idx_miss q2)]; rfl
          simp (config := { maxSteps := 1000000 }) only [push_cast, ↓reduceIte, ↓normL_data, ↓frzL_data, Nat.reduceEqDiff, Nat.reduceLT, reduceCtorEq, Nat.reduceAdd, Nat.reduceMul, Nat.reduceDiv, Nat.reduceMod, Nat.reduceSub, Nat.reduceLeDiff, Nat.reduceBEq, Int.reduceLE, Int.reduceLT, Int.reduceToNat, Int.reduceAdd, Int.reduceSub, Int.reduceMul, Int.reduceEq, Int.reduceBEq, Int.reduceNeg, Int.reduceGT, Int.natCast_pos, hi]
          refine vcall_by true (put_ok gs outs 3 b a (by omega)) ?_
          simp (config := { maxSteps := 1000000 }) only [push_cast, ↓reduceIte, ↓normL_data, ↓frzL_data, Nat.reduceEqDiff, Nat.reduceLT, reduceCtorEq, Nat.reduceAdd, Nat.reduceMul, Nat.reduceDiv, Nat.reduceMod, Nat.reduceSub, Nat.reduceLeDiff, Nat.reduceBEq, Int.reduceLE, Int.reduceLT, Int.reduceToNat, Int.reduceAdd, Int.reduceSub, Int.reduceMul, Int.reduceEq, Int.reduceBEq, Int.reduceNeg, Int.reduceGT, Int.natCast_pos, e3, or_self]
    · by_cases c3 : k = 4
      · subst c3
        simp (config := { maxSteps := 1000000 }) only [push_cast, ↓reduceIte, ↓normL_data, ↓frzL_data, Nat.reduceEqDiff, Nat.reduceLT, reduceCtorEq, Nat.reduceAdd, Nat.reduceMul, Nat.reduceDiv, Nat.reduceMod, Nat.reduceSub, Nat.reduceLeDiff, Nat.reduceBEq, Int.reduceLE, Int.reduceLT, Int.reduceToNat, Int.reduceAdd, Int.reduceSub, Int.reduceMul, Int.reduceEq, Int.reduceBEq, Int.reduceNeg, Int.reduceGT, Int.natCast_pos, c1]
        refine VC.loop' tab_ok (σ := FindI gs ⟨4, b, a⟩) (fun x => St.of gl0 [(0, .c (.ptr 0 0)), (1, .c (.d (iD 4))), (2, .c (.d (iD b))), (3, .c (.d (iD a))), (9, .c (.ptr 9 0)), (10, .c (.d (iD x.i)))]
          [(1000, gsR gs), (1001, iR outs)] [(0, [.own 1000, .own 1001]), (9, [.d (iD 4), .d (iD b), .d (iD a)])]) (fun x => gs.length - x.i) ⟨0, by omega, fun j hj => by omega⟩ (St.le_of ?_) ?_
        · simp (config := { maxSteps := 1000000 }) only [push_cast, ↓reduceIte, ↓normL_data, ↓frzL_data, Nat.reduceEqDiff, Nat.reduceLT, reduceCtorEq, Nat.reduceAdd, Nat.reduceMul, Nat.reduceDiv, Nat.reduceMod, Nat.reduceSub, Nat.reduceLeDiff, Nat.reduceBEq, Int.reduceLE, Int.reduceLT, Int.reduceToNat, Int.reduceAdd, Int.reduceSub, Int.reduceMul, Int.reduceEq, Int.reduceBEq, Int.reduceNeg, Int.reduceGT, Int.natCast_pos]
        · intro x
          obtain ⟨i, q1, q2⟩ := x
          have ei : IntKind.i64.wrap ((i : Int) + 1) = ((i + 1 : Nat) : Int) := by rw [w64 _ (by omega) (by omega)]; omega
          by_cases hi : (i : Int) < (gs.length : Int)
          · have hi' : i < gs.length := by omega
            have hg := gsE_get gs i hi'
            obtain ⟨⟨gk, ga, gb⟩, hgi⟩ : ∃ g, gs.getD i dG = g := ⟨_, rfl⟩
            rw [hgi] at hg
            by_cases he : gk = 4 ∧ ga = b ∧ gb = a
            · rw [he.1, he.2.1, he.2.2] at hgi hg
              have e2 := idx_hit hi' hgi q2
              have e3 : GC.gateM gs ⟨4, b, a⟩ = ((i : Int), gs) := by unfold GC.gateM; rw [e2, if_pos hi']
              simp (config := { maxSteps := 1000000 }) only [push_cast, ↓reduceIte, ↓normL_data, ↓frzL_data, Nat.reduceEqDiff, Nat.reduceLT, reduceCtorEq, Nat.reduceAdd, Nat.reduceMul, Nat.reduceDiv, Nat.reduceMod, Nat.reduceSub, Nat.reduceLeDiff, Nat.reduceBEq, Int.reduceLE, Int.reduceLT, Int.reduceToNat, Int.reduceAdd, Int.reduceSub, Int.reduceMul, Int.reduceEq, Int.reduceBEq, Int.reduceNeg, Int.reduceGT, Int.natCast_pos, hi]
              refine VD.plan tab_ok (by kernel_rfl) [] (.takes [0, 1, 2, 3, 4, 5, 6, 7, 8] (.done)) (by kernel_rfl) ?_
              simp (config := { maxSteps := 1000000 }) only [push_cast, ↓reduceIte, ↓normL_data, ↓frzL_data, Nat.reduceEqDiff, Nat.reduceLT, reduceCtorEq, Nat.reduceAdd, Nat.reduceMul, Nat.reduceDiv, Nat.reduceMod, Nat.reduceSub, Nat.reduceLeDiff, Nat.reduceBEq, Int.reduceLE, Int.reduceLT, Int.reduceToNat, Int.reduceAdd, Int.reduceSub, Int.reduceMul, Int.reduceEq, Int.reduceBEq, Int.reduceNeg, Int.reduceGT, Int.natCast_pos, hi, hg, gE, hi', List.cons.injEq, and_self, e3, or_self]
            · have e4 : ([gk, ga, gb] = [4, b, a]) = False := by simp only [List.cons.injEq, and_true, eq_iff_iff, iff_false]; exact he
              simp (config := { maxSteps := 1000000 }) only [push_cast, ↓reduceIte, ↓normL_data, ↓frzL_data, Nat.reduceEqDiff, Nat.reduceLT, reduceCtorEq, Nat.reduceAdd, Nat.reduceMul, Nat.reduceDiv, Nat.reduceMod, Nat.reduceSub, Nat.reduceLeDiff, Nat.reduceBEq, Int.reduceLE, Int.reduceLT, Int.reduceToNat, Int.reduceAdd, Int.reduceSub, Int.reduceMul, Int.reduceEq, Int.reduceBEq, Int.reduceNeg, Int.reduceGT, Int.natCast_pos, hi]
              refine VD.plan tab_ok (by kernel_rfl) [] (.takes [0, 1, 2, 3, 4, 5, 6, 7, 8] (.done)) (by kernel_rfl) ?_
              simp (config := { maxSteps := 1000000 }) only [push_cast, ↓reduceIte, ↓normL_data, ↓frzL_data, Nat.reduceEqDiff, Nat.reduceLT, reduceCtorEq, Nat.reduceAdd, Nat.reduceMul, Nat.reduceDiv, Nat.reduceMod, Nat.reduceSub, Nat.reduceLeDiff, Nat.reduceBEq, Int.reduceLE, Int.reduceLT, Int.reduceToNat, Int.reduceAdd, Int.reduceSub, Int.reduceMul, Int.reduceEq, Int.reduceBEq, Int.reduceNeg, Int.reduceGT, Int.natCast_pos, hi, hg, gE, hi', List.map_cons, List.map_nil, e4]
              refine kloop_next ⟨i + 1, by omega, fun j hj => ?_⟩ (St.le_of ?_) (by simp only; omega)
              · by_cases e : j = i
                · rw [e, hgi]; intro e; apply he; cases e; exact ⟨rfl, rfl, rfl⟩
                · exact q2 j (by omega)
              · simp (config := { maxSteps := 1000000 }) only [push_cast, ↓reduceIte, ↓normL_data, ↓frzL_data, Nat.reduceEqDiff, Nat.reduceLT, reduceCtorEq, Nat.reduceAdd, Nat.reduceMul, Nat.reduceDiv, Nat.reduceMod, Nat.reduceSub, Nat.reduceLeDiff, Nat.reduceBEq, Int.reduceLE, Int.reduceLT, Int.reduceToNat, Int.reduceAdd, Int.reduceSub, Int.reduceMul, Int.reduceEq, Int.reduceBEq, Int.reduceNeg, Int.reduceGT, Int.natCast_pos, ei]
          · have hii : i = gs.length := by omega
            subst hii
            have e3 : GC.gateM gs ⟨4, b, a⟩ = GC.put gs 4 b a := by unfold GC.gateM; rw [if_neg (idx_miss q2)]; rfl
            simp (config := { maxSteps := 1000000 }) only [push_cast, ↓reduceIte, ↓normL_data, ↓frzL_data, Nat.reduceEqDiff, Nat.reduceLT, reduceCtorEq, Nat.reduceAdd, Nat.reduceMul, Nat.reduceDiv, Nat.reduceMod, Nat.reduceSub, Nat.reduceLeDiff, Nat.reduceBEq, Int.reduceLE, Int.reduceLT, Int.reduceToNat, Int.reduceAdd, Int.reduceSub, Int.reduceMul, Int.reduceEq, Int.reduceBEq, Int.reduceNeg, Int.reduceGT, Int.natCast_pos, hi]
            refine vcall_by true (put_ok gs outs 4 b a (by omega)) ?_
            simp (config := { maxSteps := 1000000 }) only [push_cast, ↓reduceIte, ↓normL_data, ↓frzL_data, Nat.reduceEqDiff, Nat.reduceLT, reduceCtorEq, Nat.reduceAdd, Nat.reduceMul, Nat.reduceDiv, Nat.reduceMod, Nat.reduceSub, Nat.reduceLeDiff, Nat.reduceBEq, Int.reduceLE, Int.reduceLT, Int.reduceToNat, Int.reduceAdd, Int.reduceSub, Int.reduceMul, Int.reduceEq, Int.reduceBEq, Int.reduceNeg, Int.reduceGT, Int.natCast_pos, e3, or_self]
      · simp (config := { maxSteps := 1000000 }) only [push_cast, ↓reduceIte, ↓normL_data, ↓frzL_data, Nat.reduceEqDiff, Nat.reduceLT, reduceCtorEq, Nat.reduceAdd, Nat.reduceMul, Nat.reduceDiv, Nat.reduceMod, Nat.reduceSub, Nat.reduceLeDiff, Nat.reduceBEq, Int.reduceLE, Int.reduceLT, Int.reduceToNat, Int.reduceAdd, Int.reduceSub, Int.reduceMul, Int.reduceEq, Int.reduceBEq, Int.reduceNeg, Int.reduceGT, Int.natCast_pos, c1, c2, c3]
        refine VC.loop' tab_ok (σ := FindI gs ⟨k, a, b⟩) (fun x => St.of gl0 [(0, .c (.ptr 0 0)), (1, .c (.d (iD k))), (2, .c (.d (iD a))), (3, .c (.d (iD b))), (9, .c (.ptr 9 0)), (10, .c (.d (iD x.i)))]
          [(1000, gsR gs), (1001, iR outs)] [(0, [.own 1000, .own 1001]), (9, [.d (iD k), .d (iD a), .d (iD b)])]) (fun x => gs.length - x.i) ⟨0, by omega, fun j hj => by omega⟩ (St.le_of ?_) ?_
        · simp (config := { maxSteps := 1000000 }) only [push_cast, ↓reduceIte, ↓normL_data, ↓frzL_data, Nat.reduceEqDiff, Nat.reduceLT, reduceCtorEq, Nat.reduceAdd, Nat.reduceMul, Nat.reduceDiv, Nat.reduceMod, Nat.reduceSub, Nat.reduceLeDiff, Nat.reduceBEq, Int.reduceLE, Int.reduceLT, Int.reduceToNat, Int.reduceAdd, Int.reduceSub, Int.reduceMul, Int.reduceEq, Int.reduceBEq, Int.reduceNeg, Int.reduceGT, Int.natCast_pos]
        · intro x
          obtain ⟨i, q1, q2⟩ := x
          have ei : IntKind.i64.wrap ((i : Int) + 1) = ((i + 1 : Nat) : Int) := by rw [w64 _ (by omega) (by omega)]; omega
          by_cases hi : (i : Int) < (gs.length : Int)
          · have hi' : i < gs.length := by omega
            have hg := gsE_get gs i hi'
            obtain ⟨⟨gk, ga, gb⟩, hgi⟩ : ∃ g, gs.getD i dG = g := ⟨_, rfl⟩
            rw [hgi] at hg
            by_cases he : gk = k ∧ ga = a ∧ gb = b
            · rw [he.1, he.2.1, he.2.2] at hgi hg
              have e2 := idx_hit hi' hgi q2
              have e3 : GC.gateM gs ⟨k, a, b⟩ = ((i : Int), gs) := by unfold GC.gateM; rw [e2, if_pos hi']
              simp (config := { maxSteps := 1000000 }) only [push_cast, ↓reduceIte, ↓normL_data, ↓frzL_data, Nat.reduceEqDiff, Nat.reduceLT, reduceCtorEq, Nat.reduceAdd, Nat.reduceMul, Nat.reduceDiv, Nat.reduceMod, Nat.reduceSub, Nat.reduceLeDiff, Nat.reduceBEq, Int.reduceLE, Int.reduceLT, Int.reduceToNat, Int.reduceAdd, Int.reduceSub, Int.reduceMul, Int.reduceEq, Int.reduceBEq, Int.reduceNeg, Int.reduceGT, Int.natCast_pos, hi]
              refine VD.plan tab_ok (by kernel_rfl) [] (.takes [0, 1, 2, 3, 4, 5, 6, 7, 8] (.done)) (by kernel_rfl) ?_
              simp (config := { maxSteps := 1000000 }) only [push_cast, ↓reduceIte, ↓normL_data, ↓frzL_data, Nat.reduceEqDiff, Nat.reduceLT, reduceCtorEq, Nat.reduceAdd, Nat.reduceMul, Nat.reduceDiv, Nat.reduceMod, Nat.reduceSub, Nat.reduceLeDiff, Nat.reduceBEq, Int.reduceLE, Int.reduceLT, Int.reduceToNat, Int.reduceAdd, Int.reduceSub, Int.reduceMul, Int.reduceEq, Int.reduceBEq, Int.reduceNeg, Int.reduceGT, Int.natCast_pos, hi, hg, gE, hi', List.cons.injEq, and_self, e3, or_self]
            · have e4 : ([gk, ga, gb] = [k, a, b]) = False := by simp only [List.cons.injEq, and_true, eq_iff_iff, iff_false]; exact he
              simp (config := { maxSteps := 1000000 }) only [push_cast, ↓reduceIte, ↓normL_data, ↓frzL_data, Nat.reduceEqDiff, Nat.reduceLT, reduceCtorEq, Nat.reduceAdd, Nat.reduceMul, Nat.reduceDiv, Nat.reduceMod, Nat.reduceSub, Nat.reduceLeDiff, Nat.reduceBEq, Int.reduceLE, Int.reduceLT, Int.reduceToNat, Int.reduceAdd, Int.reduceSub, Int.reduceMul, Int.reduceEq, Int.reduceBEq, Int.reduceNeg, Int.reduceGT, Int.natCast_pos, hi]
              refine VD.plan tab_ok (by kernel_rfl) [] (.takes [0, 1, 2, 3, 4, 5, 6, 7, 8] (.done)) (by kernel_rfl) ?_
              simp (config := { maxSteps := 1000000 }) only [push_cast, ↓reduceIte, ↓normL_data, ↓frzL_data, Nat.reduceEqDiff, Nat.reduceLT, reduceCtorEq, Nat.reduceAdd, Nat.reduceMul, Nat.reduceDiv, Nat.reduceMod, Nat.reduceSub, Nat.reduceLeDiff, Nat.reduceBEq, Int.reduceLE, Int.reduceLT, Int.reduceToNat, Int.reduceAdd, Int.reduceSub, Int.reduceMul, Int.reduceEq, Int.reduceBEq, Int.reduceNeg, Int.reduceGT, Int.natCast_pos, hi, hg, gE, hi', List.map_cons, List.map_nil, e4]
              refine kloop_next ⟨i + 1, by omega, fun j hj => ?_⟩ (St.le_of ?_) (by simp only; omega)
              · by_cases e : j = i
                · rw [e, hgi]; intro e; apply he; cases e; exact ⟨rfl, rfl, rfl⟩
                · exact q2 j (by omega)
              · simp (config := { maxSteps := 1000000 }) only [push_cast, ↓reduceIte, ↓normL_data, ↓frzL_data, Nat.reduceEqDiff, Nat.reduceLT, reduceCtorEq, Nat.reduceAdd, Nat.reduceMul, Nat.reduceDiv, Nat.reduceMod, Nat.reduceSub, Nat.reduceLeDiff, Nat.reduceBEq, Int.reduceLE, Int.reduceLT, Int.reduceToNat, Int.reduceAdd, Int.reduceSub, Int.reduceMul, Int.reduceEq, Int.reduceBEq, Int.reduceNeg, Int.reduceGT, Int.natCast_pos, ei]
          · have hii : i = gs.length := by omega
            subst hii
            have e3 : GC.gateM gs ⟨k, a, b⟩ = GC.put gs k a b := by unfold GC.gateM; rw [if_neg (idx_miss q2)]; rfl
            simp (config := { maxSteps := 1000000 }) only [push_cast, ↓reduceIte, ↓normL_data, ↓frzL_data, Nat.reduceEqDiff, Nat.reduceLT, reduceCtorEq, Nat.reduceAdd, Nat.reduceMul, Nat.reduceDiv, Nat.reduceMod, Nat.reduceSub, Nat.reduceLeDiff, Nat.reduceBEq, Int.reduceLE, Int.reduceLT, Int.reduceToNat, Int.reduceAdd, Int.reduceSub, Int.reduceMul, Int.reduceEq, Int.reduceBEq, Int.reduceNeg, Int.reduceGT, Int.natCast_pos, hi]
            refine vcall_by true (put_ok gs outs k a b (by omega)) ?_
            simp (config := { maxSteps := 1000000 }) only [push_cast, ↓reduceIte, ↓normL_data, ↓frzL_data, Nat.reduceEqDiff, Nat.reduceLT, reduceCtorEq, Nat.reduceAdd, Nat.reduceMul, Nat.reduceDiv, Nat.reduceMod, Nat.reduceSub, Nat.reduceLeDiff, Nat.reduceBEq, Int.reduceLE, Int.reduceLT, Int.reduceToNat, Int.reduceAdd, Int.reduceSub, Int.reduceMul, Int.reduceEq, Int.reduceBEq, Int.reduceNeg, Int.reduceGT, Int.natCast_pos, e3, or_self]
  · simp (config := { maxSteps := 1000000 }) only [push_cast, ↓reduceIte, ↓normL_data, ↓frzL_data, Nat.reduceEqDiff, Nat.reduceLT, reduceCtorEq, Nat.reduceAdd, Nat.reduceMul, Nat.reduceDiv, Nat.reduceMod, Nat.reduceSub, Nat.reduceLeDiff, Nat.reduceBEq, Int.reduceLE, Int.reduceLT, Int.reduceToNat, Int.reduceAdd, Int.reduceSub, Int.reduceMul, Int.reduceEq, Int.reduceBEq, Int.reduceNeg, Int.reduceGT, Int.natCast_pos, c1]
    refine VC.loop' tab_ok (σ := FindI gs ⟨k, a, b⟩) (fun x => St.of gl0 [(0, .c (.ptr 0 0)), (1, .c (.d (iD k))), (2, .c (.d (iD a))), (3, .c (.d (iD b))), (9, .c (.ptr 9 0)), (10, .c (.d (iD x.i)))]
      [(1000, gsR gs), (1001, iR outs)] [(0, [.own 1000, .own 1001]), (9, [.d (iD k), .d (iD a), .d (iD b)])]) (fun x => gs.length - x.i) ⟨0, by omega, fun j hj => by omega⟩ (St.le_of ?_) ?_
    · simp (config := { maxSteps := 1000000 }) only [push_cast, ↓reduceIte, ↓normL_data, ↓frzL_data, Nat.reduceEqDiff, Nat.reduceLT, reduceCtorEq, Nat.reduceAdd, Nat.reduceMul, Nat.reduceDiv, Nat.reduceMod, Nat.reduceSub, Nat.reduceLeDiff, Nat.reduceBEq, Int.reduceLE, Int.reduceLT, Int.reduceToNat, Int.reduceAdd, Int.reduceSub, Int.reduceMul, Int.reduceEq, Int.reduceBEq, Int.reduceNeg, Int.reduceGT, Int.natCast_pos]
    · intro x
      obtain ⟨i, q1, q2⟩ := x
      have ei : IntKind.i64.wrap ((i : Int) + 1) = ((i + 1 : Nat) : Int) := by rw [w64 _ (by omega) (by omega)]; omega
      by_cases hi : (i : Int) < (gs.length : Int)
      · have hi' : i < gs.length := by omega
        have hg := gsE_get gs i hi'
        obtain ⟨⟨gk, ga, gb⟩, hgi⟩ : ∃ g, gs.getD i dG = g := ⟨_, rfl⟩
        rw [hgi] at hg
        by_cases he : gk = k ∧ ga = a ∧ gb = b
        · rw [he.1, he.2.1, he.2.2] at hgi hg
          have e2 := idx_hit hi' hgi q2
          have e3 : GC.gateM gs ⟨k, a, b⟩ = ((i : Int), gs) := by unfold GC.gateM; rw [e2, if_pos hi']
          simp (config := { maxSteps := 1000000 }) only [push_cast, ↓reduceIte, ↓normL_data, ↓frzL_data, Nat.reduceEqDiff, Nat.reduceLT, reduceCtorEq, Nat.reduceAdd, Nat.reduceMul, Nat.reduceDiv, Nat.reduceMod, Nat.reduceSub, Nat.reduceLeDiff, Nat.reduceBEq, Int.reduceLE, Int.reduceLT, Int.reduceToNat, Int.reduceAdd, Int.reduceSub, Int.reduceMul, Int.reduceEq, Int.reduceBEq, Int.reduceNeg, Int.reduceGT, Int.natCast_pos, hi]
          refine VD.plan tab_ok (by kernel_rfl) [] (.takes [0, 1, 2, 3, 4, 5, 6, 7, 8] (.done)) (by kernel_rfl) ?_
          simp (config := { maxSteps := 1000000 }) only [push_cast, ↓reduceIte, ↓normL_data, ↓frzL_data, Nat.reduceEqDiff, Nat.reduceLT, reduceCtorEq, Nat.reduceAdd, Nat.reduceMul, Nat.reduceDiv, Nat.reduceMod, Nat.reduceSub, Nat.reduceLeDiff, Nat.reduceBEq, Int.reduceLE, Int.reduceLT, Int.reduceToNat, Int.reduceAdd, Int.reduceSub, Int.reduceMul, Int.reduceEq, Int.reduceBEq, Int.reduceNeg, Int.reduceGT, Int.natCast_pos, hi, hg, gE, hi', List.cons.injEq, and_self, e3, or_self]
        · have e4 : ([gk, ga, gb] = [k, a, b]) = False := by simp only [List.cons.injEq, and_true, eq_iff_iff, iff_false]; exact he
          simp (config := { maxSteps := 1000000 }) only [push_cast, ↓reduceIte, ↓normL_data, ↓frzL_data, Nat.reduceEqDiff, Nat.reduceLT, reduceCtorEq, Nat.reduceAdd, Nat.reduceMul, Nat.reduceDiv, Nat.reduceMod, Nat.reduceSub, Nat.reduceLeDiff, Nat.reduceBEq, Int.reduceLE, Int.reduceLT, Int.reduceToNat, Int.reduceAdd, Int.reduceSub, Int.reduceMul, Int.reduceEq, Int.reduceBEq, Int.reduceNeg, Int.reduceGT, Int.natCast_pos, hi]
          refine VD.plan tab_ok (by kernel_rfl) [] (.takes [0, 1, 2, 3, 4, 5, 6, 7, 8] (.done)) (by kernel_rfl) ?_
          simp (config := { maxSteps := 1000000 }) only [push_cast, ↓reduceIte, ↓normL_data, ↓frzL_data, Nat.reduceEqDiff, Nat.reduceLT, reduceCtorEq, Nat.reduceAdd, Nat.reduceMul, Nat.reduceDiv, Nat.reduceMod, Nat.reduceSub, Nat.reduceLeDiff, Nat.reduceBEq, Int.reduceLE, Int.reduceLT, Int.reduceToNat, Int.reduceAdd, Int.reduceSub, Int.reduceMul, Int.reduceEq, Int.reduceBEq, Int.reduceNeg, Int.reduceGT, Int.natCast_pos, hi, hg, gE, hi', List.map_cons, List.map_nil, e4]
          refine kloop_next ⟨i + 1, by omega, fun j hj => ?_⟩ (St.le_of ?_) (by simp only; omega)
          · by_cases e : j = i
            · rw [e, hgi]; intro e; apply he; cases e; exact ⟨rfl, rfl, rfl⟩
            · exact q2 j (by omega)
          · simp (config := { maxSteps := 1000000 }) only [push_cast, ↓reduceIte, ↓normL_data, ↓frzL_data, Nat.reduceEqDiff, Nat.reduceLT, reduceCtorEq, Nat.reduceAdd, Nat.reduceMul, Nat.reduceDiv, Nat.reduceMod, Nat.reduceSub, Nat.reduceLeDiff, Nat.reduceBEq, Int.reduceLE, Int.reduceLT, Int.reduceToNat, Int.reduceAdd, Int.reduceSub, Int.reduceMul, Int.reduceEq, Int.reduceBEq, Int.reduceNeg, Int.reduceGT, Int.natCast_pos, ei]
      · have hii : i = gs.length := by omega
        subst hii
        have e3 : GC.gateM gs ⟨k, a, b⟩ = GC.put gs k a b := by unfold GC.gateM; rw [if_neg (idx_miss q2)]; rfl
        simp (config := { maxSteps := 1000000 }) only [push_cast, ↓reduceIte, ↓normL_data, ↓frzL_data, Nat.reduceEqDiff, Nat.reduceLT, reduceCtorEq, Nat.reduceAdd, Nat.reduceMul, Nat.reduceDiv, Nat.reduceMod, Nat.reduceSub, Nat.reduceLeDiff, Nat.reduceBEq, Int.reduceLE, Int.reduceLT, Int.reduceToNat, Int.reduceAdd, Int.reduceSub, Int.reduceMul, Int.reduceEq, Int.reduceBEq, Int.reduceNeg, Int.reduceGT, Int.natCast_pos, hi]
        refine vcall_by true (put_ok gs outs k a b (by omega)) ?_
        simp (config := { maxSteps := 1000000 }) only [push_cast, ↓reduceIte, ↓normL_data, ↓frzL_data, Nat.reduceEqDiff, Nat.reduceLT, reduceCtorEq, Nat.reduceAdd, Nat.reduceMul, Nat.reduceDiv, Nat.reduceMod, Nat.reduceSub, Nat.reduceLeDiff, Nat.reduceBEq, Int.reduceLE, Int.reduceLT, Int.reduceToNat, Int.reduceAdd, Int.reduceSub, Int.reduceMul, Int.reduceEq, Int.reduceBEq, Int.reduceNeg, Int.reduceGT, Int.natCast_pos, e3, or_self]
end GV

set_option linter.unusedSimpArgs false
set_option linter.unusedVariables false
set_option maxHeartbeats 4000000
namespace GV
open Go
theorem value_ok (gs : List GC.Gt) (outs : List Int) (w : Int) (h0 : 0 ≤ w) (h1 : w < gs.length) : CallOk Go.Proofs.Try.prog gl0 98 [bR gs outs, .c (iD w)] ⟨[.c (iD (GC.cst gs w))], [bR gs outs]⟩ := by
  refine okFn (fn := Go.Proofs.Try.f98) [.tmp 4] 2 22 (by kernel_rfl) (by kernel_rfl) rfl (by kernel_rfl) (by decide) rfl rfl rfl ?_
  have hi : w.toNat < gs.length := by omega
  have hg := gsE_get gs w.toNat hi
  obtain ⟨⟨gk, ga, gb⟩, hgi⟩ : ∃ g, gs.getD w.toNat dG = g := ⟨_, rfl⟩
  rw [hgi] at hg
  have e : GC.cst gs w = if gk = 2 then ga else -1 := by have hq : GC.gAt gs w = ⟨gk, ga, gb⟩ := hgi; unfold GC.cst; rw [hq]
  by_cases h2 : gk = 2
  · subst h2
    simp (config := { maxSteps := 1000000 }) only [push_cast, ↓reduceIte, ↓normL_data, ↓frzL_data, Nat.reduceEqDiff, Nat.reduceLT, reduceCtorEq, Nat.reduceAdd, Nat.reduceMul, Nat.reduceDiv, Nat.reduceMod, Nat.reduceSub, Nat.reduceLeDiff, Nat.reduceBEq, Int.reduceLE, Int.reduceLT, Int.reduceToNat, Int.reduceAdd, Int.reduceSub, Int.reduceMul, Int.reduceEq, Int.reduceBEq, Int.reduceNeg, Int.reduceGT, Int.natCast_pos, h0, h1, hi, and_self, hg, gE, e]
  · simp (config := { maxSteps := 1000000 }) only [push_cast, ↓reduceIte, ↓normL_data, ↓frzL_data, Nat.reduceEqDiff, Nat.reduceLT, reduceCtorEq, Nat.reduceAdd, Nat.reduceMul, Nat.reduceDiv, Nat.reduceMod, Nat.reduceSub, Nat.reduceLeDiff, Nat.reduceBEq, Int.reduceLE, Int.reduceLT, Int.reduceToNat, Int.reduceAdd, Int.reduceSub, Int.reduceMul, Int.reduceEq, Int.reduceBEq, Int.reduceNeg, Int.reduceGT, Int.natCast_pos, h0, h1, hi, and_self, hg, gE, e, h2]
theorem ite_same (p : Prop) [Decidable p] (a : Int) : (if p then a else a) = a := by split <;> rfl
theorem not16_ok (gs : List GC.Gt) (outs : List Int) (w : Int) (h0 : 0 ≤ w) (h1 : w < gs.length) (h : gs.length ≤ 100000) (hok : GC.okGs gs) : CallOk Go.Proofs.Try.prog gl0 81 [bR gs outs, .c (iD w)] ⟨[.c (iD (GC.negM gs w).1)], [bR (GC.negM gs w).2 outs]⟩ := by
  refine okFn (fn := Go.Proofs.Try.f81) [.tmp 4] 2 39 (by kernel_rfl) (by kernel_rfl) rfl (by kernel_rfl) (by decide) rfl rfl rfl ?_
  have hi : w.toNat < gs.length := by omega
  have hg := gsE_get gs w.toNat hi
  have h2 := GC.ok_at hok h0 h1
  obtain ⟨⟨gk, ga, gb⟩, hgi⟩ : ∃ g, gs.getD w.toNat dG = g := ⟨_, rfl⟩
  rw [hgi] at hg
  rw [show GC.gAt gs w = ⟨gk, ga, gb⟩ from hgi] at h2
  have e : GC.negM gs w = if gk = 2 then GC.gateM gs ⟨2, 1 - ga, 0⟩ else if gk = 5 then (ga, gs) else GC.gateM gs ⟨5, w, 0⟩ := by have hq : GC.gAt gs w = ⟨gk, ga, gb⟩ := hgi; unfold GC.negM; rw [hq]
  by_cases c2 : gk = 2
  · subst c2
    unfold GC.okG at h2
    simp at h2
    have ew : IntKind.i64.wrap (1 - ga) = 1 - ga := w64 _ (by omega) (by omega)
    rw [if_pos rfl] at e
    have hc := gate16_ok gs outs 2 (1 - ga) 0 h
    simp only [Int.reduceEq, or_self, and_false, if_false] at hc
    simp (config := { maxSteps := 1000000 }) only [push_cast, ↓reduceIte, ↓normL_data, ↓frzL_data, Nat.reduceEqDiff, Nat.reduceLT, reduceCtorEq, Nat.reduceAdd, Nat.reduceMul, Nat.reduceDiv, Nat.reduceMod, Nat.reduceSub, Nat.reduceLeDiff, Nat.reduceBEq, Int.reduceLE, Int.reduceLT, Int.reduceToNat, Int.reduceAdd, Int.reduceSub, Int.reduceMul, Int.reduceEq, Int.reduceBEq, Int.reduceNeg, Int.reduceGT, Int.natCast_pos, h0, h1, hi, and_self, hg, gE, ew]
    refine vcall_by true hc ?_
    simp (config := { maxSteps := 1000000 }) only [push_cast, ↓reduceIte, ↓normL_data, ↓frzL_data, Nat.reduceEqDiff, Nat.reduceLT, reduceCtorEq, Nat.reduceAdd, Nat.reduceMul, Nat.reduceDiv, Nat.reduceMod, Nat.reduceSub, Nat.reduceLeDiff, Nat.reduceBEq, Int.reduceLE, Int.reduceLT, Int.reduceToNat, Int.reduceAdd, Int.reduceSub, Int.reduceMul, Int.reduceEq, Int.reduceBEq, Int.reduceNeg, Int.reduceGT, Int.natCast_pos, e]
  · by_cases c5 : gk = 5
    · subst c5
      simp only [Int.reduceEq, if_false, if_true] at e
      simp (config := { maxSteps := 1000000 }) only [push_cast, ↓reduceIte, ↓normL_data, ↓frzL_data, Nat.reduceEqDiff, Nat.reduceLT, reduceCtorEq, Nat.reduceAdd, Nat.reduceMul, Nat.reduceDiv, Nat.reduceMod, Nat.reduceSub, Nat.reduceLeDiff, Nat.reduceBEq, Int.reduceLE, Int.reduceLT, Int.reduceToNat, Int.reduceAdd, Int.reduceSub, Int.reduceMul, Int.reduceEq, Int.reduceBEq, Int.reduceNeg, Int.reduceGT, Int.natCast_pos, h0, h1, hi, and_self, hg, gE, e]
    · simp only [c2, c5, if_false] at e
      have hc := gate16_ok gs outs 5 w 0 h
      simp only [Int.reduceEq, or_self, and_false, if_false] at hc
      simp (config := { maxSteps := 1000000 }) only [push_cast, ↓reduceIte, ↓normL_data, ↓frzL_data, Nat.reduceEqDiff, Nat.reduceLT, reduceCtorEq, Nat.reduceAdd, Nat.reduceMul, Nat.reduceDiv, Nat.reduceMod, Nat.reduceSub, Nat.reduceLeDiff, Nat.reduceBEq, Int.reduceLE, Int.reduceLT, Int.reduceToNat, Int.reduceAdd, Int.reduceSub, Int.reduceMul, Int.reduceEq, Int.reduceBEq, Int.reduceNeg, Int.reduceGT, Int.natCast_pos, h0, h1, hi, and_self, hg, gE, c2, c5]
      refine vcall_by true hc ?_
      simp (config := { maxSteps := 1000000 }) only [push_cast, ↓reduceIte, ↓normL_data, ↓frzL_data, Nat.reduceEqDiff, Nat.reduceLT, reduceCtorEq, Nat.reduceAdd, Nat.reduceMul, Nat.reduceDiv, Nat.reduceMod, Nat.reduceSub, Nat.reduceLeDiff, Nat.reduceBEq, Int.reduceLE, Int.reduceLT, Int.reduceToNat, Int.reduceAdd, Int.reduceSub, Int.reduceMul, Int.reduceEq, Int.reduceBEq, Int.reduceNeg, Int.reduceGT, Int.natCast_pos, e]
theorem xor16_ok (gs : List GC.Gt) (outs : List Int) (a b : Int) (a0 : 0 ≤ a) (a1 : a < gs.length) (b0 : 0 ≤ b) (b1 : b < gs.length) (h : gs.length ≤ 100000) (hok : GC.okGs gs) : CallOk Go.Proofs.Try.prog gl0 79 [bR gs outs, .c (iD a), .c (iD b)] ⟨[.c (iD (GC.xorM gs a b).1)], [bR (GC.xorM gs a b).2 outs]⟩ := by
  refine okFn (fn := Go.Proofs.Try.f79) [.tmp 6] 3 45 (by kernel_rfl) (by kernel_rfl) rfl (by kernel_rfl) (by decide) rfl rfl rfl ?_
  have hz := gate16_ok gs outs 2 0 0 h
  have hg := gate16_ok gs outs 3 a b h
  simp only [Int.reduceEq, or_self, and_false, if_false, if_true, true_or, and_true] at hz hg
  rw [show (if b < a then b else a) = min a b by omega, show (if b < a then a else b) = max a b by omega] at hg
  by_cases c1 : a = b
  · have e : GC.xorM gs a b = GC.gateM gs ⟨2, 0, 0⟩ := by unfold GC.xorM; rw [if_pos c1]
    rw [← c1] at e
    simp (config := { maxSteps := 1000000 }) only [push_cast, ↓reduceIte, ↓normL_data, ↓frzL_data, Nat.reduceEqDiff, Nat.reduceLT, reduceCtorEq, Nat.reduceAdd, Nat.reduceMul, Nat.reduceDiv, Nat.reduceMod, Nat.reduceSub, Nat.reduceLeDiff, Nat.reduceBEq, Int.reduceLE, Int.reduceLT, Int.reduceToNat, Int.reduceAdd, Int.reduceSub, Int.reduceMul, Int.reduceEq, Int.reduceBEq, Int.reduceNeg, Int.reduceGT, Int.natCast_pos, ← c1]
    refine vcall_by true hz ?_
    simp (config := { maxSteps := 1000000 }) only [push_cast, ↓reduceIte, ↓normL_data, ↓frzL_data, Nat.reduceEqDiff, Nat.reduceLT, reduceCtorEq, Nat.reduceAdd, Nat.reduceMul, Nat.reduceDiv, Nat.reduceMod, Nat.reduceSub, Nat.reduceLeDiff, Nat.reduceBEq, Int.reduceLE, Int.reduceLT, Int.reduceToNat, Int.reduceAdd, Int.reduceSub, Int.reduceMul, Int.reduceEq, Int.reduceBEq, Int.reduceNeg, Int.reduceGT, Int.natCast_pos, e]
  · simp (config := { maxSteps := 1000000 }) only [push_cast, ↓reduceIte, ↓normL_data, ↓frzL_data, Nat.reduceEqDiff, Nat.reduceLT, reduceCtorEq, Nat.reduceAdd, Nat.reduceMul, Nat.reduceDiv, Nat.reduceMod, Nat.reduceSub, Nat.reduceLeDiff, Nat.reduceBEq, Int.reduceLE, Int.reduceLT, Int.reduceToNat, Int.reduceAdd, Int.reduceSub, Int.reduceMul, Int.reduceEq, Int.reduceBEq, Int.reduceNeg, Int.reduceGT, Int.natCast_pos, c1]
    refine vcall_by true (value_ok gs outs a a0 a1) ?_
    by_cases c2 : GC.cst gs a = 0
    · have e : GC.xorM gs a b = (b, gs) := by unfold GC.xorM; rw [if_neg c1, if_pos c2]
      simp (config := { maxSteps := 1000000 }) only [push_cast, ↓reduceIte, ↓normL_data, ↓frzL_data, Nat.reduceEqDiff, Nat.reduceLT, reduceCtorEq, Nat.reduceAdd, Nat.reduceMul, Nat.reduceDiv, Nat.reduceMod, Nat.reduceSub, Nat.reduceLeDiff, Nat.reduceBEq, Int.reduceLE, Int.reduceLT, Int.reduceToNat, Int.reduceAdd, Int.reduceSub, Int.reduceMul, Int.reduceEq, Int.reduceBEq, Int.reduceNeg, Int.reduceGT, Int.natCast_pos, c2, e]
    · simp (config := { maxSteps := 1000000 }) only [push_cast, ↓reduceIte, ↓normL_data, ↓frzL_data, Nat.reduceEqDiff, Nat.reduceLT, reduceCtorEq, Nat.reduceAdd, Nat.reduceMul, Nat.reduceDiv, Nat.reduceMod, Nat.reduceSub, Nat.reduceLeDiff, Nat.reduceBEq, Int.reduceLE, Int.reduceLT, Int.reduceToNat, Int.reduceAdd, Int.reduceSub, Int.reduceMul, Int.reduceEq, Int.reduceBEq, Int.reduceNeg, Int.reduceGT, Int.natCast_pos, c2]
      refine vcall_by true (value_ok gs outs a a0 a1) ?_
      by_cases c3 : GC.cst gs a = 1
      · have e : GC.xorM gs a b = GC.negM gs b := by unfold GC.xorM; rw [if_neg c1, if_neg c2, if_pos c3]
        simp (config := { maxSteps := 1000000 }) only [push_cast, ↓reduceIte, ↓normL_data, ↓frzL_data, Nat.reduceEqDiff, Nat.reduceLT, reduceCtorEq, Nat.reduceAdd, Nat.reduceMul, Nat.reduceDiv, Nat.reduceMod, Nat.reduceSub, Nat.reduceLeDiff, Nat.reduceBEq, Int.reduceLE, Int.reduceLT, Int.reduceToNat, Int.reduceAdd, Int.reduceSub, Int.reduceMul, Int.reduceEq, Int.reduceBEq, Int.reduceNeg, Int.reduceGT, Int.natCast_pos, c3]
        refine vcall_by true (not16_ok gs outs b b0 b1 h hok) ?_
        simp (config := { maxSteps := 1000000 }) only [push_cast, ↓reduceIte, ↓normL_data, ↓frzL_data, Nat.reduceEqDiff, Nat.reduceLT, reduceCtorEq, Nat.reduceAdd, Nat.reduceMul, Nat.reduceDiv, Nat.reduceMod, Nat.reduceSub, Nat.reduceLeDiff, Nat.reduceBEq, Int.reduceLE, Int.reduceLT, Int.reduceToNat, Int.reduceAdd, Int.reduceSub, Int.reduceMul, Int.reduceEq, Int.reduceBEq, Int.reduceNeg, Int.reduceGT, Int.natCast_pos, e]
      · simp (config := { maxSteps := 1000000 }) only [push_cast, ↓reduceIte, ↓normL_data, ↓frzL_data, Nat.reduceEqDiff, Nat.reduceLT, reduceCtorEq, Nat.reduceAdd, Nat.reduceMul, Nat.reduceDiv, Nat.reduceMod, Nat.reduceSub, Nat.reduceLeDiff, Nat.reduceBEq, Int.reduceLE, Int.reduceLT, Int.reduceToNat, Int.reduceAdd, Int.reduceSub, Int.reduceMul, Int.reduceEq, Int.reduceBEq, Int.reduceNeg, Int.reduceGT, Int.natCast_pos, c3]
        refine vcall_by true (value_ok gs outs b b0 b1) ?_
        by_cases c4 : GC.cst gs b = 0
        · have e : GC.xorM gs a b = (a, gs) := by unfold GC.xorM; rw [if_neg c1, if_neg c2, if_neg c3, if_pos c4]
          simp (config := { maxSteps := 1000000 }) only [push_cast, ↓reduceIte, ↓normL_data, ↓frzL_data, Nat.reduceEqDiff, Nat.reduceLT, reduceCtorEq, Nat.reduceAdd, Nat.reduceMul, Nat.reduceDiv, Nat.reduceMod, Nat.reduceSub, Nat.reduceLeDiff, Nat.reduceBEq, Int.reduceLE, Int.reduceLT, Int.reduceToNat, Int.reduceAdd, Int.reduceSub, Int.reduceMul, Int.reduceEq, Int.reduceBEq, Int.reduceNeg, Int.reduceGT, Int.natCast_pos, c4, e]
        · simp (config := { maxSteps := 1000000 }) only [push_cast, ↓reduceIte, ↓normL_data, ↓frzL_data, Nat.reduceEqDiff, Nat.reduceLT, reduceCtorEq, Nat.reduceAdd, Nat.reduceMul, Nat.reduceDiv, Nat.reduceMod, Nat.reduceSub, Nat.reduceLeDiff, Nat.reduceBEq, Int.reduceLE, Int.reduceLT, Int.reduceToNat, Int.reduceAdd, Int.reduceSub, Int.reduceMul, Int.reduceEq, Int.reduceBEq, Int.reduceNeg, Int.reduceGT, Int.natCast_pos, c4]
          refine vcall_by true (value_ok gs outs b b0 b1) ?_
          by_cases c5 : GC.cst gs b = 1
          · have e : GC.xorM gs a b = GC.negM gs a := by unfold GC.xorM; rw [if_neg c1, if_neg c2, if_neg c3, if_neg c4, if_pos c5]
            simp (config := { maxSteps := 1000000 }) only [push_cast, ↓reduceIte, ↓normL_data, ↓frzL_data, Nat.reduceEqDiff, Nat.reduceLT, reduceCtorEq, Nat.reduceAdd, Nat.reduceMul, Nat.reduceDiv, Nat.reduceMod, Nat.reduceSub, Nat.reduceLeDiff, Nat.reduceBEq, Int.reduceLE, Int.reduceLT, Int.reduceToNat, Int.reduceAdd, Int.reduceSub, Int.reduceMul, Int.reduceEq, Int.reduceBEq, Int.reduceNeg, Int.reduceGT, Int.natCast_pos, c5]
            refine vcall_by true (not16_ok gs outs a a0 a1 h hok) ?_
            simp (config := { maxSteps := 1000000 }) only [push_cast, ↓reduceIte, ↓normL_data, ↓frzL_data, Nat.reduceEqDiff, Nat.reduceLT, reduceCtorEq, Nat.reduceAdd, Nat.reduceMul, Nat.reduceDiv, Nat.reduceMod, Nat.reduceSub, Nat.reduceLeDiff, Nat.reduceBEq, Int.reduceLE, Int.reduceLT, Int.reduceToNat, Int.reduceAdd, Int.reduceSub, Int.reduceMul, Int.reduceEq, Int.reduceBEq, Int.reduceNeg, Int.reduceGT, Int.natCast_pos, e]
          · have e : GC.xorM gs a b = GC.gateM gs ⟨3, min a b, max a b⟩ := by unfold GC.xorM; rw [if_neg c1, if_neg c2, if_neg c3, if_neg c4, if_neg c5]
            simp (config := { maxSteps := 1000000 }) only [push_cast, ↓reduceIte, ↓normL_data, ↓frzL_data, Nat.reduceEqDiff, Nat.reduceLT, reduceCtorEq, Nat.reduceAdd, Nat.reduceMul, Nat.reduceDiv, Nat.reduceMod, Nat.reduceSub, Nat.reduceLeDiff, Nat.reduceBEq, Int.reduceLE, Int.reduceLT, Int.reduceToNat, Int.reduceAdd, Int.reduceSub, Int.reduceMul, Int.reduceEq, Int.reduceBEq, Int.reduceNeg, Int.reduceGT, Int.natCast_pos, c5]
            refine vcall_by true hg ?_
            simp (config := { maxSteps := 1000000 }) only [push_cast, ↓reduceIte, ↓normL_data, ↓frzL_data, Nat.reduceEqDiff, Nat.reduceLT, reduceCtorEq, Nat.reduceAdd, Nat.reduceMul, Nat.reduceDiv, Nat.reduceMod, Nat.reduceSub, Nat.reduceLeDiff, Nat.reduceBEq, Int.reduceLE, Int.reduceLT, Int.reduceToNat, Int.reduceAdd, Int.reduceSub, Int.reduceMul, Int.reduceEq, Int.reduceBEq, Int.reduceNeg, Int.reduceGT, Int.natCast_pos, e]
theorem and16_ok (gs : List GC.Gt) (outs : List Int) (a b : Int) (a0 : 0 ≤ a) (a1 : a < gs.length) (b0 : 0 ≤ b) (b1 : b < gs.length) (h : gs.length ≤ 100000) (hok : GC.okGs gs) : CallOk Go.Proofs.Try.prog gl0 80 [bR gs outs, .c (iD a), .c (iD b)] ⟨[.c (iD (GC.andM gs a b).1)], [bR (GC.andM gs a b).2 outs]⟩ := by
  refine okFn (fn := Go.Proofs.Try.f80) [.tmp 6] 3 42 (by kernel_rfl) (by kernel_rfl) rfl (by kernel_rfl) (by decide) rfl rfl rfl ?_
  have hz := gate16_ok gs outs 2 0 0 h
  have hg := gate16_ok gs outs 4 a b h
  simp only [Int.reduceEq, or_self, and_false, if_false, if_true, true_or, or_true, and_true] at hz hg
  rw [show (if b < a then b else a) = min a b by omega, show (if b < a then a else b) = max a b by omega] at hg
  by_cases c1 : a = b
  · have e : GC.andM gs a b = (a, gs) := by unfold GC.andM; rw [if_pos c1]
    rw [e]
    simp (config := { maxSteps := 1000000 }) only [push_cast, ↓reduceIte, ↓normL_data, ↓frzL_data, Nat.reduceEqDiff, Nat.reduceLT, reduceCtorEq, Nat.reduceAdd, Nat.reduceMul, Nat.reduceDiv, Nat.reduceMod, Nat.reduceSub, Nat.reduceLeDiff, Nat.reduceBEq, Int.reduceLE, Int.reduceLT, Int.reduceToNat, Int.reduceAdd, Int.reduceSub, Int.reduceMul, Int.reduceEq, Int.reduceBEq, Int.reduceNeg, Int.reduceGT, Int.natCast_pos, c1]
  · simp (config := { maxSteps := 1000000 }) only [push_cast, ↓reduceIte, ↓normL_data, ↓frzL_data, Nat.reduceEqDiff, Nat.reduceLT, reduceCtorEq, Nat.reduceAdd, Nat.reduceMul, Nat.reduceDiv, Nat.reduceMod, Nat.reduceSub, Nat.reduceLeDiff, Nat.reduceBEq, Int.reduceLE, Int.reduceLT, Int.reduceToNat, Int.reduceAdd, Int.reduceSub, Int.reduceMul, Int.reduceEq, Int.reduceBEq, Int.reduceNeg, Int.reduceGT, Int.natCast_pos, c1]
    refine vcall_by true (value_ok gs outs a a0 a1) ?_
    by_cases c2 : GC.cst gs a = 0
    · have e : GC.andM gs a b = GC.gateM gs ⟨2, 0, 0⟩ := by unfold GC.andM; rw [if_neg c1, if_pos c2]
      simp (config := { maxSteps := 1000000 }) only [push_cast, ↓reduceIte, ↓normL_data, ↓frzL_data, Nat.reduceEqDiff, Nat.reduceLT, reduceCtorEq, Nat.reduceAdd, Nat.reduceMul, Nat.reduceDiv, Nat.reduceMod, Nat.reduceSub, Nat.reduceLeDiff, Nat.reduceBEq, Int.reduceLE, Int.reduceLT, Int.reduceToNat, Int.reduceAdd, Int.reduceSub, Int.reduceMul, Int.reduceEq, Int.reduceBEq, Int.reduceNeg, Int.reduceGT, Int.natCast_pos, c2]
      refine vcall_by true hz ?_
      simp (config := { maxSteps := 1000000 }) only [push_cast, ↓reduceIte, ↓normL_data, ↓frzL_data, Nat.reduceEqDiff, Nat.reduceLT, reduceCtorEq, Nat.reduceAdd, Nat.reduceMul, Nat.reduceDiv, Nat.reduceMod, Nat.reduceSub, Nat.reduceLeDiff, Nat.reduceBEq, Int.reduceLE, Int.reduceLT, Int.reduceToNat, Int.reduceAdd, Int.reduceSub, Int.reduceMul, Int.reduceEq, Int.reduceBEq, Int.reduceNeg, Int.reduceGT, Int.natCast_pos, e]
    · simp (config := { maxSteps := 1000000 }) only [push_cast, ↓reduceIte, ↓normL_data, ↓frzL_data, Nat.reduceEqDiff, Nat.reduceLT, reduceCtorEq, Nat.reduceAdd, Nat.reduceMul, Nat.reduceDiv, Nat.reduceMod, Nat.reduceSub, Nat.reduceLeDiff, Nat.reduceBEq, Int.reduceLE, Int.reduceLT, Int.reduceToNat, Int.reduceAdd, Int.reduceSub, Int.reduceMul, Int.reduceEq, Int.reduceBEq, Int.reduceNeg, Int.reduceGT, Int.natCast_pos, c2]
      refine vcall_by true (value_ok gs outs a a0 a1) ?_
      by_cases c3 : GC.cst gs a = 1
      · have e : GC.andM gs a b = (b, gs) := by unfold GC.andM; rw [if_neg c1, if_neg c2, if_pos c3]
        simp (config := { maxSteps := 1000000 }) only [push_cast, ↓reduceIte, ↓normL_data, ↓frzL_data, Nat.reduceEqDiff, Nat.reduceLT, reduceCtorEq, Nat.reduceAdd, Nat.reduceMul, Nat.reduceDiv, Nat.reduceMod, Nat.reduceSub, Nat.reduceLeDiff, Nat.reduceBEq, Int.reduceLE, Int.reduceLT, Int.reduceToNat, Int.reduceAdd, Int.reduceSub, Int.reduceMul, Int.reduceEq, Int.reduceBEq, Int.reduceNeg, Int.reduceGT, Int.natCast_pos, c3, e]
      · simp (config := { maxSteps := 1000000 }) only [push_cast, ↓reduceIte, ↓normL_data, ↓frzL_data, Nat.reduceEqDiff, Nat.reduceLT, reduceCtorEq, Nat.reduceAdd, Nat.reduceMul, Nat.reduceDiv, Nat.reduceMod, Nat.reduceSub, Nat.reduceLeDiff, Nat.reduceBEq, Int.reduceLE, Int.reduceLT, Int.reduceToNat, Int.reduceAdd, Int.reduceSub, Int.reduceMul, Int.reduceEq, Int.reduceBEq, Int.reduceNeg, Int.reduceGT, Int.natCast_pos, c3]
        refine vcall_by true (value_ok gs outs b b0 b1) ?_
        by_cases c4 : GC.cst gs b = 0
        · have e : GC.andM gs a b = GC.gateM gs ⟨2, 0, 0⟩ := by unfold GC.andM; rw [if_neg c1, if_neg c2, if_neg c3, if_pos c4]
          simp (config := { maxSteps := 1000000 }) only [push_cast, ↓reduceIte, ↓normL_data, ↓frzL_data, Nat.reduceEqDiff, Nat.reduceLT, reduceCtorEq, Nat.reduceAdd, Nat.reduceMul, Nat.reduceDiv, Nat.reduceMod, Nat.reduceSub, Nat.reduceLeDiff, Nat.reduceBEq, Int.reduceLE, Int.reduceLT, Int.reduceToNat, Int.reduceAdd, Int.reduceSub, Int.reduceMul, Int.reduceEq, Int.reduceBEq, Int.reduceNeg, Int.reduceGT, Int.natCast_pos, c4]
          refine vcall_by true hz ?_
          simp (config := { maxSteps := 1000000 }) only [push_cast, ↓reduceIte, ↓normL_data, ↓frzL_data, Nat.reduceEqDiff, Nat.reduceLT, reduceCtorEq, Nat.reduceAdd, Nat.reduceMul, Nat.reduceDiv, Nat.reduceMod, Nat.reduceSub, Nat.reduceLeDiff, Nat.reduceBEq, Int.reduceLE, Int.reduceLT, Int.reduceToNat, Int.reduceAdd, Int.reduceSub, Int.reduceMul, Int.reduceEq, Int.reduceBEq, Int.reduceNeg, Int.reduceGT, Int.natCast_pos, e]
        · simp (config := { maxSteps := 1000000 }) only [push_cast, ↓reduceIte, ↓normL_data, ↓frzL_data, Nat.reduceEqDiff, Nat.reduceLT, reduceCtorEq, Nat.reduceAdd, Nat.reduceMul, Nat.reduceDiv, Nat.reduceMod, Nat.reduceSub, Nat.reduceLeDiff, Nat.reduceBEq, Int.reduceLE, Int.reduceLT, Int.reduceToNat, Int.reduceAdd, Int.reduceSub, Int.reduceMul, Int.reduceEq, Int.reduceBEq, Int.reduceNeg, Int.reduceGT, Int.natCast_pos, c4]
          refine vcall_by true (value_ok gs outs b b0 b1) ?_
          by_cases c5 : GC.cst gs b = 1
          · have e : GC.andM gs a b = (a, gs) := by unfold GC.andM; rw [if_neg c1, if_neg c2, if_neg c3, if_neg c4, if_pos c5]
            simp (config := { maxSteps := 1000000 }) only [push_cast, ↓reduceIte, ↓normL_data, ↓frzL_data, Nat.reduceEqDiff, Nat.reduceLT, reduceCtorEq, Nat.reduceAdd, Nat.reduceMul, Nat.reduceDiv, Nat.reduceMod, Nat.reduceSub, Nat.reduceLeDiff, Nat.reduceBEq, Int.reduceLE, Int.reduceLT, Int.reduceToNat, Int.reduceAdd, Int.reduceSub, Int.reduceMul, Int.reduceEq, Int.reduceBEq, Int.reduceNeg, Int.reduceGT, Int.natCast_pos, c5, e]
          · have e : GC.andM gs a b = GC.gateM gs ⟨4, min a b, max a b⟩ := by unfold GC.andM; rw [if_neg c1, if_neg c2, if_neg c3, if_neg c4, if_neg c5]
            simp (config := { maxSteps := 1000000 }) only [push_cast, ↓reduceIte, ↓normL_data, ↓frzL_data, Nat.reduceEqDiff, Nat.reduceLT, reduceCtorEq, Nat.reduceAdd, Nat.reduceMul, Nat.reduceDiv, Nat.reduceMod, Nat.reduceSub, Nat.reduceLeDiff, Nat.reduceBEq, Int.reduceLE, Int.reduceLT, Int.reduceToNat, Int.reduceAdd, Int.reduceSub, Int.reduceMul, Int.reduceEq, Int.reduceBEq, Int.reduceNeg, Int.reduceGT, Int.natCast_pos, c5]
            refine vcall_by true hg ?_
            simp (config := { maxSteps := 1000000 }) only [push_cast, ↓reduceIte, ↓normL_data, ↓frzL_data, Nat.reduceEqDiff, Nat.reduceLT, reduceCtorEq, Nat.reduceAdd, Nat.reduceMul, Nat.reduceDiv, Nat.reduceMod, Nat.reduceSub, Nat.reduceLeDiff, Nat.reduceBEq, Int.reduceLE, Int.reduceLT, Int.reduceToNat, Int.reduceAdd, Int.reduceSub, Int.reduceMul, Int.reduceEq, Int.reduceBEq, Int.reduceNeg, Int.reduceGT, Int.natCast_pos, e]
end GV

