/- This text proves contracts of simplifying, pruning, costs, and of the law itself. No condition but those that each theorem states. -/
import Derived.Test.YtpenfogoolkaeaaWd
import Derived.OpenShut
import Derived.Below
set_option linter.unusedSimpArgs false
set_option linter.unusedVariables false
set_option maxHeartbeats 4000000
namespace GV
open Go
theorem gts_snoc {l : List GC.Gt} {k : Nat} (h : k < l.length) : l.take (k + 1) = l.take k ++ [l.getD k dG] := by
  rw [List.take_add_one, List.getElem?_eq_getElem h, List.getD_eq_getElem?_getD, List.getElem?_eq_getElem h]; rfl
theorem ints_snoc {l : List Int} {k : Nat} (h : k < l.length) : l.take (k + 1) = l.take k ++ [l.getD k 0] := by
  rw [List.take_add_one, List.getElem?_eq_getElem h, List.getD_eq_getElem?_getD, List.getElem?_eq_getElem h]; rfl
theorem simpL_snoc (l : List GC.Gt) (g : GC.Gt) : GC.simpL (l ++ [g]) = GC.stepS (GC.simpL l) g := by simp [GC.simpL]
theorem simpL_facts {gs : List GC.Gt} (h : GC.okGs gs) : GC.okGs (GC.simpL gs).gs ∧ (GC.simpL gs).to.length = gs.length ∧ (GC.simpL gs).gs.length ≤ gs.length ∧ ∀ i, i < gs.length → 0 ≤ (GC.simpL gs).to.getD i 0 ∧ (GC.simpL gs).to.getD i 0 < (GC.simpL gs).gs.length := by
  have r := GC.SR.all (fun _ => false) gs h
  exact ⟨r.ok, r.len, r.low, fun i hi => ⟨(r.wires i hi).1, (r.wires i hi).2.1⟩⟩
theorem okGs_take {gs : List GC.Gt} (h : GC.okGs gs) (k : Nat) : GC.okGs (gs.take k) := by
  have := List.take_append_drop k gs
  rw [← this] at h
  exact GC.okGs_left h
set_option maxRecDepth 100000 in
theorem simplify_ok (gs : List GC.Gt) (outs : List Int) (h : okC gs outs) : CallOk Go.Proofs.Try.prog gl0 43 [.ag [gsS gs, iS outs]] ⟨[.ra [.r (gsR (GC.simpM gs outs).1), .r (iR (GC.simpM gs outs).2)]], []⟩ := by
  have hcir := circuitOk_ok gs outs h
  obtain ⟨h1, h2, h3, h4⟩ := h
  refine okFn (fn := Go.Proofs.Try.f43) [.cell 2 27] 1 96 (by kernel_rfl) (by kernel_rfl) rfl (by kernel_rfl) (by decide) rfl rfl rfl ?_
  simp (config := { maxSteps := 1000000 }) only [push_cast, ↓reduceIte, ↓normL_data, ↓frzL_data, Nat.reduceEqDiff, Nat.reduceLT, reduceCtorEq, Nat.reduceAdd, Nat.reduceMul, Nat.reduceDiv, Nat.reduceMod, Nat.reduceSub, Nat.reduceLeDiff, Nat.reduceBEq, Int.reduceLE, Int.reduceLT, Int.reduceToNat, Int.reduceAdd, Int.reduceSub, Int.reduceMul, Int.reduceEq, Int.reduceBEq, Int.reduceNeg, Int.reduceGT, Int.natCast_pos]
  refine vcall_by true hcir ?_
  simp (config := { maxSteps := 1000000 }) only [push_cast, ↓reduceIte, ↓normL_data, ↓frzL_data, Nat.reduceEqDiff, Nat.reduceLT, reduceCtorEq, Nat.reduceAdd, Nat.reduceMul, Nat.reduceDiv, Nat.reduceMod, Nat.reduceSub, Nat.reduceLeDiff, Nat.reduceBEq, Int.reduceLE, Int.reduceLT, Int.reduceToNat, Int.reduceAdd, Int.reduceSub, Int.reduceMul, Int.reduceEq, Int.reduceBEq, Int.reduceNeg, Int.reduceGT, Int.natCast_pos]
  refine VC.loop' tab_ok (σ := Fin (gs.length + 1)) (fun k => St.of gl0 [(1, .c (.ptr 1 0)), (2, .c (.ptr 2 0)), (3, .c (.ptr 3 0)), (4, .c (.own 4)), (5, .c (.d (iD k.1)))]
    [(4, iR (GC.simpL (gs.take k.1)).to), (3000, gsR []), (3001, iR []), (4000, gsR (GC.simpL (gs.take k.1)).gs), (4001, iR [])] [(1, [.d (gsS gs), .d (iS outs)]), (2, [.own 3000, .own 3001]), (3, [.own 4000, .own 4001])]) (fun k => gs.length - k.1) ⟨0, by omega⟩ (St.le_of ?_) ?_
  · simp (config := { maxSteps := 1000000 }) only [push_cast, ↓reduceIte, ↓normL_data, ↓frzL_data, Nat.reduceEqDiff, Nat.reduceLT, reduceCtorEq, Nat.reduceAdd, Nat.reduceMul, Nat.reduceDiv, Nat.reduceMod, Nat.reduceSub, Nat.reduceLeDiff, Nat.reduceBEq, Int.reduceLE, Int.reduceLT, Int.reduceToNat, Int.reduceAdd, Int.reduceSub, Int.reduceMul, Int.reduceEq, Int.reduceBEq, Int.reduceNeg, Int.reduceGT, Int.natCast_pos, List.take_zero]
    exact ⟨rfl, rfl⟩
  · intro k
    obtain ⟨k, hk⟩ := k
    obtain ⟨f1, f2, f3, f4⟩ := simpL_facts (okGs_take h1 k)
    have lt : (gs.take k).length = k := by rw [List.length_take]; omega
    rw [lt] at f2 f3 f4
    have ek : IntKind.i64.wrap ((k : Int) + 1) = ((k + 1 : Nat) : Int) := by rw [w64 _ (by omega) (by omega)]; omega
    obtain ⟨c, hc⟩ : ∃ c, GC.simpL (gs.take k) = c := ⟨_, rfl⟩
    rw [hc] at f1 f2 f3 f4
    by_cases hi : (k : Int) < (gs.length : Int)
    · have hi' : k < gs.length := by omega
      have hg := gsE_get gs k hi'
      have hok := GC.okG_at h1 hi'
      obtain ⟨⟨gk, ga, gb⟩, hgi⟩ : ∃ g, gs.getD k dG = g := ⟨_, rfl⟩
      rw [hgi] at hg
      rw [show gs.getD k GC.dG = ⟨gk, ga, gb⟩ from hgi] at hok
      have hst : GC.simpL (gs.take (k + 1)) = GC.stepS c ⟨gk, ga, gb⟩ := by rw [gts_snoc hi', hgi, simpL_snoc, hc]
      unfold GC.stepS at hst
      unfold GC.okG at hok
      simp only at hok hst
      have iA : ∀ x : Int, 0 ≤ x → x < k → (x < (c.to.length : Int) ∧ x.toNat < c.to.length) ∧ (iE c.to).getD x.toNat [] = [iD (c.to.getD x.toNat 0)] ∧ 0 ≤ c.to.getD x.toNat 0 ∧ c.to.getD x.toNat 0 < c.gs.length := fun x x0 x1 => ⟨⟨by omega, by omega⟩, iE_get _ _ (by omega), (f4 x.toNat (by omega)).1, (f4 x.toNat (by omega)).2⟩
      by_cases k3 : gk = 3
      · subst k3
        simp only [Int.reduceEq, if_false, if_true, true_or] at hok hst
        obtain ⟨a0, a1, b0, b1⟩ := hok
        obtain ⟨p1, p2, p3, p4⟩ := iA ga a0 a1
        obtain ⟨q1, q2, q3, q4⟩ := iA gb b0 b1
        simp (config := { maxSteps := 1000000 }) only [push_cast, ↓reduceIte, ↓normL_data, ↓frzL_data, Nat.reduceEqDiff, Nat.reduceLT, reduceCtorEq, Nat.reduceAdd, Nat.reduceMul, Nat.reduceDiv, Nat.reduceMod, Nat.reduceSub, Nat.reduceLeDiff, Nat.reduceBEq, Int.reduceLE, Int.reduceLT, Int.reduceToNat, Int.reduceAdd, Int.reduceSub, Int.reduceMul, Int.reduceEq, Int.reduceBEq, Int.reduceNeg, Int.reduceGT, Int.natCast_pos, hc, hi, hi', hg, gE]
        refine VD.plan tab_ok (by kernel_rfl) [10] (.takes [0, 1, 2, 3, 4, 5, 6, 7, 8, 9] (.one 10 (.takes [11] (.done)))) (by kernel_rfl) ?_
        simp (config := { maxSteps := 1000000 }) only [push_cast, ↓reduceIte, ↓normL_data, ↓frzL_data, Nat.reduceEqDiff, Nat.reduceLT, reduceCtorEq, Nat.reduceAdd, Nat.reduceMul, Nat.reduceDiv, Nat.reduceMod, Nat.reduceSub, Nat.reduceLeDiff, Nat.reduceBEq, Int.reduceLE, Int.reduceLT, Int.reduceToNat, Int.reduceAdd, Int.reduceSub, Int.reduceMul, Int.reduceEq, Int.reduceBEq, Int.reduceNeg, Int.reduceGT, Int.natCast_pos, p1, p2, q1, q2, a0, b0, and_self]
        repeat' apply And.intro
        all_goals
          refine vcall_by true (xor16_ok c.gs [] _ _ p3 p4 q3 q4 (by omega) f1) ?_
          simp (config := { maxSteps := 1000000 }) only [push_cast, ↓reduceIte, ↓normL_data, ↓frzL_data, Nat.reduceEqDiff, Nat.reduceLT, reduceCtorEq, Nat.reduceAdd, Nat.reduceMul, Nat.reduceDiv, Nat.reduceMod, Nat.reduceSub, Nat.reduceLeDiff, Nat.reduceBEq, Int.reduceLE, Int.reduceLT, Int.reduceToNat, Int.reduceAdd, Int.reduceSub, Int.reduceMul, Int.reduceEq, Int.reduceBEq, Int.reduceNeg, Int.reduceGT, Int.natCast_pos]
          refine ⟨by omega, kloop_next ⟨k + 1, by omega⟩ (St.le_of ?_) (by simp only; omega)⟩
          simp (config := { maxSteps := 1000000 }) only [push_cast, ↓reduceIte, ↓normL_data, ↓frzL_data, Nat.reduceEqDiff, Nat.reduceLT, reduceCtorEq, Nat.reduceAdd, Nat.reduceMul, Nat.reduceDiv, Nat.reduceMod, Nat.reduceSub, Nat.reduceLeDiff, Nat.reduceBEq, Int.reduceLE, Int.reduceLT, Int.reduceToNat, Int.reduceAdd, Int.reduceSub, Int.reduceMul, Int.reduceEq, Int.reduceBEq, Int.reduceNeg, Int.reduceGT, Int.natCast_pos, ek, hst]
      by_cases k4 : gk = 4
      · subst k4
        simp only [Int.reduceEq, if_false, if_true, or_true] at hok hst
        obtain ⟨a0, a1, b0, b1⟩ := hok
        obtain ⟨p1, p2, p3, p4⟩ := iA ga a0 a1
        obtain ⟨q1, q2, q3, q4⟩ := iA gb b0 b1
        simp (config := { maxSteps := 1000000 }) only [push_cast, ↓reduceIte, ↓normL_data, ↓frzL_data, Nat.reduceEqDiff, Nat.reduceLT, reduceCtorEq, Nat.reduceAdd, Nat.reduceMul, Nat.reduceDiv, Nat.reduceMod, Nat.reduceSub, Nat.reduceLeDiff, Nat.reduceBEq, Int.reduceLE, Int.reduceLT, Int.reduceToNat, Int.reduceAdd, Int.reduceSub, Int.reduceMul, Int.reduceEq, Int.reduceBEq, Int.reduceNeg, Int.reduceGT, Int.natCast_pos, hc, hi, hi', hg, gE]
        refine VD.plan tab_ok (by kernel_rfl) [10] (.takes [0, 1, 2, 3, 4, 5, 6, 7, 8, 9] (.one 10 (.takes [11] (.done)))) (by kernel_rfl) ?_
        simp (config := { maxSteps := 1000000 }) only [push_cast, ↓reduceIte, ↓normL_data, ↓frzL_data, Nat.reduceEqDiff, Nat.reduceLT, reduceCtorEq, Nat.reduceAdd, Nat.reduceMul, Nat.reduceDiv, Nat.reduceMod, Nat.reduceSub, Nat.reduceLeDiff, Nat.reduceBEq, Int.reduceLE, Int.reduceLT, Int.reduceToNat, Int.reduceAdd, Int.reduceSub, Int.reduceMul, Int.reduceEq, Int.reduceBEq, Int.reduceNeg, Int.reduceGT, Int.natCast_pos, p1, p2, q1, q2, a0, b0, and_self]
        repeat' apply And.intro
        all_goals
          refine vcall_by true (and16_ok c.gs [] _ _ p3 p4 q3 q4 (by omega) f1) ?_
          simp (config := { maxSteps := 1000000 }) only [push_cast, ↓reduceIte, ↓normL_data, ↓frzL_data, Nat.reduceEqDiff, Nat.reduceLT, reduceCtorEq, Nat.reduceAdd, Nat.reduceMul, Nat.reduceDiv, Nat.reduceMod, Nat.reduceSub, Nat.reduceLeDiff, Nat.reduceBEq, Int.reduceLE, Int.reduceLT, Int.reduceToNat, Int.reduceAdd, Int.reduceSub, Int.reduceMul, Int.reduceEq, Int.reduceBEq, Int.reduceNeg, Int.reduceGT, Int.natCast_pos]
          refine ⟨by omega, kloop_next ⟨k + 1, by omega⟩ (St.le_of ?_) (by simp only; omega)⟩
          simp (config := { maxSteps := 1000000 }) only [push_cast, ↓reduceIte, ↓normL_data, ↓frzL_data, Nat.reduceEqDiff, Nat.reduceLT, reduceCtorEq, Nat.reduceAdd, Nat.reduceMul, Nat.reduceDiv, Nat.reduceMod, Nat.reduceSub, Nat.reduceLeDiff, Nat.reduceBEq, Int.reduceLE, Int.reduceLT, Int.reduceToNat, Int.reduceAdd, Int.reduceSub, Int.reduceMul, Int.reduceEq, Int.reduceBEq, Int.reduceNeg, Int.reduceGT, Int.natCast_pos, ek, hst]
      by_cases k5 : gk = 5
      · subst k5
        simp only [Int.reduceEq, if_false, if_true, or_self] at hok hst
        obtain ⟨a0, a1, b0⟩ := hok
        obtain ⟨p1, p2, p3, p4⟩ := iA ga a0 a1
        simp (config := { maxSteps := 1000000 }) only [push_cast, ↓reduceIte, ↓normL_data, ↓frzL_data, Nat.reduceEqDiff, Nat.reduceLT, reduceCtorEq, Nat.reduceAdd, Nat.reduceMul, Nat.reduceDiv, Nat.reduceMod, Nat.reduceSub, Nat.reduceLeDiff, Nat.reduceBEq, Int.reduceLE, Int.reduceLT, Int.reduceToNat, Int.reduceAdd, Int.reduceSub, Int.reduceMul, Int.reduceEq, Int.reduceBEq, Int.reduceNeg, Int.reduceGT, Int.natCast_pos, hc, hi, hi', hg, gE, p1, p2, a0, and_self]
        refine vcall_by true (not16_ok c.gs [] _ p3 p4 (by omega) f1) ?_
        simp (config := { maxSteps := 1000000 }) only [push_cast, ↓reduceIte, ↓normL_data, ↓frzL_data, Nat.reduceEqDiff, Nat.reduceLT, reduceCtorEq, Nat.reduceAdd, Nat.reduceMul, Nat.reduceDiv, Nat.reduceMod, Nat.reduceSub, Nat.reduceLeDiff, Nat.reduceBEq, Int.reduceLE, Int.reduceLT, Int.reduceToNat, Int.reduceAdd, Int.reduceSub, Int.reduceMul, Int.reduceEq, Int.reduceBEq, Int.reduceNeg, Int.reduceGT, Int.natCast_pos]
        refine ⟨by omega, kloop_next ⟨k + 1, by omega⟩ (St.le_of ?_) (by simp only; omega)⟩
        simp (config := { maxSteps := 1000000 }) only [push_cast, ↓reduceIte, ↓normL_data, ↓frzL_data, Nat.reduceEqDiff, Nat.reduceLT, reduceCtorEq, Nat.reduceAdd, Nat.reduceMul, Nat.reduceDiv, Nat.reduceMod, Nat.reduceSub, Nat.reduceLeDiff, Nat.reduceBEq, Int.reduceLE, Int.reduceLT, Int.reduceToNat, Int.reduceAdd, Int.reduceSub, Int.reduceMul, Int.reduceEq, Int.reduceBEq, Int.reduceNeg, Int.reduceGT, Int.natCast_pos, ek, hst]
      · have b0 : gb = 0 := by
          by_cases k1 : gk = 1
          · rw [if_pos k1] at hok; exact hok.2.2
          · by_cases k2 : gk = 2
            · rw [if_neg k1, if_pos k2] at hok; exact hok.2.2
            · rw [if_neg k1, if_neg k2, if_neg (by omega), if_neg k5] at hok; exact hok.elim
        subst b0
        have hz := gate16_ok c.gs [] gk ga 0 (by omega)
        simp only [k3, k4, k5, or_self, and_false, if_false] at hz hst
        simp (config := { maxSteps := 1000000 }) only [push_cast, ↓reduceIte, ↓normL_data, ↓frzL_data, Nat.reduceEqDiff, Nat.reduceLT, reduceCtorEq, Nat.reduceAdd, Nat.reduceMul, Nat.reduceDiv, Nat.reduceMod, Nat.reduceSub, Nat.reduceLeDiff, Nat.reduceBEq, Int.reduceLE, Int.reduceLT, Int.reduceToNat, Int.reduceAdd, Int.reduceSub, Int.reduceMul, Int.reduceEq, Int.reduceBEq, Int.reduceNeg, Int.reduceGT, Int.natCast_pos, hc, hi, hi', hg, gE, k3, k4, k5]
        refine vcall_by true hz ?_
        simp (config := { maxSteps := 1000000 }) only [push_cast, ↓reduceIte, ↓normL_data, ↓frzL_data, Nat.reduceEqDiff, Nat.reduceLT, reduceCtorEq, Nat.reduceAdd, Nat.reduceMul, Nat.reduceDiv, Nat.reduceMod, Nat.reduceSub, Nat.reduceLeDiff, Nat.reduceBEq, Int.reduceLE, Int.reduceLT, Int.reduceToNat, Int.reduceAdd, Int.reduceSub, Int.reduceMul, Int.reduceEq, Int.reduceBEq, Int.reduceNeg, Int.reduceGT, Int.natCast_pos]
        refine ⟨by omega, kloop_next ⟨k + 1, by omega⟩ (St.le_of ?_) (by simp only; omega)⟩
        simp (config := { maxSteps := 1000000 }) only [push_cast, ↓reduceIte, ↓normL_data, ↓frzL_data, Nat.reduceEqDiff, Nat.reduceLT, reduceCtorEq, Nat.reduceAdd, Nat.reduceMul, Nat.reduceDiv, Nat.reduceMod, Nat.reduceSub, Nat.reduceLeDiff, Nat.reduceBEq, Int.reduceLE, Int.reduceLT, Int.reduceToNat, Int.reduceAdd, Int.reduceSub, Int.reduceMul, Int.reduceEq, Int.reduceBEq, Int.reduceNeg, Int.reduceGT, Int.natCast_pos, ek, hst]
    · have hkk : k = gs.length := by omega
      subst hkk
      rw [List.take_length] at hc
      subst hc
      simp (config := { maxSteps := 1000000 }) only [push_cast, ↓reduceIte, ↓normL_data, ↓frzL_data, Nat.reduceEqDiff, Nat.reduceLT, reduceCtorEq, Nat.reduceAdd, Nat.reduceMul, Nat.reduceDiv, Nat.reduceMod, Nat.reduceSub, Nat.reduceLeDiff, Nat.reduceBEq, Int.reduceLE, Int.reduceLT, Int.reduceToNat, Int.reduceAdd, Int.reduceSub, Int.reduceMul, Int.reduceEq, Int.reduceBEq, Int.reduceNeg, Int.reduceGT, Int.natCast_pos, hi, List.take_length]
      refine VC.loop' tab_ok (σ := Fin (outs.length + 1)) (fun k => St.of gl0 [(1, .c (.ptr 1 0)), (2, .c (.ptr 2 0)), (3, .c (.ptr 3 0)), (4, .c (.own 4)), (8, .c (.d (iD k.1)))]
        [(4, iR (GC.simpL gs).to), (3000, gsR []), (3001, iR []), (4000, gsR (GC.simpL gs).gs), (4001, iR ((outs.take k.1).map (GC.zAt (GC.simpL gs).to)))] [(1, [.d (gsS gs), .d (iS outs)]), (2, [.own 3000, .own 3001]), (3, [.own 4000, .own 4001])]) (fun k => outs.length - k.1) ⟨0, by omega⟩ (St.le_of ?_) ?_
      · simp (config := { maxSteps := 1000000 }) only [push_cast, ↓reduceIte, ↓normL_data, ↓frzL_data, Nat.reduceEqDiff, Nat.reduceLT, reduceCtorEq, Nat.reduceAdd, Nat.reduceMul, Nat.reduceDiv, Nat.reduceMod, Nat.reduceSub, Nat.reduceLeDiff, Nat.reduceBEq, Int.reduceLE, Int.reduceLT, Int.reduceToNat, Int.reduceAdd, Int.reduceSub, Int.reduceMul, Int.reduceEq, Int.reduceBEq, Int.reduceNeg, Int.reduceGT, Int.natCast_pos, List.take_zero, List.map_nil]
      · intro k
        obtain ⟨k, hk⟩ := k
        have ek : IntKind.i64.wrap ((k : Int) + 1) = ((k + 1 : Nat) : Int) := by rw [w64 _ (by omega) (by omega)]; omega
        have lk : (outs.take k).length = k := by rw [List.length_take]; omega
        by_cases hj : (k : Int) < (outs.length : Int)
        · have hj' : k < outs.length := by omega
          have hw := h2 (outs.getD k 0) (by rw [List.getD_eq_getElem?_getD, List.getElem?_eq_getElem hj']; exact List.getElem_mem hj')
          have hs := ints_snoc hj'
          have r1 := iE_get outs k hj'
          obtain ⟨w, hwe⟩ : ∃ w, outs.getD k 0 = w := ⟨_, rfl⟩
          rw [hwe] at hw hs r1
          have r2 := iE_get (GC.simpL gs).to w.toNat (by omega)
          have r3 : w < ((GC.simpL gs).to.length : Int) := by omega
          have r4 : w.toNat < (GC.simpL gs).to.length := by omega
          simp (config := { maxSteps := 1000000 }) only [push_cast, ↓reduceIte, ↓normL_data, ↓frzL_data, Nat.reduceEqDiff, Nat.reduceLT, reduceCtorEq, Nat.reduceAdd, Nat.reduceMul, Nat.reduceDiv, Nat.reduceMod, Nat.reduceSub, Nat.reduceLeDiff, Nat.reduceBEq, Int.reduceLE, Int.reduceLT, Int.reduceToNat, Int.reduceAdd, Int.reduceSub, Int.reduceMul, Int.reduceEq, Int.reduceBEq, Int.reduceNeg, Int.reduceGT, Int.natCast_pos, hj]
          refine VD.plan tab_ok (by kernel_rfl) [11, 13] (.takes [0, 1, 2, 3, 4, 5, 6, 7, 8, 9] (.one 10 (.one 11 (.takes [12] (.one 13 (.done)))))) (by kernel_rfl) ?_
          simp (config := { maxSteps := 1000000 }) only [push_cast, ↓reduceIte, ↓normL_data, ↓frzL_data, Nat.reduceEqDiff, Nat.reduceLT, reduceCtorEq, Nat.reduceAdd, Nat.reduceMul, Nat.reduceDiv, Nat.reduceMod, Nat.reduceSub, Nat.reduceLeDiff, Nat.reduceBEq, Int.reduceLE, Int.reduceLT, Int.reduceToNat, Int.reduceAdd, Int.reduceSub, Int.reduceMul, Int.reduceEq, Int.reduceBEq, Int.reduceNeg, Int.reduceGT, Int.natCast_pos, r1, r2, r3, r4, hj, hj', hw.1, List.length_map, lk]
          refine ⟨by omega, kloop_next ⟨k + 1, by omega⟩ (St.le_of ?_) (by simp only; omega)⟩
          simp (config := { maxSteps := 1000000 }) only [push_cast, ↓reduceIte, ↓normL_data, ↓frzL_data, Nat.reduceEqDiff, Nat.reduceLT, reduceCtorEq, Nat.reduceAdd, Nat.reduceMul, Nat.reduceDiv, Nat.reduceMod, Nat.reduceSub, Nat.reduceLeDiff, Nat.reduceBEq, Int.reduceLE, Int.reduceLT, Int.reduceToNat, Int.reduceAdd, Int.reduceSub, Int.reduceMul, Int.reduceEq, Int.reduceBEq, Int.reduceNeg, Int.reduceGT, Int.natCast_pos, ek, hs, List.map_append, List.map_cons, List.map_nil, GC.zAt]
        · have hkk : k = outs.length := by omega
          subst hkk
          simp (config := { maxSteps := 1000000 }) only [push_cast, ↓reduceIte, ↓normL_data, ↓frzL_data, Nat.reduceEqDiff, Nat.reduceLT, reduceCtorEq, Nat.reduceAdd, Nat.reduceMul, Nat.reduceDiv, Nat.reduceMod, Nat.reduceSub, Nat.reduceLeDiff, Nat.reduceBEq, Int.reduceLE, Int.reduceLT, Int.reduceToNat, Int.reduceAdd, Int.reduceSub, Int.reduceMul, Int.reduceEq, Int.reduceBEq, Int.reduceNeg, Int.reduceGT, Int.natCast_pos, hj, List.take_length]
          exact ⟨rfl, rfl⟩
end GV

set_option linter.unusedSimpArgs false
set_option linter.unusedVariables false
set_option maxHeartbeats 4000000
namespace GV
open Go
def qE (l : List Bool) : List (List D) := l.map fun b => [bD b]
def qS (l : List Bool) : D := .sl 1 (qE l)
def qR (l : List Bool) : Row := ⟨4, 1, qE l⟩
attribute [push_cast] qS
@[push_cast] theorem qR_e (l : List Bool) : (qR l).e = 4 := rfl
@[push_cast] theorem qR_sz (l : List Bool) : (qR l).sz = 1 := rfl
@[push_cast] theorem qR_els (l : List Bool) : (qR l).els = qE l := rfl
@[push_cast] theorem qE_len (l : List Bool) : (qE l).length = l.length := by simp [qE]
theorem qE_get (l : List Bool) (k : Nat) (h : k < l.length) : (qE l).getD k [] = [bD (l.getD k false)] := by
  simp [qE, List.getD_eq_getElem?_getD, List.getElem?_eq_getElem h]
@[push_cast] theorem qE_set (l : List Bool) (k : Nat) (b : Bool) : (qE l).set k [D.v (.bool b)] = qE (l.set k b) := by simp [qE]
@[push_cast] theorem qR_mk (l : List Bool) : Row.mk 4 1 (qE l) = qR l := rfl
@[push_cast] theorem qE_rep (n : Nat) : List.replicate n [D.v (.bool false)] = qE (List.replicate n false) := by simp [qE]
theorem two_ok (k : Int) : CallOk Go.Proofs.Try.prog gl0 78 [.c (iD k)] ⟨[.c (bD (decide (GC.two k)))], []⟩ := by
  refine okFn (fn := Go.Proofs.Try.f78) [.tmp 2] 1 9 (by kernel_rfl) (by kernel_rfl) rfl (by kernel_rfl) (by decide) rfl rfl rfl ?_
  by_cases h3 : k = 3
  · subst h3
    have : GC.two 3 := .inl rfl
    simp (config := { maxSteps := 1000000 }) only [push_cast, ↓reduceIte, ↓normL_data, ↓frzL_data, Nat.reduceEqDiff, Nat.reduceLT, reduceCtorEq, Nat.reduceAdd, Nat.reduceMul, Nat.reduceDiv, Nat.reduceMod, Nat.reduceSub, Nat.reduceLeDiff, Nat.reduceBEq, Int.reduceLE, Int.reduceLT, Int.reduceToNat, Int.reduceAdd, Int.reduceSub, Int.reduceMul, Int.reduceEq, Int.reduceBEq, Int.reduceNeg, Int.reduceGT, Int.natCast_pos, this]
  · by_cases h4 : k = 4
    · subst h4
      have : GC.two 4 := .inr rfl
      simp (config := { maxSteps := 1000000 }) only [push_cast, ↓reduceIte, ↓normL_data, ↓frzL_data, Nat.reduceEqDiff, Nat.reduceLT, reduceCtorEq, Nat.reduceAdd, Nat.reduceMul, Nat.reduceDiv, Nat.reduceMod, Nat.reduceSub, Nat.reduceLeDiff, Nat.reduceBEq, Int.reduceLE, Int.reduceLT, Int.reduceToNat, Int.reduceAdd, Int.reduceSub, Int.reduceMul, Int.reduceEq, Int.reduceBEq, Int.reduceNeg, Int.reduceGT, Int.natCast_pos, this]
    · have : ¬ GC.two k := fun h => h.elim h3 h4
      have e : (k == 4) = false := by simp [h4]
      simp (config := { maxSteps := 1000000 }) only [push_cast, ↓reduceIte, ↓normL_data, ↓frzL_data, Nat.reduceEqDiff, Nat.reduceLT, reduceCtorEq, Nat.reduceAdd, Nat.reduceMul, Nat.reduceDiv, Nat.reduceMod, Nat.reduceSub, Nat.reduceLeDiff, Nat.reduceBEq, Int.reduceLE, Int.reduceLT, Int.reduceToNat, Int.reduceAdd, Int.reduceSub, Int.reduceMul, Int.reduceEq, Int.reduceBEq, Int.reduceNeg, Int.reduceGT, Int.natCast_pos, this, h3, h4, e]
theorem q_set (l : List Bool) (k : Nat) (h : k < l.length) : (qE l).set k (D.v (.bool true) :: List.drop 1 ((qE l).getD k [])) = qE (l.set k true) := by rw [qE_get l k h]; exact qE_set l k true
structure LvI (gs : List GC.Gt) (outs : List Int) where
  k : Nat
  l : List Bool
  h1 : k ≤ gs.length
  h2 : l.length = gs.length
  h3 : GC.liveGo gs k l = GC.liveM gs outs
set_option maxRecDepth 100000 in
theorem live_ok (gs : List GC.Gt) (outs : List Int) (h : okC gs outs) : CallOk Go.Proofs.Try.prog gl0 77 [.ag [gsS gs, iS outs]] ⟨[.rr (qR (GC.liveM gs outs))], []⟩ := by
  obtain ⟨h1, h2, h3, h4⟩ := h
  refine okFn (fn := Go.Proofs.Try.f77) [.tmp 2] 1 70 (by kernel_rfl) (by kernel_rfl) rfl (by kernel_rfl) (by decide) rfl rfl rfl ?_
  have hb : (gs.length : Int) * 1 ≤ 140737488355328 := by omega
  have hb' : gs.length * 1 ≤ 140737488355328 := by omega
  simp (config := { maxSteps := 1000000 }) only [push_cast, ↓reduceIte, ↓normL_data, ↓frzL_data, Nat.reduceEqDiff, Nat.reduceLT, reduceCtorEq, Nat.reduceAdd, Nat.reduceMul, Nat.reduceDiv, Nat.reduceMod, Nat.reduceSub, Nat.reduceLeDiff, Nat.reduceBEq, Int.reduceLE, Int.reduceLT, Int.reduceToNat, Int.reduceAdd, Int.reduceSub, Int.reduceMul, Int.reduceEq, Int.reduceBEq, Int.reduceNeg, Int.reduceGT, Int.natCast_pos, hb, hb', Int.le_refl]
  refine VC.loop' tab_ok (σ := Fin (outs.length + 1)) (fun k => St.of gl0 [(1, .c (.ptr 1 0)), (3, .c (.own 3)), (4, .c (.d (iD k.1)))]
    [(3, qR (GC.marks gs.length (outs.take k.1)))] [(1, [.d (gsS gs), .d (iS outs)])]) (fun k => outs.length - k.1) ⟨0, by omega⟩ (St.le_of ?_) ?_
  · simp (config := { maxSteps := 1000000 }) only [push_cast, ↓reduceIte, ↓normL_data, ↓frzL_data, Nat.reduceEqDiff, Nat.reduceLT, reduceCtorEq, Nat.reduceAdd, Nat.reduceMul, Nat.reduceDiv, Nat.reduceMod, Nat.reduceSub, Nat.reduceLeDiff, Nat.reduceBEq, Int.reduceLE, Int.reduceLT, Int.reduceToNat, Int.reduceAdd, Int.reduceSub, Int.reduceMul, Int.reduceEq, Int.reduceBEq, Int.reduceNeg, Int.reduceGT, Int.natCast_pos, List.take_zero]
    rfl
  · intro k
    obtain ⟨k, hk⟩ := k
    have ek : IntKind.i64.wrap ((k : Int) + 1) = ((k + 1 : Nat) : Int) := by rw [w64 _ (by omega) (by omega)]; omega
    have ml := GC.marks_len gs.length (outs.take k)
    by_cases hj : (k : Int) < (outs.length : Int)
    · have hj' : k < outs.length := by omega
      have hw := h2 (outs.getD k 0) (by rw [List.getD_eq_getElem?_getD, List.getElem?_eq_getElem hj']; exact List.getElem_mem hj')
      have hs := ints_snoc hj'
      have r1 := iE_get outs k hj'
      obtain ⟨w, hwe⟩ : ∃ w, outs.getD k 0 = w := ⟨_, rfl⟩
      rw [hwe] at hw hs r1
      have r4 : w.toNat < gs.length := by omega
      have r5 := qE_get (GC.marks gs.length (outs.take k)) w.toNat (by omega)
      simp (config := { maxSteps := 1000000 }) only [push_cast, ↓reduceIte, ↓normL_data, ↓frzL_data, Nat.reduceEqDiff, Nat.reduceLT, reduceCtorEq, Nat.reduceAdd, Nat.reduceMul, Nat.reduceDiv, Nat.reduceMod, Nat.reduceSub, Nat.reduceLeDiff, Nat.reduceBEq, Int.reduceLE, Int.reduceLT, Int.reduceToNat, Int.reduceAdd, Int.reduceSub, Int.reduceMul, Int.reduceEq, Int.reduceBEq, Int.reduceNeg, Int.reduceGT, Int.natCast_pos, hj, hj', r1, ml, hw.1, hw.2, r4, r5, List.drop_succ_cons, List.drop_zero]
      refine kloop_next ⟨k + 1, by omega⟩ (St.le_of ?_) (by simp only; omega)
      simp (config := { maxSteps := 1000000 }) only [push_cast, ↓reduceIte, ↓normL_data, ↓frzL_data, Nat.reduceEqDiff, Nat.reduceLT, reduceCtorEq, Nat.reduceAdd, Nat.reduceMul, Nat.reduceDiv, Nat.reduceMod, Nat.reduceSub, Nat.reduceLeDiff, Nat.reduceBEq, Int.reduceLE, Int.reduceLT, Int.reduceToNat, Int.reduceAdd, Int.reduceSub, Int.reduceMul, Int.reduceEq, Int.reduceBEq, Int.reduceNeg, Int.reduceGT, Int.natCast_pos, ek, hs, GC.marks_snoc]
    · have hkk : k = outs.length := by omega
      subst hkk
      have e0 : IntKind.i64.wrap ((gs.length : Int) - 1) = (gs.length : Int) - 1 := w64 _ (by omega) (by omega)
      simp (config := { maxSteps := 1000000 }) only [push_cast, ↓reduceIte, ↓normL_data, ↓frzL_data, Nat.reduceEqDiff, Nat.reduceLT, reduceCtorEq, Nat.reduceAdd, Nat.reduceMul, Nat.reduceDiv, Nat.reduceMod, Nat.reduceSub, Nat.reduceLeDiff, Nat.reduceBEq, Int.reduceLE, Int.reduceLT, Int.reduceToNat, Int.reduceAdd, Int.reduceSub, Int.reduceMul, Int.reduceEq, Int.reduceBEq, Int.reduceNeg, Int.reduceGT, Int.natCast_pos, hj, List.take_length, e0]
      refine VC.loop' tab_ok (σ := LvI gs outs) (fun x => St.of gl0 [(1, .c (.ptr 1 0)), (3, .c (.own 3)), (5, .c (.d (iD ((x.k : Int) - 1))))]
        [(3, qR x.l)] [(1, [.d (gsS gs), .d (iS outs)])]) (fun x => x.k) ⟨gs.length, GC.marks gs.length outs, Nat.le_refl _, GC.marks_len _ _, rfl⟩ (St.le_of ?_) ?_
      · simp (config := { maxSteps := 1000000 }) only [push_cast, ↓reduceIte, ↓normL_data, ↓frzL_data, Nat.reduceEqDiff, Nat.reduceLT, reduceCtorEq, Nat.reduceAdd, Nat.reduceMul, Nat.reduceDiv, Nat.reduceMod, Nat.reduceSub, Nat.reduceLeDiff, Nat.reduceBEq, Int.reduceLE, Int.reduceLT, Int.reduceToNat, Int.reduceAdd, Int.reduceSub, Int.reduceMul, Int.reduceEq, Int.reduceBEq, Int.reduceNeg, Int.reduceGT, Int.natCast_pos]
      · intro x
        obtain ⟨k, l, q1, q2, q3⟩ := x
        cases k with
        | zero =>
          have q3' : l = GC.liveM gs outs := q3
          simp (config := { maxSteps := 1000000 }) only [push_cast, ↓reduceIte, ↓normL_data, ↓frzL_data, Nat.reduceEqDiff, Nat.reduceLT, reduceCtorEq, Nat.reduceAdd, Nat.reduceMul, Nat.reduceDiv, Nat.reduceMod, Nat.reduceSub, Nat.reduceLeDiff, Nat.reduceBEq, Int.reduceLE, Int.reduceLT, Int.reduceToNat, Int.reduceAdd, Int.reduceSub, Int.reduceMul, Int.reduceEq, Int.reduceBEq, Int.reduceNeg, Int.reduceGT, Int.natCast_pos, q3', Int.natCast_zero, Int.zero_sub]
        | succ i =>
          have ei : (i : Int) + 1 - 1 = i := by omega
          have ei2 : IntKind.i64.wrap ((i : Int) - 1) = (i : Int) - 1 := w64 _ (by omega) (by omega)
          have hi' : i < gs.length := by omega
          have hi : (i : Int) < (gs.length : Int) := by omega
          have hil : i < l.length := by omega
          have hg := gsE_get gs i hi'
          have hq := qE_get l i hil
          have hok := GC.okG_at h1 hi'
          have q4 : GC.liveGo gs i (GC.liveS gs l i) = GC.liveM gs outs := q3
          obtain ⟨⟨gk, ga, gb⟩, hgi⟩ : ∃ g, gs.getD i dG = g := ⟨_, rfl⟩
          rw [hgi] at hg
          have hgi' : gs.getD i GC.dG = ⟨gk, ga, gb⟩ := hgi
          rw [hgi'] at hok
          have hls : GC.liveS gs l i = (if l.getD i false = true ∧ GC.two gk then (if l.getD i false = true ∧ (GC.two gk ∨ gk = 5) then l.set ga.toNat true else l).set gb.toNat true else (if l.getD i false = true ∧ (GC.two gk ∨ gk = 5) then l.set ga.toNat true else l)) := by unfold GC.liveS; rw [hgi']
          have hll := GC.liveS_len gs l i
          cases hli : l.getD i false with
          | false =>
            rw [hli] at hls hq
            simp only [Bool.false_eq_true, false_and, if_false] at hls
            simp (config := { maxSteps := 1000000 }) only [push_cast, ↓reduceIte, ↓normL_data, ↓frzL_data, Nat.reduceEqDiff, Nat.reduceLT, reduceCtorEq, Nat.reduceAdd, Nat.reduceMul, Nat.reduceDiv, Nat.reduceMod, Nat.reduceSub, Nat.reduceLeDiff, Nat.reduceBEq, Int.reduceLE, Int.reduceLT, Int.reduceToNat, Int.reduceAdd, Int.reduceSub, Int.reduceMul, Int.reduceEq, Int.reduceBEq, Int.reduceNeg, Int.reduceGT, Int.natCast_pos, ei, hi, hi', hil, hg, gE, hq, q2]
            refine kloop_next ⟨i, l, by omega, q2, by rw [← q4, hls]⟩ (St.le_of ?_) (by simp only; omega)
            simp (config := { maxSteps := 1000000 }) only [push_cast, ↓reduceIte, ↓normL_data, ↓frzL_data, Nat.reduceEqDiff, Nat.reduceLT, reduceCtorEq, Nat.reduceAdd, Nat.reduceMul, Nat.reduceDiv, Nat.reduceMod, Nat.reduceSub, Nat.reduceLeDiff, Nat.reduceBEq, Int.reduceLE, Int.reduceLT, Int.reduceToNat, Int.reduceAdd, Int.reduceSub, Int.reduceMul, Int.reduceEq, Int.reduceBEq, Int.reduceNeg, Int.reduceGT, Int.natCast_pos, ei2]
          | true =>
            rw [hli] at hls hq
            simp only [true_and] at hls
            by_cases c2 : GC.two gk
            · obtain ⟨a0, a1, b0, b1⟩ := GC.okG_two hok c2
              simp only at a0 a1 b0 b1
              simp only [c2, true_or, if_true] at hls
              have aq := q_set l ga.toNat (by omega)
              have bq := q_set (l.set ga.toNat true) gb.toNat (by rw [List.length_set]; omega)
              have iq := qE_get (l.set ga.toNat true) i (by rw [List.length_set]; omega)
              rw [GC.set_true hli] at iq
              have al : ga.toNat < gs.length := by omega
              have bl : gb.toNat < gs.length := by omega
              have al' : ga < (gs.length : Int) := by omega
              have bl' : gb < (gs.length : Int) := by omega
              simp (config := { maxSteps := 1000000 }) only [push_cast, ↓reduceIte, ↓normL_data, ↓frzL_data, Nat.reduceEqDiff, Nat.reduceLT, reduceCtorEq, Nat.reduceAdd, Nat.reduceMul, Nat.reduceDiv, Nat.reduceMod, Nat.reduceSub, Nat.reduceLeDiff, Nat.reduceBEq, Int.reduceLE, Int.reduceLT, Int.reduceToNat, Int.reduceAdd, Int.reduceSub, Int.reduceMul, Int.reduceEq, Int.reduceBEq, Int.reduceNeg, Int.reduceGT, Int.natCast_pos, ei, hi, hi', hil, hg, gE, hq, q2]
              refine vcall_by false (two_ok gk) ?_
              simp (config := { maxSteps := 1000000 }) only [push_cast, ↓reduceIte, ↓normL_data, ↓frzL_data, Nat.reduceEqDiff, Nat.reduceLT, reduceCtorEq, Nat.reduceAdd, Nat.reduceMul, Nat.reduceDiv, Nat.reduceMod, Nat.reduceSub, Nat.reduceLeDiff, Nat.reduceBEq, Int.reduceLE, Int.reduceLT, Int.reduceToNat, Int.reduceAdd, Int.reduceSub, Int.reduceMul, Int.reduceEq, Int.reduceBEq, Int.reduceNeg, Int.reduceGT, Int.natCast_pos, c2, q2, a0, al, al', ↓aq, iq, List.length_set, hi, hi']
              refine vcall_by false (two_ok gk) ?_
              simp (config := { maxSteps := 1000000 }) only [push_cast, ↓reduceIte, ↓normL_data, ↓frzL_data, Nat.reduceEqDiff, Nat.reduceLT, reduceCtorEq, Nat.reduceAdd, Nat.reduceMul, Nat.reduceDiv, Nat.reduceMod, Nat.reduceSub, Nat.reduceLeDiff, Nat.reduceBEq, Int.reduceLE, Int.reduceLT, Int.reduceToNat, Int.reduceAdd, Int.reduceSub, Int.reduceMul, Int.reduceEq, Int.reduceBEq, Int.reduceNeg, Int.reduceGT, Int.natCast_pos, c2, q2, b0, bl, bl', ↓bq, List.length_set]
              refine kloop_next ⟨i, (l.set ga.toNat true).set gb.toNat true, by omega, by rw [List.length_set, List.length_set]; exact q2, by rw [← q4, hls]⟩ (St.le_of ?_) (by simp only; omega)
              simp (config := { maxSteps := 1000000 }) only [push_cast, ↓reduceIte, ↓normL_data, ↓frzL_data, Nat.reduceEqDiff, Nat.reduceLT, reduceCtorEq, Nat.reduceAdd, Nat.reduceMul, Nat.reduceDiv, Nat.reduceMod, Nat.reduceSub, Nat.reduceLeDiff, Nat.reduceBEq, Int.reduceLE, Int.reduceLT, Int.reduceToNat, Int.reduceAdd, Int.reduceSub, Int.reduceMul, Int.reduceEq, Int.reduceBEq, Int.reduceNeg, Int.reduceGT, Int.natCast_pos, ei2]
            · by_cases c5 : gk = 5
              · subst c5
                obtain ⟨a0, a1, b0⟩ := GC.okG_not hok rfl
                simp only at a0 a1 b0
                simp only [c2, or_true, if_true, if_false] at hls
                have aq := q_set l ga.toNat (by omega)
                have iq := qE_get (l.set ga.toNat true) i (by rw [List.length_set]; omega)
                rw [GC.set_true hli] at iq
                have al : ga.toNat < gs.length := by omega
                have al' : ga < (gs.length : Int) := by omega
                simp (config := { maxSteps := 1000000 }) only [push_cast, ↓reduceIte, ↓normL_data, ↓frzL_data, Nat.reduceEqDiff, Nat.reduceLT, reduceCtorEq, Nat.reduceAdd, Nat.reduceMul, Nat.reduceDiv, Nat.reduceMod, Nat.reduceSub, Nat.reduceLeDiff, Nat.reduceBEq, Int.reduceLE, Int.reduceLT, Int.reduceToNat, Int.reduceAdd, Int.reduceSub, Int.reduceMul, Int.reduceEq, Int.reduceBEq, Int.reduceNeg, Int.reduceGT, Int.natCast_pos, ei, hi, hi', hil, hg, gE, hq, q2]
                refine vcall_by false (two_ok 5) ?_
                simp (config := { maxSteps := 1000000 }) only [push_cast, ↓reduceIte, ↓normL_data, ↓frzL_data, Nat.reduceEqDiff, Nat.reduceLT, reduceCtorEq, Nat.reduceAdd, Nat.reduceMul, Nat.reduceDiv, Nat.reduceMod, Nat.reduceSub, Nat.reduceLeDiff, Nat.reduceBEq, Int.reduceLE, Int.reduceLT, Int.reduceToNat, Int.reduceAdd, Int.reduceSub, Int.reduceMul, Int.reduceEq, Int.reduceBEq, Int.reduceNeg, Int.reduceGT, Int.natCast_pos, c2, q2, a0, al, al', ↓aq, iq, List.length_set, hi, hi']
                refine vcall_by false (two_ok 5) ?_
                simp (config := { maxSteps := 1000000 }) only [push_cast, ↓reduceIte, ↓normL_data, ↓frzL_data, Nat.reduceEqDiff, Nat.reduceLT, reduceCtorEq, Nat.reduceAdd, Nat.reduceMul, Nat.reduceDiv, Nat.reduceMod, Nat.reduceSub, Nat.reduceLeDiff, Nat.reduceBEq, Int.reduceLE, Int.reduceLT, Int.reduceToNat, Int.reduceAdd, Int.reduceSub, Int.reduceMul, Int.reduceEq, Int.reduceBEq, Int.reduceNeg, Int.reduceGT, Int.natCast_pos, c2, q2]
                refine kloop_next ⟨i, l.set ga.toNat true, by omega, by rw [List.length_set]; exact q2, by rw [← q4, hls]⟩ (St.le_of ?_) (by simp only; omega)
                simp (config := { maxSteps := 1000000 }) only [push_cast, ↓reduceIte, ↓normL_data, ↓frzL_data, Nat.reduceEqDiff, Nat.reduceLT, reduceCtorEq, Nat.reduceAdd, Nat.reduceMul, Nat.reduceDiv, Nat.reduceMod, Nat.reduceSub, Nat.reduceLeDiff, Nat.reduceBEq, Int.reduceLE, Int.reduceLT, Int.reduceToNat, Int.reduceAdd, Int.reduceSub, Int.reduceMul, Int.reduceEq, Int.reduceBEq, Int.reduceNeg, Int.reduceGT, Int.natCast_pos, ei2]
              · simp only [c2, c5, or_self, if_false] at hls
                simp (config := { maxSteps := 1000000 }) only [push_cast, ↓reduceIte, ↓normL_data, ↓frzL_data, Nat.reduceEqDiff, Nat.reduceLT, reduceCtorEq, Nat.reduceAdd, Nat.reduceMul, Nat.reduceDiv, Nat.reduceMod, Nat.reduceSub, Nat.reduceLeDiff, Nat.reduceBEq, Int.reduceLE, Int.reduceLT, Int.reduceToNat, Int.reduceAdd, Int.reduceSub, Int.reduceMul, Int.reduceEq, Int.reduceBEq, Int.reduceNeg, Int.reduceGT, Int.natCast_pos, ei, hi, hi', hil, hg, gE, hq, q2]
                refine vcall_by false (two_ok gk) ?_
                simp (config := { maxSteps := 1000000 }) only [push_cast, ↓reduceIte, ↓normL_data, ↓frzL_data, Nat.reduceEqDiff, Nat.reduceLT, reduceCtorEq, Nat.reduceAdd, Nat.reduceMul, Nat.reduceDiv, Nat.reduceMod, Nat.reduceSub, Nat.reduceLeDiff, Nat.reduceBEq, Int.reduceLE, Int.reduceLT, Int.reduceToNat, Int.reduceAdd, Int.reduceSub, Int.reduceMul, Int.reduceEq, Int.reduceBEq, Int.reduceNeg, Int.reduceGT, Int.natCast_pos, c2, c5, q2, hi, hi', hq]
                refine vcall_by false (two_ok gk) ?_
                simp (config := { maxSteps := 1000000 }) only [push_cast, ↓reduceIte, ↓normL_data, ↓frzL_data, Nat.reduceEqDiff, Nat.reduceLT, reduceCtorEq, Nat.reduceAdd, Nat.reduceMul, Nat.reduceDiv, Nat.reduceMod, Nat.reduceSub, Nat.reduceLeDiff, Nat.reduceBEq, Int.reduceLE, Int.reduceLT, Int.reduceToNat, Int.reduceAdd, Int.reduceSub, Int.reduceMul, Int.reduceEq, Int.reduceBEq, Int.reduceNeg, Int.reduceGT, Int.natCast_pos, c2, q2]
                refine kloop_next ⟨i, l, by omega, q2, by rw [← q4, hls]⟩ (St.le_of ?_) (by simp only; omega)
                simp (config := { maxSteps := 1000000 }) only [push_cast, ↓reduceIte, ↓normL_data, ↓frzL_data, Nat.reduceEqDiff, Nat.reduceLT, reduceCtorEq, Nat.reduceAdd, Nat.reduceMul, Nat.reduceDiv, Nat.reduceMod, Nat.reduceSub, Nat.reduceLeDiff, Nat.reduceBEq, Int.reduceLE, Int.reduceLT, Int.reduceToNat, Int.reduceAdd, Int.reduceSub, Int.reduceMul, Int.reduceEq, Int.reduceBEq, Int.reduceNeg, Int.reduceGT, Int.natCast_pos, ei2]
end GV

set_option linter.unusedSimpArgs false
set_option linter.unusedVariables false
set_option maxHeartbeats 4000000
namespace GV
open Go
@[push_cast] theorem qE_flat (l : List Bool) : flatE (qE l) = True := by
  simp only [flatE, qE, List.mem_map, eq_iff_iff, iff_true]
  rintro _ ⟨b, _, rfl⟩ x hx
  simp only [List.mem_singleton] at hx
  subst hx; rfl
theorem i_set (l : List Int) (k : Nat) (x : Int) (h : k < l.length) : (iE l).set k (D.v (.int .i64 x) :: List.drop 1 ((iE l).getD k [])) = iE (l.set k x) := by rw [iE_get l k h]; simp [iE]
theorem prGo_facts {gs : List GC.Gt} (h : GC.okGs gs) (outs : List Int) (n : Nat) (hn : n ≤ gs.length) : GC.okGs (GC.prGo gs (GC.liveM gs outs) n).gs ∧ (GC.prGo gs (GC.liveM gs outs) n).to.length = gs.length ∧ (GC.prGo gs (GC.liveM gs outs) n).gs.length ≤ n :=
  have p := GC.PR.all (fun _ => false) h (GC.liveM_need h outs) n hn
  ⟨p.ok, p.len, p.low⟩
set_option maxRecDepth 100000 in
theorem prune_ok (gs : List GC.Gt) (outs : List Int) (h : okC gs outs) : CallOk Go.Proofs.Try.prog gl0 42 [.ag [gsS gs, iS outs]] ⟨[.ra [.r (gsR (GC.pruneM gs outs).1), .r (iR (GC.pruneM gs outs).2)]], []⟩ := by
  have hcir := circuitOk_ok gs outs h
  have hliv := live_ok gs outs h
  obtain ⟨h1, h2, h3, h4⟩ := h
  have hL := GC.liveM_len gs outs
  have hF := prGo_facts h1 outs
  have hM : GC.pruneM gs outs = ((GC.prGo gs (GC.liveM gs outs) gs.length).gs, outs.map (GC.zAt (GC.prGo gs (GC.liveM gs outs) gs.length).to)) := rfl
  have hS := GC.prGo_succ gs (GC.liveM gs outs)
  have h0 : GC.prGo gs (GC.liveM gs outs) 0 = ⟨[], List.replicate gs.length 0⟩ := rfl
  obtain ⟨L, hLe⟩ : ∃ L, GC.liveM gs outs = L := ⟨_, rfl⟩
  rw [hLe] at hliv hL hF hM hS h0
  refine okFn (fn := Go.Proofs.Try.f42) [.cell 2 27] 1 94 (by kernel_rfl) (by kernel_rfl) rfl (by kernel_rfl) (by decide) rfl rfl rfl ?_
  have hb : (gs.length : Int) * 8 ≤ 140737488355328 := by omega
  simp (config := { maxSteps := 1000000 }) only [push_cast, ↓reduceIte, ↓normL_data, ↓frzL_data, Nat.reduceEqDiff, Nat.reduceLT, reduceCtorEq, Nat.reduceAdd, Nat.reduceMul, Nat.reduceDiv, Nat.reduceMod, Nat.reduceSub, Nat.reduceLeDiff, Nat.reduceBEq, Int.reduceLE, Int.reduceLT, Int.reduceToNat, Int.reduceAdd, Int.reduceSub, Int.reduceMul, Int.reduceEq, Int.reduceBEq, Int.reduceNeg, Int.reduceGT, Int.natCast_pos]
  refine vcall_by true hcir ?_
  simp (config := { maxSteps := 1000000 }) only [push_cast, ↓reduceIte, ↓normL_data, ↓frzL_data, Nat.reduceEqDiff, Nat.reduceLT, reduceCtorEq, Nat.reduceAdd, Nat.reduceMul, Nat.reduceDiv, Nat.reduceMod, Nat.reduceSub, Nat.reduceLeDiff, Nat.reduceBEq, Int.reduceLE, Int.reduceLT, Int.reduceToNat, Int.reduceAdd, Int.reduceSub, Int.reduceMul, Int.reduceEq, Int.reduceBEq, Int.reduceNeg, Int.reduceGT, Int.natCast_pos]
  refine vcall_by true hliv ?_
  have hb' : gs.length * 8 ≤ 140737488355328 := by omega
  simp (config := { maxSteps := 1000000 }) only [push_cast, ↓reduceIte, ↓normL_data, ↓frzL_data, Nat.reduceEqDiff, Nat.reduceLT, reduceCtorEq, Nat.reduceAdd, Nat.reduceMul, Nat.reduceDiv, Nat.reduceMod, Nat.reduceSub, Nat.reduceLeDiff, Nat.reduceBEq, Int.reduceLE, Int.reduceLT, Int.reduceToNat, Int.reduceAdd, Int.reduceSub, Int.reduceMul, Int.reduceEq, Int.reduceBEq, Int.reduceNeg, Int.reduceGT, Int.natCast_pos, hb, hb', Int.le_refl]
  refine VC.loop' tab_ok (σ := Fin (gs.length + 1)) (fun k => St.of gl0 [(1, .c (.ptr 1 0)), (2, .c (.ptr 2 0)), (3, .c (.own 3)), (4, .c (.own 4)), (5, .c (.ptr 5 0)), (6, .c (.d (iD k.1)))]
    [(3, qR L), (4, iR (GC.prGo gs L k.1).to), (3000, gsR []), (3001, iR []), (6000, gsR (GC.prGo gs L k.1).gs), (6001, iR [])] [(1, [.d (gsS gs), .d (iS outs)]), (2, [.own 3000, .own 3001]), (5, [.own 6000, .own 6001])]) (fun k => gs.length - k.1) ⟨0, by omega⟩ (St.le_of ?_) ?_
  · simp (config := { maxSteps := 1000000 }) only [push_cast, ↓reduceIte, ↓normL_data, ↓frzL_data, Nat.reduceEqDiff, Nat.reduceLT, reduceCtorEq, Nat.reduceAdd, Nat.reduceMul, Nat.reduceDiv, Nat.reduceMod, Nat.reduceSub, Nat.reduceLeDiff, Nat.reduceBEq, Int.reduceLE, Int.reduceLT, Int.reduceToNat, Int.reduceAdd, Int.reduceSub, Int.reduceMul, Int.reduceEq, Int.reduceBEq, Int.reduceNeg, Int.reduceGT, Int.natCast_pos, h0]
  · intro k
    obtain ⟨k, hk⟩ := k
    obtain ⟨f1, f2, f3⟩ := hF k (by omega)
    have hSk := hS k
    obtain ⟨c, hc⟩ : ∃ c, GC.prGo gs L k = c := ⟨_, rfl⟩
    rw [hc] at f1 f2 f3 hSk
    have ek : IntKind.i64.wrap ((k : Int) + 1) = ((k + 1 : Nat) : Int) := by rw [w64 _ (by omega) (by omega)]; omega
    by_cases hi : (k : Int) < (gs.length : Int)
    · have hi' : k < gs.length := by omega
      have hil : k < L.length := by omega
      have hg := gsE_get gs k hi'
      have hq := qE_get L k hil
      have hok := GC.okG_at h1 hi'
      obtain ⟨⟨gk, ga, gb⟩, hgi⟩ : ∃ g, gs.getD k dG = g := ⟨_, rfl⟩
      rw [hgi] at hg
      have hgi' : gs.getD k GC.dG = ⟨gk, ga, gb⟩ := hgi
      rw [hgi'] at hok
      unfold GC.prS at hSk
      rw [hgi'] at hSk
      cases hli : L.getD k false with
      | false =>
        rw [hli] at hSk hq
        simp only [Bool.false_eq_true, if_false] at hSk
        simp (config := { maxSteps := 1000000 }) only [push_cast, ↓reduceIte, ↓normL_data, ↓frzL_data, Nat.reduceEqDiff, Nat.reduceLT, reduceCtorEq, Nat.reduceAdd, Nat.reduceMul, Nat.reduceDiv, Nat.reduceMod, Nat.reduceSub, Nat.reduceLeDiff, Nat.reduceBEq, Int.reduceLE, Int.reduceLT, Int.reduceToNat, Int.reduceAdd, Int.reduceSub, Int.reduceMul, Int.reduceEq, Int.reduceBEq, Int.reduceNeg, Int.reduceGT, Int.natCast_pos, hc, hi, hi', hg, gE, hL, hq]
        refine kloop_next ⟨k + 1, by omega⟩ (St.le_of ?_) (by simp only; omega)
        simp (config := { maxSteps := 1000000 }) only [push_cast, ↓reduceIte, ↓normL_data, ↓frzL_data, Nat.reduceEqDiff, Nat.reduceLT, reduceCtorEq, Nat.reduceAdd, Nat.reduceMul, Nat.reduceDiv, Nat.reduceMod, Nat.reduceSub, Nat.reduceLeDiff, Nat.reduceBEq, Int.reduceLE, Int.reduceLT, Int.reduceToNat, Int.reduceAdd, Int.reduceSub, Int.reduceMul, Int.reduceEq, Int.reduceBEq, Int.reduceNeg, Int.reduceGT, Int.natCast_pos, ek, hSk]
      | true =>
        rw [hli] at hSk hq
        simp only [if_true, GC.reG] at hSk
        have xs := i_set c.to k (c.gs.length : Int) (by omega)
        have hb2 : (c.gs.length + 1) * 24 ≤ 140737488355328 := by omega
        simp (config := { maxSteps := 1000000 }) only [push_cast, ↓reduceIte, ↓normL_data, ↓frzL_data, Nat.reduceEqDiff, Nat.reduceLT, reduceCtorEq, Nat.reduceAdd, Nat.reduceMul, Nat.reduceDiv, Nat.reduceMod, Nat.reduceSub, Nat.reduceLeDiff, Nat.reduceBEq, Int.reduceLE, Int.reduceLT, Int.reduceToNat, Int.reduceAdd, Int.reduceSub, Int.reduceMul, Int.reduceEq, Int.reduceBEq, Int.reduceNeg, Int.reduceGT, Int.natCast_pos, hc, hi, hi', hg, gE, hL, hq]
        refine vcall_by false (two_ok gk) ?_
        by_cases c2 : GC.two gk
        · obtain ⟨a0, a1, b0, b1⟩ := GC.okG_two hok c2
          simp only at a0 a1 b0 b1
          simp only [c2, true_or, if_true, GC.zAt] at hSk
          have ra := iE_get c.to ga.toNat (by omega)
          have rb := iE_get c.to gb.toNat (by omega)
          have al : ga.toNat < gs.length := by omega
          have bl : gb.toNat < gs.length := by omega
          have al' : ga < (gs.length : Int) := by omega
          have bl' : gb < (gs.length : Int) := by omega
          simp (config := { maxSteps := 1000000 }) only [push_cast, ↓reduceIte, ↓normL_data, ↓frzL_data, Nat.reduceEqDiff, Nat.reduceLT, reduceCtorEq, Nat.reduceAdd, Nat.reduceMul, Nat.reduceDiv, Nat.reduceMod, Nat.reduceSub, Nat.reduceLeDiff, Nat.reduceBEq, Int.reduceLE, Int.reduceLT, Int.reduceToNat, Int.reduceAdd, Int.reduceSub, Int.reduceMul, Int.reduceEq, Int.reduceBEq, Int.reduceNeg, Int.reduceGT, Int.natCast_pos, c2, f2, a0, al, al', ra]
          refine vcall_by false (two_ok gk) ?_
          simp (config := { maxSteps := 1000000 }) only [push_cast, ↓reduceIte, ↓normL_data, ↓frzL_data, Nat.reduceEqDiff, Nat.reduceLT, reduceCtorEq, Nat.reduceAdd, Nat.reduceMul, Nat.reduceDiv, Nat.reduceMod, Nat.reduceSub, Nat.reduceLeDiff, Nat.reduceBEq, Int.reduceLE, Int.reduceLT, Int.reduceToNat, Int.reduceAdd, Int.reduceSub, Int.reduceMul, Int.reduceEq, Int.reduceBEq, Int.reduceNeg, Int.reduceGT, Int.natCast_pos, c2, f2, b0, bl, bl', rb, hi, hi', ↓xs]
          refine ⟨by omega, kloop_next ⟨k + 1, by omega⟩ (St.le_of ?_) (by simp only; omega)⟩
          simp (config := { maxSteps := 1000000 }) only [push_cast, ↓reduceIte, ↓normL_data, ↓frzL_data, Nat.reduceEqDiff, Nat.reduceLT, reduceCtorEq, Nat.reduceAdd, Nat.reduceMul, Nat.reduceDiv, Nat.reduceMod, Nat.reduceSub, Nat.reduceLeDiff, Nat.reduceBEq, Int.reduceLE, Int.reduceLT, Int.reduceToNat, Int.reduceAdd, Int.reduceSub, Int.reduceMul, Int.reduceEq, Int.reduceBEq, Int.reduceNeg, Int.reduceGT, Int.natCast_pos, ek, hSk, and_self]
        · by_cases c5 : gk = 5
          · subst c5
            obtain ⟨a0, a1, b0⟩ := GC.okG_not hok rfl
            simp only at a0 a1 b0
            simp only [c2, or_true, if_true, if_false, GC.zAt] at hSk
            have ra := iE_get c.to ga.toNat (by omega)
            have al : ga.toNat < gs.length := by omega
            have al' : ga < (gs.length : Int) := by omega
            simp (config := { maxSteps := 1000000 }) only [push_cast, ↓reduceIte, ↓normL_data, ↓frzL_data, Nat.reduceEqDiff, Nat.reduceLT, reduceCtorEq, Nat.reduceAdd, Nat.reduceMul, Nat.reduceDiv, Nat.reduceMod, Nat.reduceSub, Nat.reduceLeDiff, Nat.reduceBEq, Int.reduceLE, Int.reduceLT, Int.reduceToNat, Int.reduceAdd, Int.reduceSub, Int.reduceMul, Int.reduceEq, Int.reduceBEq, Int.reduceNeg, Int.reduceGT, Int.natCast_pos, c2, f2, a0, al, al', ra]
            refine vcall_by false (two_ok 5) ?_
            simp (config := { maxSteps := 1000000 }) only [push_cast, ↓reduceIte, ↓normL_data, ↓frzL_data, Nat.reduceEqDiff, Nat.reduceLT, reduceCtorEq, Nat.reduceAdd, Nat.reduceMul, Nat.reduceDiv, Nat.reduceMod, Nat.reduceSub, Nat.reduceLeDiff, Nat.reduceBEq, Int.reduceLE, Int.reduceLT, Int.reduceToNat, Int.reduceAdd, Int.reduceSub, Int.reduceMul, Int.reduceEq, Int.reduceBEq, Int.reduceNeg, Int.reduceGT, Int.natCast_pos, c2, f2, hi, hi', ↓xs]
            refine ⟨by omega, kloop_next ⟨k + 1, by omega⟩ (St.le_of ?_) (by simp only; omega)⟩
            simp (config := { maxSteps := 1000000 }) only [push_cast, ↓reduceIte, ↓normL_data, ↓frzL_data, Nat.reduceEqDiff, Nat.reduceLT, reduceCtorEq, Nat.reduceAdd, Nat.reduceMul, Nat.reduceDiv, Nat.reduceMod, Nat.reduceSub, Nat.reduceLeDiff, Nat.reduceBEq, Int.reduceLE, Int.reduceLT, Int.reduceToNat, Int.reduceAdd, Int.reduceSub, Int.reduceMul, Int.reduceEq, Int.reduceBEq, Int.reduceNeg, Int.reduceGT, Int.natCast_pos, ek, hSk, and_self]
          · simp only [c2, c5, or_self, if_false] at hSk
            simp (config := { maxSteps := 1000000 }) only [push_cast, ↓reduceIte, ↓normL_data, ↓frzL_data, Nat.reduceEqDiff, Nat.reduceLT, reduceCtorEq, Nat.reduceAdd, Nat.reduceMul, Nat.reduceDiv, Nat.reduceMod, Nat.reduceSub, Nat.reduceLeDiff, Nat.reduceBEq, Int.reduceLE, Int.reduceLT, Int.reduceToNat, Int.reduceAdd, Int.reduceSub, Int.reduceMul, Int.reduceEq, Int.reduceBEq, Int.reduceNeg, Int.reduceGT, Int.natCast_pos, c2, c5]
            refine vcall_by false (two_ok gk) ?_
            simp (config := { maxSteps := 1000000 }) only [push_cast, ↓reduceIte, ↓normL_data, ↓frzL_data, Nat.reduceEqDiff, Nat.reduceLT, reduceCtorEq, Nat.reduceAdd, Nat.reduceMul, Nat.reduceDiv, Nat.reduceMod, Nat.reduceSub, Nat.reduceLeDiff, Nat.reduceBEq, Int.reduceLE, Int.reduceLT, Int.reduceToNat, Int.reduceAdd, Int.reduceSub, Int.reduceMul, Int.reduceEq, Int.reduceBEq, Int.reduceNeg, Int.reduceGT, Int.natCast_pos, c2, f2, hi, hi', ↓xs]
            refine ⟨by omega, kloop_next ⟨k + 1, by omega⟩ (St.le_of ?_) (by simp only; omega)⟩
            simp (config := { maxSteps := 1000000 }) only [push_cast, ↓reduceIte, ↓normL_data, ↓frzL_data, Nat.reduceEqDiff, Nat.reduceLT, reduceCtorEq, Nat.reduceAdd, Nat.reduceMul, Nat.reduceDiv, Nat.reduceMod, Nat.reduceSub, Nat.reduceLeDiff, Nat.reduceBEq, Int.reduceLE, Int.reduceLT, Int.reduceToNat, Int.reduceAdd, Int.reduceSub, Int.reduceMul, Int.reduceEq, Int.reduceBEq, Int.reduceNeg, Int.reduceGT, Int.natCast_pos, ek, hSk, and_self]
    · have hkk : k = gs.length := by omega
      subst hkk
      simp (config := { maxSteps := 1000000 }) only [push_cast, ↓reduceIte, ↓normL_data, ↓frzL_data, Nat.reduceEqDiff, Nat.reduceLT, reduceCtorEq, Nat.reduceAdd, Nat.reduceMul, Nat.reduceDiv, Nat.reduceMod, Nat.reduceSub, Nat.reduceLeDiff, Nat.reduceBEq, Int.reduceLE, Int.reduceLT, Int.reduceToNat, Int.reduceAdd, Int.reduceSub, Int.reduceMul, Int.reduceEq, Int.reduceBEq, Int.reduceNeg, Int.reduceGT, Int.natCast_pos, hi, hc]
      refine VC.loop' tab_ok (σ := Fin (outs.length + 1)) (fun k => St.of gl0 [(1, .c (.ptr 1 0)), (2, .c (.ptr 2 0)), (4, .c (.own 4)), (5, .c (.ptr 5 0)), (8, .c (.d (iD k.1)))]
        [(4, iR c.to), (3000, gsR []), (3001, iR []), (6000, gsR c.gs), (6001, iR ((outs.take k.1).map (GC.zAt c.to)))] [(1, [.d (gsS gs), .d (iS outs)]), (2, [.own 3000, .own 3001]), (5, [.own 6000, .own 6001])]) (fun k => outs.length - k.1) ⟨0, by omega⟩ (St.le_of ?_) ?_
      · simp (config := { maxSteps := 1000000 }) only [push_cast, ↓reduceIte, ↓normL_data, ↓frzL_data, Nat.reduceEqDiff, Nat.reduceLT, reduceCtorEq, Nat.reduceAdd, Nat.reduceMul, Nat.reduceDiv, Nat.reduceMod, Nat.reduceSub, Nat.reduceLeDiff, Nat.reduceBEq, Int.reduceLE, Int.reduceLT, Int.reduceToNat, Int.reduceAdd, Int.reduceSub, Int.reduceMul, Int.reduceEq, Int.reduceBEq, Int.reduceNeg, Int.reduceGT, Int.natCast_pos, List.take_zero, List.map_nil]
      · intro k
        obtain ⟨k, hk⟩ := k
        have ek : IntKind.i64.wrap ((k : Int) + 1) = ((k + 1 : Nat) : Int) := by rw [w64 _ (by omega) (by omega)]; omega
        have lk : (outs.take k).length = k := by rw [List.length_take]; omega
        by_cases hj : (k : Int) < (outs.length : Int)
        · have hj' : k < outs.length := by omega
          have hw := h2 (outs.getD k 0) (by rw [List.getD_eq_getElem?_getD, List.getElem?_eq_getElem hj']; exact List.getElem_mem hj')
          have hs := ints_snoc hj'
          have r1 := iE_get outs k hj'
          obtain ⟨w, hwe⟩ : ∃ w, outs.getD k 0 = w := ⟨_, rfl⟩
          rw [hwe] at hw hs r1
          have r2 := iE_get c.to w.toNat (by omega)
          have r3 : w < (c.to.length : Int) := by omega
          have r4 : w.toNat < c.to.length := by omega
          simp (config := { maxSteps := 1000000 }) only [push_cast, ↓reduceIte, ↓normL_data, ↓frzL_data, Nat.reduceEqDiff, Nat.reduceLT, reduceCtorEq, Nat.reduceAdd, Nat.reduceMul, Nat.reduceDiv, Nat.reduceMod, Nat.reduceSub, Nat.reduceLeDiff, Nat.reduceBEq, Int.reduceLE, Int.reduceLT, Int.reduceToNat, Int.reduceAdd, Int.reduceSub, Int.reduceMul, Int.reduceEq, Int.reduceBEq, Int.reduceNeg, Int.reduceGT, Int.natCast_pos, hj]
          refine VD.plan tab_ok (by kernel_rfl) [11, 13] (.takes [0, 1, 2, 3, 4, 5, 6, 7, 8, 9] (.one 10 (.one 11 (.takes [12] (.one 13 (.done)))))) (by kernel_rfl) ?_
          simp (config := { maxSteps := 1000000 }) only [push_cast, ↓reduceIte, ↓normL_data, ↓frzL_data, Nat.reduceEqDiff, Nat.reduceLT, reduceCtorEq, Nat.reduceAdd, Nat.reduceMul, Nat.reduceDiv, Nat.reduceMod, Nat.reduceSub, Nat.reduceLeDiff, Nat.reduceBEq, Int.reduceLE, Int.reduceLT, Int.reduceToNat, Int.reduceAdd, Int.reduceSub, Int.reduceMul, Int.reduceEq, Int.reduceBEq, Int.reduceNeg, Int.reduceGT, Int.natCast_pos, r1, r2, r3, r4, hj, hj', hw.1, List.length_map, lk]
          refine ⟨by omega, kloop_next ⟨k + 1, by omega⟩ (St.le_of ?_) (by simp only; omega)⟩
          simp (config := { maxSteps := 1000000 }) only [push_cast, ↓reduceIte, ↓normL_data, ↓frzL_data, Nat.reduceEqDiff, Nat.reduceLT, reduceCtorEq, Nat.reduceAdd, Nat.reduceMul, Nat.reduceDiv, Nat.reduceMod, Nat.reduceSub, Nat.reduceLeDiff, Nat.reduceBEq, Int.reduceLE, Int.reduceLT, Int.reduceToNat, Int.reduceAdd, Int.reduceSub, Int.reduceMul, Int.reduceEq, Int.reduceBEq, Int.reduceNeg, Int.reduceGT, Int.natCast_pos, ek, hs, List.map_append, List.map_cons, List.map_nil, GC.zAt]
        · have hkk : k = outs.length := by omega
          subst hkk
          simp (config := { maxSteps := 1000000 }) only [push_cast, ↓reduceIte, ↓normL_data, ↓frzL_data, Nat.reduceEqDiff, Nat.reduceLT, reduceCtorEq, Nat.reduceAdd, Nat.reduceMul, Nat.reduceDiv, Nat.reduceMod, Nat.reduceSub, Nat.reduceLeDiff, Nat.reduceBEq, Int.reduceLE, Int.reduceLT, Int.reduceToNat, Int.reduceAdd, Int.reduceSub, Int.reduceMul, Int.reduceEq, Int.reduceBEq, Int.reduceNeg, Int.reduceGT, Int.natCast_pos, hj, List.take_length, hM, hc]
end GV

set_option linter.unusedSimpArgs false
set_option linter.unusedVariables false
set_option maxHeartbeats 4000000
namespace GV
open Go
theorem okC_simp {gs : List GC.Gt} {outs : List Int} (h : okC gs outs) : okC (GC.simpM gs outs).1 (GC.simpM gs outs).2 := by
  have o := GC.simp_opt (fun _ => false) h.1 h.2.1
  exact ⟨o.ok, o.olen, by have := o.len; have := h.2.2.1; omega, by show (outs.map _).length ≤ _; rw [List.length_map]; exact h.2.2.2⟩
theorem okC_prune {gs : List GC.Gt} {outs : List Int} (h : okC gs outs) : okC (GC.pruneM gs outs).1 (GC.pruneM gs outs).2 := by
  have o := GC.prune_opt (fun _ => false) h.1 h.2.1
  exact ⟨o.ok, o.olen, by have := o.len; have := h.2.2.1; omega, by show (outs.map _).length ≤ _; rw [List.length_map]; exact h.2.2.2⟩
theorem optimize_ok (gs : List GC.Gt) (outs : List Int) (h : okC gs outs) : CallOk Go.Proofs.Try.prog gl0 15 [.ag [gsS gs, iS outs]] ⟨[.ra [.r (gsR (GC.optM gs outs).1), .r (iR (GC.optM gs outs).2)]], []⟩ := by
  refine okFn (fn := Go.Proofs.Try.f15) [.cell 2 27] 1 6 (by kernel_rfl) (by kernel_rfl) rfl (by kernel_rfl) (by decide) rfl rfl rfl ?_
  simp (config := { maxSteps := 1000000 }) only [push_cast, ↓reduceIte, ↓normL_data, ↓frzL_data, Nat.reduceEqDiff, Nat.reduceLT, reduceCtorEq, Nat.reduceAdd, Nat.reduceMul, Nat.reduceDiv, Nat.reduceMod, Nat.reduceSub, Nat.reduceLeDiff, Nat.reduceBEq, Int.reduceLE, Int.reduceLT, Int.reduceToNat, Int.reduceAdd, Int.reduceSub, Int.reduceMul, Int.reduceEq, Int.reduceBEq, Int.reduceNeg, Int.reduceGT, Int.natCast_pos]
  refine vcall_by true (simplify_ok gs outs h) ?_
  simp (config := { maxSteps := 1000000 }) only [push_cast, ↓reduceIte, ↓normL_data, ↓frzL_data, Nat.reduceEqDiff, Nat.reduceLT, reduceCtorEq, Nat.reduceAdd, Nat.reduceMul, Nat.reduceDiv, Nat.reduceMod, Nat.reduceSub, Nat.reduceLeDiff, Nat.reduceBEq, Int.reduceLE, Int.reduceLT, Int.reduceToNat, Int.reduceAdd, Int.reduceSub, Int.reduceMul, Int.reduceEq, Int.reduceBEq, Int.reduceNeg, Int.reduceGT, Int.natCast_pos]
  refine vcall_by true (prune_ok _ _ (okC_simp h)) ?_
  simp (config := { maxSteps := 1000000 }) only [push_cast, ↓reduceIte, ↓normL_data, ↓frzL_data, Nat.reduceEqDiff, Nat.reduceLT, reduceCtorEq, Nat.reduceAdd, Nat.reduceMul, Nat.reduceDiv, Nat.reduceMod, Nat.reduceSub, Nat.reduceLeDiff, Nat.reduceBEq, Int.reduceLE, Int.reduceLT, Int.reduceToNat, Int.reduceAdd, Int.reduceSub, Int.reduceMul, Int.reduceEq, Int.reduceBEq, Int.reduceNeg, Int.reduceGT, Int.natCast_pos]
  exact ⟨rfl, rfl⟩
theorem cnt_take {gs : List GC.Gt} {k : Nat} (h : k < gs.length) (x : Int) : GC.cnt x (gs.take (k + 1)) = GC.cnt x (gs.take k) + if (gs.getD k dG).k = x then 1 else 0 := by
  rw [gts_snoc h, GC.cnt_snoc]
theorem cnt_le (x : Int) (gs : List GC.Gt) : GC.cnt x gs ≤ gs.length := List.length_filter_le _ _
theorem countS_ok (gs : List GC.Gt) (outs : List Int) (x : Int) (h : gs.length ≤ 1000000000) : CallOk Go.Proofs.Try.prog gl0 16 [.ag [gsS gs, iS outs], .c (iD x)] ⟨[.c (iD (GC.cnt x gs))], []⟩ := by
  refine okFn (fn := Go.Proofs.Try.f16) [.tmp 4] 2 25 (by kernel_rfl) (by kernel_rfl) rfl (by kernel_rfl) (by decide) rfl rfl rfl ?_
  simp (config := { maxSteps := 1000000 }) only [push_cast, ↓reduceIte, ↓normL_data, ↓frzL_data, Nat.reduceEqDiff, Nat.reduceLT, reduceCtorEq, Nat.reduceAdd, Nat.reduceMul, Nat.reduceDiv, Nat.reduceMod, Nat.reduceSub, Nat.reduceLeDiff, Nat.reduceBEq, Int.reduceLE, Int.reduceLT, Int.reduceToNat, Int.reduceAdd, Int.reduceSub, Int.reduceMul, Int.reduceEq, Int.reduceBEq, Int.reduceNeg, Int.reduceGT, Int.natCast_pos]
  refine VC.loop' tab_ok (σ := Fin (gs.length + 1)) (fun k => St.of gl0 [(1, .c (.d (iD x))), (2, .c (.ptr 2 0)), (5, .c (.d (iD (GC.cnt x (gs.take k.1))))), (6, .c (.d (iD k.1)))] [] [(2, [.d (gsS gs), .d (iS outs)])]) (fun k => gs.length - k.1) ⟨0, by omega⟩ (St.le_of ?_) ?_
  · simp (config := { maxSteps := 1000000 }) only [push_cast, ↓reduceIte, ↓normL_data, ↓frzL_data, Nat.reduceEqDiff, Nat.reduceLT, reduceCtorEq, Nat.reduceAdd, Nat.reduceMul, Nat.reduceDiv, Nat.reduceMod, Nat.reduceSub, Nat.reduceLeDiff, Nat.reduceBEq, Int.reduceLE, Int.reduceLT, Int.reduceToNat, Int.reduceAdd, Int.reduceSub, Int.reduceMul, Int.reduceEq, Int.reduceBEq, Int.reduceNeg, Int.reduceGT, Int.natCast_pos, List.take_zero, GC.cnt_nil, Int.natCast_zero]
  · intro k
    obtain ⟨k, hk⟩ := k
    have ek : IntKind.i64.wrap ((k : Int) + 1) = ((k + 1 : Nat) : Int) := by rw [w64 _ (by omega) (by omega)]; omega
    by_cases hi : (k : Int) < (gs.length : Int)
    · have hi' : k < gs.length := by omega
      have hg := gsE_get gs k hi'
      have hc := cnt_take hi' x
      have hl := cnt_le x (gs.take k)
      have hl' : (gs.take k).length ≤ gs.length := by rw [List.length_take]; omega
      obtain ⟨⟨gk, ga, gb⟩, hgi⟩ : ∃ g, gs.getD k dG = g := ⟨_, rfl⟩
      rw [hgi] at hg hc
      obtain ⟨n, hn⟩ : ∃ n, GC.cnt x (gs.take k) = n := ⟨_, rfl⟩
      rw [hn] at hc hl
      have en : IntKind.i64.wrap ((n : Int) + 1) = ((n + 1 : Nat) : Int) := by rw [w64 _ (by omega) (by omega)]; omega
      by_cases e : gk = x
      · rw [if_pos e] at hc
        simp (config := { maxSteps := 1000000 }) only [push_cast, ↓reduceIte, ↓normL_data, ↓frzL_data, Nat.reduceEqDiff, Nat.reduceLT, reduceCtorEq, Nat.reduceAdd, Nat.reduceMul, Nat.reduceDiv, Nat.reduceMod, Nat.reduceSub, Nat.reduceLeDiff, Nat.reduceBEq, Int.reduceLE, Int.reduceLT, Int.reduceToNat, Int.reduceAdd, Int.reduceSub, Int.reduceMul, Int.reduceEq, Int.reduceBEq, Int.reduceNeg, Int.reduceGT, Int.natCast_pos, hi, hi', hg, gE, e, hn]
        refine kloop_next ⟨k + 1, by omega⟩ (St.le_of ?_) (by simp only; omega)
        simp (config := { maxSteps := 1000000 }) only [push_cast, ↓reduceIte, ↓normL_data, ↓frzL_data, Nat.reduceEqDiff, Nat.reduceLT, reduceCtorEq, Nat.reduceAdd, Nat.reduceMul, Nat.reduceDiv, Nat.reduceMod, Nat.reduceSub, Nat.reduceLeDiff, Nat.reduceBEq, Int.reduceLE, Int.reduceLT, Int.reduceToNat, Int.reduceAdd, Int.reduceSub, Int.reduceMul, Int.reduceEq, Int.reduceBEq, Int.reduceNeg, Int.reduceGT, Int.natCast_pos, ek, en, hc]
      · rw [if_neg e] at hc
        have e' : (gk == x) = false := by simp [e]
        simp (config := { maxSteps := 1000000 }) only [push_cast, ↓reduceIte, ↓normL_data, ↓frzL_data, Nat.reduceEqDiff, Nat.reduceLT, reduceCtorEq, Nat.reduceAdd, Nat.reduceMul, Nat.reduceDiv, Nat.reduceMod, Nat.reduceSub, Nat.reduceLeDiff, Nat.reduceBEq, Int.reduceLE, Int.reduceLT, Int.reduceToNat, Int.reduceAdd, Int.reduceSub, Int.reduceMul, Int.reduceEq, Int.reduceBEq, Int.reduceNeg, Int.reduceGT, Int.natCast_pos, hi, hi', hg, gE, e', hn]
        refine kloop_next ⟨k + 1, by omega⟩ (St.le_of ?_) (by simp only; omega)
        simp (config := { maxSteps := 1000000 }) only [push_cast, ↓reduceIte, ↓normL_data, ↓frzL_data, Nat.reduceEqDiff, Nat.reduceLT, reduceCtorEq, Nat.reduceAdd, Nat.reduceMul, Nat.reduceDiv, Nat.reduceMod, Nat.reduceSub, Nat.reduceLeDiff, Nat.reduceBEq, Int.reduceLE, Int.reduceLT, Int.reduceToNat, Int.reduceAdd, Int.reduceSub, Int.reduceMul, Int.reduceEq, Int.reduceBEq, Int.reduceNeg, Int.reduceGT, Int.natCast_pos, ek, en, hc, Nat.add_zero]
    · have hkk : k = gs.length := by omega
      subst hkk
      simp (config := { maxSteps := 1000000 }) only [push_cast, ↓reduceIte, ↓normL_data, ↓frzL_data, Nat.reduceEqDiff, Nat.reduceLT, reduceCtorEq, Nat.reduceAdd, Nat.reduceMul, Nat.reduceDiv, Nat.reduceMod, Nat.reduceSub, Nat.reduceLeDiff, Nat.reduceBEq, Int.reduceLE, Int.reduceLT, Int.reduceToNat, Int.reduceAdd, Int.reduceSub, Int.reduceMul, Int.reduceEq, Int.reduceBEq, Int.reduceNeg, Int.reduceGT, Int.natCast_pos, hi, List.take_length]
theorem countI_ok (gs : List GC.Gt) (outs : List Int) (x : Int) (h : gs.length ≤ 1000000000) : CallOk Go.Proofs.Try.prog gl0 29 [.ag [gsS gs, iS outs], .c (iD x)] ⟨[.c (iD (GC.cnt x gs))], []⟩ := by
  refine okFn (fn := Go.Proofs.Try.f29) [.tmp 4] 2 23 (by kernel_rfl) (by kernel_rfl) rfl (by kernel_rfl) (by decide) rfl rfl rfl ?_
  simp (config := { maxSteps := 1000000 }) only [push_cast, ↓reduceIte, ↓normL_data, ↓frzL_data, Nat.reduceEqDiff, Nat.reduceLT, reduceCtorEq, Nat.reduceAdd, Nat.reduceMul, Nat.reduceDiv, Nat.reduceMod, Nat.reduceSub, Nat.reduceLeDiff, Nat.reduceBEq, Int.reduceLE, Int.reduceLT, Int.reduceToNat, Int.reduceAdd, Int.reduceSub, Int.reduceMul, Int.reduceEq, Int.reduceBEq, Int.reduceNeg, Int.reduceGT, Int.natCast_pos]
  refine VC.loop' tab_ok (σ := Fin (gs.length + 1)) (fun k => St.of gl0 [(1, .c (.d (iD x))), (5, .c (.d (iD (GC.cnt x (gs.take k.1))))), (9, .c (.d (gsS gs))), (10, .c (.d (iD gs.length))), (11, .c (.d (iD k.1)))] [] []) (fun k => gs.length - k.1) ⟨0, by omega⟩ (St.le_of ?_) ?_
  · simp (config := { maxSteps := 1000000 }) only [push_cast, ↓reduceIte, ↓normL_data, ↓frzL_data, Nat.reduceEqDiff, Nat.reduceLT, reduceCtorEq, Nat.reduceAdd, Nat.reduceMul, Nat.reduceDiv, Nat.reduceMod, Nat.reduceSub, Nat.reduceLeDiff, Nat.reduceBEq, Int.reduceLE, Int.reduceLT, Int.reduceToNat, Int.reduceAdd, Int.reduceSub, Int.reduceMul, Int.reduceEq, Int.reduceBEq, Int.reduceNeg, Int.reduceGT, Int.natCast_pos, List.take_zero, GC.cnt_nil, Int.natCast_zero]
  · intro k
    obtain ⟨k, hk⟩ := k
    have ek : IntKind.i64.wrap ((k : Int) + 1) = ((k + 1 : Nat) : Int) := by rw [w64 _ (by omega) (by omega)]; omega
    by_cases hi : (k : Int) < (gs.length : Int)
    · have hi' : k < gs.length := by omega
      have hg := gsE_get gs k hi'
      have hc := cnt_take hi' x
      have hl := cnt_le x (gs.take k)
      have hl' : (gs.take k).length ≤ gs.length := by rw [List.length_take]; omega
      obtain ⟨⟨gk, ga, gb⟩, hgi⟩ : ∃ g, gs.getD k dG = g := ⟨_, rfl⟩
      rw [hgi] at hg hc
      obtain ⟨n, hn⟩ : ∃ n, GC.cnt x (gs.take k) = n := ⟨_, rfl⟩
      rw [hn] at hc hl
      have en : IntKind.i64.wrap ((n : Int) + 1) = ((n + 1 : Nat) : Int) := by rw [w64 _ (by omega) (by omega)]; omega
      by_cases e : gk = x
      · rw [if_pos e] at hc
        simp (config := { maxSteps := 1000000 }) only [push_cast, ↓reduceIte, ↓normL_data, ↓frzL_data, Nat.reduceEqDiff, Nat.reduceLT, reduceCtorEq, Nat.reduceAdd, Nat.reduceMul, Nat.reduceDiv, Nat.reduceMod, Nat.reduceSub, Nat.reduceLeDiff, Nat.reduceBEq, Int.reduceLE, Int.reduceLT, Int.reduceToNat, Int.reduceAdd, Int.reduceSub, Int.reduceMul, Int.reduceEq, Int.reduceBEq, Int.reduceNeg, Int.reduceGT, Int.natCast_pos, hi, hi', hg, gE, e, hn]
        refine kloop_next ⟨k + 1, by omega⟩ (St.le_of ?_) (by simp only; omega)
        simp (config := { maxSteps := 1000000 }) only [push_cast, ↓reduceIte, ↓normL_data, ↓frzL_data, Nat.reduceEqDiff, Nat.reduceLT, reduceCtorEq, Nat.reduceAdd, Nat.reduceMul, Nat.reduceDiv, Nat.reduceMod, Nat.reduceSub, Nat.reduceLeDiff, Nat.reduceBEq, Int.reduceLE, Int.reduceLT, Int.reduceToNat, Int.reduceAdd, Int.reduceSub, Int.reduceMul, Int.reduceEq, Int.reduceBEq, Int.reduceNeg, Int.reduceGT, Int.natCast_pos, ek, en, hc]
      · rw [if_neg e] at hc
        have e' : (gk == x) = false := by simp [e]
        simp (config := { maxSteps := 1000000 }) only [push_cast, ↓reduceIte, ↓normL_data, ↓frzL_data, Nat.reduceEqDiff, Nat.reduceLT, reduceCtorEq, Nat.reduceAdd, Nat.reduceMul, Nat.reduceDiv, Nat.reduceMod, Nat.reduceSub, Nat.reduceLeDiff, Nat.reduceBEq, Int.reduceLE, Int.reduceLT, Int.reduceToNat, Int.reduceAdd, Int.reduceSub, Int.reduceMul, Int.reduceEq, Int.reduceBEq, Int.reduceNeg, Int.reduceGT, Int.natCast_pos, hi, hi', hg, gE, e', hn]
        refine kloop_next ⟨k + 1, by omega⟩ (St.le_of ?_) (by simp only; omega)
        simp (config := { maxSteps := 1000000 }) only [push_cast, ↓reduceIte, ↓normL_data, ↓frzL_data, Nat.reduceEqDiff, Nat.reduceLT, reduceCtorEq, Nat.reduceAdd, Nat.reduceMul, Nat.reduceDiv, Nat.reduceMod, Nat.reduceSub, Nat.reduceLeDiff, Nat.reduceBEq, Int.reduceLE, Int.reduceLT, Int.reduceToNat, Int.reduceAdd, Int.reduceSub, Int.reduceMul, Int.reduceEq, Int.reduceBEq, Int.reduceNeg, Int.reduceGT, Int.natCast_pos, ek, en, hc, Nat.add_zero]
    · have hkk : k = gs.length := by omega
      subst hkk
      simp (config := { maxSteps := 1000000 }) only [push_cast, ↓reduceIte, ↓normL_data, ↓frzL_data, Nat.reduceEqDiff, Nat.reduceLT, reduceCtorEq, Nat.reduceAdd, Nat.reduceMul, Nat.reduceDiv, Nat.reduceMod, Nat.reduceSub, Nat.reduceLeDiff, Nat.reduceBEq, Int.reduceLE, Int.reduceLT, Int.reduceToNat, Int.reduceAdd, Int.reduceSub, Int.reduceMul, Int.reduceEq, Int.reduceBEq, Int.reduceNeg, Int.reduceGT, Int.natCast_pos, hi, List.take_length]
theorem within_ok (x lo hi : Int) : CallOk Go.Proofs.Try.prog gl0 55 [.c (iD x), .c (iD lo), .c (iD hi)] ⟨[.c (bD (decide (lo ≤ x ∧ x ≤ hi)))], []⟩ := by
  refine okFn (fn := Go.Proofs.Try.f55) [.tmp 6] 3 15 (by kernel_rfl) (by kernel_rfl) rfl (by kernel_rfl) (by decide) rfl rfl rfl ?_
  by_cases h : lo ≤ x
  · simp (config := { maxSteps := 1000000 }) only [push_cast, ↓reduceIte, ↓normL_data, ↓frzL_data, Nat.reduceEqDiff, Nat.reduceLT, reduceCtorEq, Nat.reduceAdd, Nat.reduceMul, Nat.reduceDiv, Nat.reduceMod, Nat.reduceSub, Nat.reduceLeDiff, Nat.reduceBEq, Int.reduceLE, Int.reduceLT, Int.reduceToNat, Int.reduceAdd, Int.reduceSub, Int.reduceMul, Int.reduceEq, Int.reduceBEq, Int.reduceNeg, Int.reduceGT, Int.natCast_pos, h]
  · simp (config := { maxSteps := 1000000 }) only [push_cast, ↓reduceIte, ↓normL_data, ↓frzL_data, Nat.reduceEqDiff, Nat.reduceLT, reduceCtorEq, Nat.reduceAdd, Nat.reduceMul, Nat.reduceDiv, Nat.reduceMod, Nat.reduceSub, Nat.reduceLeDiff, Nat.reduceBEq, Int.reduceLE, Int.reduceLT, Int.reduceToNat, Int.reduceAdd, Int.reduceSub, Int.reduceMul, Int.reduceEq, Int.reduceBEq, Int.reduceNeg, Int.reduceGT, Int.natCast_pos, h]
end GV

set_option linter.unusedSimpArgs false
set_option linter.unusedVariables false
set_option maxHeartbeats 4000000
namespace GV
open Go
set_option maxRecDepth 100000 in
theorem gateOkI_ok (g : GC.Gt) (i : Nat) (h : GC.okG i g) : CallOk Go.Proofs.Try.prog gl0 54 [.ag (gE g), .c (iD i)] ⟨[.c (bD true)], []⟩ := by
  obtain ⟨k, a, b⟩ := g
  unfold GC.okG at h
  simp only at h
  refine okFn (fn := Go.Proofs.Try.f54) [.tmp 4] 2 62 (by kernel_rfl) (by kernel_rfl) rfl (by kernel_rfl) (by decide) rfl rfl rfl ?_
  by_cases k1 : k = 1
  · subst k1
    rw [if_pos rfl] at h
    obtain ⟨a0, a1, rfl⟩ := h
    by_cases c : a < (i : Int)
    all_goals by_cases c' : (0 : Int) < (i : Int)
    all_goals
      simp (config := { maxSteps := 1000000 }) only [push_cast, ↓reduceIte, ↓normL_data, ↓frzL_data, Nat.reduceEqDiff, Nat.reduceLT, reduceCtorEq, Nat.reduceAdd, Nat.reduceMul, Nat.reduceDiv, Nat.reduceMod, Nat.reduceSub, Nat.reduceLeDiff, Nat.reduceBEq, Int.reduceLE, Int.reduceLT, Int.reduceToNat, Int.reduceAdd, Int.reduceSub, Int.reduceMul, Int.reduceEq, Int.reduceBEq, Int.reduceNeg, Int.reduceGT, Int.natCast_pos, gE, a0, a1, c, c']
      refine vcall_by false (within_ok a 0 79) ?_
      simp (config := { maxSteps := 1000000 }) only [push_cast, ↓reduceIte, ↓normL_data, ↓frzL_data, Nat.reduceEqDiff, Nat.reduceLT, reduceCtorEq, Nat.reduceAdd, Nat.reduceMul, Nat.reduceDiv, Nat.reduceMod, Nat.reduceSub, Nat.reduceLeDiff, Nat.reduceBEq, Int.reduceLE, Int.reduceLT, Int.reduceToNat, Int.reduceAdd, Int.reduceSub, Int.reduceMul, Int.reduceEq, Int.reduceBEq, Int.reduceNeg, Int.reduceGT, Int.natCast_pos, a0, a1]
  by_cases k2 : k = 2
  · subst k2
    rw [if_neg k1, if_pos rfl] at h
    obtain ⟨a0, a1, rfl⟩ := h
    by_cases c : a < (i : Int)
    all_goals by_cases c' : (0 : Int) < (i : Int)
    all_goals
      simp (config := { maxSteps := 1000000 }) only [push_cast, ↓reduceIte, ↓normL_data, ↓frzL_data, Nat.reduceEqDiff, Nat.reduceLT, reduceCtorEq, Nat.reduceAdd, Nat.reduceMul, Nat.reduceDiv, Nat.reduceMod, Nat.reduceSub, Nat.reduceLeDiff, Nat.reduceBEq, Int.reduceLE, Int.reduceLT, Int.reduceToNat, Int.reduceAdd, Int.reduceSub, Int.reduceMul, Int.reduceEq, Int.reduceBEq, Int.reduceNeg, Int.reduceGT, Int.natCast_pos, gE, a0, a1, c, c']
      refine vcall_by false (within_ok a 0 1) ?_
      simp (config := { maxSteps := 1000000 }) only [push_cast, ↓reduceIte, ↓normL_data, ↓frzL_data, Nat.reduceEqDiff, Nat.reduceLT, reduceCtorEq, Nat.reduceAdd, Nat.reduceMul, Nat.reduceDiv, Nat.reduceMod, Nat.reduceSub, Nat.reduceLeDiff, Nat.reduceBEq, Int.reduceLE, Int.reduceLT, Int.reduceToNat, Int.reduceAdd, Int.reduceSub, Int.reduceMul, Int.reduceEq, Int.reduceBEq, Int.reduceNeg, Int.reduceGT, Int.natCast_pos, a0, a1]
  rw [if_neg k1, if_neg k2] at h
  by_cases k3 : k = 3
  · subst k3
    rw [if_pos (.inl rfl)] at h
    obtain ⟨a0, a1, b0, b1⟩ := h
    simp (config := { maxSteps := 1000000 }) only [push_cast, ↓reduceIte, ↓normL_data, ↓frzL_data, Nat.reduceEqDiff, Nat.reduceLT, reduceCtorEq, Nat.reduceAdd, Nat.reduceMul, Nat.reduceDiv, Nat.reduceMod, Nat.reduceSub, Nat.reduceLeDiff, Nat.reduceBEq, Int.reduceLE, Int.reduceLT, Int.reduceToNat, Int.reduceAdd, Int.reduceSub, Int.reduceMul, Int.reduceEq, Int.reduceBEq, Int.reduceNeg, Int.reduceGT, Int.natCast_pos, gE, a0, a1, b0, b1]
  by_cases k4 : k = 4
  · subst k4
    rw [if_pos (.inr rfl)] at h
    obtain ⟨a0, a1, b0, b1⟩ := h
    simp (config := { maxSteps := 1000000 }) only [push_cast, ↓reduceIte, ↓normL_data, ↓frzL_data, Nat.reduceEqDiff, Nat.reduceLT, reduceCtorEq, Nat.reduceAdd, Nat.reduceMul, Nat.reduceDiv, Nat.reduceMod, Nat.reduceSub, Nat.reduceLeDiff, Nat.reduceBEq, Int.reduceLE, Int.reduceLT, Int.reduceToNat, Int.reduceAdd, Int.reduceSub, Int.reduceMul, Int.reduceEq, Int.reduceBEq, Int.reduceNeg, Int.reduceGT, Int.natCast_pos, gE, a0, a1, b0, b1]
  rw [if_neg (by omega)] at h
  by_cases k5 : k = 5
  · subst k5
    rw [if_pos rfl] at h
    obtain ⟨a0, a1, rfl⟩ := h
    by_cases c' : (0 : Int) < (i : Int)
    all_goals simp (config := { maxSteps := 1000000 }) only [push_cast, ↓reduceIte, ↓normL_data, ↓frzL_data, Nat.reduceEqDiff, Nat.reduceLT, reduceCtorEq, Nat.reduceAdd, Nat.reduceMul, Nat.reduceDiv, Nat.reduceMod, Nat.reduceSub, Nat.reduceLeDiff, Nat.reduceBEq, Int.reduceLE, Int.reduceLT, Int.reduceToNat, Int.reduceAdd, Int.reduceSub, Int.reduceMul, Int.reduceEq, Int.reduceBEq, Int.reduceNeg, Int.reduceGT, Int.natCast_pos, gE, a0, a1, c']
  · rw [if_neg k5] at h; exact h.elim
theorem circuitOkI_ok (gs : List GC.Gt) (outs : List Int) (h : okC gs outs) : CallOk Go.Proofs.Try.prog gl0 28 [.ag [gsS gs, iS outs]] ⟨[.c (bD true)], []⟩ := by
  obtain ⟨h1, h2, h3, h4⟩ := h
  refine okFn (fn := Go.Proofs.Try.f28) [.tmp 2] 1 39 (by kernel_rfl) (by kernel_rfl) rfl (by kernel_rfl) (by decide) rfl rfl rfl ?_
  have h3' : ¬ (6000 : Int) < (gs.length : Int) := by omega
  simp (config := { maxSteps := 1000000 }) only [push_cast, ↓reduceIte, ↓normL_data, ↓frzL_data, Nat.reduceEqDiff, Nat.reduceLT, reduceCtorEq, Nat.reduceAdd, Nat.reduceMul, Nat.reduceDiv, Nat.reduceMod, Nat.reduceSub, Nat.reduceLeDiff, Nat.reduceBEq, Int.reduceLE, Int.reduceLT, Int.reduceToNat, Int.reduceAdd, Int.reduceSub, Int.reduceMul, Int.reduceEq, Int.reduceBEq, Int.reduceNeg, Int.reduceGT, Int.natCast_pos, h3']
  refine VC.loop' tab_ok (σ := Fin (gs.length + 1)) (fun k => St.of gl0 [(1, .c (.ptr 1 0)), (12, .c (.d (gsS gs))), (13, .c (.d (iD gs.length))), (14, .c (.d (iD k.1)))] [] [(1, [.d (gsS gs), .d (iS outs)])]) (fun k => gs.length - k.1) ⟨0, by omega⟩ (St.le_of ?_) ?_
  · simp (config := { maxSteps := 1000000 }) only [push_cast, ↓reduceIte, ↓normL_data, ↓frzL_data, Nat.reduceEqDiff, Nat.reduceLT, reduceCtorEq, Nat.reduceAdd, Nat.reduceMul, Nat.reduceDiv, Nat.reduceMod, Nat.reduceSub, Nat.reduceLeDiff, Nat.reduceBEq, Int.reduceLE, Int.reduceLT, Int.reduceToNat, Int.reduceAdd, Int.reduceSub, Int.reduceMul, Int.reduceEq, Int.reduceBEq, Int.reduceNeg, Int.reduceGT, Int.natCast_pos]
  · intro k
    obtain ⟨k, hk⟩ := k
    have ek : IntKind.i64.wrap ((k : Int) + 1) = ((k + 1 : Nat) : Int) := by rw [w64 _ (by omega) (by omega)]; omega
    by_cases hi : (k : Int) < (gs.length : Int)
    · have hi' : k < gs.length := by omega
      have hg := gsE_get gs k hi'
      have hok := GC.okG_at h1 hi'
      obtain ⟨⟨gk, ga, gb⟩, hgi⟩ : ∃ g, gs.getD k dG = g := ⟨_, rfl⟩
      rw [hgi] at hg
      rw [show gs.getD k GC.dG = ⟨gk, ga, gb⟩ from hgi] at hok
      simp (config := { maxSteps := 1000000 }) only [push_cast, ↓reduceIte, ↓normL_data, ↓frzL_data, Nat.reduceEqDiff, Nat.reduceLT, reduceCtorEq, Nat.reduceAdd, Nat.reduceMul, Nat.reduceDiv, Nat.reduceMod, Nat.reduceSub, Nat.reduceLeDiff, Nat.reduceBEq, Int.reduceLE, Int.reduceLT, Int.reduceToNat, Int.reduceAdd, Int.reduceSub, Int.reduceMul, Int.reduceEq, Int.reduceBEq, Int.reduceNeg, Int.reduceGT, Int.natCast_pos, hi, hi', hg, gE]
      refine vcall_by false (gateOkI_ok ⟨gk, ga, gb⟩ k hok) ?_
      simp (config := { maxSteps := 1000000 }) only [push_cast, ↓reduceIte, ↓normL_data, ↓frzL_data, Nat.reduceEqDiff, Nat.reduceLT, reduceCtorEq, Nat.reduceAdd, Nat.reduceMul, Nat.reduceDiv, Nat.reduceMod, Nat.reduceSub, Nat.reduceLeDiff, Nat.reduceBEq, Int.reduceLE, Int.reduceLT, Int.reduceToNat, Int.reduceAdd, Int.reduceSub, Int.reduceMul, Int.reduceEq, Int.reduceBEq, Int.reduceNeg, Int.reduceGT, Int.natCast_pos, gE]
      refine kloop_next ⟨k + 1, by omega⟩ (St.le_of ?_) (by simp only; omega)
      simp (config := { maxSteps := 1000000 }) only [push_cast, ↓reduceIte, ↓normL_data, ↓frzL_data, Nat.reduceEqDiff, Nat.reduceLT, reduceCtorEq, Nat.reduceAdd, Nat.reduceMul, Nat.reduceDiv, Nat.reduceMod, Nat.reduceSub, Nat.reduceLeDiff, Nat.reduceBEq, Int.reduceLE, Int.reduceLT, Int.reduceToNat, Int.reduceAdd, Int.reduceSub, Int.reduceMul, Int.reduceEq, Int.reduceBEq, Int.reduceNeg, Int.reduceGT, Int.natCast_pos, ek]
    · have hkk : k = gs.length := by omega
      subst hkk
      simp (config := { maxSteps := 1000000 }) only [push_cast, ↓reduceIte, ↓normL_data, ↓frzL_data, Nat.reduceEqDiff, Nat.reduceLT, reduceCtorEq, Nat.reduceAdd, Nat.reduceMul, Nat.reduceDiv, Nat.reduceMod, Nat.reduceSub, Nat.reduceLeDiff, Nat.reduceBEq, Int.reduceLE, Int.reduceLT, Int.reduceToNat, Int.reduceAdd, Int.reduceSub, Int.reduceMul, Int.reduceEq, Int.reduceBEq, Int.reduceNeg, Int.reduceGT, Int.natCast_pos, hi]
      refine VC.loop' tab_ok (σ := Fin (outs.length + 1)) (fun k => St.of gl0 [(1, .c (.ptr 1 0)), (25, .c (.d (iS outs))), (26, .c (.d (iD outs.length))), (27, .c (.d (iD k.1)))] [] [(1, [.d (gsS gs), .d (iS outs)])]) (fun k => outs.length - k.1) ⟨0, by omega⟩ (St.le_of ?_) ?_
      · simp (config := { maxSteps := 1000000 }) only [push_cast, ↓reduceIte, ↓normL_data, ↓frzL_data, Nat.reduceEqDiff, Nat.reduceLT, reduceCtorEq, Nat.reduceAdd, Nat.reduceMul, Nat.reduceDiv, Nat.reduceMod, Nat.reduceSub, Nat.reduceLeDiff, Nat.reduceBEq, Int.reduceLE, Int.reduceLT, Int.reduceToNat, Int.reduceAdd, Int.reduceSub, Int.reduceMul, Int.reduceEq, Int.reduceBEq, Int.reduceNeg, Int.reduceGT, Int.natCast_pos]
      · intro k
        obtain ⟨k, hk⟩ := k
        have ek : IntKind.i64.wrap ((k : Int) + 1) = ((k + 1 : Nat) : Int) := by rw [w64 _ (by omega) (by omega)]; omega
        by_cases hj : (k : Int) < (outs.length : Int)
        · have hj' : k < outs.length := by omega
          have hw := h2 (outs.getD k 0) (by rw [List.getD_eq_getElem?_getD, List.getElem?_eq_getElem hj']; exact List.getElem_mem hj')
          have r1 := iE_get outs k hj'
          obtain ⟨w, hwe⟩ : ∃ w, outs.getD k 0 = w := ⟨_, rfl⟩
          rw [hwe] at hw r1
          have e1 : IntKind.i64.wrap ((gs.length : Int) - 1) = (gs.length : Int) - 1 := w64 _ (by omega) (by omega)
          have hw2 : w ≤ (gs.length : Int) - 1 := by omega
          simp (config := { maxSteps := 1000000 }) only [push_cast, ↓reduceIte, ↓normL_data, ↓frzL_data, Nat.reduceEqDiff, Nat.reduceLT, reduceCtorEq, Nat.reduceAdd, Nat.reduceMul, Nat.reduceDiv, Nat.reduceMod, Nat.reduceSub, Nat.reduceLeDiff, Nat.reduceBEq, Int.reduceLE, Int.reduceLT, Int.reduceToNat, Int.reduceAdd, Int.reduceSub, Int.reduceMul, Int.reduceEq, Int.reduceBEq, Int.reduceNeg, Int.reduceGT, Int.natCast_pos, hj, hj', r1, e1]
          refine vcall_by false (within_ok w 0 ((gs.length : Int) - 1)) ?_
          simp (config := { maxSteps := 1000000 }) only [push_cast, ↓reduceIte, ↓normL_data, ↓frzL_data, Nat.reduceEqDiff, Nat.reduceLT, reduceCtorEq, Nat.reduceAdd, Nat.reduceMul, Nat.reduceDiv, Nat.reduceMod, Nat.reduceSub, Nat.reduceLeDiff, Nat.reduceBEq, Int.reduceLE, Int.reduceLT, Int.reduceToNat, Int.reduceAdd, Int.reduceSub, Int.reduceMul, Int.reduceEq, Int.reduceBEq, Int.reduceNeg, Int.reduceGT, Int.natCast_pos, hw.1, hw2]
          refine kloop_next ⟨k + 1, by omega⟩ (St.le_of ?_) (by simp only; omega)
          simp (config := { maxSteps := 1000000 }) only [push_cast, ↓reduceIte, ↓normL_data, ↓frzL_data, Nat.reduceEqDiff, Nat.reduceLT, reduceCtorEq, Nat.reduceAdd, Nat.reduceMul, Nat.reduceDiv, Nat.reduceMod, Nat.reduceSub, Nat.reduceLeDiff, Nat.reduceBEq, Int.reduceLE, Int.reduceLT, Int.reduceToNat, Int.reduceAdd, Int.reduceSub, Int.reduceMul, Int.reduceEq, Int.reduceBEq, Int.reduceNeg, Int.reduceGT, Int.natCast_pos, ek]
        · have hkk : k = outs.length := by omega
          subst hkk
          simp (config := { maxSteps := 1000000 }) only [push_cast, ↓reduceIte, ↓normL_data, ↓frzL_data, Nat.reduceEqDiff, Nat.reduceLT, reduceCtorEq, Nat.reduceAdd, Nat.reduceMul, Nat.reduceDiv, Nat.reduceMod, Nat.reduceSub, Nat.reduceLeDiff, Nat.reduceBEq, Int.reduceLE, Int.reduceLT, Int.reduceToNat, Int.reduceAdd, Int.reduceSub, Int.reduceMul, Int.reduceEq, Int.reduceBEq, Int.reduceNeg, Int.reduceGT, Int.natCast_pos, hj]
theorem garbledCost_ok (gs : List GC.Gt) (outs : List Int) (h : okC gs outs) : CallOk Go.Proofs.Try.prog gl0 8 [.ag [gsS gs, iS outs]] ⟨[.ag [iD 2, iD 0, iD 0, iD (2 * GC.cnt 4 gs : Nat)]], []⟩ := by
  have hc := circuitOkI_ok gs outs h
  have hl := cnt_le 4 gs
  obtain ⟨h1, h2, h3, h4⟩ := h
  refine okFn (fn := Go.Proofs.Try.f8) [.cell 2 33] 1 11 (by kernel_rfl) (by kernel_rfl) rfl (by kernel_rfl) (by decide) rfl rfl rfl ?_
  simp (config := { maxSteps := 1000000 }) only [push_cast, ↓reduceIte, ↓normL_data, ↓frzL_data, Nat.reduceEqDiff, Nat.reduceLT, reduceCtorEq, Nat.reduceAdd, Nat.reduceMul, Nat.reduceDiv, Nat.reduceMod, Nat.reduceSub, Nat.reduceLeDiff, Nat.reduceBEq, Int.reduceLE, Int.reduceLT, Int.reduceToNat, Int.reduceAdd, Int.reduceSub, Int.reduceMul, Int.reduceEq, Int.reduceBEq, Int.reduceNeg, Int.reduceGT, Int.natCast_pos]
  refine vcall_by true hc ?_
  simp (config := { maxSteps := 1000000 }) only [push_cast, ↓reduceIte, ↓normL_data, ↓frzL_data, Nat.reduceEqDiff, Nat.reduceLT, reduceCtorEq, Nat.reduceAdd, Nat.reduceMul, Nat.reduceDiv, Nat.reduceMod, Nat.reduceSub, Nat.reduceLeDiff, Nat.reduceBEq, Int.reduceLE, Int.reduceLT, Int.reduceToNat, Int.reduceAdd, Int.reduceSub, Int.reduceMul, Int.reduceEq, Int.reduceBEq, Int.reduceNeg, Int.reduceGT, Int.natCast_pos]
  refine vcall_by true (countI_ok gs outs 4 (by omega)) ?_
  have e : IntKind.i64.wrap (2 * (GC.cnt 4 gs : Int)) = ((2 * GC.cnt 4 gs : Nat) : Int) := by rw [w64 _ (by omega) (by omega)]; omega
  simp (config := { maxSteps := 1000000 }) only [push_cast, ↓reduceIte, ↓normL_data, ↓frzL_data, Nat.reduceEqDiff, Nat.reduceLT, reduceCtorEq, Nat.reduceAdd, Nat.reduceMul, Nat.reduceDiv, Nat.reduceMod, Nat.reduceSub, Nat.reduceLeDiff, Nat.reduceBEq, Int.reduceLE, Int.reduceLT, Int.reduceToNat, Int.reduceAdd, Int.reduceSub, Int.reduceMul, Int.reduceEq, Int.reduceBEq, Int.reduceNeg, Int.reduceGT, Int.natCast_pos, e]
set_option maxRecDepth 100000 in
theorem costWithin_ok (a b : Int) (h : a ≤ b) : CallOk Go.Proofs.Try.prog gl0 14 [.ag [iD 2, iD 0, iD 0, iD a], .ag [iD 2, iD 0, iD 0, iD b]] ⟨[.c (bD true)], []⟩ := by
  refine okFn (fn := Go.Proofs.Try.f14) [.tmp 4] 2 31 (by kernel_rfl) (by kernel_rfl) rfl (by kernel_rfl) (by decide) rfl rfl rfl ?_
  simp (config := { maxSteps := 1000000 }) only [push_cast, ↓reduceIte, ↓normL_data, ↓frzL_data, Nat.reduceEqDiff, Nat.reduceLT, reduceCtorEq, Nat.reduceAdd, Nat.reduceMul, Nat.reduceDiv, Nat.reduceMod, Nat.reduceSub, Nat.reduceLeDiff, Nat.reduceBEq, Int.reduceLE, Int.reduceLT, Int.reduceToNat, Int.reduceAdd, Int.reduceSub, Int.reduceMul, Int.reduceEq, Int.reduceBEq, Int.reduceNeg, Int.reduceGT, Int.natCast_pos, h]
theorem regs_ok (xs : List Int) (h : ∀ x ∈ xs, GC.isReg x) (hl : xs.length ≤ 1000) : CallOk Go.Proofs.Try.prog gl0 66 [.c (iS xs)] ⟨[.c (bD true)], []⟩ := by
  refine okFn (fn := Go.Proofs.Try.f66) [.tmp 2] 1 15 (by kernel_rfl) (by kernel_rfl) rfl (by kernel_rfl) (by decide) rfl rfl rfl ?_
  simp (config := { maxSteps := 1000000 }) only [push_cast, ↓reduceIte, ↓normL_data, ↓frzL_data, Nat.reduceEqDiff, Nat.reduceLT, reduceCtorEq, Nat.reduceAdd, Nat.reduceMul, Nat.reduceDiv, Nat.reduceMod, Nat.reduceSub, Nat.reduceLeDiff, Nat.reduceBEq, Int.reduceLE, Int.reduceLT, Int.reduceToNat, Int.reduceAdd, Int.reduceSub, Int.reduceMul, Int.reduceEq, Int.reduceBEq, Int.reduceNeg, Int.reduceGT, Int.natCast_pos]
  refine VC.loop' tab_ok (σ := Fin (xs.length + 1)) (fun k => St.of gl0 [(5, .c (.d (iS xs))), (6, .c (.d (iD xs.length))), (7, .c (.d (iD k.1)))] [] []) (fun k => xs.length - k.1) ⟨0, by omega⟩ (St.le_of ?_) ?_
  · simp (config := { maxSteps := 1000000 }) only [push_cast, ↓reduceIte, ↓normL_data, ↓frzL_data, Nat.reduceEqDiff, Nat.reduceLT, reduceCtorEq, Nat.reduceAdd, Nat.reduceMul, Nat.reduceDiv, Nat.reduceMod, Nat.reduceSub, Nat.reduceLeDiff, Nat.reduceBEq, Int.reduceLE, Int.reduceLT, Int.reduceToNat, Int.reduceAdd, Int.reduceSub, Int.reduceMul, Int.reduceEq, Int.reduceBEq, Int.reduceNeg, Int.reduceGT, Int.natCast_pos]
  · intro k
    obtain ⟨k, hk⟩ := k
    have ek : IntKind.i64.wrap ((k : Int) + 1) = ((k + 1 : Nat) : Int) := by rw [w64 _ (by omega) (by omega)]; omega
    by_cases hj : (k : Int) < (xs.length : Int)
    · have hj' : k < xs.length := by omega
      have hw := h (xs.getD k 0) (by rw [List.getD_eq_getElem?_getD, List.getElem?_eq_getElem hj']; exact List.getElem_mem hj')
      have r1 := iE_get xs k hj'
      obtain ⟨w, hwe⟩ : ∃ w, xs.getD k 0 = w := ⟨_, rfl⟩
      rw [hwe] at hw r1
      simp (config := { maxSteps := 1000000 }) only [push_cast, ↓reduceIte, ↓normL_data, ↓frzL_data, Nat.reduceEqDiff, Nat.reduceLT, reduceCtorEq, Nat.reduceAdd, Nat.reduceMul, Nat.reduceDiv, Nat.reduceMod, Nat.reduceSub, Nat.reduceLeDiff, Nat.reduceBEq, Int.reduceLE, Int.reduceLT, Int.reduceToNat, Int.reduceAdd, Int.reduceSub, Int.reduceMul, Int.reduceEq, Int.reduceBEq, Int.reduceNeg, Int.reduceGT, Int.natCast_pos, hj, hj', r1]
      refine vcall_by false (within_ok w 0 7) ?_
      simp (config := { maxSteps := 1000000 }) only [push_cast, ↓reduceIte, ↓normL_data, ↓frzL_data, Nat.reduceEqDiff, Nat.reduceLT, reduceCtorEq, Nat.reduceAdd, Nat.reduceMul, Nat.reduceDiv, Nat.reduceMod, Nat.reduceSub, Nat.reduceLeDiff, Nat.reduceBEq, Int.reduceLE, Int.reduceLT, Int.reduceToNat, Int.reduceAdd, Int.reduceSub, Int.reduceMul, Int.reduceEq, Int.reduceBEq, Int.reduceNeg, Int.reduceGT, Int.natCast_pos, hw.1, hw.2]
      refine kloop_next ⟨k + 1, by omega⟩ (St.le_of ?_) (by simp only; omega)
      simp (config := { maxSteps := 1000000 }) only [push_cast, ↓reduceIte, ↓normL_data, ↓frzL_data, Nat.reduceEqDiff, Nat.reduceLT, reduceCtorEq, Nat.reduceAdd, Nat.reduceMul, Nat.reduceDiv, Nat.reduceMod, Nat.reduceSub, Nat.reduceLeDiff, Nat.reduceBEq, Int.reduceLE, Int.reduceLT, Int.reduceToNat, Int.reduceAdd, Int.reduceSub, Int.reduceMul, Int.reduceEq, Int.reduceBEq, Int.reduceNeg, Int.reduceGT, Int.natCast_pos, ek]
    · have hkk : k = xs.length := by omega
      subst hkk
      simp (config := { maxSteps := 1000000 }) only [push_cast, ↓reduceIte, ↓normL_data, ↓frzL_data, Nat.reduceEqDiff, Nat.reduceLT, reduceCtorEq, Nat.reduceAdd, Nat.reduceMul, Nat.reduceDiv, Nat.reduceMod, Nat.reduceSub, Nat.reduceLeDiff, Nat.reduceBEq, Int.reduceLE, Int.reduceLT, Int.reduceToNat, Int.reduceAdd, Int.reduceSub, Int.reduceMul, Int.reduceEq, Int.reduceBEq, Int.reduceNeg, Int.reduceGT, Int.natCast_pos, hj]
theorem binary_ok (x : Int) : CallOk Go.Proofs.Try.prog gl0 67 [.c (iD x)] ⟨[.c (bD (decide (3 ≤ x ∧ x ≤ 9)))], []⟩ := by
  refine okFn (fn := Go.Proofs.Try.f67) [.tmp 2] 1 5 (by kernel_rfl) (by kernel_rfl) rfl (by kernel_rfl) (by decide) rfl rfl rfl ?_
  simp (config := { maxSteps := 1000000 }) only [push_cast, ↓reduceIte, ↓normL_data, ↓frzL_data, Nat.reduceEqDiff, Nat.reduceLT, reduceCtorEq, Nat.reduceAdd, Nat.reduceMul, Nat.reduceDiv, Nat.reduceMod, Nat.reduceSub, Nat.reduceLeDiff, Nat.reduceBEq, Int.reduceLE, Int.reduceLT, Int.reduceToNat, Int.reduceAdd, Int.reduceSub, Int.reduceMul, Int.reduceEq, Int.reduceBEq, Int.reduceNeg, Int.reduceGT, Int.natCast_pos]
  refine vcall_by false (within_ok x 3 9) ?_
  simp (config := { maxSteps := 1000000 }) only [push_cast, ↓reduceIte, ↓normL_data, ↓frzL_data, Nat.reduceEqDiff, Nat.reduceLT, reduceCtorEq, Nat.reduceAdd, Nat.reduceMul, Nat.reduceDiv, Nat.reduceMod, Nat.reduceSub, Nat.reduceLeDiff, Nat.reduceBEq, Int.reduceLE, Int.reduceLT, Int.reduceToNat, Int.reduceAdd, Int.reduceSub, Int.reduceMul, Int.reduceEq, Int.reduceBEq, Int.reduceNeg, Int.reduceGT, Int.natCast_pos]
end GV

set_option linter.unusedSimpArgs false
set_option linter.unusedVariables false
set_option maxHeartbeats 4000000
namespace GV
open Go
set_option maxRecDepth 100000 in
theorem stmtOkI_ok (s : GC.St) (h : GC.plain s) : CallOk Go.Proofs.Try.prog gl0 39 [.ag (sE s)] ⟨[.c (bD true)], []⟩ := by
  obtain ⟨op, dst, a, b, c, n⟩ := s
  obtain ⟨hs, ho⟩ := h
  have h1 := (okSt_b hs).2.2.2.2
  unfold GC.okSt at hs
  simp only at hs ho h1
  refine okFn (fn := Go.Proofs.Try.f39) [.tmp 2] 1 138 (by kernel_rfl) (by kernel_rfl) rfl (by kernel_rfl) (by decide) rfl rfl rfl ?_
  by_cases c1 : op = 1
  · subst c1
    simp only [if_true] at hs
    obtain ⟨r1, rfl, rfl, rfl, n0, n1⟩ := hs
    simp (config := { maxSteps := 1000000 }) only [push_cast, ↓reduceIte, ↓normL_data, ↓frzL_data, Nat.reduceEqDiff, Nat.reduceLT, reduceCtorEq, Nat.reduceAdd, Nat.reduceMul, Nat.reduceDiv, Nat.reduceMod, Nat.reduceSub, Nat.reduceLeDiff, Nat.reduceBEq, Int.reduceLE, Int.reduceLT, Int.reduceToNat, Int.reduceAdd, Int.reduceSub, Int.reduceMul, Int.reduceEq, Int.reduceBEq, Int.reduceNeg, Int.reduceGT, Int.natCast_pos, sE, List.map_cons, List.map_nil]
    refine vcall_by true (regs_ok [dst] (by simpa using r1) (by simp)) ?_
    simp (config := { maxSteps := 1000000 }) only [push_cast, ↓reduceIte, ↓normL_data, ↓frzL_data, Nat.reduceEqDiff, Nat.reduceLT, reduceCtorEq, Nat.reduceAdd, Nat.reduceMul, Nat.reduceDiv, Nat.reduceMod, Nat.reduceSub, Nat.reduceLeDiff, Nat.reduceBEq, Int.reduceLE, Int.reduceLT, Int.reduceToNat, Int.reduceAdd, Int.reduceSub, Int.reduceMul, Int.reduceEq, Int.reduceBEq, Int.reduceNeg, Int.reduceGT, Int.natCast_pos]
    refine vcall_by false (within_ok n 0 15) ?_
    simp (config := { maxSteps := 1000000 }) only [push_cast, ↓reduceIte, ↓normL_data, ↓frzL_data, Nat.reduceEqDiff, Nat.reduceLT, reduceCtorEq, Nat.reduceAdd, Nat.reduceMul, Nat.reduceDiv, Nat.reduceMod, Nat.reduceSub, Nat.reduceLeDiff, Nat.reduceBEq, Int.reduceLE, Int.reduceLT, Int.reduceToNat, Int.reduceAdd, Int.reduceSub, Int.reduceMul, Int.reduceEq, Int.reduceBEq, Int.reduceNeg, Int.reduceGT, Int.natCast_pos, n0, n1]
  by_cases c2 : op = 2
  · subst c2
    simp only [Int.reduceEq, if_false, if_true] at hs
    obtain ⟨r1, a0, a1, rfl, rfl, n0, n1⟩ := hs
    simp (config := { maxSteps := 1000000 }) only [push_cast, ↓reduceIte, ↓normL_data, ↓frzL_data, Nat.reduceEqDiff, Nat.reduceLT, reduceCtorEq, Nat.reduceAdd, Nat.reduceMul, Nat.reduceDiv, Nat.reduceMod, Nat.reduceSub, Nat.reduceLeDiff, Nat.reduceBEq, Int.reduceLE, Int.reduceLT, Int.reduceToNat, Int.reduceAdd, Int.reduceSub, Int.reduceMul, Int.reduceEq, Int.reduceBEq, Int.reduceNeg, Int.reduceGT, Int.natCast_pos, sE, List.map_cons, List.map_nil]
    refine vcall_by true (regs_ok [dst] (by simpa using r1) (by simp)) ?_
    simp (config := { maxSteps := 1000000 }) only [push_cast, ↓reduceIte, ↓normL_data, ↓frzL_data, Nat.reduceEqDiff, Nat.reduceLT, reduceCtorEq, Nat.reduceAdd, Nat.reduceMul, Nat.reduceDiv, Nat.reduceMod, Nat.reduceSub, Nat.reduceLeDiff, Nat.reduceBEq, Int.reduceLE, Int.reduceLT, Int.reduceToNat, Int.reduceAdd, Int.reduceSub, Int.reduceMul, Int.reduceEq, Int.reduceBEq, Int.reduceNeg, Int.reduceGT, Int.natCast_pos]
    refine vcall_by false (within_ok a 0 4) ?_
    simp (config := { maxSteps := 1000000 }) only [push_cast, ↓reduceIte, ↓normL_data, ↓frzL_data, Nat.reduceEqDiff, Nat.reduceLT, reduceCtorEq, Nat.reduceAdd, Nat.reduceMul, Nat.reduceDiv, Nat.reduceMod, Nat.reduceSub, Nat.reduceLeDiff, Nat.reduceBEq, Int.reduceLE, Int.reduceLT, Int.reduceToNat, Int.reduceAdd, Int.reduceSub, Int.reduceMul, Int.reduceEq, Int.reduceBEq, Int.reduceNeg, Int.reduceGT, Int.natCast_pos, a0, a1]
    refine vcall_by false (within_ok n 0 3) ?_
    simp (config := { maxSteps := 1000000 }) only [push_cast, ↓reduceIte, ↓normL_data, ↓frzL_data, Nat.reduceEqDiff, Nat.reduceLT, reduceCtorEq, Nat.reduceAdd, Nat.reduceMul, Nat.reduceDiv, Nat.reduceMod, Nat.reduceSub, Nat.reduceLeDiff, Nat.reduceBEq, Int.reduceLE, Int.reduceLT, Int.reduceToNat, Int.reduceAdd, Int.reduceSub, Int.reduceMul, Int.reduceEq, Int.reduceBEq, Int.reduceNeg, Int.reduceGT, Int.natCast_pos, n0, n1]
  rw [if_neg c1, if_neg c2] at hs
  by_cases c3 : 3 ≤ op ∧ op ≤ 9
  · rw [if_pos c3] at hs
    obtain ⟨r1, r2, r3, rfl, rfl⟩ := hs
    have e1 : (op == 1) = false := by simp [c1]
    have e2 : (op == 2) = false := by simp [c2]
    simp (config := { maxSteps := 1000000 }) only [push_cast, ↓reduceIte, ↓normL_data, ↓frzL_data, Nat.reduceEqDiff, Nat.reduceLT, reduceCtorEq, Nat.reduceAdd, Nat.reduceMul, Nat.reduceDiv, Nat.reduceMod, Nat.reduceSub, Nat.reduceLeDiff, Nat.reduceBEq, Int.reduceLE, Int.reduceLT, Int.reduceToNat, Int.reduceAdd, Int.reduceSub, Int.reduceMul, Int.reduceEq, Int.reduceBEq, Int.reduceNeg, Int.reduceGT, Int.natCast_pos, sE, List.map_cons, List.map_nil, e1, e2]
    refine vcall_by false (binary_ok op) ?_
    simp (config := { maxSteps := 1000000 }) only [push_cast, ↓reduceIte, ↓normL_data, ↓frzL_data, Nat.reduceEqDiff, Nat.reduceLT, reduceCtorEq, Nat.reduceAdd, Nat.reduceMul, Nat.reduceDiv, Nat.reduceMod, Nat.reduceSub, Nat.reduceLeDiff, Nat.reduceBEq, Int.reduceLE, Int.reduceLT, Int.reduceToNat, Int.reduceAdd, Int.reduceSub, Int.reduceMul, Int.reduceEq, Int.reduceBEq, Int.reduceNeg, Int.reduceGT, Int.natCast_pos, c3, List.map_cons, List.map_nil]
    refine vcall_by true (regs_ok [dst, a, b] (by simpa using ⟨r1, r2, r3⟩) (by simp)) ?_
    simp (config := { maxSteps := 1000000 }) only [push_cast, ↓reduceIte, ↓normL_data, ↓frzL_data, Nat.reduceEqDiff, Nat.reduceLT, reduceCtorEq, Nat.reduceAdd, Nat.reduceMul, Nat.reduceDiv, Nat.reduceMod, Nat.reduceSub, Nat.reduceLeDiff, Nat.reduceBEq, Int.reduceLE, Int.reduceLT, Int.reduceToNat, Int.reduceAdd, Int.reduceSub, Int.reduceMul, Int.reduceEq, Int.reduceBEq, Int.reduceNeg, Int.reduceGT, Int.natCast_pos]
  · rw [if_neg c3] at hs
    have hb := binary_ok op
    by_cases c10 : op = 10
    · subst c10
      simp only [if_true] at hs
      obtain ⟨r1, r2, r3, r4, rfl⟩ := hs
      simp (config := { maxSteps := 1000000 }) only [push_cast, ↓reduceIte, ↓normL_data, ↓frzL_data, Nat.reduceEqDiff, Nat.reduceLT, reduceCtorEq, Nat.reduceAdd, Nat.reduceMul, Nat.reduceDiv, Nat.reduceMod, Nat.reduceSub, Nat.reduceLeDiff, Nat.reduceBEq, Int.reduceLE, Int.reduceLT, Int.reduceToNat, Int.reduceAdd, Int.reduceSub, Int.reduceMul, Int.reduceEq, Int.reduceBEq, Int.reduceNeg, Int.reduceGT, Int.natCast_pos, sE, List.map_cons, List.map_nil]
      refine vcall_by false hb ?_
      simp (config := { maxSteps := 1000000 }) only [push_cast, ↓reduceIte, ↓normL_data, ↓frzL_data, Nat.reduceEqDiff, Nat.reduceLT, reduceCtorEq, Nat.reduceAdd, Nat.reduceMul, Nat.reduceDiv, Nat.reduceMod, Nat.reduceSub, Nat.reduceLeDiff, Nat.reduceBEq, Int.reduceLE, Int.reduceLT, Int.reduceToNat, Int.reduceAdd, Int.reduceSub, Int.reduceMul, Int.reduceEq, Int.reduceBEq, Int.reduceNeg, Int.reduceGT, Int.natCast_pos, c3, List.map_cons, List.map_nil]
      refine vcall_by true (regs_ok [dst, a, b, c] (by simpa using ⟨r1, r2, r3, r4⟩) (by simp)) ?_
      simp (config := { maxSteps := 1000000 }) only [push_cast, ↓reduceIte, ↓normL_data, ↓frzL_data, Nat.reduceEqDiff, Nat.reduceLT, reduceCtorEq, Nat.reduceAdd, Nat.reduceMul, Nat.reduceDiv, Nat.reduceMod, Nat.reduceSub, Nat.reduceLeDiff, Nat.reduceBEq, Int.reduceLE, Int.reduceLT, Int.reduceToNat, Int.reduceAdd, Int.reduceSub, Int.reduceMul, Int.reduceEq, Int.reduceBEq, Int.reduceNeg, Int.reduceGT, Int.natCast_pos]
    · have c11 : op = 11 := by omega
      subst c11
      simp only [Int.reduceEq, if_false, if_true] at hs
      obtain ⟨rfl, r2, rfl, rfl, rfl⟩ := hs
      simp (config := { maxSteps := 1000000 }) only [push_cast, ↓reduceIte, ↓normL_data, ↓frzL_data, Nat.reduceEqDiff, Nat.reduceLT, reduceCtorEq, Nat.reduceAdd, Nat.reduceMul, Nat.reduceDiv, Nat.reduceMod, Nat.reduceSub, Nat.reduceLeDiff, Nat.reduceBEq, Int.reduceLE, Int.reduceLT, Int.reduceToNat, Int.reduceAdd, Int.reduceSub, Int.reduceMul, Int.reduceEq, Int.reduceBEq, Int.reduceNeg, Int.reduceGT, Int.natCast_pos, sE, List.map_cons, List.map_nil]
      refine vcall_by false hb ?_
      simp (config := { maxSteps := 1000000 }) only [push_cast, ↓reduceIte, ↓normL_data, ↓frzL_data, Nat.reduceEqDiff, Nat.reduceLT, reduceCtorEq, Nat.reduceAdd, Nat.reduceMul, Nat.reduceDiv, Nat.reduceMod, Nat.reduceSub, Nat.reduceLeDiff, Nat.reduceBEq, Int.reduceLE, Int.reduceLT, Int.reduceToNat, Int.reduceAdd, Int.reduceSub, Int.reduceMul, Int.reduceEq, Int.reduceBEq, Int.reduceNeg, Int.reduceGT, Int.natCast_pos, c3, List.map_cons, List.map_nil]
      refine vcall_by true (regs_ok [a] (by simpa using r2) (by simp)) ?_
      simp (config := { maxSteps := 1000000 }) only [push_cast, ↓reduceIte, ↓normL_data, ↓frzL_data, Nat.reduceEqDiff, Nat.reduceLT, reduceCtorEq, Nat.reduceAdd, Nat.reduceMul, Nat.reduceDiv, Nat.reduceMod, Nat.reduceSub, Nat.reduceLeDiff, Nat.reduceBEq, Int.reduceLE, Int.reduceLT, Int.reduceToNat, Int.reduceAdd, Int.reduceSub, Int.reduceMul, Int.reduceEq, Int.reduceBEq, Int.reduceNeg, Int.reduceGT, Int.natCast_pos]
set_option maxRecDepth 100000 in
theorem andsOf_ok (s : GC.St) (h : GC.plain s) : CallOk Go.Proofs.Try.prog gl0 12 [.ag (sE s)] ⟨[.c (iD (GC.andsOf s))], []⟩ := by
  have hk := stmtOkI_ok s h
  obtain ⟨op, dst, a, b, c, n⟩ := s
  have h1 := (okSt_b h.1).2.2.2.2
  have ho := h.2
  simp only at h1 ho
  refine okFn (fn := Go.Proofs.Try.f12) [.tmp 2] 1 18 (by kernel_rfl) (by kernel_rfl) rfl (by kernel_rfl) (by decide) rfl rfl rfl ?_
  simp (config := { maxSteps := 1000000 }) only [push_cast, ↓reduceIte, ↓normL_data, ↓frzL_data, Nat.reduceEqDiff, Nat.reduceLT, reduceCtorEq, Nat.reduceAdd, Nat.reduceMul, Nat.reduceDiv, Nat.reduceMod, Nat.reduceSub, Nat.reduceLeDiff, Nat.reduceBEq, Int.reduceLE, Int.reduceLT, Int.reduceToNat, Int.reduceAdd, Int.reduceSub, Int.reduceMul, Int.reduceEq, Int.reduceBEq, Int.reduceNeg, Int.reduceGT, Int.natCast_pos, sE]
  refine vcall_by false hk ?_
  have hx : op = 1 ∨ op = 2 ∨ op = 3 ∨ op = 4 ∨ op = 5 ∨ op = 6 ∨ op = 7 ∨ op = 8 ∨ op = 9 ∨ op = 10 ∨ op = 11 := by omega
  unfold GC.andsOf
  rcases hx with rfl | rfl | rfl | rfl | rfl | rfl | rfl | rfl | rfl | rfl | rfl
  all_goals simp (config := { maxSteps := 1000000 }) only [push_cast, ↓reduceIte, ↓normL_data, ↓frzL_data, Nat.reduceEqDiff, Nat.reduceLT, reduceCtorEq, Nat.reduceAdd, Nat.reduceMul, Nat.reduceDiv, Nat.reduceMod, Nat.reduceSub, Nat.reduceLeDiff, Nat.reduceBEq, Int.reduceLE, Int.reduceLT, Int.reduceToNat, Int.reduceAdd, Int.reduceSub, Int.reduceMul, Int.reduceEq, Int.reduceBEq, Int.reduceNeg, Int.reduceGT, Int.natCast_pos, sE, or_false, false_or, or_self]
  all_goals rfl
theorem compileN_ok (l : List GC.St) (hl : l.length ≤ 1000000000) (h : ¬ (GC.okP l ∧ (GC.unrollM l).length ≤ 120)) : CallOk Go.Proofs.Try.prog gl0 13 [.c (ssS l)]
    ⟨[.ra [.r (gsR []), .r (iR [])], .c (bD false)], []⟩ := by
  refine okFn (fn := Go.Proofs.Try.f13) [.cell 2 27, .tmp 3] 1 71 (by kernel_rfl) (by kernel_rfl) rfl (by kernel_rfl) (by decide) rfl rfl rfl ?_
  simp (config := { maxSteps := 1000000 }) only [push_cast, ↓reduceIte, ↓normL_data, ↓frzL_data, Nat.reduceEqDiff, Nat.reduceLT, reduceCtorEq, Nat.reduceAdd, Nat.reduceMul, Nat.reduceDiv, Nat.reduceMod, Nat.reduceSub, Nat.reduceLeDiff, Nat.reduceBEq, Int.reduceLE, Int.reduceLT, Int.reduceToNat, Int.reduceAdd, Int.reduceSub, Int.reduceMul, Int.reduceEq, Int.reduceBEq, Int.reduceNeg, Int.reduceGT, Int.natCast_pos]
  refine vcall_by false (unroll_ok l hl) ?_
  simp (config := { maxSteps := 1000000 }) only [push_cast, ↓reduceIte, ↓normL_data, ↓frzL_data, Nat.reduceEqDiff, Nat.reduceLT, reduceCtorEq, Nat.reduceAdd, Nat.reduceMul, Nat.reduceDiv, Nat.reduceMod, Nat.reduceSub, Nat.reduceLeDiff, Nat.reduceBEq, Int.reduceLE, Int.reduceLT, Int.reduceToNat, Int.reduceAdd, Int.reduceSub, Int.reduceMul, Int.reduceEq, Int.reduceBEq, Int.reduceNeg, Int.reduceGT, Int.natCast_pos, h]
theorem big_ok (b : List UInt8) (h : b.length ≤ 9223372036854775807) : CallOk Go.Proofs.Try.prog gl0 6 [.c (bS b)] ⟨[.c (bD (decide (1048576 < b.length)))], []⟩ := by
  refine okFn (fn := Go.Proofs.Try.f6) [.tmp 2] 1 6 (by kernel_rfl) (by kernel_rfl) rfl (by kernel_rfl) (by decide) rfl rfl rfl ?_
  by_cases c : 1048576 < b.length
  · have c' : (1048576 : Int) < (b.length : Int) := by omega
    simp (config := { maxSteps := 1000000 }) only [push_cast, ↓reduceIte, ↓normL_data, ↓frzL_data, Nat.reduceEqDiff, Nat.reduceLT, reduceCtorEq, Nat.reduceAdd, Nat.reduceMul, Nat.reduceDiv, Nat.reduceMod, Nat.reduceSub, Nat.reduceLeDiff, Nat.reduceBEq, Int.reduceLE, Int.reduceLT, Int.reduceToNat, Int.reduceAdd, Int.reduceSub, Int.reduceMul, Int.reduceEq, Int.reduceBEq, Int.reduceNeg, Int.reduceGT, Int.natCast_pos, c, c']
  · have c' : ¬ (1048576 : Int) < (b.length : Int) := by omega
    simp (config := { maxSteps := 1000000 }) only [push_cast, ↓reduceIte, ↓normL_data, ↓frzL_data, Nat.reduceEqDiff, Nat.reduceLT, reduceCtorEq, Nat.reduceAdd, Nat.reduceMul, Nat.reduceDiv, Nat.reduceMod, Nat.reduceSub, Nat.reduceLeDiff, Nat.reduceBEq, Int.reduceLE, Int.reduceLT, Int.reduceToNat, Int.reduceAdd, Int.reduceSub, Int.reduceMul, Int.reduceEq, Int.reduceBEq, Int.reduceNeg, Int.reduceGT, Int.natCast_pos, c, c']
end GV

set_option linter.unusedSimpArgs false
set_option linter.unusedVariables false
set_option maxHeartbeats 4000000
namespace GV
open Go
theorem okC_of {gs : List GC.Gt} {outs : List Int} (h : cirOk gs outs) : okC gs outs := ⟨h.1, h.2.2.1, by have := h.2.1; omega, by have := h.2.2.2; omega⟩
theorem sum_snoc {L : List GC.St} {k : Nat} (h : k < L.length) : ((L.take (k + 1)).map GC.andsOf).sum = ((L.take k).map GC.andsOf).sum + GC.andsOf (L.getD k dS) := by
  rw [take_snoc h]; simp
theorem ands_le (s : GC.St) : GC.andsOf s ≤ 13 := by
  unfold GC.andsOf
  repeat' split
  all_goals omega
theorem sum_le : ∀ (L : List GC.St), (L.map GC.andsOf).sum ≤ 13 * L.length
  | [] => by simp
  | s :: L => by have := sum_le L; have := ands_le s; simp; omega
theorem unroll_plain {l : List GC.St} (h : GC.okP l) : ∀ s ∈ GC.unrollM l, GC.plain s := by
  obtain ⟨f, e1, e2⟩ := GC.okP_tree h
  rw [GC.unroll_eq h e1 e2]
  exact GC.unT_plain e2
set_option maxRecDepth 100000 in
theorem fnGarblingCosts_ok (b : List UInt8) (h : b.length ≤ 9223372036854775807) : CallOk Go.Proofs.Try.prog gl0 3 [.c (bS b)] ⟨[.c (bD true)], []⟩ := by
  refine okFn (fn := Go.Proofs.Try.f3) [.tmp 2] 1 80 (by kernel_rfl) (by kernel_rfl) rfl (by kernel_rfl) (by decide) rfl rfl rfl ?_
  simp (config := { maxSteps := 1000000 }) only [push_cast, ↓reduceIte, ↓normL_data, ↓frzL_data, Nat.reduceEqDiff, Nat.reduceLT, reduceCtorEq, Nat.reduceAdd, Nat.reduceMul, Nat.reduceDiv, Nat.reduceMod, Nat.reduceSub, Nat.reduceLeDiff, Nat.reduceBEq, Int.reduceLE, Int.reduceLT, Int.reduceToNat, Int.reduceAdd, Int.reduceSub, Int.reduceMul, Int.reduceEq, Int.reduceBEq, Int.reduceNeg, Int.reduceGT, Int.natCast_pos]
  refine vcall_by false (big_ok b h) ?_
  by_cases hb : 1048576 < b.length
  · simp (config := { maxSteps := 1000000 }) only [push_cast, ↓reduceIte, ↓normL_data, ↓frzL_data, Nat.reduceEqDiff, Nat.reduceLT, reduceCtorEq, Nat.reduceAdd, Nat.reduceMul, Nat.reduceDiv, Nat.reduceMod, Nat.reduceSub, Nat.reduceLeDiff, Nat.reduceBEq, Int.reduceLE, Int.reduceLT, Int.reduceToNat, Int.reduceAdd, Int.reduceSub, Int.reduceMul, Int.reduceEq, Int.reduceBEq, Int.reduceNeg, Int.reduceGT, Int.natCast_pos, hb]
  · simp (config := { maxSteps := 1000000 }) only [push_cast, ↓reduceIte, ↓normL_data, ↓frzL_data, Nat.reduceEqDiff, Nat.reduceLT, reduceCtorEq, Nat.reduceAdd, Nat.reduceMul, Nat.reduceDiv, Nat.reduceMod, Nat.reduceSub, Nat.reduceLeDiff, Nat.reduceBEq, Int.reduceLE, Int.reduceLT, Int.reduceToNat, Int.reduceAdd, Int.reduceSub, Int.reduceMul, Int.reduceEq, Int.reduceBEq, Int.reduceNeg, Int.reduceGT, Int.natCast_pos, hb]
    refine vcall_p false (drawGarbling_ok b (by omega)) (by simp (config := { maxSteps := 1000000 }) only [push_cast, ↓reduceIte, ↓normL_data, ↓frzL_data, Nat.reduceEqDiff, Nat.reduceLT, reduceCtorEq, Nat.reduceAdd, Nat.reduceMul, Nat.reduceDiv, Nat.reduceMod, Nat.reduceSub, Nat.reduceLeDiff, Nat.reduceBEq, Int.reduceLE, Int.reduceLT, Int.reduceToNat, Int.reduceAdd, Int.reduceSub, Int.reduceMul, Int.reduceEq, Int.reduceBEq, Int.reduceNeg, Int.reduceGT, Int.natCast_pos]) ?_
    rintro _ ⟨gs, outs, l, s, p, q1, q2, q3, q4, rfl⟩
    simp (config := { maxSteps := 1000000 }) only [push_cast, ↓reduceIte, ↓normL_data, ↓frzL_data, Nat.reduceEqDiff, Nat.reduceLT, reduceCtorEq, Nat.reduceAdd, Nat.reduceMul, Nat.reduceDiv, Nat.reduceMod, Nat.reduceSub, Nat.reduceLeDiff, Nat.reduceBEq, Int.reduceLE, Int.reduceLT, Int.reduceToNat, Int.reduceAdd, Int.reduceSub, Int.reduceMul, Int.reduceEq, Int.reduceBEq, Int.reduceNeg, Int.reduceGT, Int.natCast_pos]
    have hC := okC_of q1
    refine vcall_by false (garbledCost_ok gs outs hC) ?_
    simp (config := { maxSteps := 1000000 }) only [push_cast, ↓reduceIte, ↓normL_data, ↓frzL_data, Nat.reduceEqDiff, Nat.reduceLT, reduceCtorEq, Nat.reduceAdd, Nat.reduceMul, Nat.reduceDiv, Nat.reduceMod, Nat.reduceSub, Nat.reduceLeDiff, Nat.reduceBEq, Int.reduceLE, Int.reduceLT, Int.reduceToNat, Int.reduceAdd, Int.reduceSub, Int.reduceMul, Int.reduceEq, Int.reduceBEq, Int.reduceNeg, Int.reduceGT, Int.natCast_pos]
    refine vcall_by false (garble_ok gs outs s p hC q2 q3 (by omega)) ?_
    simp (config := { maxSteps := 1000000 }) only [push_cast, ↓reduceIte, ↓normL_data, ↓frzL_data, Nat.reduceEqDiff, Nat.reduceLT, reduceCtorEq, Nat.reduceAdd, Nat.reduceMul, Nat.reduceDiv, Nat.reduceMod, Nat.reduceSub, Nat.reduceLeDiff, Nat.reduceBEq, Int.reduceLE, Int.reduceLT, Int.reduceToNat, Int.reduceAdd, Int.reduceSub, Int.reduceMul, Int.reduceEq, Int.reduceBEq, Int.reduceNeg, Int.reduceGT, Int.natCast_pos, garbE]
    refine vcall_p false (drawProgram_ok b (by omega)) (by simp (config := { maxSteps := 1000000 }) only [push_cast, ↓reduceIte, ↓normL_data, ↓frzL_data, Nat.reduceEqDiff, Nat.reduceLT, reduceCtorEq, Nat.reduceAdd, Nat.reduceMul, Nat.reduceDiv, Nat.reduceMod, Nat.reduceSub, Nat.reduceLeDiff, Nat.reduceBEq, Int.reduceLE, Int.reduceLT, Int.reduceToNat, Int.reduceAdd, Int.reduceSub, Int.reduceMul, Int.reduceEq, Int.reduceBEq, Int.reduceNeg, Int.reduceGT, Int.natCast_pos]) ?_
    rintro _ ⟨P, hP, rfl⟩
    simp (config := { maxSteps := 1000000 }) only [push_cast, ↓reduceIte, ↓normL_data, ↓frzL_data, Nat.reduceEqDiff, Nat.reduceLT, reduceCtorEq, Nat.reduceAdd, Nat.reduceMul, Nat.reduceDiv, Nat.reduceMod, Nat.reduceSub, Nat.reduceLeDiff, Nat.reduceBEq, Int.reduceLE, Int.reduceLT, Int.reduceToNat, Int.reduceAdd, Int.reduceSub, Int.reduceMul, Int.reduceEq, Int.reduceBEq, Int.reduceNeg, Int.reduceGT, Int.natCast_pos]
    refine vcall_by false (unroll_ok P (by omega)) ?_
    obtain ⟨L, hL⟩ : ∃ L, (if GC.okP P ∧ (GC.unrollM P).length ≤ 120 then GC.unrollM P else []) = L := ⟨_, rfl⟩
    simp (config := { maxSteps := 1000000 }) only [push_cast, ↓reduceIte, ↓normL_data, ↓frzL_data, Nat.reduceEqDiff, Nat.reduceLT, reduceCtorEq, Nat.reduceAdd, Nat.reduceMul, Nat.reduceDiv, Nat.reduceMod, Nat.reduceSub, Nat.reduceLeDiff, Nat.reduceBEq, Int.reduceLE, Int.reduceLT, Int.reduceToNat, Int.reduceAdd, Int.reduceSub, Int.reduceMul, Int.reduceEq, Int.reduceBEq, Int.reduceNeg, Int.reduceGT, Int.natCast_pos, hL]
    have hLp : ∀ s ∈ L, GC.plain s := by
      rw [← hL]; split
      · rename_i e; exact unroll_plain e.1
      · intro s hs; cases hs
    have hLl : L.length ≤ 120 := by
      rw [← hL]; split
      · rename_i e; exact e.2
      · simp
    refine VC.loop' tab_ok (σ := Fin (L.length + 1)) (fun k => St.of gl0 [(3, .c (.ptr 3 0)), (6, .c (.ptr 6 0)), (7, .c (.ptr 7 0)), (9, .c (.d (ssS P))), (10, .c (.d (ssS L))), (11, .c (.d (bD (decide (GC.okP P ∧ (GC.unrollM P).length ≤ 120))))), (12, .c (.d (iD ((L.take k.1).map GC.andsOf).sum))), (13, .c (.d (iD k.1)))]
      [] [(3, [.d (gsS gs), .d (iS outs)]), (6, [.d (iD 2), .d (iD 0), .d (iD 0), .d (iD (2 * GC.cnt 4 gs : Nat))]), (7, [.d (iD (GC.deltaM ⟨s, p⟩)), .d (iS (GC.garbM gs ⟨s, p⟩).z), .d (iS (GC.garbM gs ⟨s, p⟩).tb)])]) (fun k => L.length - k.1) ⟨0, by omega⟩ (St.le_of ?_) ?_
    · simp (config := { maxSteps := 1000000 }) only [push_cast, ↓reduceIte, ↓normL_data, ↓frzL_data, Nat.reduceEqDiff, Nat.reduceLT, reduceCtorEq, Nat.reduceAdd, Nat.reduceMul, Nat.reduceDiv, Nat.reduceMod, Nat.reduceSub, Nat.reduceLeDiff, Nat.reduceBEq, Int.reduceLE, Int.reduceLT, Int.reduceToNat, Int.reduceAdd, Int.reduceSub, Int.reduceMul, Int.reduceEq, Int.reduceBEq, Int.reduceNeg, Int.reduceGT, Int.natCast_pos, List.take_zero, List.map_nil, List.sum_nil, Int.natCast_zero]
    · intro k
      obtain ⟨k, hk⟩ := k
      have ek : IntKind.i64.wrap ((k : Int) + 1) = ((k + 1 : Nat) : Int) := by rw [w64 _ (by omega) (by omega)]; omega
      by_cases hi : (k : Int) < (L.length : Int)
      · have hi' : k < L.length := by omega
        obtain ⟨s', hs'⟩ : ∃ s, L.getD k dS = s := ⟨_, rfl⟩
        have hps : GC.plain s' := hLp s' (by rw [← hs', List.getD_eq_getElem?_getD, List.getElem?_eq_getElem hi']; exact List.getElem_mem hi')
        have hss := sum_snoc hi'
        rw [hs'] at hss
        have hle := sum_le (L.take k)
        have hla := ands_le s'
        have lt : (L.take k).length ≤ 120 := by rw [List.length_take]; omega
        have sg := ss_get L k _ hi' hs'
        obtain ⟨n, hn⟩ : ∃ n, ((L.take k).map GC.andsOf).sum = n := ⟨_, rfl⟩
        rw [hn] at hss hle
        have en : IntKind.i64.wrap ((n : Int) + (GC.andsOf s' : Int)) = ((n + GC.andsOf s' : Nat) : Int) := by rw [w64 _ (by omega) (by omega)]; omega
        have hao := andsOf_ok s' hps
        obtain ⟨m, hm⟩ : ∃ m, GC.andsOf s' = m := ⟨_, rfl⟩
        rw [hm] at hss en hao
        obtain ⟨op, dst, a, b', c', n'⟩ := s'
        simp (config := { maxSteps := 1000000 }) only [push_cast, ↓reduceIte, ↓normL_data, ↓frzL_data, Nat.reduceEqDiff, Nat.reduceLT, reduceCtorEq, Nat.reduceAdd, Nat.reduceMul, Nat.reduceDiv, Nat.reduceMod, Nat.reduceSub, Nat.reduceLeDiff, Nat.reduceBEq, Int.reduceLE, Int.reduceLT, Int.reduceToNat, Int.reduceAdd, Int.reduceSub, Int.reduceMul, Int.reduceEq, Int.reduceBEq, Int.reduceNeg, Int.reduceGT, Int.natCast_pos, hi, hi', sg, sE, hn]
        refine vcall_by false hao ?_
        simp (config := { maxSteps := 1000000 }) only [push_cast, ↓reduceIte, ↓normL_data, ↓frzL_data, Nat.reduceEqDiff, Nat.reduceLT, reduceCtorEq, Nat.reduceAdd, Nat.reduceMul, Nat.reduceDiv, Nat.reduceMod, Nat.reduceSub, Nat.reduceLeDiff, Nat.reduceBEq, Int.reduceLE, Int.reduceLT, Int.reduceToNat, Int.reduceAdd, Int.reduceSub, Int.reduceMul, Int.reduceEq, Int.reduceBEq, Int.reduceNeg, Int.reduceGT, Int.natCast_pos, sE]
        refine kloop_next ⟨k + 1, by omega⟩ (St.le_of ?_) (by simp only; omega)
        simp (config := { maxSteps := 1000000 }) only [push_cast, ↓reduceIte, ↓normL_data, ↓frzL_data, Nat.reduceEqDiff, Nat.reduceLT, reduceCtorEq, Nat.reduceAdd, Nat.reduceMul, Nat.reduceDiv, Nat.reduceMod, Nat.reduceSub, Nat.reduceLeDiff, Nat.reduceBEq, Int.reduceLE, Int.reduceLT, Int.reduceToNat, Int.reduceAdd, Int.reduceSub, Int.reduceMul, Int.reduceEq, Int.reduceBEq, Int.reduceNeg, Int.reduceGT, Int.natCast_pos, ek, en, hss]
      · have hkk : k = L.length := by omega
        subst hkk
        simp (config := { maxSteps := 1000000 }) only [push_cast, ↓reduceIte, ↓normL_data, ↓frzL_data, Nat.reduceEqDiff, Nat.reduceLT, reduceCtorEq, Nat.reduceAdd, Nat.reduceMul, Nat.reduceDiv, Nat.reduceMod, Nat.reduceSub, Nat.reduceLeDiff, Nat.reduceBEq, Int.reduceLE, Int.reduceLT, Int.reduceToNat, Int.reduceAdd, Int.reduceSub, Int.reduceMul, Int.reduceEq, Int.reduceBEq, Int.reduceNeg, Int.reduceGT, Int.natCast_pos, hi, List.take_length]
        have htb := GC.garbM_tb gs ⟨s, p⟩
        have hO : okC (GC.optM gs outs).1 (GC.optM gs outs).2 := okC_prune (okC_simp hC)
        have hle : ((2 * GC.cnt 4 (GC.optM gs outs).1 : Nat) : Int) ≤ ((2 * GC.cnt 4 gs : Nat) : Int) := by
          have := (GC.opt_opt (fun _ => false) hC.1 hC.2.1).ands
          omega
        by_cases hP' : GC.okP P ∧ (GC.unrollM P).length ≤ 120
        · rw [if_pos hP'] at hL
          have hcf := compileL_facts hLp
          have hco := compileL_outs L hLp
          have hcc := compile_ok P (by omega) hP'.1 hP'.2 (unroll_plain hP'.1)
          rw [hL] at hcc
          obtain ⟨_, hl34, _, _, _, hand⟩ := hcf
          have hand' : (GC.cnt 4 (GC.compileL L).gs : Int) ≤ (((L.map GC.andsOf).sum : Nat) : Int) := by omega
          refine vcall_by false hcc ?_
          simp (config := { maxSteps := 1000000 }) only [push_cast, ↓reduceIte, ↓normL_data, ↓frzL_data, Nat.reduceEqDiff, Nat.reduceLT, reduceCtorEq, Nat.reduceAdd, Nat.reduceMul, Nat.reduceDiv, Nat.reduceMod, Nat.reduceSub, Nat.reduceLeDiff, Nat.reduceBEq, Int.reduceLE, Int.reduceLT, Int.reduceToNat, Int.reduceAdd, Int.reduceSub, Int.reduceMul, Int.reduceEq, Int.reduceBEq, Int.reduceNeg, Int.reduceGT, Int.natCast_pos, hP', and_self]
          refine VD.plan tab_ok (by kernel_rfl) [8, 9, 11, 18] (.takes [0, 1, 2, 3, 4, 5, 6, 7] (.two 8 (.two 9 (.one 10 (.one 11 (.takes [12, 13, 14, 15, 16, 19] (.one 17 (.one 18 (.takes [20, 21, 22, 23] (.done))))))) 10 (.one 9 (.one 11 (.takes [12, 13, 14, 15, 16, 19] (.one 17 (.one 18 (.takes [20, 21, 22, 23] (.done)))))))) 10 (.one 8 (.one 9 (.one 11 (.takes [12, 13, 14, 15, 16, 19] (.one 17 (.one 18 (.takes [20, 21, 22, 23] (.done)))))))))) (by kernel_rfl) ?_
          simp (config := { maxSteps := 1000000 }) only [push_cast, ↓reduceIte, ↓normL_data, ↓frzL_data, Nat.reduceEqDiff, Nat.reduceLT, reduceCtorEq, Nat.reduceAdd, Nat.reduceMul, Nat.reduceDiv, Nat.reduceMod, Nat.reduceSub, Nat.reduceLeDiff, Nat.reduceBEq, Int.reduceLE, Int.reduceLT, Int.reduceToNat, Int.reduceAdd, Int.reduceSub, Int.reduceMul, Int.reduceEq, Int.reduceBEq, Int.reduceNeg, Int.reduceGT, Int.natCast_pos, htb, hP']
          repeat' apply And.intro
          all_goals
            refine vcall_by true (optimize_ok gs outs hC) ?_
            simp (config := { maxSteps := 1000000 }) only [push_cast, ↓reduceIte, ↓normL_data, ↓frzL_data, Nat.reduceEqDiff, Nat.reduceLT, reduceCtorEq, Nat.reduceAdd, Nat.reduceMul, Nat.reduceDiv, Nat.reduceMod, Nat.reduceSub, Nat.reduceLeDiff, Nat.reduceBEq, Int.reduceLE, Int.reduceLT, Int.reduceToNat, Int.reduceAdd, Int.reduceSub, Int.reduceMul, Int.reduceEq, Int.reduceBEq, Int.reduceNeg, Int.reduceGT, Int.natCast_pos, htb]
            repeat' apply And.intro
            all_goals
              refine vcall_by true (garbledCost_ok _ _ hO) ?_
              simp (config := { maxSteps := 1000000 }) only [push_cast, ↓reduceIte, ↓normL_data, ↓frzL_data, Nat.reduceEqDiff, Nat.reduceLT, reduceCtorEq, Nat.reduceAdd, Nat.reduceMul, Nat.reduceDiv, Nat.reduceMod, Nat.reduceSub, Nat.reduceLeDiff, Nat.reduceBEq, Int.reduceLE, Int.reduceLT, Int.reduceToNat, Int.reduceAdd, Int.reduceSub, Int.reduceMul, Int.reduceEq, Int.reduceBEq, Int.reduceNeg, Int.reduceGT, Int.natCast_pos, List.forall_mem_cons, List.not_mem_nil]
              refine vcall_by false (costWithin_ok _ _ hle) ?_
              simp (config := { maxSteps := 1000000 }) only [push_cast, ↓reduceIte, ↓normL_data, ↓frzL_data, Nat.reduceEqDiff, Nat.reduceLT, reduceCtorEq, Nat.reduceAdd, Nat.reduceMul, Nat.reduceDiv, Nat.reduceMod, Nat.reduceSub, Nat.reduceLeDiff, Nat.reduceBEq, Int.reduceLE, Int.reduceLT, Int.reduceToNat, Int.reduceAdd, Int.reduceSub, Int.reduceMul, Int.reduceEq, Int.reduceBEq, Int.reduceNeg, Int.reduceGT, Int.natCast_pos]
              refine vcall_by true (countS_ok (GC.compileL L).gs (GC.compileL L).outs 4 (by omega)) ?_
              simp (config := { maxSteps := 1000000 }) only [push_cast, ↓reduceIte, ↓normL_data, ↓frzL_data, Nat.reduceEqDiff, Nat.reduceLT, reduceCtorEq, Nat.reduceAdd, Nat.reduceMul, Nat.reduceDiv, Nat.reduceMod, Nat.reduceSub, Nat.reduceLeDiff, Nat.reduceBEq, Int.reduceLE, Int.reduceLT, Int.reduceToNat, Int.reduceAdd, Int.reduceSub, Int.reduceMul, Int.reduceEq, Int.reduceBEq, Int.reduceNeg, Int.reduceGT, Int.natCast_pos, hand']
        · rw [if_neg hP'] at hL
          refine vcall_by false (compileN_ok P (by omega) hP') ?_
          simp (config := { maxSteps := 1000000 }) only [push_cast, ↓reduceIte, ↓normL_data, ↓frzL_data, Nat.reduceEqDiff, Nat.reduceLT, reduceCtorEq, Nat.reduceAdd, Nat.reduceMul, Nat.reduceDiv, Nat.reduceMod, Nat.reduceSub, Nat.reduceLeDiff, Nat.reduceBEq, Int.reduceLE, Int.reduceLT, Int.reduceToNat, Int.reduceAdd, Int.reduceSub, Int.reduceMul, Int.reduceEq, Int.reduceBEq, Int.reduceNeg, Int.reduceGT, Int.natCast_pos, hP']
          refine VD.plan tab_ok (by kernel_rfl) [8, 9, 11, 18] (.takes [0, 1, 2, 3, 4, 5, 6, 7] (.two 8 (.two 9 (.one 10 (.one 11 (.takes [12, 13, 14, 15, 16, 19] (.one 17 (.one 18 (.takes [20, 21, 22, 23] (.done))))))) 10 (.one 9 (.one 11 (.takes [12, 13, 14, 15, 16, 19] (.one 17 (.one 18 (.takes [20, 21, 22, 23] (.done)))))))) 10 (.one 8 (.one 9 (.one 11 (.takes [12, 13, 14, 15, 16, 19] (.one 17 (.one 18 (.takes [20, 21, 22, 23] (.done)))))))))) (by kernel_rfl) ?_
          simp (config := { maxSteps := 1000000 }) only [push_cast, ↓reduceIte, ↓normL_data, ↓frzL_data, Nat.reduceEqDiff, Nat.reduceLT, reduceCtorEq, Nat.reduceAdd, Nat.reduceMul, Nat.reduceDiv, Nat.reduceMod, Nat.reduceSub, Nat.reduceLeDiff, Nat.reduceBEq, Int.reduceLE, Int.reduceLT, Int.reduceToNat, Int.reduceAdd, Int.reduceSub, Int.reduceMul, Int.reduceEq, Int.reduceBEq, Int.reduceNeg, Int.reduceGT, Int.natCast_pos, htb, hP']
          repeat' apply And.intro
          all_goals
            refine vcall_by true (optimize_ok gs outs hC) ?_
            simp (config := { maxSteps := 1000000 }) only [push_cast, ↓reduceIte, ↓normL_data, ↓frzL_data, Nat.reduceEqDiff, Nat.reduceLT, reduceCtorEq, Nat.reduceAdd, Nat.reduceMul, Nat.reduceDiv, Nat.reduceMod, Nat.reduceSub, Nat.reduceLeDiff, Nat.reduceBEq, Int.reduceLE, Int.reduceLT, Int.reduceToNat, Int.reduceAdd, Int.reduceSub, Int.reduceMul, Int.reduceEq, Int.reduceBEq, Int.reduceNeg, Int.reduceGT, Int.natCast_pos, htb]
            repeat' apply And.intro
            all_goals
              refine vcall_by true (garbledCost_ok _ _ hO) ?_
              simp (config := { maxSteps := 1000000 }) only [push_cast, ↓reduceIte, ↓normL_data, ↓frzL_data, Nat.reduceEqDiff, Nat.reduceLT, reduceCtorEq, Nat.reduceAdd, Nat.reduceMul, Nat.reduceDiv, Nat.reduceMod, Nat.reduceSub, Nat.reduceLeDiff, Nat.reduceBEq, Int.reduceLE, Int.reduceLT, Int.reduceToNat, Int.reduceAdd, Int.reduceSub, Int.reduceMul, Int.reduceEq, Int.reduceBEq, Int.reduceNeg, Int.reduceGT, Int.natCast_pos, List.forall_mem_cons, List.not_mem_nil]
              refine vcall_by false (costWithin_ok _ _ hle) ?_
              simp (config := { maxSteps := 1000000 }) only [push_cast, ↓reduceIte, ↓normL_data, ↓frzL_data, Nat.reduceEqDiff, Nat.reduceLT, reduceCtorEq, Nat.reduceAdd, Nat.reduceMul, Nat.reduceDiv, Nat.reduceMod, Nat.reduceSub, Nat.reduceLeDiff, Nat.reduceBEq, Int.reduceLE, Int.reduceLT, Int.reduceToNat, Int.reduceAdd, Int.reduceSub, Int.reduceMul, Int.reduceEq, Int.reduceBEq, Int.reduceNeg, Int.reduceGT, Int.natCast_pos]
end GV

set_option linter.unusedSimpArgs false
set_option linter.unusedVariables false
set_option maxHeartbeats 4000000
namespace GV
open Go Go.RowKit
/-- A slice of bytes that came in, as data. -/
theorem bytes_in (Φ : Nat → Prop) (w : World) (a : Option Addr) (len cap : Nat) (zs : List Int)
    (h : (a = none ∧ len = 0 ∧ cap = 0 ∧ zs = []) ∨ ∃ x, a = some x ∧ len ≤ cap ∧ cap ≤ maxLen ∧ zs.length = cap ∧ (∀ i, i < zs.length → w.cell? (x.add i) = some (.int .u8 (zs.getD i 0))) ∧ ∀ n ∈ zs, (Lit.int .u8 n).wf = true)
    (hΦ : ∀ b, b < w.heap.size → Φ b) : ∃ b : List UInt8, b.length ≤ 9223372036854775807 ∧ RC Φ w (bS b) (.slice a len cap) := by
  rcases h with ⟨rfl, rfl, rfl, rfl⟩ | ⟨x, rfl, h1, h2, h3, h4, h5⟩
  · exact ⟨[], by simp, .nil 1 none 0⟩
  · by_cases hz : len = 0
    · subst hz
      exact ⟨[], by simp, .nil 1 (some x) cap⟩
    · have hm : maxLen ≤ 9223372036854775807 := by decide
      refine ⟨(zs.take len).map fun n => UInt8.ofNat n.toNat, by rw [List.length_map, List.length_take]; omega, ?_⟩
      obtain ⟨b, o, rfl, hc⟩ := ints_at h4 (by omega)
      have hlt : b < w.heap.size := by
        have c0 := hc 0 (by omega)
        rcases Nat.lt_or_ge b w.heap.size with h | h
        · exact h
        · simp [World.cell?, Array.getElem?_eq_none h] at c0
      have hlen : (bE ((zs.take len).map fun n => UInt8.ofNat n.toNat)).length = len := by rw [bE_len, List.length_map, List.length_take]; omega
      have key := RC.sl (Φ := Φ) (w := w) 1 (bE ((zs.take len).map fun n => UInt8.ofNat n.toNat)) b o cap (fun i _ => .int .u8 (zs.getD i 0)) (hΦ b hlt) (by omega) (fun i hi => ?_) (fun i j hi hj => ?_) (fun i j hi hj => ?_)
      · rw [hlen] at key; exact key
      · rw [bE_get _ _ (by rw [bE_len] at hi; exact hi)]; rfl
      · have : j = 0 := by omega
        subst this
        rw [Nat.mul_one, Nat.add_zero]
        exact hc i (by omega)
      · have : j = 0 := by omega
        subst this
        rw [bE_get _ _ (by rw [bE_len] at hi; exact hi)]
        have hi' : i < len := by omega
        have r := range_u8 h5 i
        have e1 : ((zs.take len).map fun n => UInt8.ofNat n.toNat).getD i 0 = UInt8.ofNat (zs.getD i 0).toNat := by
          rw [List.getD_eq_getElem?_getD, List.getElem?_map, List.getElem?_take, if_pos hi', List.getD_eq_getElem?_getD, List.getElem?_eq_getElem (by omega)]; rfl
        have e2 : ((UInt8.ofNat (zs.getD i 0).toNat).toNat : Int) = zs.getD i 0 := by
          rw [UInt8.toNat_ofNat', List.getD_eq_getElem?_getD]; omega
        show RC Φ w (.v (.int .u8 _)) _
        rw [e1, e2]
        exact .v _ rfl
theorem tOf_c (x : D) (t : Nat) : tOf [.c x] t = some (.c x) ∨ tOf [.c x] t = none := by
  cases t with
  | zero => exact .inl rfl
  | succ t => exact .inr rfl
theorem norow (x : D) (t : Nat) : (initSt gl0 [.c x]).rows t = none := by
  show tRow (tOf [.c x]) t = none
  unfold tRow
  split
  · rcases tOf_c x t with e | e <;> rw [e]
  · rcases tOf_c x (t / 1000 - 1) with e | e <;> rw [e]
theorem novar (x : D) (t : Nat) : (initSt gl0 [.c x]).vars t = none := by
  show tVar (tOf [.c x]) t = none
  unfold tVar
  rcases tOf_c x t with e | e <;> rw [e]
theorem law_in {f : FuncId} (hc : ∀ b : List UInt8, b.length ≤ 9223372036854775807 → CallOk Go.Proofs.Try.prog gl0 f [.c (bS b)] ⟨[.c (bD true)], []⟩) (a : Option Addr) (len cap : Nat) (zs : List Int) (w : World)
    (h : (a = none ∧ len = 0 ∧ cap = 0 ∧ zs = []) ∨ ∃ x, a = some x ∧ len ≤ cap ∧ cap ≤ maxLen ∧ zs.length = cap ∧ (∀ i, i < zs.length → w.cell? (x.add i) = some (.int .u8 (zs.getD i 0))) ∧ ∀ n ∈ zs, (Lit.int .u8 n).wf = true) :
    Calls Go.Proofs.Try.prog f #[.slice a len cap] w fun e w' => e = .returned (.bool true) ∧ Below w.heap.size w w' := by
  obtain ⟨b, hb, hr⟩ := bytes_in (fun k => k < w.heap.size) w a len cap zs h (fun _ h => h)
  have key := (hc b hb).2 w (fun _ => False) ⟨fun k => k < w.heap.size, fun _ => undef, fun _ => 0⟩ #[.slice a len cap] rfl ⟨rfl, rfl, rfl, rfl, Nat.le_refl _, fun _ _ _ => rfl, fun _ h => h, ?_, ?_, ?_, ?_, ?_, ?_, ?_, ?_, ?_⟩
  · refine key.mono fun e w' ⟨o, ho, vals, g', he, hs, hrel, _, _, _⟩ => ?_
    subst ho
    have h1 := hrel.env 0
    have hs1 : vals.size = 1 := hs
    refine ⟨?_, hrel.os, hrel.tape, hrel.output, hrel.size, fun k hk => hrel.frame k hk (fun h => h)⟩
    rw [he, retV, dif_pos hs1]
    have h2 : RC g'.F w' (bD true) (vals.getD 0 undef) := h1
    have h3 : vals.getD 0 undef = vals[0] := by simp [Array.getD, hs1]
    rw [h3] at h2
    generalize vals[0] = v at h2
    cases h2; rfl
  · intro t r ht; rw [norow] at ht; cases ht
  · intro t r ht; rw [novar] at ht; cases ht
  · intro t r b ht; rw [norow] at ht; cases ht
  · intro t cs ht; rw [novar] at ht; cases ht
  · intro t u rt ru b _ ht; rw [norow] at ht; cases ht
  · intro t u rt ru _ ht; rw [novar] at ht; cases ht
  · intro t u r c ht; rw [norow] at ht; cases ht
  · intro j
    cases j with
    | zero => exact hr
    | succ j => rfl
  · intro k cs hk; cases hk
end GV

