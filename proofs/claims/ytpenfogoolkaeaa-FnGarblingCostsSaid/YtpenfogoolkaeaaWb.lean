/- This text proves contracts of what draws circuits and programs. No condition but those that each theorem states. -/
import Derived.Test.YtpenfogoolkaeaaWa
set_option linter.unusedSimpArgs false
set_option linter.unusedVariables false
namespace GV
open Go
/-! ### the cursor of the draws -/
def bE (l : List UInt8) : List (List D) := l.map fun x => [.v (.int .u8 x.toNat)]
def bS (l : List UInt8) : D := .sl 1 (bE l)
attribute [push_cast] bS
@[push_cast] theorem bE_len (l : List UInt8) : (bE l).length = l.length := by simp [bE]
theorem bE_get (l : List UInt8) (k : Nat) (h : k < l.length) : (bE l).getD k [] = [.v (.int .u8 (l.getD k 0).toNat)] := by
  simp [bE, List.getD_eq_getElem?_getD, h]
def cuR (b : List UInt8) (i : Nat) (h : Int) : In := .rv [.d (bS b), .d (iD i), .d (iD h)]
attribute [push_cast] cuR
@[push_cast] theorem iE_cons (x : Int) (l : List Int) : [iD x] :: iE l = iE (x :: l) := rfl
theorem and_le (a m : Int) (h0 : 0 ≤ m) (h1 : m < 4611686018427387904) : 0 ≤ bits .and .i64 a m ∧ bits .and .i64 a m ≤ m := by
  obtain ⟨M, rfl⟩ := Int.eq_ofNat_of_zero_le h0
  have hx : ((BitVec.ofInt 64 a).toNat &&& (M % 2 ^ 64)) ≤ M := Nat.le_trans Nat.and_le_right (Nat.mod_le _ _)
  have e : bits .and .i64 a (M : Int) = IntKind.i64.wrap (((BitVec.ofInt 64 a).toNat &&& (M % 2 ^ 64) : Nat) : Int) := by
    show IntKind.i64.wrap ((BitVec.ofInt 64 a &&& BitVec.ofInt 64 (M : Int)).toNat : Int) = _
    rw [BitVec.toNat_and, BitVec.ofInt_natCast, BitVec.toNat_ofNat]
  rw [e, GC.i64_in _ (by omega) (by omega)]
  omega
attribute [push_cast] beq_eq_false_iff_ne ne_eq bne_iff_ne bne_eq_false_iff_eq not_false_eq_true not_true_eq_false false_implies true_implies implies_true Bool.false_eq_true decide_true decide_false Bool.true_eq_false and_false false_and
@[push_cast] theorem i64_bits : ((IntKind.i64.bits : Nat) : Int) = 64 := rfl
theorem tmod_e (a b : Int) (h : 0 ≤ a) : a.tmod b = a % b := Int.tmod_eq_emod_of_nonneg h
theorem tdiv_e (a b : Int) (h : 0 ≤ a) : a.tdiv b = a / b := Int.tdiv_eq_ediv_of_nonneg h
def drawnR (b : List UInt8) (R : List In → Prop) (o : Out) : Prop := ∃ res i h, i ≤ b.length ∧ R res ∧ o = ⟨res, [cuR b i h]⟩
def rI (lo hi : Int) (res : List In) : Prop := ∃ x, lo ≤ x ∧ x ≤ hi ∧ res = [.c (iD x)]
theorem fin_I {T : Tab} {gl : Nat → Option (List D)} {rs : List ResultVar} {b : List UInt8} {lo hi : Int} {s : St} {x h : Int} {i : Nat} (h1 : vfin T gl rs ⟨[.c (iD x)], [cuR b i h]⟩ s) (h2 : i ≤ b.length) (h3 : lo ≤ x ∧ x ≤ hi) :
    vfinP T gl rs (drawnR b (rI lo hi)) s := vfinP_by _ ⟨_, _, _, h2, ⟨_, h3.1, h3.2, rfl⟩, rfl⟩ h1
theorem byte_ok (b : List UInt8) (i : Nat) (h : Int) (hb : b.length ≤ 1048576) (hi : i ≤ b.length) :
    CallP Go.Proofs.Try.prog gl0 85 [cuR b i h] (drawnR b (rI 0 255)) := by
  refine okFnP (fn := Go.Proofs.Try.f85) [.tmp 2] 1 58 (by kernel_rfl) (by kernel_rfl) rfl (by kernel_rfl) (by decide) rfl rfl rfl ?_
  simp (config := { maxSteps := 1000000 }) only [push_cast, ↓reduceIte, ↓normL_data, ↓frzL_data, Nat.reduceEqDiff, Nat.reduceLT, reduceCtorEq, Nat.reduceAdd, Nat.reduceMul, Nat.reduceDiv, Nat.reduceMod, Nat.reduceSub, Nat.reduceLeDiff, Nat.reduceBEq, Int.reduceLE, Int.reduceLT, Int.reduceToNat, Int.reduceAdd, Int.reduceSub, Int.reduceMul, Int.reduceEq, Int.reduceBEq, Int.reduceNeg, Int.reduceGT, Int.natCast_pos]
  refine VD.plan tab_ok (by kernel_rfl) [] (.takes [0, 1, 2, 3, 4, 5, 6, 7, 8, 9, 10, 11, 12] (.done)) (by kernel_rfl) ?_
  simp (config := { maxSteps := 1000000 }) only [push_cast, ↓reduceIte, ↓normL_data, ↓frzL_data, Nat.reduceEqDiff, Nat.reduceLT, reduceCtorEq, Nat.reduceAdd, Nat.reduceMul, Nat.reduceDiv, Nat.reduceMod, Nat.reduceSub, Nat.reduceLeDiff, Nat.reduceBEq, Int.reduceLE, Int.reduceLT, Int.reduceToNat, Int.reduceAdd, Int.reduceSub, Int.reduceMul, Int.reduceEq, Int.reduceBEq, Int.reduceNeg, Int.reduceGT, Int.natCast_pos]
  refine VD.plan tab_ok (by kernel_rfl) [] (.takes [0, 1, 2, 3, 4, 5, 6, 7, 8, 9] (.done)) (by kernel_rfl) ?_
  simp (config := { maxSteps := 1000000 }) only [push_cast, ↓reduceIte, ↓normL_data, ↓frzL_data, Nat.reduceEqDiff, Nat.reduceLT, reduceCtorEq, Nat.reduceAdd, Nat.reduceMul, Nat.reduceDiv, Nat.reduceMod, Nat.reduceSub, Nat.reduceLeDiff, Nat.reduceBEq, Int.reduceLE, Int.reduceLT, Int.reduceToNat, Int.reduceAdd, Int.reduceSub, Int.reduceMul, Int.reduceEq, Int.reduceBEq, Int.reduceNeg, Int.reduceGT, Int.natCast_pos]
  refine ⟨fun hl => ?_, fun hl => ?_⟩
  · refine VD.plan tab_ok (by kernel_rfl) [] (.takes [0, 1, 2, 3, 4, 5, 6, 7, 8, 9, 10, 11, 12, 13, 14] (.done)) (by kernel_rfl) ?_
    simp (config := { maxSteps := 1000000 }) (disch := omega) only [push_cast, ↓reduceIte, ↓normL_data, ↓frzL_data, Nat.reduceEqDiff, Nat.reduceLT, reduceCtorEq, Nat.reduceAdd, Nat.reduceMul, Nat.reduceDiv, Nat.reduceMod, Nat.reduceSub, Nat.reduceLeDiff, Nat.reduceBEq, Int.reduceLE, Int.reduceLT, Int.reduceToNat, Int.reduceAdd, Int.reduceSub, Int.reduceMul, Int.reduceEq, Int.reduceBEq, Int.reduceNeg, Int.reduceGT, Int.natCast_pos, w64, iE_get, gsE_get, bE_get, tmod_e, tdiv_e, hl]
    apply fin_I (i := i + 1)
    · simp (config := { maxSteps := 1000000 }) only [push_cast, ↓reduceIte, ↓normL_data, ↓frzL_data, Nat.reduceEqDiff, Nat.reduceLT, reduceCtorEq, Nat.reduceAdd, Nat.reduceMul, Nat.reduceDiv, Nat.reduceMod, Nat.reduceSub, Nat.reduceLeDiff, Nat.reduceBEq, Int.reduceLE, Int.reduceLT, Int.reduceToNat, Int.reduceAdd, Int.reduceSub, Int.reduceMul, Int.reduceEq, Int.reduceBEq, Int.reduceNeg, Int.reduceGT, Int.natCast_pos]
      exact ⟨rfl, rfl⟩
    · omega
    · exact and_le _ 255 (by omega) (by omega)
  · apply fin_I (i := i)
    · simp (config := { maxSteps := 1000000 }) only [push_cast, ↓reduceIte, ↓normL_data, ↓frzL_data, Nat.reduceEqDiff, Nat.reduceLT, reduceCtorEq, Nat.reduceAdd, Nat.reduceMul, Nat.reduceDiv, Nat.reduceMod, Nat.reduceSub, Nat.reduceLeDiff, Nat.reduceBEq, Int.reduceLE, Int.reduceLT, Int.reduceToNat, Int.reduceAdd, Int.reduceSub, Int.reduceMul, Int.reduceEq, Int.reduceBEq, Int.reduceNeg, Int.reduceGT, Int.natCast_pos]
      exact ⟨rfl, rfl⟩
    · omega
    · exact and_le _ 255 (by omega) (by omega)
/-- What is known of a test. -/
theorem no_eq {a b : Int} (h : ¬ a = b) : (a = b) = False := by simp [h]
theorem mod_in (a n : Int) (h : 0 < n) : 0 ≤ a % n ∧ a % n ≤ n - 1 := ⟨Int.emod_nonneg _ (by omega), by have := Int.emod_lt_of_pos a h; omega⟩
theorem below_ok (b : List UInt8) (i : Nat) (h n : Int) (hb : b.length ≤ 1048576) (hi : i ≤ b.length) (hn : 0 < n) (hn' : n ≤ 2000000000) :
    CallP Go.Proofs.Try.prog gl0 46 [cuR b i h, .c (iD n)] (drawnR b (rI 0 (n - 1))) := by
  refine okFnP (fn := Go.Proofs.Try.f46) [.tmp 4] 2 37 (by kernel_rfl) (by kernel_rfl) rfl (by kernel_rfl) (by decide) rfl rfl rfl ?_
  simp (config := { maxSteps := 1000000 }) only [push_cast, ↓reduceIte, ↓normL_data, ↓frzL_data, Nat.reduceEqDiff, Nat.reduceLT, reduceCtorEq, Nat.reduceAdd, Nat.reduceMul, Nat.reduceDiv, Nat.reduceMod, Nat.reduceSub, Nat.reduceLeDiff, Nat.reduceBEq, Int.reduceLE, Int.reduceLT, Int.reduceToNat, Int.reduceAdd, Int.reduceSub, Int.reduceMul, Int.reduceEq, Int.reduceBEq, Int.reduceNeg, Int.reduceGT, Int.natCast_pos]
  refine ⟨fun hl => by omega, fun _ => ⟨fun hl => ?_, fun hl => ?_⟩⟩
  · refine vcall_p false (byte_ok b i h hb hi) (by simp (config := { maxSteps := 1000000 }) only [push_cast, ↓reduceIte, ↓normL_data, ↓frzL_data, Nat.reduceEqDiff, Nat.reduceLT, reduceCtorEq, Nat.reduceAdd, Nat.reduceMul, Nat.reduceDiv, Nat.reduceMod, Nat.reduceSub, Nat.reduceLeDiff, Nat.reduceBEq, Int.reduceLE, Int.reduceLT, Int.reduceToNat, Int.reduceAdd, Int.reduceSub, Int.reduceMul, Int.reduceEq, Int.reduceBEq, Int.reduceNeg, Int.reduceGT, Int.natCast_pos]) ?_
    rintro _ ⟨_, i1, h1, k1, ⟨x1, a1, b1, rfl⟩, rfl⟩
    simp (config := { maxSteps := 1000000 }) only [push_cast, ↓reduceIte, ↓normL_data, ↓frzL_data, Nat.reduceEqDiff, Nat.reduceLT, reduceCtorEq, Nat.reduceAdd, Nat.reduceMul, Nat.reduceDiv, Nat.reduceMod, Nat.reduceSub, Nat.reduceLeDiff, Nat.reduceBEq, Int.reduceLE, Int.reduceLT, Int.reduceToNat, Int.reduceAdd, Int.reduceSub, Int.reduceMul, Int.reduceEq, Int.reduceBEq, Int.reduceNeg, Int.reduceGT, Int.natCast_pos]
    refine ⟨by omega, ?_⟩
    apply fin_I
    · simp (config := { maxSteps := 1000000 }) (disch := omega) only [push_cast, ↓reduceIte, ↓normL_data, ↓frzL_data, Nat.reduceEqDiff, Nat.reduceLT, reduceCtorEq, Nat.reduceAdd, Nat.reduceMul, Nat.reduceDiv, Nat.reduceMod, Nat.reduceSub, Nat.reduceLeDiff, Nat.reduceBEq, Int.reduceLE, Int.reduceLT, Int.reduceToNat, Int.reduceAdd, Int.reduceSub, Int.reduceMul, Int.reduceEq, Int.reduceBEq, Int.reduceNeg, Int.reduceGT, Int.natCast_pos, w64, iE_get, gsE_get, bE_get, tmod_e, tdiv_e]
      exact ⟨rfl, rfl⟩
    · exact k1
    · exact mod_in _ _ hn
  · refine vcall_p false (byte_ok b i h hb hi) (by simp (config := { maxSteps := 1000000 }) only [push_cast, ↓reduceIte, ↓normL_data, ↓frzL_data, Nat.reduceEqDiff, Nat.reduceLT, reduceCtorEq, Nat.reduceAdd, Nat.reduceMul, Nat.reduceDiv, Nat.reduceMod, Nat.reduceSub, Nat.reduceLeDiff, Nat.reduceBEq, Int.reduceLE, Int.reduceLT, Int.reduceToNat, Int.reduceAdd, Int.reduceSub, Int.reduceMul, Int.reduceEq, Int.reduceBEq, Int.reduceNeg, Int.reduceGT, Int.natCast_pos]) ?_
    rintro _ ⟨_, i1, h1, k1, ⟨x1, a1, b1, rfl⟩, rfl⟩
    simp (config := { maxSteps := 1000000 }) only [push_cast, ↓reduceIte, ↓normL_data, ↓frzL_data, Nat.reduceEqDiff, Nat.reduceLT, reduceCtorEq, Nat.reduceAdd, Nat.reduceMul, Nat.reduceDiv, Nat.reduceMod, Nat.reduceSub, Nat.reduceLeDiff, Nat.reduceBEq, Int.reduceLE, Int.reduceLT, Int.reduceToNat, Int.reduceAdd, Int.reduceSub, Int.reduceMul, Int.reduceEq, Int.reduceBEq, Int.reduceNeg, Int.reduceGT, Int.natCast_pos]
    refine vcall_p false (byte_ok b i1 h1 hb k1) (by simp (config := { maxSteps := 1000000 }) only [push_cast, ↓reduceIte, ↓normL_data, ↓frzL_data, Nat.reduceEqDiff, Nat.reduceLT, reduceCtorEq, Nat.reduceAdd, Nat.reduceMul, Nat.reduceDiv, Nat.reduceMod, Nat.reduceSub, Nat.reduceLeDiff, Nat.reduceBEq, Int.reduceLE, Int.reduceLT, Int.reduceToNat, Int.reduceAdd, Int.reduceSub, Int.reduceMul, Int.reduceEq, Int.reduceBEq, Int.reduceNeg, Int.reduceGT, Int.natCast_pos]) ?_
    rintro _ ⟨_, i2, h2, k2, ⟨x2, a2, b2, rfl⟩, rfl⟩
    simp (config := { maxSteps := 1000000 }) only [push_cast, ↓reduceIte, ↓normL_data, ↓frzL_data, Nat.reduceEqDiff, Nat.reduceLT, reduceCtorEq, Nat.reduceAdd, Nat.reduceMul, Nat.reduceDiv, Nat.reduceMod, Nat.reduceSub, Nat.reduceLeDiff, Nat.reduceBEq, Int.reduceLE, Int.reduceLT, Int.reduceToNat, Int.reduceAdd, Int.reduceSub, Int.reduceMul, Int.reduceEq, Int.reduceBEq, Int.reduceNeg, Int.reduceGT, Int.natCast_pos]
    refine vcall_p false (byte_ok b i2 h2 hb k2) (by simp (config := { maxSteps := 1000000 }) only [push_cast, ↓reduceIte, ↓normL_data, ↓frzL_data, Nat.reduceEqDiff, Nat.reduceLT, reduceCtorEq, Nat.reduceAdd, Nat.reduceMul, Nat.reduceDiv, Nat.reduceMod, Nat.reduceSub, Nat.reduceLeDiff, Nat.reduceBEq, Int.reduceLE, Int.reduceLT, Int.reduceToNat, Int.reduceAdd, Int.reduceSub, Int.reduceMul, Int.reduceEq, Int.reduceBEq, Int.reduceNeg, Int.reduceGT, Int.natCast_pos]) ?_
    rintro _ ⟨_, i3, h3, k3, ⟨x3, a3, b3, rfl⟩, rfl⟩
    simp (config := { maxSteps := 1000000 }) only [push_cast, ↓reduceIte, ↓normL_data, ↓frzL_data, Nat.reduceEqDiff, Nat.reduceLT, reduceCtorEq, Nat.reduceAdd, Nat.reduceMul, Nat.reduceDiv, Nat.reduceMod, Nat.reduceSub, Nat.reduceLeDiff, Nat.reduceBEq, Int.reduceLE, Int.reduceLT, Int.reduceToNat, Int.reduceAdd, Int.reduceSub, Int.reduceMul, Int.reduceEq, Int.reduceBEq, Int.reduceNeg, Int.reduceGT, Int.natCast_pos]
    refine vcall_p false (byte_ok b i3 h3 hb k3) (by simp (config := { maxSteps := 1000000 }) only [push_cast, ↓reduceIte, ↓normL_data, ↓frzL_data, Nat.reduceEqDiff, Nat.reduceLT, reduceCtorEq, Nat.reduceAdd, Nat.reduceMul, Nat.reduceDiv, Nat.reduceMod, Nat.reduceSub, Nat.reduceLeDiff, Nat.reduceBEq, Int.reduceLE, Int.reduceLT, Int.reduceToNat, Int.reduceAdd, Int.reduceSub, Int.reduceMul, Int.reduceEq, Int.reduceBEq, Int.reduceNeg, Int.reduceGT, Int.natCast_pos]) ?_
    rintro _ ⟨_, i4, h4, k4, ⟨x4, a4, b4, rfl⟩, rfl⟩
    simp (config := { maxSteps := 1000000 }) only [push_cast, ↓reduceIte, ↓normL_data, ↓frzL_data, Nat.reduceEqDiff, Nat.reduceLT, reduceCtorEq, Nat.reduceAdd, Nat.reduceMul, Nat.reduceDiv, Nat.reduceMod, Nat.reduceSub, Nat.reduceLeDiff, Nat.reduceBEq, Int.reduceLE, Int.reduceLT, Int.reduceToNat, Int.reduceAdd, Int.reduceSub, Int.reduceMul, Int.reduceEq, Int.reduceBEq, Int.reduceNeg, Int.reduceGT, Int.natCast_pos]
    refine ⟨by omega, ?_⟩
    apply fin_I
    · simp (config := { maxSteps := 1000000 }) (disch := omega) only [push_cast, ↓reduceIte, ↓normL_data, ↓frzL_data, Nat.reduceEqDiff, Nat.reduceLT, reduceCtorEq, Nat.reduceAdd, Nat.reduceMul, Nat.reduceDiv, Nat.reduceMod, Nat.reduceSub, Nat.reduceLeDiff, Nat.reduceBEq, Int.reduceLE, Int.reduceLT, Int.reduceToNat, Int.reduceAdd, Int.reduceSub, Int.reduceMul, Int.reduceEq, Int.reduceBEq, Int.reduceNeg, Int.reduceGT, Int.natCast_pos, w64, iE_get, gsE_get, bE_get, tmod_e, tdiv_e]
      exact ⟨rfl, rfl⟩
    · exact k4
    · exact mod_in _ _ hn
end GV

set_option linter.unusedSimpArgs false
set_option linter.unusedVariables false
namespace GV
open Go
def rP (p : Int → Prop) (res : List In) : Prop := ∃ x, p x ∧ res = [.c (iD x)]
theorem fin_P {T : Tab} {gl : Nat → Option (List D)} {rs : List ResultVar} {b : List UInt8} {p : Int → Prop} {s : St} {x h : Int} {i : Nat} (h1 : vfin T gl rs ⟨[.c (iD x)], [cuR b i h]⟩ s) (h2 : i ≤ b.length) (h3 : p x) :
    vfinP T gl rs (drawnR b (rP p)) s := vfinP_by _ ⟨_, _, _, h2, ⟨_, h3, rfl⟩, rfl⟩ h1
/-- Any result. -/
theorem fin_R {T : Tab} {gl : Nat → Option (List D)} {rs : List ResultVar} {b : List UInt8} {R : List In → Prop} {s : St} {res : List In} {h : Int} {i : Nat} (h3 : R res) (h2 : i ≤ b.length) (h1 : vfin T gl rs ⟨res, [cuR b i h]⟩ s) :
    vfinP T gl rs (drawnR b R) s := vfinP_by _ ⟨_, _, _, h2, h3, rfl⟩ h1
theorem getD_mem {l : List Int} {k : Nat} (h : k < l.length) : l.getD k 0 ∈ l := by
  rw [List.getD_eq_getElem?_getD, List.getElem?_eq_getElem h]; exact List.getElem_mem _
theorem pick_ok (b : List UInt8) (i : Nat) (h : Int) (l : List Int) (hb : b.length ≤ 1048576) (hi : i ≤ b.length) (hl : 0 < l.length) (hl' : l.length ≤ 1000) :
    CallP Go.Proofs.Try.prog gl0 91 [cuR b i h, .c (iS l)] (drawnR b (rP (· ∈ l))) := by
  refine okFnP (fn := Go.Proofs.Try.f91) [.tmp 4] 2 12 (by kernel_rfl) (by kernel_rfl) rfl (by kernel_rfl) (by decide) rfl rfl rfl ?_
  simp (config := { maxSteps := 1000000 }) only [push_cast, ↓reduceIte, ↓normL_data, ↓frzL_data, Nat.reduceEqDiff, Nat.reduceLT, reduceCtorEq, Nat.reduceAdd, Nat.reduceMul, Nat.reduceDiv, Nat.reduceMod, Nat.reduceSub, Nat.reduceLeDiff, Nat.reduceBEq, Int.reduceLE, Int.reduceLT, Int.reduceToNat, Int.reduceAdd, Int.reduceSub, Int.reduceMul, Int.reduceEq, Int.reduceBEq, Int.reduceNeg, Int.reduceGT, Int.natCast_pos]
  refine vcall_p false (below_ok b i h l.length hb hi (by omega) (by omega)) (by simp (config := { maxSteps := 1000000 }) only [push_cast, ↓reduceIte, ↓normL_data, ↓frzL_data, Nat.reduceEqDiff, Nat.reduceLT, reduceCtorEq, Nat.reduceAdd, Nat.reduceMul, Nat.reduceDiv, Nat.reduceMod, Nat.reduceSub, Nat.reduceLeDiff, Nat.reduceBEq, Int.reduceLE, Int.reduceLT, Int.reduceToNat, Int.reduceAdd, Int.reduceSub, Int.reduceMul, Int.reduceEq, Int.reduceBEq, Int.reduceNeg, Int.reduceGT, Int.natCast_pos]) ?_
  rintro _ ⟨_, i1, h1, k1, ⟨x1, a1, b1, rfl⟩, rfl⟩
  have e1 : x1.toNat < l.length := by omega
  simp (config := { maxSteps := 1000000 }) (disch := omega) only [push_cast, ↓reduceIte, ↓normL_data, ↓frzL_data, Nat.reduceEqDiff, Nat.reduceLT, reduceCtorEq, Nat.reduceAdd, Nat.reduceMul, Nat.reduceDiv, Nat.reduceMod, Nat.reduceSub, Nat.reduceLeDiff, Nat.reduceBEq, Int.reduceLE, Int.reduceLT, Int.reduceToNat, Int.reduceAdd, Int.reduceSub, Int.reduceMul, Int.reduceEq, Int.reduceBEq, Int.reduceNeg, Int.reduceGT, Int.natCast_pos, w64, iE_get, gsE_get, bE_get, tmod_e, tdiv_e]
  refine ⟨a1, by omega, ?_⟩
  apply fin_P
  · simp (config := { maxSteps := 1000000 }) only [push_cast, ↓reduceIte, ↓normL_data, ↓frzL_data, Nat.reduceEqDiff, Nat.reduceLT, reduceCtorEq, Nat.reduceAdd, Nat.reduceMul, Nat.reduceDiv, Nat.reduceMod, Nat.reduceSub, Nat.reduceLeDiff, Nat.reduceBEq, Int.reduceLE, Int.reduceLT, Int.reduceToNat, Int.reduceAdd, Int.reduceSub, Int.reduceMul, Int.reduceEq, Int.reduceBEq, Int.reduceNeg, Int.reduceGT, Int.natCast_pos]
    exact ⟨rfl, rfl⟩
  · exact k1
  · exact getD_mem e1
theorem word_ok (b : List UInt8) (i : Nat) (h : Int) (hb : b.length ≤ 1048576) (hi : i ≤ b.length) :
    CallP Go.Proofs.Try.prog gl0 53 [cuR b i h] (drawnR b (rP GC.isW)) := by
  refine okFnP (fn := Go.Proofs.Try.f53) [.tmp 2] 1 20 (by kernel_rfl) (by kernel_rfl) rfl (by kernel_rfl) (by decide) rfl rfl rfl ?_
  simp (config := { maxSteps := 1000000 }) only [push_cast, ↓reduceIte, ↓normL_data, ↓frzL_data, Nat.reduceEqDiff, Nat.reduceLT, reduceCtorEq, Nat.reduceAdd, Nat.reduceMul, Nat.reduceDiv, Nat.reduceMod, Nat.reduceSub, Nat.reduceLeDiff, Nat.reduceBEq, Int.reduceLE, Int.reduceLT, Int.reduceToNat, Int.reduceAdd, Int.reduceSub, Int.reduceMul, Int.reduceEq, Int.reduceBEq, Int.reduceNeg, Int.reduceGT, Int.natCast_pos]
  refine vcall_p false (below_ok b i h 4 hb hi (by omega) (by omega)) (by simp (config := { maxSteps := 1000000 }) only [push_cast, ↓reduceIte, ↓normL_data, ↓frzL_data, Nat.reduceEqDiff, Nat.reduceLT, reduceCtorEq, Nat.reduceAdd, Nat.reduceMul, Nat.reduceDiv, Nat.reduceMod, Nat.reduceSub, Nat.reduceLeDiff, Nat.reduceBEq, Int.reduceLE, Int.reduceLT, Int.reduceToNat, Int.reduceAdd, Int.reduceSub, Int.reduceMul, Int.reduceEq, Int.reduceBEq, Int.reduceNeg, Int.reduceGT, Int.natCast_pos]) ?_
  rintro _ ⟨_, i1, h1, k1, ⟨x1, a1, b1, rfl⟩, rfl⟩
  simp (config := { maxSteps := 1000000 }) only [push_cast, ↓reduceIte, ↓normL_data, ↓frzL_data, Nat.reduceEqDiff, Nat.reduceLT, reduceCtorEq, Nat.reduceAdd, Nat.reduceMul, Nat.reduceDiv, Nat.reduceMod, Nat.reduceSub, Nat.reduceLeDiff, Nat.reduceBEq, Int.reduceLE, Int.reduceLT, Int.reduceToNat, Int.reduceAdd, Int.reduceSub, Int.reduceMul, Int.reduceEq, Int.reduceBEq, Int.reduceNeg, Int.reduceGT, Int.natCast_pos]
  refine ⟨fun hl => ?_, fun _ => ⟨fun hl => ?_, fun hl => ?_⟩⟩
  · refine vcall_fz [8] ?_
    simp (config := { maxSteps := 1000000 }) only [push_cast, ↓reduceIte, ↓normL_data, ↓frzL_data, Nat.reduceEqDiff, Nat.reduceLT, reduceCtorEq, Nat.reduceAdd, Nat.reduceMul, Nat.reduceDiv, Nat.reduceMod, Nat.reduceSub, Nat.reduceLeDiff, Nat.reduceBEq, Int.reduceLE, Int.reduceLT, Int.reduceToNat, Int.reduceAdd, Int.reduceSub, Int.reduceMul, Int.reduceEq, Int.reduceBEq, Int.reduceNeg, Int.reduceGT, Int.natCast_pos]
    refine vcall_p false (pick_ok b i1 h1 [0, 1, 4294967295, 2147483648, 65536] hb k1 (by simp) (by simp)) (by simp (config := { maxSteps := 1000000 }) only [push_cast, ↓reduceIte, ↓normL_data, ↓frzL_data, Nat.reduceEqDiff, Nat.reduceLT, reduceCtorEq, Nat.reduceAdd, Nat.reduceMul, Nat.reduceDiv, Nat.reduceMod, Nat.reduceSub, Nat.reduceLeDiff, Nat.reduceBEq, Int.reduceLE, Int.reduceLT, Int.reduceToNat, Int.reduceAdd, Int.reduceSub, Int.reduceMul, Int.reduceEq, Int.reduceBEq, Int.reduceNeg, Int.reduceGT, Int.natCast_pos]) ?_
    rintro _ ⟨_, i2, h2, k2, ⟨x2, a2, rfl⟩, rfl⟩
    simp (config := { maxSteps := 1000000 }) only [push_cast, ↓reduceIte, ↓normL_data, ↓frzL_data, Nat.reduceEqDiff, Nat.reduceLT, reduceCtorEq, Nat.reduceAdd, Nat.reduceMul, Nat.reduceDiv, Nat.reduceMod, Nat.reduceSub, Nat.reduceLeDiff, Nat.reduceBEq, Int.reduceLE, Int.reduceLT, Int.reduceToNat, Int.reduceAdd, Int.reduceSub, Int.reduceMul, Int.reduceEq, Int.reduceBEq, Int.reduceNeg, Int.reduceGT, Int.natCast_pos]
    apply fin_P
    · simp (config := { maxSteps := 1000000 }) only [push_cast, ↓reduceIte, ↓normL_data, ↓frzL_data, Nat.reduceEqDiff, Nat.reduceLT, reduceCtorEq, Nat.reduceAdd, Nat.reduceMul, Nat.reduceDiv, Nat.reduceMod, Nat.reduceSub, Nat.reduceLeDiff, Nat.reduceBEq, Int.reduceLE, Int.reduceLT, Int.reduceToNat, Int.reduceAdd, Int.reduceSub, Int.reduceMul, Int.reduceEq, Int.reduceBEq, Int.reduceNeg, Int.reduceGT, Int.natCast_pos]
      exact ⟨rfl, rfl⟩
    · exact k2
    · simp only [List.mem_cons, List.not_mem_nil, or_false] at a2
      unfold GC.isW; omega
  · refine vcall_p false (below_ok b i1 h1 200 hb k1 (by omega) (by omega)) (by simp (config := { maxSteps := 1000000 }) only [push_cast, ↓reduceIte, ↓normL_data, ↓frzL_data, Nat.reduceEqDiff, Nat.reduceLT, reduceCtorEq, Nat.reduceAdd, Nat.reduceMul, Nat.reduceDiv, Nat.reduceMod, Nat.reduceSub, Nat.reduceLeDiff, Nat.reduceBEq, Int.reduceLE, Int.reduceLT, Int.reduceToNat, Int.reduceAdd, Int.reduceSub, Int.reduceMul, Int.reduceEq, Int.reduceBEq, Int.reduceNeg, Int.reduceGT, Int.natCast_pos]) ?_
    rintro _ ⟨_, i2, h2, k2, ⟨x2, a2, b2, rfl⟩, rfl⟩
    simp (config := { maxSteps := 1000000 }) only [push_cast, ↓reduceIte, ↓normL_data, ↓frzL_data, Nat.reduceEqDiff, Nat.reduceLT, reduceCtorEq, Nat.reduceAdd, Nat.reduceMul, Nat.reduceDiv, Nat.reduceMod, Nat.reduceSub, Nat.reduceLeDiff, Nat.reduceBEq, Int.reduceLE, Int.reduceLT, Int.reduceToNat, Int.reduceAdd, Int.reduceSub, Int.reduceMul, Int.reduceEq, Int.reduceBEq, Int.reduceNeg, Int.reduceGT, Int.natCast_pos]
    apply fin_P
    · simp (config := { maxSteps := 1000000 }) only [push_cast, ↓reduceIte, ↓normL_data, ↓frzL_data, Nat.reduceEqDiff, Nat.reduceLT, reduceCtorEq, Nat.reduceAdd, Nat.reduceMul, Nat.reduceDiv, Nat.reduceMod, Nat.reduceSub, Nat.reduceLeDiff, Nat.reduceBEq, Int.reduceLE, Int.reduceLT, Int.reduceToNat, Int.reduceAdd, Int.reduceSub, Int.reduceMul, Int.reduceEq, Int.reduceBEq, Int.reduceNeg, Int.reduceGT, Int.natCast_pos]
      exact ⟨rfl, rfl⟩
    · exact k2
    · exact ⟨by omega, by omega⟩
  · refine vcall_p false (below_ok b i1 h1 65536 hb k1 (by omega) (by omega)) (by simp (config := { maxSteps := 1000000 }) only [push_cast, ↓reduceIte, ↓normL_data, ↓frzL_data, Nat.reduceEqDiff, Nat.reduceLT, reduceCtorEq, Nat.reduceAdd, Nat.reduceMul, Nat.reduceDiv, Nat.reduceMod, Nat.reduceSub, Nat.reduceLeDiff, Nat.reduceBEq, Int.reduceLE, Int.reduceLT, Int.reduceToNat, Int.reduceAdd, Int.reduceSub, Int.reduceMul, Int.reduceEq, Int.reduceBEq, Int.reduceNeg, Int.reduceGT, Int.natCast_pos]) ?_
    rintro _ ⟨_, i2, h2, k2, ⟨x2, a2, b2, rfl⟩, rfl⟩
    simp (config := { maxSteps := 1000000 }) only [push_cast, ↓reduceIte, ↓normL_data, ↓frzL_data, Nat.reduceEqDiff, Nat.reduceLT, reduceCtorEq, Nat.reduceAdd, Nat.reduceMul, Nat.reduceDiv, Nat.reduceMod, Nat.reduceSub, Nat.reduceLeDiff, Nat.reduceBEq, Int.reduceLE, Int.reduceLT, Int.reduceToNat, Int.reduceAdd, Int.reduceSub, Int.reduceMul, Int.reduceEq, Int.reduceBEq, Int.reduceNeg, Int.reduceGT, Int.natCast_pos]
    refine vcall_p false (below_ok b i2 h2 65536 hb k2 (by omega) (by omega)) (by simp (config := { maxSteps := 1000000 }) only [push_cast, ↓reduceIte, ↓normL_data, ↓frzL_data, Nat.reduceEqDiff, Nat.reduceLT, reduceCtorEq, Nat.reduceAdd, Nat.reduceMul, Nat.reduceDiv, Nat.reduceMod, Nat.reduceSub, Nat.reduceLeDiff, Nat.reduceBEq, Int.reduceLE, Int.reduceLT, Int.reduceToNat, Int.reduceAdd, Int.reduceSub, Int.reduceMul, Int.reduceEq, Int.reduceBEq, Int.reduceNeg, Int.reduceGT, Int.natCast_pos]) ?_
    rintro _ ⟨_, i3, h3, k3, ⟨x3, a3, b3, rfl⟩, rfl⟩
    simp (config := { maxSteps := 1000000 }) only [push_cast, ↓reduceIte, ↓normL_data, ↓frzL_data, Nat.reduceEqDiff, Nat.reduceLT, reduceCtorEq, Nat.reduceAdd, Nat.reduceMul, Nat.reduceDiv, Nat.reduceMod, Nat.reduceSub, Nat.reduceLeDiff, Nat.reduceBEq, Int.reduceLE, Int.reduceLT, Int.reduceToNat, Int.reduceAdd, Int.reduceSub, Int.reduceMul, Int.reduceEq, Int.reduceBEq, Int.reduceNeg, Int.reduceGT, Int.natCast_pos]
    apply fin_P
    · simp (config := { maxSteps := 1000000 }) (disch := omega) only [push_cast, ↓reduceIte, ↓normL_data, ↓frzL_data, Nat.reduceEqDiff, Nat.reduceLT, reduceCtorEq, Nat.reduceAdd, Nat.reduceMul, Nat.reduceDiv, Nat.reduceMod, Nat.reduceSub, Nat.reduceLeDiff, Nat.reduceBEq, Int.reduceLE, Int.reduceLT, Int.reduceToNat, Int.reduceAdd, Int.reduceSub, Int.reduceMul, Int.reduceEq, Int.reduceBEq, Int.reduceNeg, Int.reduceGT, Int.natCast_pos, w64, iE_get, gsE_get, bE_get, tmod_e, tdiv_e]
      exact ⟨rfl, rfl⟩
    · exact k3
    · exact ⟨by omega, by omega⟩
end GV

set_option linter.unusedSimpArgs false
set_option linter.unusedVariables false
namespace GV
open Go
def rT (res : List In) : Prop := ∃ s p, GC.isW s ∧ 0 ≤ p ∧ p ≤ 49 ∧ res = [.ag [iD s, iD p]]
theorem tape_ok (b : List UInt8) (i : Nat) (h : Int) (hb : b.length ≤ 1048576) (hi : i ≤ b.length) :
    CallP Go.Proofs.Try.prog gl0 27 [cuR b i h] (drawnR b rT) := by
  refine okFnP (fn := Go.Proofs.Try.f27) [.cell 2 29] 1 8 (by kernel_rfl) (by kernel_rfl) rfl (by kernel_rfl) (by decide) rfl rfl rfl ?_
  simp (config := { maxSteps := 1000000 }) only [push_cast, ↓reduceIte, ↓normL_data, ↓frzL_data, Nat.reduceEqDiff, Nat.reduceLT, reduceCtorEq, Nat.reduceAdd, Nat.reduceMul, Nat.reduceDiv, Nat.reduceMod, Nat.reduceSub, Nat.reduceLeDiff, Nat.reduceBEq, Int.reduceLE, Int.reduceLT, Int.reduceToNat, Int.reduceAdd, Int.reduceSub, Int.reduceMul, Int.reduceEq, Int.reduceBEq, Int.reduceNeg, Int.reduceGT, Int.natCast_pos]
  refine vcall_p false (word_ok b i h hb hi) (by simp (config := { maxSteps := 1000000 }) only [push_cast, ↓reduceIte, ↓normL_data, ↓frzL_data, Nat.reduceEqDiff, Nat.reduceLT, reduceCtorEq, Nat.reduceAdd, Nat.reduceMul, Nat.reduceDiv, Nat.reduceMod, Nat.reduceSub, Nat.reduceLeDiff, Nat.reduceBEq, Int.reduceLE, Int.reduceLT, Int.reduceToNat, Int.reduceAdd, Int.reduceSub, Int.reduceMul, Int.reduceEq, Int.reduceBEq, Int.reduceNeg, Int.reduceGT, Int.natCast_pos]) ?_
  rintro _ ⟨_, i1, h1, k1, ⟨x1, a1, rfl⟩, rfl⟩
  simp (config := { maxSteps := 1000000 }) only [push_cast, ↓reduceIte, ↓normL_data, ↓frzL_data, Nat.reduceEqDiff, Nat.reduceLT, reduceCtorEq, Nat.reduceAdd, Nat.reduceMul, Nat.reduceDiv, Nat.reduceMod, Nat.reduceSub, Nat.reduceLeDiff, Nat.reduceBEq, Int.reduceLE, Int.reduceLT, Int.reduceToNat, Int.reduceAdd, Int.reduceSub, Int.reduceMul, Int.reduceEq, Int.reduceBEq, Int.reduceNeg, Int.reduceGT, Int.natCast_pos]
  refine vcall_p false (below_ok b i1 h1 50 hb k1 (by omega) (by omega)) (by simp (config := { maxSteps := 1000000 }) only [push_cast, ↓reduceIte, ↓normL_data, ↓frzL_data, Nat.reduceEqDiff, Nat.reduceLT, reduceCtorEq, Nat.reduceAdd, Nat.reduceMul, Nat.reduceDiv, Nat.reduceMod, Nat.reduceSub, Nat.reduceLeDiff, Nat.reduceBEq, Int.reduceLE, Int.reduceLT, Int.reduceToNat, Int.reduceAdd, Int.reduceSub, Int.reduceMul, Int.reduceEq, Int.reduceBEq, Int.reduceNeg, Int.reduceGT, Int.natCast_pos]) ?_
  rintro _ ⟨_, i2, h2, k2, ⟨x2, a2, b2, rfl⟩, rfl⟩
  simp (config := { maxSteps := 1000000 }) only [push_cast, ↓reduceIte, ↓normL_data, ↓frzL_data, Nat.reduceEqDiff, Nat.reduceLT, reduceCtorEq, Nat.reduceAdd, Nat.reduceMul, Nat.reduceDiv, Nat.reduceMod, Nat.reduceSub, Nat.reduceLeDiff, Nat.reduceBEq, Int.reduceLE, Int.reduceLT, Int.reduceToNat, Int.reduceAdd, Int.reduceSub, Int.reduceMul, Int.reduceEq, Int.reduceBEq, Int.reduceNeg, Int.reduceGT, Int.natCast_pos]
  apply fin_R ⟨x1, x2, a1, a2, by omega, rfl⟩ k2
  · simp (config := { maxSteps := 1000000 }) only [push_cast, ↓reduceIte, ↓normL_data, ↓frzL_data, Nat.reduceEqDiff, Nat.reduceLT, reduceCtorEq, Nat.reduceAdd, Nat.reduceMul, Nat.reduceDiv, Nat.reduceMod, Nat.reduceSub, Nat.reduceLeDiff, Nat.reduceBEq, Int.reduceLE, Int.reduceLT, Int.reduceToNat, Int.reduceAdd, Int.reduceSub, Int.reduceMul, Int.reduceEq, Int.reduceBEq, Int.reduceNeg, Int.reduceGT, Int.natCast_pos]
    exact rfl
def rG (at' : Nat) (res : List In) : Prop := ∃ g : GC.Gt, GC.okG at' g ∧ res = [.ag (gE g)]
theorem gate_ok (b : List UInt8) (i : Nat) (h : Int) (at' : Nat) (hb : b.length ≤ 1048576) (hi : i ≤ b.length) (ha : at' ≤ 1000) :
    CallP Go.Proofs.Try.prog gl0 52 [cuR b i h, .c (iD at')] (drawnR b (rG at')) := by
  refine okFnP (fn := Go.Proofs.Try.f52) [.cell 4 70] 2 49 (by kernel_rfl) (by kernel_rfl) rfl (by kernel_rfl) (by decide) rfl rfl rfl ?_
  simp (config := { maxSteps := 1000000 }) only [push_cast, ↓reduceIte, ↓normL_data, ↓frzL_data, Nat.reduceEqDiff, Nat.reduceLT, reduceCtorEq, Nat.reduceAdd, Nat.reduceMul, Nat.reduceDiv, Nat.reduceMod, Nat.reduceSub, Nat.reduceLeDiff, Nat.reduceBEq, Int.reduceLE, Int.reduceLT, Int.reduceToNat, Int.reduceAdd, Int.reduceSub, Int.reduceMul, Int.reduceEq, Int.reduceBEq, Int.reduceNeg, Int.reduceGT, Int.natCast_pos]
  refine vcall_p false (below_ok b i h 7 hb hi (by omega) (by omega)) (by simp (config := { maxSteps := 1000000 }) only [push_cast, ↓reduceIte, ↓normL_data, ↓frzL_data, Nat.reduceEqDiff, Nat.reduceLT, reduceCtorEq, Nat.reduceAdd, Nat.reduceMul, Nat.reduceDiv, Nat.reduceMod, Nat.reduceSub, Nat.reduceLeDiff, Nat.reduceBEq, Int.reduceLE, Int.reduceLT, Int.reduceToNat, Int.reduceAdd, Int.reduceSub, Int.reduceMul, Int.reduceEq, Int.reduceBEq, Int.reduceNeg, Int.reduceGT, Int.natCast_pos]) ?_
  rintro _ ⟨_, i1, h1, k1, ⟨x1, a1, b1, rfl⟩, rfl⟩
  simp (config := { maxSteps := 1000000 }) only [push_cast, ↓reduceIte, ↓normL_data, ↓frzL_data, Nat.reduceEqDiff, Nat.reduceLT, reduceCtorEq, Nat.reduceAdd, Nat.reduceMul, Nat.reduceDiv, Nat.reduceMod, Nat.reduceSub, Nat.reduceLeDiff, Nat.reduceBEq, Int.reduceLE, Int.reduceLT, Int.reduceToNat, Int.reduceAdd, Int.reduceSub, Int.reduceMul, Int.reduceEq, Int.reduceBEq, Int.reduceNeg, Int.reduceGT, Int.natCast_pos]
  have hx : x1 = 0 ∨ x1 = 1 ∨ x1 = 2 ∨ x1 = 3 ∨ x1 = 4 ∨ x1 = 5 ∨ x1 = 6 := by omega
  rcases hx with rfl | rfl | rfl | rfl | rfl | rfl | rfl <;> rcases Nat.eq_zero_or_pos at' with rfl | hp
  all_goals first | (have hne : ((at' : Int) = 0) = False := by simp; omega
                     have hne2 : ((at' : Int) == 0) = false := by simp; omega
                     simp (config := { maxSteps := 1000000 }) (disch := omega) only [push_cast, ↓reduceIte, ↓normL_data, ↓frzL_data, Nat.reduceEqDiff, Nat.reduceLT, reduceCtorEq, Nat.reduceAdd, Nat.reduceMul, Nat.reduceDiv, Nat.reduceMod, Nat.reduceSub, Nat.reduceLeDiff, Nat.reduceBEq, Int.reduceLE, Int.reduceLT, Int.reduceToNat, Int.reduceAdd, Int.reduceSub, Int.reduceMul, Int.reduceEq, Int.reduceBEq, Int.reduceNeg, Int.reduceGT, Int.natCast_pos, w64, iE_get, gsE_get, bE_get, tmod_e, tdiv_e, hne, hne2]) | simp (config := { maxSteps := 1000000 }) (disch := omega) only [push_cast, ↓reduceIte, ↓normL_data, ↓frzL_data, Nat.reduceEqDiff, Nat.reduceLT, reduceCtorEq, Nat.reduceAdd, Nat.reduceMul, Nat.reduceDiv, Nat.reduceMod, Nat.reduceSub, Nat.reduceLeDiff, Nat.reduceBEq, Int.reduceLE, Int.reduceLT, Int.reduceToNat, Int.reduceAdd, Int.reduceSub, Int.reduceMul, Int.reduceEq, Int.reduceBEq, Int.reduceNeg, Int.reduceGT, Int.natCast_pos, w64, iE_get, gsE_get, bE_get, tmod_e, tdiv_e]
  all_goals first
    | (refine vcall_p false (below_ok b i1 h1 20 hb k1 (by omega) (by omega)) (by simp (config := { maxSteps := 1000000 }) only [push_cast, ↓reduceIte, ↓normL_data, ↓frzL_data, Nat.reduceEqDiff, Nat.reduceLT, reduceCtorEq, Nat.reduceAdd, Nat.reduceMul, Nat.reduceDiv, Nat.reduceMod, Nat.reduceSub, Nat.reduceLeDiff, Nat.reduceBEq, Int.reduceLE, Int.reduceLT, Int.reduceToNat, Int.reduceAdd, Int.reduceSub, Int.reduceMul, Int.reduceEq, Int.reduceBEq, Int.reduceNeg, Int.reduceGT, Int.natCast_pos]) ?_
       rintro _ ⟨_, i2, h2, k2, ⟨x2, a2, b2, rfl⟩, rfl⟩
       simp (config := { maxSteps := 1000000 }) only [push_cast, ↓reduceIte, ↓normL_data, ↓frzL_data, Nat.reduceEqDiff, Nat.reduceLT, reduceCtorEq, Nat.reduceAdd, Nat.reduceMul, Nat.reduceDiv, Nat.reduceMod, Nat.reduceSub, Nat.reduceLeDiff, Nat.reduceBEq, Int.reduceLE, Int.reduceLT, Int.reduceToNat, Int.reduceAdd, Int.reduceSub, Int.reduceMul, Int.reduceEq, Int.reduceBEq, Int.reduceNeg, Int.reduceGT, Int.natCast_pos]
       exact fin_R (h := h2) ⟨⟨1, x2, 0⟩, by simp [GC.okG]; omega, rfl⟩ k2 (by
         simp (config := { maxSteps := 1000000 }) only [push_cast, ↓reduceIte, ↓normL_data, ↓frzL_data, Nat.reduceEqDiff, Nat.reduceLT, reduceCtorEq, Nat.reduceAdd, Nat.reduceMul, Nat.reduceDiv, Nat.reduceMod, Nat.reduceSub, Nat.reduceLeDiff, Nat.reduceBEq, Int.reduceLE, Int.reduceLT, Int.reduceToNat, Int.reduceAdd, Int.reduceSub, Int.reduceMul, Int.reduceEq, Int.reduceBEq, Int.reduceNeg, Int.reduceGT, Int.natCast_pos]
         exact rfl))
    | (refine vcall_p false (below_ok b i1 h1 2 hb k1 (by omega) (by omega)) (by simp (config := { maxSteps := 1000000 }) only [push_cast, ↓reduceIte, ↓normL_data, ↓frzL_data, Nat.reduceEqDiff, Nat.reduceLT, reduceCtorEq, Nat.reduceAdd, Nat.reduceMul, Nat.reduceDiv, Nat.reduceMod, Nat.reduceSub, Nat.reduceLeDiff, Nat.reduceBEq, Int.reduceLE, Int.reduceLT, Int.reduceToNat, Int.reduceAdd, Int.reduceSub, Int.reduceMul, Int.reduceEq, Int.reduceBEq, Int.reduceNeg, Int.reduceGT, Int.natCast_pos]) ?_
       rintro _ ⟨_, i2, h2, k2, ⟨x2, a2, b2, rfl⟩, rfl⟩
       simp (config := { maxSteps := 1000000 }) only [push_cast, ↓reduceIte, ↓normL_data, ↓frzL_data, Nat.reduceEqDiff, Nat.reduceLT, reduceCtorEq, Nat.reduceAdd, Nat.reduceMul, Nat.reduceDiv, Nat.reduceMod, Nat.reduceSub, Nat.reduceLeDiff, Nat.reduceBEq, Int.reduceLE, Int.reduceLT, Int.reduceToNat, Int.reduceAdd, Int.reduceSub, Int.reduceMul, Int.reduceEq, Int.reduceBEq, Int.reduceNeg, Int.reduceGT, Int.natCast_pos]
       exact fin_R (h := h2) ⟨⟨2, x2, 0⟩, by simp [GC.okG]; omega, rfl⟩ k2 (by
         simp (config := { maxSteps := 1000000 }) only [push_cast, ↓reduceIte, ↓normL_data, ↓frzL_data, Nat.reduceEqDiff, Nat.reduceLT, reduceCtorEq, Nat.reduceAdd, Nat.reduceMul, Nat.reduceDiv, Nat.reduceMod, Nat.reduceSub, Nat.reduceLeDiff, Nat.reduceBEq, Int.reduceLE, Int.reduceLT, Int.reduceToNat, Int.reduceAdd, Int.reduceSub, Int.reduceMul, Int.reduceEq, Int.reduceBEq, Int.reduceNeg, Int.reduceGT, Int.natCast_pos]
         exact rfl))
    | (refine vcall_p false (below_ok b i1 h1 at' hb k1 (by omega) (by omega)) (by simp (config := { maxSteps := 1000000 }) only [push_cast, ↓reduceIte, ↓normL_data, ↓frzL_data, Nat.reduceEqDiff, Nat.reduceLT, reduceCtorEq, Nat.reduceAdd, Nat.reduceMul, Nat.reduceDiv, Nat.reduceMod, Nat.reduceSub, Nat.reduceLeDiff, Nat.reduceBEq, Int.reduceLE, Int.reduceLT, Int.reduceToNat, Int.reduceAdd, Int.reduceSub, Int.reduceMul, Int.reduceEq, Int.reduceBEq, Int.reduceNeg, Int.reduceGT, Int.natCast_pos]) ?_
       rintro _ ⟨_, i2, h2, k2, ⟨x2, a2, b2, rfl⟩, rfl⟩
       simp (config := { maxSteps := 1000000 }) only [push_cast, ↓reduceIte, ↓normL_data, ↓frzL_data, Nat.reduceEqDiff, Nat.reduceLT, reduceCtorEq, Nat.reduceAdd, Nat.reduceMul, Nat.reduceDiv, Nat.reduceMod, Nat.reduceSub, Nat.reduceLeDiff, Nat.reduceBEq, Int.reduceLE, Int.reduceLT, Int.reduceToNat, Int.reduceAdd, Int.reduceSub, Int.reduceMul, Int.reduceEq, Int.reduceBEq, Int.reduceNeg, Int.reduceGT, Int.natCast_pos]
       exact fin_R (h := h2) ⟨⟨5, x2, 0⟩, by simp [GC.okG]; omega, rfl⟩ k2 (by
         simp (config := { maxSteps := 1000000 }) only [push_cast, ↓reduceIte, ↓normL_data, ↓frzL_data, Nat.reduceEqDiff, Nat.reduceLT, reduceCtorEq, Nat.reduceAdd, Nat.reduceMul, Nat.reduceDiv, Nat.reduceMod, Nat.reduceSub, Nat.reduceLeDiff, Nat.reduceBEq, Int.reduceLE, Int.reduceLT, Int.reduceToNat, Int.reduceAdd, Int.reduceSub, Int.reduceMul, Int.reduceEq, Int.reduceBEq, Int.reduceNeg, Int.reduceGT, Int.natCast_pos]
         exact rfl))
    | (refine vcall_p false (below_ok b i1 h1 at' hb k1 (by omega) (by omega)) (by simp (config := { maxSteps := 1000000 }) only [push_cast, ↓reduceIte, ↓normL_data, ↓frzL_data, Nat.reduceEqDiff, Nat.reduceLT, reduceCtorEq, Nat.reduceAdd, Nat.reduceMul, Nat.reduceDiv, Nat.reduceMod, Nat.reduceSub, Nat.reduceLeDiff, Nat.reduceBEq, Int.reduceLE, Int.reduceLT, Int.reduceToNat, Int.reduceAdd, Int.reduceSub, Int.reduceMul, Int.reduceEq, Int.reduceBEq, Int.reduceNeg, Int.reduceGT, Int.natCast_pos]) ?_
       rintro _ ⟨_, i2, h2, k2, ⟨x2, a2, b2, rfl⟩, rfl⟩
       simp (config := { maxSteps := 1000000 }) only [push_cast, ↓reduceIte, ↓normL_data, ↓frzL_data, Nat.reduceEqDiff, Nat.reduceLT, reduceCtorEq, Nat.reduceAdd, Nat.reduceMul, Nat.reduceDiv, Nat.reduceMod, Nat.reduceSub, Nat.reduceLeDiff, Nat.reduceBEq, Int.reduceLE, Int.reduceLT, Int.reduceToNat, Int.reduceAdd, Int.reduceSub, Int.reduceMul, Int.reduceEq, Int.reduceBEq, Int.reduceNeg, Int.reduceGT, Int.natCast_pos]
       refine vcall_p false (below_ok b i2 h2 at' hb k2 (by omega) (by omega)) (by simp (config := { maxSteps := 1000000 }) only [push_cast, ↓reduceIte, ↓normL_data, ↓frzL_data, Nat.reduceEqDiff, Nat.reduceLT, reduceCtorEq, Nat.reduceAdd, Nat.reduceMul, Nat.reduceDiv, Nat.reduceMod, Nat.reduceSub, Nat.reduceLeDiff, Nat.reduceBEq, Int.reduceLE, Int.reduceLT, Int.reduceToNat, Int.reduceAdd, Int.reduceSub, Int.reduceMul, Int.reduceEq, Int.reduceBEq, Int.reduceNeg, Int.reduceGT, Int.natCast_pos]) ?_
       rintro _ ⟨_, i3, h3, k3, ⟨x3, a3, b3, rfl⟩, rfl⟩
       simp (config := { maxSteps := 1000000 }) only [push_cast, ↓reduceIte, ↓normL_data, ↓frzL_data, Nat.reduceEqDiff, Nat.reduceLT, reduceCtorEq, Nat.reduceAdd, Nat.reduceMul, Nat.reduceDiv, Nat.reduceMod, Nat.reduceSub, Nat.reduceLeDiff, Nat.reduceBEq, Int.reduceLE, Int.reduceLT, Int.reduceToNat, Int.reduceAdd, Int.reduceSub, Int.reduceMul, Int.reduceEq, Int.reduceBEq, Int.reduceNeg, Int.reduceGT, Int.natCast_pos]
       first
         | exact fin_R (h := h3) ⟨⟨3, x2, x3⟩, by simp [GC.okG]; omega, rfl⟩ k3 (by
             simp (config := { maxSteps := 1000000 }) only [push_cast, ↓reduceIte, ↓normL_data, ↓frzL_data, Nat.reduceEqDiff, Nat.reduceLT, reduceCtorEq, Nat.reduceAdd, Nat.reduceMul, Nat.reduceDiv, Nat.reduceMod, Nat.reduceSub, Nat.reduceLeDiff, Nat.reduceBEq, Int.reduceLE, Int.reduceLT, Int.reduceToNat, Int.reduceAdd, Int.reduceSub, Int.reduceMul, Int.reduceEq, Int.reduceBEq, Int.reduceNeg, Int.reduceGT, Int.natCast_pos]
             exact rfl)
         | exact fin_R (h := h3) ⟨⟨4, x2, x3⟩, by simp [GC.okG]; omega, rfl⟩ k3 (by
             simp (config := { maxSteps := 1000000 }) only [push_cast, ↓reduceIte, ↓normL_data, ↓frzL_data, Nat.reduceEqDiff, Nat.reduceLT, reduceCtorEq, Nat.reduceAdd, Nat.reduceMul, Nat.reduceDiv, Nat.reduceMod, Nat.reduceSub, Nat.reduceLeDiff, Nat.reduceBEq, Int.reduceLE, Int.reduceLT, Int.reduceToNat, Int.reduceAdd, Int.reduceSub, Int.reduceMul, Int.reduceEq, Int.reduceBEq, Int.reduceNeg, Int.reduceGT, Int.natCast_pos]
             exact rfl))
end GV

set_option linter.unusedSimpArgs false
set_option linter.unusedVariables false
set_option maxHeartbeats 4000000
namespace GV
open Go
def gsS (gs : List GC.Gt) : D := .sl 3 (gsE gs)
attribute [push_cast] gsS
@[push_cast] theorem gsE_one' (g : GC.Gt) : [gE g] = gsE [g] := rfl
def cirOk (gs : List GC.Gt) (outs : List Int) : Prop := GC.okGs gs ∧ gs.length ≤ 24 ∧ (∀ w ∈ outs, 0 ≤ w ∧ w < gs.length) ∧ outs.length ≤ 5
def rC (res : List In) : Prop := ∃ gs outs, cirOk gs outs ∧ res = [.ag [gsS gs, iS outs]]
structure CaseI (b : List UInt8) (n : Nat) where
  i : Nat
  ci : Nat
  ch : Int
  gs : List GC.Gt
  h1 : i ≤ n
  h2 : ci ≤ b.length
  h3 : gs.length = i
  h4 : GC.okGs gs
structure CaseJ (b : List UInt8) (n : Nat) where
  i : Nat
  ci : Nat
  ch : Int
  outs : List Int
  h1 : i ≤ 4
  h2 : ci ≤ b.length
  h3 : outs.length = i
  h4 : ∀ w ∈ outs, 0 ≤ w ∧ w < n
theorem case_ok (b : List UInt8) (i : Nat) (h : Int) (hb : b.length ≤ 1048576) (hi : i ≤ b.length) :
    CallP Go.Proofs.Try.prog gl0 25 [cuR b i h] (drawnR b rC) := by
  refine okFnP (fn := Go.Proofs.Try.f25) [.cell 2 27] 1 40 (by kernel_rfl) (by kernel_rfl) rfl (by kernel_rfl) (by decide) rfl rfl rfl ?_
  simp (config := { maxSteps := 1000000 }) only [push_cast, ↓reduceIte, ↓normL_data, ↓frzL_data, Nat.reduceEqDiff, Nat.reduceLT, reduceCtorEq, Nat.reduceAdd, Nat.reduceMul, Nat.reduceDiv, Nat.reduceMod, Nat.reduceSub, Nat.reduceLeDiff, Nat.reduceBEq, Int.reduceLE, Int.reduceLT, Int.reduceToNat, Int.reduceAdd, Int.reduceSub, Int.reduceMul, Int.reduceEq, Int.reduceBEq, Int.reduceNeg, Int.reduceGT, Int.natCast_pos]
  refine vcall_p false (below_ok b i h 24 hb hi (by omega) (by omega)) (by simp (config := { maxSteps := 1000000 }) only [push_cast, ↓reduceIte, ↓normL_data, ↓frzL_data, Nat.reduceEqDiff, Nat.reduceLT, reduceCtorEq, Nat.reduceAdd, Nat.reduceMul, Nat.reduceDiv, Nat.reduceMod, Nat.reduceSub, Nat.reduceLeDiff, Nat.reduceBEq, Int.reduceLE, Int.reduceLT, Int.reduceToNat, Int.reduceAdd, Int.reduceSub, Int.reduceMul, Int.reduceEq, Int.reduceBEq, Int.reduceNeg, Int.reduceGT, Int.natCast_pos]) ?_
  rintro _ ⟨_, i1, h1, k1, ⟨x1, a1, b1, rfl⟩, rfl⟩
  obtain ⟨n, rfl⟩ : ∃ n : Nat, x1 = n := ⟨x1.toNat, by omega⟩
  simp (config := { maxSteps := 1000000 }) (disch := omega) only [push_cast, ↓reduceIte, ↓normL_data, ↓frzL_data, Nat.reduceEqDiff, Nat.reduceLT, reduceCtorEq, Nat.reduceAdd, Nat.reduceMul, Nat.reduceDiv, Nat.reduceMod, Nat.reduceSub, Nat.reduceLeDiff, Nat.reduceBEq, Int.reduceLE, Int.reduceLT, Int.reduceToNat, Int.reduceAdd, Int.reduceSub, Int.reduceMul, Int.reduceEq, Int.reduceBEq, Int.reduceNeg, Int.reduceGT, Int.natCast_pos, w64, iE_get, gsE_get, bE_get, tmod_e, tdiv_e]
  have ew : (1 + (n : Int)) = (n : Int) + 1 := by omega
  refine VC.loop' tab_ok (σ := CaseI b (n + 1)) (fun x => St.of gl0 [(0, .c (.ptr 0 0)), (2, .c (.ptr 2 0)), (3, .c (.ptr 3 0)), (4, .c (.d (iD (n + 1 : Nat)))), (5, .c (.d (iD x.i)))]
    [(3000, gsR []), (3001, iR []), (4000, gsR x.gs), (4001, iR [])] [(0, [.d (bS b), .d (iD x.ci), .d (iD x.ch)]), (2, [.own 3000, .own 3001]), (3, [.own 4000, .own 4001])]) (fun x => n + 1 - x.i) ⟨0, i1, h1, [], by omega, k1, rfl, GC.okGs_nil⟩ (St.le_of ?_) ?_
  · simp (config := { maxSteps := 1000000 }) (disch := omega) only [push_cast, ↓reduceIte, ↓normL_data, ↓frzL_data, Nat.reduceEqDiff, Nat.reduceLT, reduceCtorEq, Nat.reduceAdd, Nat.reduceMul, Nat.reduceDiv, Nat.reduceMod, Nat.reduceSub, Nat.reduceLeDiff, Nat.reduceBEq, Int.reduceLE, Int.reduceLT, Int.reduceToNat, Int.reduceAdd, Int.reduceSub, Int.reduceMul, Int.reduceEq, Int.reduceBEq, Int.reduceNeg, Int.reduceGT, Int.natCast_pos, w64, iE_get, gsE_get, bE_get, tmod_e, tdiv_e, ew]
  · intro x
    obtain ⟨j, ci, ch, gs, q1, q2, q3, q4⟩ := x
    simp (config := { maxSteps := 1000000 }) (disch := omega) only [push_cast, ↓reduceIte, ↓normL_data, ↓frzL_data, Nat.reduceEqDiff, Nat.reduceLT, reduceCtorEq, Nat.reduceAdd, Nat.reduceMul, Nat.reduceDiv, Nat.reduceMod, Nat.reduceSub, Nat.reduceLeDiff, Nat.reduceBEq, Int.reduceLE, Int.reduceLT, Int.reduceToNat, Int.reduceAdd, Int.reduceSub, Int.reduceMul, Int.reduceEq, Int.reduceBEq, Int.reduceNeg, Int.reduceGT, Int.natCast_pos, w64, iE_get, gsE_get, bE_get, tmod_e, tdiv_e]
    refine ⟨fun hl => ?_, fun hl => ?_⟩
    · refine VD.plan tab_ok (by kernel_rfl) [4, 6, 8] (.takes [0, 2, 3] (.two 1 (.one 4 (.one 5 (.one 6 (.takes [7] (.one 8 (.done)))))) 4 (.two 1 (.one 5 (.one 6 (.takes [7] (.one 8 (.done))))) 5 (.one 1 (.one 6 (.takes [7] (.one 8 (.done)))))))) (by kernel_rfl) ?_
      simp (config := { maxSteps := 1000000 }) only [push_cast, ↓reduceIte, ↓normL_data, ↓frzL_data, Nat.reduceEqDiff, Nat.reduceLT, reduceCtorEq, Nat.reduceAdd, Nat.reduceMul, Nat.reduceDiv, Nat.reduceMod, Nat.reduceSub, Nat.reduceLeDiff, Nat.reduceBEq, Int.reduceLE, Int.reduceLT, Int.reduceToNat, Int.reduceAdd, Int.reduceSub, Int.reduceMul, Int.reduceEq, Int.reduceBEq, Int.reduceNeg, Int.reduceGT, Int.natCast_pos]
      refine ⟨?_, ?_⟩
      all_goals
        refine vcall_p false (gate_ok b ci ch j hb q2 (by omega)) (by simp (config := { maxSteps := 1000000 }) only [push_cast, ↓reduceIte, ↓normL_data, ↓frzL_data, Nat.reduceEqDiff, Nat.reduceLT, reduceCtorEq, Nat.reduceAdd, Nat.reduceMul, Nat.reduceDiv, Nat.reduceMod, Nat.reduceSub, Nat.reduceLeDiff, Nat.reduceBEq, Int.reduceLE, Int.reduceLT, Int.reduceToNat, Int.reduceAdd, Int.reduceSub, Int.reduceMul, Int.reduceEq, Int.reduceBEq, Int.reduceNeg, Int.reduceGT, Int.natCast_pos]) ?_
        rintro _ ⟨_, i2, h2, k2, ⟨g2, a2, rfl⟩, rfl⟩
        simp (config := { maxSteps := 1000000 }) only [push_cast, ↓reduceIte, ↓normL_data, ↓frzL_data, Nat.reduceEqDiff, Nat.reduceLT, reduceCtorEq, Nat.reduceAdd, Nat.reduceMul, Nat.reduceDiv, Nat.reduceMod, Nat.reduceSub, Nat.reduceLeDiff, Nat.reduceBEq, Int.reduceLE, Int.reduceLT, Int.reduceToNat, Int.reduceAdd, Int.reduceSub, Int.reduceMul, Int.reduceEq, Int.reduceBEq, Int.reduceNeg, Int.reduceGT, Int.natCast_pos, gE]
        repeat' apply And.intro
        all_goals try omega
        all_goals refine kloop_next ⟨j + 1, i2, h2, gs ++ [⟨g2.k, g2.a, g2.b⟩], by omega, k2, by simp [q3], GC.okGs_snoc q4 (by rw [q3]; exact a2)⟩ (St.le_of ?_) (by simp only; omega)
        all_goals simp (config := { maxSteps := 1000000 }) (disch := omega) only [push_cast, ↓reduceIte, ↓normL_data, ↓frzL_data, Nat.reduceEqDiff, Nat.reduceLT, reduceCtorEq, Nat.reduceAdd, Nat.reduceMul, Nat.reduceDiv, Nat.reduceMod, Nat.reduceSub, Nat.reduceLeDiff, Nat.reduceBEq, Int.reduceLE, Int.reduceLT, Int.reduceToNat, Int.reduceAdd, Int.reduceSub, Int.reduceMul, Int.reduceEq, Int.reduceBEq, Int.reduceNeg, Int.reduceGT, Int.natCast_pos, w64, iE_get, gsE_get, bE_get, tmod_e, tdiv_e]
    · refine VC.loop' tab_ok (σ := CaseJ b (n + 1)) (fun x => St.of gl0 [(0, .c (.ptr 0 0)), (2, .c (.ptr 2 0)), (3, .c (.ptr 3 0)), (4, .c (.d (iD (n + 1 : Nat)))), (6, .c (.d (iD x.i)))]
        [(3000, gsR []), (3001, iR []), (4000, gsR gs), (4001, iR x.outs)] [(0, [.d (bS b), .d (iD x.ci), .d (iD x.ch)]), (2, [.own 3000, .own 3001]), (3, [.own 4000, .own 4001])]) (fun x => 5 - x.i) ⟨0, ci, ch, [], by omega, q2, rfl, by simp⟩ (St.le_of ?_) ?_
      · simp (config := { maxSteps := 1000000 }) (disch := omega) only [push_cast, ↓reduceIte, ↓normL_data, ↓frzL_data, Nat.reduceEqDiff, Nat.reduceLT, reduceCtorEq, Nat.reduceAdd, Nat.reduceMul, Nat.reduceDiv, Nat.reduceMod, Nat.reduceSub, Nat.reduceLeDiff, Nat.reduceBEq, Int.reduceLE, Int.reduceLT, Int.reduceToNat, Int.reduceAdd, Int.reduceSub, Int.reduceMul, Int.reduceEq, Int.reduceBEq, Int.reduceNeg, Int.reduceGT, Int.natCast_pos, w64, iE_get, gsE_get, bE_get, tmod_e, tdiv_e]
      · intro x
        obtain ⟨k, cj, cg, outs, r1, r2, r3, r4⟩ := x
        simp (config := { maxSteps := 1000000 }) only [push_cast, ↓reduceIte, ↓normL_data, ↓frzL_data, Nat.reduceEqDiff, Nat.reduceLT, reduceCtorEq, Nat.reduceAdd, Nat.reduceMul, Nat.reduceDiv, Nat.reduceMod, Nat.reduceSub, Nat.reduceLeDiff, Nat.reduceBEq, Int.reduceLE, Int.reduceLT, Int.reduceToNat, Int.reduceAdd, Int.reduceSub, Int.reduceMul, Int.reduceEq, Int.reduceBEq, Int.reduceNeg, Int.reduceGT, Int.natCast_pos]
        refine vcall_p false (below_ok b cj cg 4 hb r2 (by omega) (by omega)) (by simp (config := { maxSteps := 1000000 }) only [push_cast, ↓reduceIte, ↓normL_data, ↓frzL_data, Nat.reduceEqDiff, Nat.reduceLT, reduceCtorEq, Nat.reduceAdd, Nat.reduceMul, Nat.reduceDiv, Nat.reduceMod, Nat.reduceSub, Nat.reduceLeDiff, Nat.reduceBEq, Int.reduceLE, Int.reduceLT, Int.reduceToNat, Int.reduceAdd, Int.reduceSub, Int.reduceMul, Int.reduceEq, Int.reduceBEq, Int.reduceNeg, Int.reduceGT, Int.natCast_pos]) ?_
        rintro _ ⟨_, i2, h2, k2, ⟨x2, a2, b2, rfl⟩, rfl⟩
        simp (config := { maxSteps := 1000000 }) (disch := omega) only [push_cast, ↓reduceIte, ↓normL_data, ↓frzL_data, Nat.reduceEqDiff, Nat.reduceLT, reduceCtorEq, Nat.reduceAdd, Nat.reduceMul, Nat.reduceDiv, Nat.reduceMod, Nat.reduceSub, Nat.reduceLeDiff, Nat.reduceBEq, Int.reduceLE, Int.reduceLT, Int.reduceToNat, Int.reduceAdd, Int.reduceSub, Int.reduceMul, Int.reduceEq, Int.reduceBEq, Int.reduceNeg, Int.reduceGT, Int.natCast_pos, w64, iE_get, gsE_get, bE_get, tmod_e, tdiv_e]
        refine ⟨fun hm => ?_, fun hm => ?_⟩
        · refine VD.plan tab_ok (by kernel_rfl) [4, 6, 8] (.takes [0, 2, 3] (.two 1 (.one 4 (.one 5 (.one 6 (.takes [7] (.one 8 (.done)))))) 4 (.two 1 (.one 5 (.one 6 (.takes [7] (.one 8 (.done))))) 5 (.one 1 (.one 6 (.takes [7] (.one 8 (.done)))))))) (by kernel_rfl) ?_
          simp (config := { maxSteps := 1000000 }) only [push_cast, ↓reduceIte, ↓normL_data, ↓frzL_data, Nat.reduceEqDiff, Nat.reduceLT, reduceCtorEq, Nat.reduceAdd, Nat.reduceMul, Nat.reduceDiv, Nat.reduceMod, Nat.reduceSub, Nat.reduceLeDiff, Nat.reduceBEq, Int.reduceLE, Int.reduceLT, Int.reduceToNat, Int.reduceAdd, Int.reduceSub, Int.reduceMul, Int.reduceEq, Int.reduceBEq, Int.reduceNeg, Int.reduceGT, Int.natCast_pos]
          refine ⟨?_, ?_⟩
          all_goals
            refine vcall_p false (below_ok b i2 h2 ((n : Int) + 1) hb k2 (by omega) (by omega)) (by simp (config := { maxSteps := 1000000 }) only [push_cast, ↓reduceIte, ↓normL_data, ↓frzL_data, Nat.reduceEqDiff, Nat.reduceLT, reduceCtorEq, Nat.reduceAdd, Nat.reduceMul, Nat.reduceDiv, Nat.reduceMod, Nat.reduceSub, Nat.reduceLeDiff, Nat.reduceBEq, Int.reduceLE, Int.reduceLT, Int.reduceToNat, Int.reduceAdd, Int.reduceSub, Int.reduceMul, Int.reduceEq, Int.reduceBEq, Int.reduceNeg, Int.reduceGT, Int.natCast_pos]) ?_
            rintro _ ⟨_, i3, h3, k3, ⟨x3, a3, b3, rfl⟩, rfl⟩
            simp (config := { maxSteps := 1000000 }) only [push_cast, ↓reduceIte, ↓normL_data, ↓frzL_data, Nat.reduceEqDiff, Nat.reduceLT, reduceCtorEq, Nat.reduceAdd, Nat.reduceMul, Nat.reduceDiv, Nat.reduceMod, Nat.reduceSub, Nat.reduceLeDiff, Nat.reduceBEq, Int.reduceLE, Int.reduceLT, Int.reduceToNat, Int.reduceAdd, Int.reduceSub, Int.reduceMul, Int.reduceEq, Int.reduceBEq, Int.reduceNeg, Int.reduceGT, Int.natCast_pos]
            repeat' apply And.intro
            all_goals try omega
            all_goals refine kloop_next ⟨k + 1, i3, h3, outs ++ [x3], by omega, k3, by simp [r3], fun w hw => ?_⟩ (St.le_of ?_) (by simp only; omega)
            any_goals simp (config := { maxSteps := 1000000 }) (disch := omega) only [push_cast, ↓reduceIte, ↓normL_data, ↓frzL_data, Nat.reduceEqDiff, Nat.reduceLT, reduceCtorEq, Nat.reduceAdd, Nat.reduceMul, Nat.reduceDiv, Nat.reduceMod, Nat.reduceSub, Nat.reduceLeDiff, Nat.reduceBEq, Int.reduceLE, Int.reduceLT, Int.reduceToNat, Int.reduceAdd, Int.reduceSub, Int.reduceMul, Int.reduceEq, Int.reduceBEq, Int.reduceNeg, Int.reduceGT, Int.natCast_pos, w64, iE_get, gsE_get, bE_get, tmod_e, tdiv_e]
            all_goals
              rcases List.mem_append.1 hw with hw | hw
              · exact r4 w hw
              · rw [List.mem_singleton.1 hw]; omega
        · refine fin_R (h := h2) ⟨gs, outs, ⟨q4, by omega, fun w hw => ?_, by omega⟩, rfl⟩ k2 ?_
          · have := r4 w hw; omega
          · simp (config := { maxSteps := 1000000 }) only [push_cast, ↓reduceIte, ↓normL_data, ↓frzL_data, Nat.reduceEqDiff, Nat.reduceLT, reduceCtorEq, Nat.reduceAdd, Nat.reduceMul, Nat.reduceDiv, Nat.reduceMod, Nat.reduceSub, Nat.reduceLeDiff, Nat.reduceBEq, Int.reduceLE, Int.reduceLT, Int.reduceToNat, Int.reduceAdd, Int.reduceSub, Int.reduceMul, Int.reduceEq, Int.reduceBEq, Int.reduceNeg, Int.reduceGT, Int.natCast_pos]
@[push_cast] theorem iE_rep (n : Nat) (x : Int) : List.replicate n [iD x] = iE (List.replicate n x) := by simp [iE]
def rB (res : List In) : Prop := ∃ l : List Int, l.length ≤ 100 ∧ res = [.rr (iR l)]
structure InpI (b : List UInt8) where
  i : Nat
  ci : Nat
  ch : Int
  l : List Int
  h1 : i ≤ 20
  h2 : ci ≤ b.length
  h3 : l.length = i
theorem input_ok (b : List UInt8) (i : Nat) (h : Int) (hb : b.length ≤ 1048576) (hi : i ≤ b.length) :
    CallP Go.Proofs.Try.prog gl0 26 [cuR b i h] (drawnR b rB) := by
  refine okFnP (fn := Go.Proofs.Try.f26) [.tmp 2] 1 17 (by kernel_rfl) (by kernel_rfl) rfl (by kernel_rfl) (by decide) rfl rfl rfl ?_
  simp (config := { maxSteps := 1000000 }) only [push_cast, ↓reduceIte, ↓normL_data, ↓frzL_data, Nat.reduceEqDiff, Nat.reduceLT, reduceCtorEq, Nat.reduceAdd, Nat.reduceMul, Nat.reduceDiv, Nat.reduceMod, Nat.reduceSub, Nat.reduceLeDiff, Nat.reduceBEq, Int.reduceLE, Int.reduceLT, Int.reduceToNat, Int.reduceAdd, Int.reduceSub, Int.reduceMul, Int.reduceEq, Int.reduceBEq, Int.reduceNeg, Int.reduceGT, Int.natCast_pos]
  refine VC.loop' tab_ok (σ := InpI b) (fun x => St.of gl0 [(0, .c (.ptr 0 0)), (3, .c (.own 3)), (4, .c (.d (iD x.i)))]
    [(3, iR x.l)] [(0, [.d (bS b), .d (iD x.ci), .d (iD x.ch)])]) (fun x => 20 - x.i) ⟨0, i, h, [], by omega, hi, rfl⟩ (St.le_of ?_) ?_
  · simp (config := { maxSteps := 1000000 }) only [push_cast, ↓reduceIte, ↓normL_data, ↓frzL_data, Nat.reduceEqDiff, Nat.reduceLT, reduceCtorEq, Nat.reduceAdd, Nat.reduceMul, Nat.reduceDiv, Nat.reduceMod, Nat.reduceSub, Nat.reduceLeDiff, Nat.reduceBEq, Int.reduceLE, Int.reduceLT, Int.reduceToNat, Int.reduceAdd, Int.reduceSub, Int.reduceMul, Int.reduceEq, Int.reduceBEq, Int.reduceNeg, Int.reduceGT, Int.natCast_pos]
  · intro x
    obtain ⟨j, ci, ch, l, q1, q2, q3⟩ := x
    have ew : IntKind.i64.wrap ((j : Int) + 1) = ((j + 1 : Nat) : Int) := by rw [w64 _ (by omega) (by omega)]; omega
    simp (config := { maxSteps := 1000000 }) only [push_cast, ↓reduceIte, ↓normL_data, ↓frzL_data, Nat.reduceEqDiff, Nat.reduceLT, reduceCtorEq, Nat.reduceAdd, Nat.reduceMul, Nat.reduceDiv, Nat.reduceMod, Nat.reduceSub, Nat.reduceLeDiff, Nat.reduceBEq, Int.reduceLE, Int.reduceLT, Int.reduceToNat, Int.reduceAdd, Int.reduceSub, Int.reduceMul, Int.reduceEq, Int.reduceBEq, Int.reduceNeg, Int.reduceGT, Int.natCast_pos]
    refine ⟨fun hl => ?_, fun hl => ?_⟩
    · refine vcall_p false (below_ok b ci ch 2 hb q2 (by omega) (by omega)) (by simp (config := { maxSteps := 1000000 }) only [push_cast, ↓reduceIte, ↓normL_data, ↓frzL_data, Nat.reduceEqDiff, Nat.reduceLT, reduceCtorEq, Nat.reduceAdd, Nat.reduceMul, Nat.reduceDiv, Nat.reduceMod, Nat.reduceSub, Nat.reduceLeDiff, Nat.reduceBEq, Int.reduceLE, Int.reduceLT, Int.reduceToNat, Int.reduceAdd, Int.reduceSub, Int.reduceMul, Int.reduceEq, Int.reduceBEq, Int.reduceNeg, Int.reduceGT, Int.natCast_pos]) ?_
      rintro _ ⟨_, i2, h2, k2, ⟨x2, a2, b2, rfl⟩, rfl⟩
      simp (config := { maxSteps := 1000000 }) only [push_cast, ↓reduceIte, ↓normL_data, ↓frzL_data, Nat.reduceEqDiff, Nat.reduceLT, reduceCtorEq, Nat.reduceAdd, Nat.reduceMul, Nat.reduceDiv, Nat.reduceMod, Nat.reduceSub, Nat.reduceLeDiff, Nat.reduceBEq, Int.reduceLE, Int.reduceLT, Int.reduceToNat, Int.reduceAdd, Int.reduceSub, Int.reduceMul, Int.reduceEq, Int.reduceBEq, Int.reduceNeg, Int.reduceGT, Int.natCast_pos]
      refine ⟨by omega, kloop_next ⟨j + 1, i2, h2, l ++ [x2], by omega, k2, by simp [q3]⟩ (St.le_of ?_) (by simp only; omega)⟩
      simp (config := { maxSteps := 1000000 }) only [push_cast, ↓reduceIte, ↓normL_data, ↓frzL_data, Nat.reduceEqDiff, Nat.reduceLT, reduceCtorEq, Nat.reduceAdd, Nat.reduceMul, Nat.reduceDiv, Nat.reduceMod, Nat.reduceSub, Nat.reduceLeDiff, Nat.reduceBEq, Int.reduceLE, Int.reduceLT, Int.reduceToNat, Int.reduceAdd, Int.reduceSub, Int.reduceMul, Int.reduceEq, Int.reduceBEq, Int.reduceNeg, Int.reduceGT, Int.natCast_pos, ew]
    · refine ⟨by omega, fin_R (h := ch) ⟨l ++ List.replicate 60 0, by simp; omega, rfl⟩ q2 ?_⟩
      simp (config := { maxSteps := 1000000 }) only [push_cast, ↓reduceIte, ↓normL_data, ↓frzL_data, Nat.reduceEqDiff, Nat.reduceLT, reduceCtorEq, Nat.reduceAdd, Nat.reduceMul, Nat.reduceDiv, Nat.reduceMod, Nat.reduceSub, Nat.reduceLeDiff, Nat.reduceBEq, Int.reduceLE, Int.reduceLT, Int.reduceToNat, Int.reduceAdd, Int.reduceSub, Int.reduceMul, Int.reduceEq, Int.reduceBEq, Int.reduceNeg, Int.reduceGT, Int.natCast_pos]
      trace_state
def hN (b : List UInt8) : Nat → Int
  | 0 => 99901 + b.length
  | k + 1 => bits .and .i64 (IntKind.i64.wrap (IntKind.i64.wrap (IntKind.i64.wrap (hN b k * 131) + IntKind.i64.wrap ((b.getD k 0).toNat : Int)) + 7)) 1073741823
theorem new_ok (b : List UInt8) (hb : b.length ≤ 1048576) : ∃ h : Int, CallOk Go.Proofs.Try.prog gl0 24 [.c (bS b)] ⟨[cuR b 0 h], []⟩ := by
  refine ⟨hN b (min b.length 4000), ?_⟩
  have key : CallOk Go.Proofs.Try.prog gl0 24 [.c (bS b)] ⟨[.rv (([bS b, iD 0, iD (hN b (min b.length 4000))] : List D).map .d)], []⟩ := by
    refine okFnN (fn := Go.Proofs.Try.f24) [.tmp 2] 1 32 (by kernel_rfl) (by kernel_rfl) rfl (by kernel_rfl) (by decide) rfl rfl rfl rfl ?_
    have e0 : IntKind.i64.wrap (99901 + (b.length : Int)) = 99901 + b.length := w64 _ (by omega) (by omega)
    simp (config := { maxSteps := 1000000 }) only [push_cast, ↓reduceIte, ↓normL_data, ↓frzL_data, Nat.reduceEqDiff, Nat.reduceLT, reduceCtorEq, Nat.reduceAdd, Nat.reduceMul, Nat.reduceDiv, Nat.reduceMod, Nat.reduceSub, Nat.reduceLeDiff, Nat.reduceBEq, Int.reduceLE, Int.reduceLT, Int.reduceToNat, Int.reduceAdd, Int.reduceSub, Int.reduceMul, Int.reduceEq, Int.reduceBEq, Int.reduceNeg, Int.reduceGT, Int.natCast_pos]
    refine VC.loop' tab_ok (σ := Fin (min b.length 4000 + 1)) (fun x => St.of gl0 [(0, .c (.d (bS b))), (3, .c (.d (iD (hN b x.1)))), (4, .c (.d (iD x.1)))] [] []) (fun x => 4001 - x.1) 0 (St.le_of ?_) ?_
    · simp (config := { maxSteps := 1000000 }) only [push_cast, ↓reduceIte, ↓normL_data, ↓frzL_data, Nat.reduceEqDiff, Nat.reduceLT, reduceCtorEq, Nat.reduceAdd, Nat.reduceMul, Nat.reduceDiv, Nat.reduceMod, Nat.reduceSub, Nat.reduceLeDiff, Nat.reduceBEq, Int.reduceLE, Int.reduceLT, Int.reduceToNat, Int.reduceAdd, Int.reduceSub, Int.reduceMul, Int.reduceEq, Int.reduceBEq, Int.reduceNeg, Int.reduceGT, Int.natCast_pos, e0]
      exact ⟨rfl, rfl⟩
    · intro x
      obtain ⟨k, hk⟩ := x
      have ew : IntKind.i64.wrap ((k : Int) + 1) = ((k + 1 : Nat) : Int) := by rw [w64 _ (by omega) (by omega)]; omega
      by_cases hl : k < b.length
      · by_cases h4 : (k : Int) < 4000
        · simp (config := { maxSteps := 1000000 }) only [push_cast, ↓reduceIte, ↓normL_data, ↓frzL_data, Nat.reduceEqDiff, Nat.reduceLT, reduceCtorEq, Nat.reduceAdd, Nat.reduceMul, Nat.reduceDiv, Nat.reduceMod, Nat.reduceSub, Nat.reduceLeDiff, Nat.reduceBEq, Int.reduceLE, Int.reduceLT, Int.reduceToNat, Int.reduceAdd, Int.reduceSub, Int.reduceMul, Int.reduceEq, Int.reduceBEq, Int.reduceNeg, Int.reduceGT, Int.natCast_pos, hl, h4, bE_get _ _ hl, ew]
          refine kloop_next ⟨k + 1, by omega⟩ (St.le_of ?_) (by simp only; omega)
          simp (config := { maxSteps := 1000000 }) only [push_cast, ↓reduceIte, ↓normL_data, ↓frzL_data, Nat.reduceEqDiff, Nat.reduceLT, reduceCtorEq, Nat.reduceAdd, Nat.reduceMul, Nat.reduceDiv, Nat.reduceMod, Nat.reduceSub, Nat.reduceLeDiff, Nat.reduceBEq, Int.reduceLE, Int.reduceLT, Int.reduceToNat, Int.reduceAdd, Int.reduceSub, Int.reduceMul, Int.reduceEq, Int.reduceBEq, Int.reduceNeg, Int.reduceGT, Int.natCast_pos, ew, hN, and_self]
        · have e1 : min b.length 4000 = k := by omega
          simp (config := { maxSteps := 1000000 }) only [push_cast, ↓reduceIte, ↓normL_data, ↓frzL_data, Nat.reduceEqDiff, Nat.reduceLT, reduceCtorEq, Nat.reduceAdd, Nat.reduceMul, Nat.reduceDiv, Nat.reduceMod, Nat.reduceSub, Nat.reduceLeDiff, Nat.reduceBEq, Int.reduceLE, Int.reduceLT, Int.reduceToNat, Int.reduceAdd, Int.reduceSub, Int.reduceMul, Int.reduceEq, Int.reduceBEq, Int.reduceNeg, Int.reduceGT, Int.natCast_pos, hl, h4, vfinN, e1]
          exact ⟨31, rfl, rfl⟩
      · have e1 : min b.length 4000 = k := by omega
        simp (config := { maxSteps := 1000000 }) only [push_cast, ↓reduceIte, ↓normL_data, ↓frzL_data, Nat.reduceEqDiff, Nat.reduceLT, reduceCtorEq, Nat.reduceAdd, Nat.reduceMul, Nat.reduceDiv, Nat.reduceMod, Nat.reduceSub, Nat.reduceLeDiff, Nat.reduceBEq, Int.reduceLE, Int.reduceLT, Int.reduceToNat, Int.reduceAdd, Int.reduceSub, Int.reduceMul, Int.reduceEq, Int.reduceBEq, Int.reduceNeg, Int.reduceGT, Int.natCast_pos, hl, vfinN, e1]
        exact ⟨31, rfl, rfl⟩
  exact key
end GV

set_option linter.unusedSimpArgs false
set_option linter.unusedVariables false
set_option maxHeartbeats 4000000
namespace GV
open Go
def rGarb (o : Out) : Prop := ∃ gs outs l s p, cirOk gs outs ∧ GC.isW s ∧ 0 ≤ p ∧ p ≤ 49 ∧ o = ⟨[.ag [gsS gs, iS outs], .c (iS l), .ag [iD s, iD p]], []⟩
theorem drawGarbling_ok (b : List UInt8) (hb : b.length ≤ 1048576) : CallP Go.Proofs.Try.prog gl0 7 [.c (bS b)] rGarb := by
  obtain ⟨h, hn⟩ := new_ok b hb
  refine okFnP (fn := Go.Proofs.Try.f7) [.cell 2 27, .tmp 3, .cell 4 29] 1 18 (by kernel_rfl) (by kernel_rfl) rfl (by kernel_rfl) (by decide) rfl rfl rfl ?_
  simp (config := { maxSteps := 1000000 }) only [push_cast, ↓reduceIte, ↓normL_data, ↓frzL_data, Nat.reduceEqDiff, Nat.reduceLT, reduceCtorEq, Nat.reduceAdd, Nat.reduceMul, Nat.reduceDiv, Nat.reduceMod, Nat.reduceSub, Nat.reduceLeDiff, Nat.reduceBEq, Int.reduceLE, Int.reduceLT, Int.reduceToNat, Int.reduceAdd, Int.reduceSub, Int.reduceMul, Int.reduceEq, Int.reduceBEq, Int.reduceNeg, Int.reduceGT, Int.natCast_pos]
  refine vcall_by false hn ?_
  simp (config := { maxSteps := 1000000 }) only [push_cast, ↓reduceIte, ↓normL_data, ↓frzL_data, Nat.reduceEqDiff, Nat.reduceLT, reduceCtorEq, Nat.reduceAdd, Nat.reduceMul, Nat.reduceDiv, Nat.reduceMod, Nat.reduceSub, Nat.reduceLeDiff, Nat.reduceBEq, Int.reduceLE, Int.reduceLT, Int.reduceToNat, Int.reduceAdd, Int.reduceSub, Int.reduceMul, Int.reduceEq, Int.reduceBEq, Int.reduceNeg, Int.reduceGT, Int.natCast_pos]
  refine vcall_p false (case_ok b 0 h hb (by omega)) (by simp (config := { maxSteps := 1000000 }) only [push_cast, ↓reduceIte, ↓normL_data, ↓frzL_data, Nat.reduceEqDiff, Nat.reduceLT, reduceCtorEq, Nat.reduceAdd, Nat.reduceMul, Nat.reduceDiv, Nat.reduceMod, Nat.reduceSub, Nat.reduceLeDiff, Nat.reduceBEq, Int.reduceLE, Int.reduceLT, Int.reduceToNat, Int.reduceAdd, Int.reduceSub, Int.reduceMul, Int.reduceEq, Int.reduceBEq, Int.reduceNeg, Int.reduceGT, Int.natCast_pos]) ?_
  rintro _ ⟨_, i1, h1, k1, ⟨gs, outs, a1, rfl⟩, rfl⟩
  simp (config := { maxSteps := 1000000 }) only [push_cast, ↓reduceIte, ↓normL_data, ↓frzL_data, Nat.reduceEqDiff, Nat.reduceLT, reduceCtorEq, Nat.reduceAdd, Nat.reduceMul, Nat.reduceDiv, Nat.reduceMod, Nat.reduceSub, Nat.reduceLeDiff, Nat.reduceBEq, Int.reduceLE, Int.reduceLT, Int.reduceToNat, Int.reduceAdd, Int.reduceSub, Int.reduceMul, Int.reduceEq, Int.reduceBEq, Int.reduceNeg, Int.reduceGT, Int.natCast_pos]
  refine vcall_p false (input_ok b i1 h1 hb k1) (by simp (config := { maxSteps := 1000000 }) only [push_cast, ↓reduceIte, ↓normL_data, ↓frzL_data, Nat.reduceEqDiff, Nat.reduceLT, reduceCtorEq, Nat.reduceAdd, Nat.reduceMul, Nat.reduceDiv, Nat.reduceMod, Nat.reduceSub, Nat.reduceLeDiff, Nat.reduceBEq, Int.reduceLE, Int.reduceLT, Int.reduceToNat, Int.reduceAdd, Int.reduceSub, Int.reduceMul, Int.reduceEq, Int.reduceBEq, Int.reduceNeg, Int.reduceGT, Int.natCast_pos]) ?_
  rintro _ ⟨_, i2, h2, k2, ⟨l, a2, rfl⟩, rfl⟩
  simp (config := { maxSteps := 1000000 }) only [push_cast, ↓reduceIte, ↓normL_data, ↓frzL_data, Nat.reduceEqDiff, Nat.reduceLT, reduceCtorEq, Nat.reduceAdd, Nat.reduceMul, Nat.reduceDiv, Nat.reduceMod, Nat.reduceSub, Nat.reduceLeDiff, Nat.reduceBEq, Int.reduceLE, Int.reduceLT, Int.reduceToNat, Int.reduceAdd, Int.reduceSub, Int.reduceMul, Int.reduceEq, Int.reduceBEq, Int.reduceNeg, Int.reduceGT, Int.natCast_pos]
  refine VD.plan tab_ok (by kernel_rfl) [3, 4, 6] (.takes [1, 2] (.two 0 (.one 3 (.one 4 (.takes [5] (.one 6 (.done))))) 3 (.one 0 (.one 4 (.takes [5] (.one 6 (.done))))))) (by kernel_rfl) ?_
  simp (config := { maxSteps := 1000000 }) only [push_cast, ↓reduceIte, ↓normL_data, ↓frzL_data, Nat.reduceEqDiff, Nat.reduceLT, reduceCtorEq, Nat.reduceAdd, Nat.reduceMul, Nat.reduceDiv, Nat.reduceMod, Nat.reduceSub, Nat.reduceLeDiff, Nat.reduceBEq, Int.reduceLE, Int.reduceLT, Int.reduceToNat, Int.reduceAdd, Int.reduceSub, Int.reduceMul, Int.reduceEq, Int.reduceBEq, Int.reduceNeg, Int.reduceGT, Int.natCast_pos]
  refine ⟨?_, ?_⟩
  all_goals
    refine vcall_p false (tape_ok b i2 h2 hb k2) (by simp (config := { maxSteps := 1000000 }) only [push_cast, ↓reduceIte, ↓normL_data, ↓frzL_data, Nat.reduceEqDiff, Nat.reduceLT, reduceCtorEq, Nat.reduceAdd, Nat.reduceMul, Nat.reduceDiv, Nat.reduceMod, Nat.reduceSub, Nat.reduceLeDiff, Nat.reduceBEq, Int.reduceLE, Int.reduceLT, Int.reduceToNat, Int.reduceAdd, Int.reduceSub, Int.reduceMul, Int.reduceEq, Int.reduceBEq, Int.reduceNeg, Int.reduceGT, Int.natCast_pos]) ?_
    rintro _ ⟨_, i3, h3, k3, ⟨s, p, a3, b3, c3, rfl⟩, rfl⟩
    simp (config := { maxSteps := 1000000 }) only [push_cast, ↓reduceIte, ↓normL_data, ↓frzL_data, Nat.reduceEqDiff, Nat.reduceLT, reduceCtorEq, Nat.reduceAdd, Nat.reduceMul, Nat.reduceDiv, Nat.reduceMod, Nat.reduceSub, Nat.reduceLeDiff, Nat.reduceBEq, Int.reduceLE, Int.reduceLT, Int.reduceToNat, Int.reduceAdd, Int.reduceSub, Int.reduceMul, Int.reduceEq, Int.reduceBEq, Int.reduceNeg, Int.reduceGT, Int.natCast_pos]
    refine vfinP_by _ ⟨gs, outs, l, s, p, a1, a3, b3, c3, rfl⟩ ?_
    simp (config := { maxSteps := 1000000 }) only [push_cast, ↓reduceIte, ↓normL_data, ↓frzL_data, Nat.reduceEqDiff, Nat.reduceLT, reduceCtorEq, Nat.reduceAdd, Nat.reduceMul, Nat.reduceDiv, Nat.reduceMod, Nat.reduceSub, Nat.reduceLeDiff, Nat.reduceBEq, Int.reduceLE, Int.reduceLT, Int.reduceToNat, Int.reduceAdd, Int.reduceSub, Int.reduceMul, Int.reduceEq, Int.reduceBEq, Int.reduceNeg, Int.reduceGT, Int.natCast_pos]
/-! ### programs -/
def sE (s : GC.St) : List D := [iD s.op, iD s.dst, iD s.a, iD s.b, iD s.c, iD s.n]
def ssE (l : List GC.St) : List (List D) := l.map sE
def ssS (l : List GC.St) : D := .sl 6 (ssE l)
def ssR (l : List GC.St) : Row := ⟨45, 6, ssE l⟩
attribute [push_cast] ssS
@[push_cast] theorem ssR_e (l : List GC.St) : (ssR l).e = 45 := rfl
@[push_cast] theorem ssR_sz (l : List GC.St) : (ssR l).sz = 6 := rfl
@[push_cast] theorem ssR_els (l : List GC.St) : (ssR l).els = ssE l := rfl
@[push_cast] theorem ssR_mk (l : List GC.St) : Row.mk 45 6 (ssE l) = ssR l := rfl
@[push_cast] theorem ssR_nil : Row.mk 45 6 [] = ssR [] := rfl
@[push_cast] theorem ssE_len (l : List GC.St) : (ssE l).length = l.length := by simp [ssE]
def dS : GC.St := ⟨0, 0, 0, 0, 0, 0⟩
theorem ssE_get (l : List GC.St) (k : Nat) (h : k < l.length) : (ssE l).getD k [] = sE (l.getD k dS) := by
  simp [ssE, List.getD_eq_getElem?_getD, h]
@[push_cast] theorem ssE_app (l r : List GC.St) : ssE l ++ ssE r = ssE (l ++ r) := by simp [ssE]
@[push_cast] theorem ssE_one (op dst a b c n : Int) : ([[iD op, iD dst, iD a, iD b, iD c, iD n]] : List (List D)) = ssE [⟨op, dst, a, b, c, n⟩] := by simp [ssE, sE]
@[push_cast] theorem ssE_two (op dst a b c n : Int) (l : List GC.St) : [iD op, iD dst, iD a, iD b, iD c, iD n] :: ssE l = ssE (⟨op, dst, a, b, c, n⟩ :: l) := rfl
theorem flat_ss (l : List GC.St) : flatE (ssE l) = True := by
  simp [flatE, ssE, sE, D.flat]
attribute [push_cast] flat_ss
def plainM (s : GC.St) : GC.St :=
  if s.op = 1 then ⟨1, s.dst, 0, 0, 0, s.n⟩ else if s.op = 2 then ⟨2, s.dst, s.a, 0, 0, s.n⟩ else if 3 ≤ s.op ∧ s.op ≤ 9 then ⟨s.op, s.dst, s.a, s.b, 0, 0⟩
  else if s.op = 10 then ⟨10, s.dst, s.a, s.b, s.c, 0⟩ else if s.op = 11 then ⟨11, 0, s.a, 0, 0, 0⟩ else if s.op = 12 then ⟨12, 0, 0, 0, 0, s.n⟩ else ⟨s.op, 0, 0, 0, 0, 0⟩
theorem in_ok (x lo hi : Int) : CallOk Go.Proofs.Try.prog gl0 57 [.c (iD x), .c (iD lo), .c (iD hi)] ⟨[.c (.v (.bool (decide (lo ≤ x ∧ x ≤ hi))))], []⟩ := by
  refine okFn (fn := Go.Proofs.Try.f57) [.tmp 6] 3 15 (by kernel_rfl) (by kernel_rfl) rfl (by kernel_rfl) (by decide) rfl rfl rfl ?_
  by_cases h : lo ≤ x
  · simp (config := { maxSteps := 1000000 }) only [push_cast, ↓reduceIte, ↓normL_data, ↓frzL_data, Nat.reduceEqDiff, Nat.reduceLT, reduceCtorEq, Nat.reduceAdd, Nat.reduceMul, Nat.reduceDiv, Nat.reduceMod, Nat.reduceSub, Nat.reduceLeDiff, Nat.reduceBEq, Int.reduceLE, Int.reduceLT, Int.reduceToNat, Int.reduceAdd, Int.reduceSub, Int.reduceMul, Int.reduceEq, Int.reduceBEq, Int.reduceNeg, Int.reduceGT, Int.natCast_pos, h]
  · simp (config := { maxSteps := 1000000 }) only [push_cast, ↓reduceIte, ↓normL_data, ↓frzL_data, Nat.reduceEqDiff, Nat.reduceLT, reduceCtorEq, Nat.reduceAdd, Nat.reduceMul, Nat.reduceDiv, Nat.reduceMod, Nat.reduceSub, Nat.reduceLeDiff, Nat.reduceBEq, Int.reduceLE, Int.reduceLT, Int.reduceToNat, Int.reduceAdd, Int.reduceSub, Int.reduceMul, Int.reduceEq, Int.reduceBEq, Int.reduceNeg, Int.reduceGT, Int.natCast_pos, h]
set_option maxRecDepth 100000 in
theorem plain_ok (s : GC.St) : CallOk Go.Proofs.Try.prog gl0 99 [.ag (sE s)] ⟨[.ag (sE (plainM s))], []⟩ := by
  obtain ⟨op, dst, a, b, c, n⟩ := s
  refine okFn (fn := Go.Proofs.Try.f99) [.cell 2 45] 1 64 (by kernel_rfl) (by kernel_rfl) rfl (by kernel_rfl) (by decide) rfl rfl rfl ?_
  unfold plainM
  by_cases h1 : op = 1
  · subst h1
    simp (config := { maxSteps := 1000000 }) only [push_cast, ↓reduceIte, ↓normL_data, ↓frzL_data, Nat.reduceEqDiff, Nat.reduceLT, reduceCtorEq, Nat.reduceAdd, Nat.reduceMul, Nat.reduceDiv, Nat.reduceMod, Nat.reduceSub, Nat.reduceLeDiff, Nat.reduceBEq, Int.reduceLE, Int.reduceLT, Int.reduceToNat, Int.reduceAdd, Int.reduceSub, Int.reduceMul, Int.reduceEq, Int.reduceBEq, Int.reduceNeg, Int.reduceGT, Int.natCast_pos, sE]
  by_cases h2 : op = 2
  · subst h2
    simp (config := { maxSteps := 1000000 }) only [push_cast, ↓reduceIte, ↓normL_data, ↓frzL_data, Nat.reduceEqDiff, Nat.reduceLT, reduceCtorEq, Nat.reduceAdd, Nat.reduceMul, Nat.reduceDiv, Nat.reduceMod, Nat.reduceSub, Nat.reduceLeDiff, Nat.reduceBEq, Int.reduceLE, Int.reduceLT, Int.reduceToNat, Int.reduceAdd, Int.reduceSub, Int.reduceMul, Int.reduceEq, Int.reduceBEq, Int.reduceNeg, Int.reduceGT, Int.natCast_pos, sE]
  simp (config := { maxSteps := 1000000 }) only [push_cast, ↓reduceIte, ↓normL_data, ↓frzL_data, Nat.reduceEqDiff, Nat.reduceLT, reduceCtorEq, Nat.reduceAdd, Nat.reduceMul, Nat.reduceDiv, Nat.reduceMod, Nat.reduceSub, Nat.reduceLeDiff, Nat.reduceBEq, Int.reduceLE, Int.reduceLT, Int.reduceToNat, Int.reduceAdd, Int.reduceSub, Int.reduceMul, Int.reduceEq, Int.reduceBEq, Int.reduceNeg, Int.reduceGT, Int.natCast_pos, sE, h1, h2]
  refine vcall_by false (in_ok op 3 9) ?_
  by_cases h3 : 3 ≤ op ∧ op ≤ 9
  · simp (config := { maxSteps := 1000000 }) only [push_cast, ↓reduceIte, ↓normL_data, ↓frzL_data, Nat.reduceEqDiff, Nat.reduceLT, reduceCtorEq, Nat.reduceAdd, Nat.reduceMul, Nat.reduceDiv, Nat.reduceMod, Nat.reduceSub, Nat.reduceLeDiff, Nat.reduceBEq, Int.reduceLE, Int.reduceLT, Int.reduceToNat, Int.reduceAdd, Int.reduceSub, Int.reduceMul, Int.reduceEq, Int.reduceBEq, Int.reduceNeg, Int.reduceGT, Int.natCast_pos, h3]
  by_cases h4 : op = 10
  · subst h4
    simp (config := { maxSteps := 1000000 }) only [push_cast, ↓reduceIte, ↓normL_data, ↓frzL_data, Nat.reduceEqDiff, Nat.reduceLT, reduceCtorEq, Nat.reduceAdd, Nat.reduceMul, Nat.reduceDiv, Nat.reduceMod, Nat.reduceSub, Nat.reduceLeDiff, Nat.reduceBEq, Int.reduceLE, Int.reduceLT, Int.reduceToNat, Int.reduceAdd, Int.reduceSub, Int.reduceMul, Int.reduceEq, Int.reduceBEq, Int.reduceNeg, Int.reduceGT, Int.natCast_pos, h3]
  by_cases h5 : op = 11
  · subst h5
    simp (config := { maxSteps := 1000000 }) only [push_cast, ↓reduceIte, ↓normL_data, ↓frzL_data, Nat.reduceEqDiff, Nat.reduceLT, reduceCtorEq, Nat.reduceAdd, Nat.reduceMul, Nat.reduceDiv, Nat.reduceMod, Nat.reduceSub, Nat.reduceLeDiff, Nat.reduceBEq, Int.reduceLE, Int.reduceLT, Int.reduceToNat, Int.reduceAdd, Int.reduceSub, Int.reduceMul, Int.reduceEq, Int.reduceBEq, Int.reduceNeg, Int.reduceGT, Int.natCast_pos, h3]
  by_cases h6 : op = 12
  · subst h6
    simp (config := { maxSteps := 1000000 }) only [push_cast, ↓reduceIte, ↓normL_data, ↓frzL_data, Nat.reduceEqDiff, Nat.reduceLT, reduceCtorEq, Nat.reduceAdd, Nat.reduceMul, Nat.reduceDiv, Nat.reduceMod, Nat.reduceSub, Nat.reduceLeDiff, Nat.reduceBEq, Int.reduceLE, Int.reduceLT, Int.reduceToNat, Int.reduceAdd, Int.reduceSub, Int.reduceMul, Int.reduceEq, Int.reduceBEq, Int.reduceNeg, Int.reduceGT, Int.natCast_pos, h3]
  simp (config := { maxSteps := 1000000 }) only [push_cast, ↓reduceIte, ↓normL_data, ↓frzL_data, Nat.reduceEqDiff, Nat.reduceLT, reduceCtorEq, Nat.reduceAdd, Nat.reduceMul, Nat.reduceDiv, Nat.reduceMod, Nat.reduceSub, Nat.reduceLeDiff, Nat.reduceBEq, Int.reduceLE, Int.reduceLT, Int.reduceToNat, Int.reduceAdd, Int.reduceSub, Int.reduceMul, Int.reduceEq, Int.reduceBEq, Int.reduceNeg, Int.reduceGT, Int.natCast_pos, h3, h4, h5, h6]
end GV

set_option linter.unusedSimpArgs false
set_option linter.unusedVariables false
set_option maxHeartbeats 4000000
namespace GV
open Go
def rBool (res : List In) : Prop := ∃ x : Bool, res = [.c (.v (.bool x))]
theorem once_ok (b : List UInt8) (i : Nat) (h n : Int) (hb : b.length ≤ 1048576) (hi : i ≤ b.length) (hn : 0 < n) (hn' : n ≤ 2000000000) :
    CallP Go.Proofs.Try.prog gl0 95 [cuR b i h, .c (iD n)] (drawnR b rBool) := by
  refine okFnP (fn := Go.Proofs.Try.f95) [.tmp 4] 2 9 (by kernel_rfl) (by kernel_rfl) rfl (by kernel_rfl) (by decide) rfl rfl rfl ?_
  simp (config := { maxSteps := 1000000 }) only [push_cast, ↓reduceIte, ↓normL_data, ↓frzL_data, Nat.reduceEqDiff, Nat.reduceLT, reduceCtorEq, Nat.reduceAdd, Nat.reduceMul, Nat.reduceDiv, Nat.reduceMod, Nat.reduceSub, Nat.reduceLeDiff, Nat.reduceBEq, Int.reduceLE, Int.reduceLT, Int.reduceToNat, Int.reduceAdd, Int.reduceSub, Int.reduceMul, Int.reduceEq, Int.reduceBEq, Int.reduceNeg, Int.reduceGT, Int.natCast_pos]
  refine vcall_p false (below_ok b i h n hb hi hn hn') (by simp (config := { maxSteps := 1000000 }) only [push_cast, ↓reduceIte, ↓normL_data, ↓frzL_data, Nat.reduceEqDiff, Nat.reduceLT, reduceCtorEq, Nat.reduceAdd, Nat.reduceMul, Nat.reduceDiv, Nat.reduceMod, Nat.reduceSub, Nat.reduceLeDiff, Nat.reduceBEq, Int.reduceLE, Int.reduceLT, Int.reduceToNat, Int.reduceAdd, Int.reduceSub, Int.reduceMul, Int.reduceEq, Int.reduceBEq, Int.reduceNeg, Int.reduceGT, Int.natCast_pos]) ?_
  rintro _ ⟨_, i1, h1, k1, ⟨x1, a1, b1, rfl⟩, rfl⟩
  simp (config := { maxSteps := 1000000 }) only [push_cast, ↓reduceIte, ↓normL_data, ↓frzL_data, Nat.reduceEqDiff, Nat.reduceLT, reduceCtorEq, Nat.reduceAdd, Nat.reduceMul, Nat.reduceDiv, Nat.reduceMod, Nat.reduceSub, Nat.reduceLeDiff, Nat.reduceBEq, Int.reduceLE, Int.reduceLT, Int.reduceToNat, Int.reduceAdd, Int.reduceSub, Int.reduceMul, Int.reduceEq, Int.reduceBEq, Int.reduceNeg, Int.reduceGT, Int.natCast_pos]
  apply fin_R ⟨_, rfl⟩ k1
  · simp (config := { maxSteps := 1000000 }) only [push_cast, ↓reduceIte, ↓normL_data, ↓frzL_data, Nat.reduceEqDiff, Nat.reduceLT, reduceCtorEq, Nat.reduceAdd, Nat.reduceMul, Nat.reduceDiv, Nat.reduceMod, Nat.reduceSub, Nat.reduceLeDiff, Nat.reduceBEq, Int.reduceLE, Int.reduceLT, Int.reduceToNat, Int.reduceAdd, Int.reduceSub, Int.reduceMul, Int.reduceEq, Int.reduceBEq, Int.reduceNeg, Int.reduceGT, Int.natCast_pos]
    exact ⟨rfl, rfl⟩
theorem plain_plainM (s : GC.St) (h : 1 ≤ s.op ∧ s.op ≤ 11) (h1 : GC.isReg s.dst) (h2 : GC.isReg s.a) (h3 : GC.isReg s.b) (h4 : GC.isReg s.c) (h5 : s.op = 1 → 0 ≤ s.n ∧ s.n ≤ 15) (h6 : s.op = 2 → s.a ≤ 4 ∧ 0 ≤ s.n ∧ s.n ≤ 3) : GC.plain (plainM s) := by
  obtain ⟨op, dst, a, b, c, n⟩ := s
  simp only at *
  unfold GC.isReg at *
  unfold plainM GC.plain GC.okSt GC.isReg
  simp only
  by_cases e1 : op = 1
  · have := h5 e1; simp [e1]; omega
  by_cases e2 : op = 2
  · have := h6 e2; simp [e2]; omega
  by_cases e3 : 3 ≤ op ∧ op ≤ 9
  · simp [e1, e2, e3]; omega
  by_cases e4 : op = 10
  · simp [e4]; omega
  have e5 : op = 11 := by omega
  simp [e5]; omega
def rS (res : List In) : Prop := ∃ s, GC.plain s ∧ res = [.ag (sE s)]
theorem reg4 {x : Int} (h : 0 ≤ x) (h' : x ≤ 4 - 1) : GC.isReg x := by unfold GC.isReg; omega
theorem reg0 : GC.isReg 0 := by decide
set_option maxRecDepth 100000 in
theorem stmt_ok (b : List UInt8) (i : Nat) (h : Int) (hb : b.length ≤ 1048576) (hi : i ≤ b.length) :
    CallP Go.Proofs.Try.prog gl0 83 [cuR b i h] (drawnR b rS) := by
  refine okFnP (fn := Go.Proofs.Try.f83) [.cell 2 45] 1 45 (by kernel_rfl) (by kernel_rfl) rfl (by kernel_rfl) (by decide) rfl rfl rfl ?_
  simp (config := { maxSteps := 1000000 }) only [push_cast, ↓reduceIte, ↓normL_data, ↓frzL_data, Nat.reduceEqDiff, Nat.reduceLT, reduceCtorEq, Nat.reduceAdd, Nat.reduceMul, Nat.reduceDiv, Nat.reduceMod, Nat.reduceSub, Nat.reduceLeDiff, Nat.reduceBEq, Int.reduceLE, Int.reduceLT, Int.reduceToNat, Int.reduceAdd, Int.reduceSub, Int.reduceMul, Int.reduceEq, Int.reduceBEq, Int.reduceNeg, Int.reduceGT, Int.natCast_pos]
  refine vcall_p false (below_ok b i h 4 hb hi (by omega) (by omega)) (by simp (config := { maxSteps := 1000000 }) only [push_cast, ↓reduceIte, ↓normL_data, ↓frzL_data, Nat.reduceEqDiff, Nat.reduceLT, reduceCtorEq, Nat.reduceAdd, Nat.reduceMul, Nat.reduceDiv, Nat.reduceMod, Nat.reduceSub, Nat.reduceLeDiff, Nat.reduceBEq, Int.reduceLE, Int.reduceLT, Int.reduceToNat, Int.reduceAdd, Int.reduceSub, Int.reduceMul, Int.reduceEq, Int.reduceBEq, Int.reduceNeg, Int.reduceGT, Int.natCast_pos]) ?_
  rintro _ ⟨_, i1, h1, k1, ⟨x1, a1, b1, rfl⟩, rfl⟩
  simp (config := { maxSteps := 1000000 }) only [push_cast, ↓reduceIte, ↓normL_data, ↓frzL_data, Nat.reduceEqDiff, Nat.reduceLT, reduceCtorEq, Nat.reduceAdd, Nat.reduceMul, Nat.reduceDiv, Nat.reduceMod, Nat.reduceSub, Nat.reduceLeDiff, Nat.reduceBEq, Int.reduceLE, Int.reduceLT, Int.reduceToNat, Int.reduceAdd, Int.reduceSub, Int.reduceMul, Int.reduceEq, Int.reduceBEq, Int.reduceNeg, Int.reduceGT, Int.natCast_pos]
  refine vcall_p false (below_ok b i1 h1 4 hb k1 (by omega) (by omega)) (by simp (config := { maxSteps := 1000000 }) only [push_cast, ↓reduceIte, ↓normL_data, ↓frzL_data, Nat.reduceEqDiff, Nat.reduceLT, reduceCtorEq, Nat.reduceAdd, Nat.reduceMul, Nat.reduceDiv, Nat.reduceMod, Nat.reduceSub, Nat.reduceLeDiff, Nat.reduceBEq, Int.reduceLE, Int.reduceLT, Int.reduceToNat, Int.reduceAdd, Int.reduceSub, Int.reduceMul, Int.reduceEq, Int.reduceBEq, Int.reduceNeg, Int.reduceGT, Int.natCast_pos]) ?_
  rintro _ ⟨_, i2, h2, k2, ⟨x2, a2, b2, rfl⟩, rfl⟩
  simp (config := { maxSteps := 1000000 }) only [push_cast, ↓reduceIte, ↓normL_data, ↓frzL_data, Nat.reduceEqDiff, Nat.reduceLT, reduceCtorEq, Nat.reduceAdd, Nat.reduceMul, Nat.reduceDiv, Nat.reduceMod, Nat.reduceSub, Nat.reduceLeDiff, Nat.reduceBEq, Int.reduceLE, Int.reduceLT, Int.reduceToNat, Int.reduceAdd, Int.reduceSub, Int.reduceMul, Int.reduceEq, Int.reduceBEq, Int.reduceNeg, Int.reduceGT, Int.natCast_pos]
  refine vcall_p false (below_ok b i2 h2 4 hb k2 (by omega) (by omega)) (by simp (config := { maxSteps := 1000000 }) only [push_cast, ↓reduceIte, ↓normL_data, ↓frzL_data, Nat.reduceEqDiff, Nat.reduceLT, reduceCtorEq, Nat.reduceAdd, Nat.reduceMul, Nat.reduceDiv, Nat.reduceMod, Nat.reduceSub, Nat.reduceLeDiff, Nat.reduceBEq, Int.reduceLE, Int.reduceLT, Int.reduceToNat, Int.reduceAdd, Int.reduceSub, Int.reduceMul, Int.reduceEq, Int.reduceBEq, Int.reduceNeg, Int.reduceGT, Int.natCast_pos]) ?_
  rintro _ ⟨_, i3, h3, k3, ⟨x3, a3, b3, rfl⟩, rfl⟩
  simp (config := { maxSteps := 1000000 }) only [push_cast, ↓reduceIte, ↓normL_data, ↓frzL_data, Nat.reduceEqDiff, Nat.reduceLT, reduceCtorEq, Nat.reduceAdd, Nat.reduceMul, Nat.reduceDiv, Nat.reduceMod, Nat.reduceSub, Nat.reduceLeDiff, Nat.reduceBEq, Int.reduceLE, Int.reduceLT, Int.reduceToNat, Int.reduceAdd, Int.reduceSub, Int.reduceMul, Int.reduceEq, Int.reduceBEq, Int.reduceNeg, Int.reduceGT, Int.natCast_pos]
  refine vcall_p false (below_ok b i3 h3 4 hb k3 (by omega) (by omega)) (by simp (config := { maxSteps := 1000000 }) only [push_cast, ↓reduceIte, ↓normL_data, ↓frzL_data, Nat.reduceEqDiff, Nat.reduceLT, reduceCtorEq, Nat.reduceAdd, Nat.reduceMul, Nat.reduceDiv, Nat.reduceMod, Nat.reduceSub, Nat.reduceLeDiff, Nat.reduceBEq, Int.reduceLE, Int.reduceLT, Int.reduceToNat, Int.reduceAdd, Int.reduceSub, Int.reduceMul, Int.reduceEq, Int.reduceBEq, Int.reduceNeg, Int.reduceGT, Int.natCast_pos]) ?_
  rintro _ ⟨_, i4, h4, k4, ⟨x4, a4, b4, rfl⟩, rfl⟩
  simp (config := { maxSteps := 1000000 }) only [push_cast, ↓reduceIte, ↓normL_data, ↓frzL_data, Nat.reduceEqDiff, Nat.reduceLT, reduceCtorEq, Nat.reduceAdd, Nat.reduceMul, Nat.reduceDiv, Nat.reduceMod, Nat.reduceSub, Nat.reduceLeDiff, Nat.reduceBEq, Int.reduceLE, Int.reduceLT, Int.reduceToNat, Int.reduceAdd, Int.reduceSub, Int.reduceMul, Int.reduceEq, Int.reduceBEq, Int.reduceNeg, Int.reduceGT, Int.natCast_pos]
  refine vcall_p false (below_ok b i4 h4 12 hb k4 (by omega) (by omega)) (by simp (config := { maxSteps := 1000000 }) only [push_cast, ↓reduceIte, ↓normL_data, ↓frzL_data, Nat.reduceEqDiff, Nat.reduceLT, reduceCtorEq, Nat.reduceAdd, Nat.reduceMul, Nat.reduceDiv, Nat.reduceMod, Nat.reduceSub, Nat.reduceLeDiff, Nat.reduceBEq, Int.reduceLE, Int.reduceLT, Int.reduceToNat, Int.reduceAdd, Int.reduceSub, Int.reduceMul, Int.reduceEq, Int.reduceBEq, Int.reduceNeg, Int.reduceGT, Int.natCast_pos]) ?_
  rintro _ ⟨_, i5, h5, k5, ⟨x5, a5, b5, rfl⟩, rfl⟩
  have hx : x5 = 0 ∨ x5 = 1 ∨ x5 = 2 ∨ x5 = 3 ∨ x5 = 4 ∨ x5 = 5 ∨ x5 = 6 ∨ x5 = 7 ∨ x5 = 8 ∨ x5 = 9 ∨ x5 = 10 ∨ x5 = 11 := by omega
  rcases hx with rfl | rfl | rfl | rfl | rfl | rfl | rfl | rfl | rfl | rfl | rfl | rfl
  · simp (config := { maxSteps := 1000000 }) only [push_cast, ↓reduceIte, ↓normL_data, ↓frzL_data, Nat.reduceEqDiff, Nat.reduceLT, reduceCtorEq, Nat.reduceAdd, Nat.reduceMul, Nat.reduceDiv, Nat.reduceMod, Nat.reduceSub, Nat.reduceLeDiff, Nat.reduceBEq, Int.reduceLE, Int.reduceLT, Int.reduceToNat, Int.reduceAdd, Int.reduceSub, Int.reduceMul, Int.reduceEq, Int.reduceBEq, Int.reduceNeg, Int.reduceGT, Int.natCast_pos]
    refine vcall_p false (below_ok b i5 h5 16 hb k5 (by omega) (by omega)) (by simp (config := { maxSteps := 1000000 }) only [push_cast, ↓reduceIte, ↓normL_data, ↓frzL_data, Nat.reduceEqDiff, Nat.reduceLT, reduceCtorEq, Nat.reduceAdd, Nat.reduceMul, Nat.reduceDiv, Nat.reduceMod, Nat.reduceSub, Nat.reduceLeDiff, Nat.reduceBEq, Int.reduceLE, Int.reduceLT, Int.reduceToNat, Int.reduceAdd, Int.reduceSub, Int.reduceMul, Int.reduceEq, Int.reduceBEq, Int.reduceNeg, Int.reduceGT, Int.natCast_pos]) ?_
    rintro _ ⟨_, i6, h6, k6, ⟨x6, a6, b6, rfl⟩, rfl⟩
    simp (config := { maxSteps := 1000000 }) only [push_cast, ↓reduceIte, ↓normL_data, ↓frzL_data, Nat.reduceEqDiff, Nat.reduceLT, reduceCtorEq, Nat.reduceAdd, Nat.reduceMul, Nat.reduceDiv, Nat.reduceMod, Nat.reduceSub, Nat.reduceLeDiff, Nat.reduceBEq, Int.reduceLE, Int.reduceLT, Int.reduceToNat, Int.reduceAdd, Int.reduceSub, Int.reduceMul, Int.reduceEq, Int.reduceBEq, Int.reduceNeg, Int.reduceGT, Int.natCast_pos]
    refine vcall_by false (plain_ok ⟨1, x1, x2, x3, x4, x6⟩) ?_
    simp (config := { maxSteps := 1000000 }) only [push_cast, ↓reduceIte, ↓normL_data, ↓frzL_data, Nat.reduceEqDiff, Nat.reduceLT, reduceCtorEq, Nat.reduceAdd, Nat.reduceMul, Nat.reduceDiv, Nat.reduceMod, Nat.reduceSub, Nat.reduceLeDiff, Nat.reduceBEq, Int.reduceLE, Int.reduceLT, Int.reduceToNat, Int.reduceAdd, Int.reduceSub, Int.reduceMul, Int.reduceEq, Int.reduceBEq, Int.reduceNeg, Int.reduceGT, Int.natCast_pos, sE]
    refine fin_R (h := h6) ⟨plainM ⟨1, x1, x2, x3, x4, x6⟩, plain_plainM _ (by simp) (reg4 a1 b1) (reg4 a2 b2) (reg4 a3 b3) (reg4 a4 b4) (fun _ => ⟨a6, by simp only; omega⟩) (fun e => by simp at e), rfl⟩ k6 ?_
    simp (config := { maxSteps := 1000000 }) only [push_cast, ↓reduceIte, ↓normL_data, ↓frzL_data, Nat.reduceEqDiff, Nat.reduceLT, reduceCtorEq, Nat.reduceAdd, Nat.reduceMul, Nat.reduceDiv, Nat.reduceMod, Nat.reduceSub, Nat.reduceLeDiff, Nat.reduceBEq, Int.reduceLE, Int.reduceLT, Int.reduceToNat, Int.reduceAdd, Int.reduceSub, Int.reduceMul, Int.reduceEq, Int.reduceBEq, Int.reduceNeg, Int.reduceGT, Int.natCast_pos, sE]
  iterate 3
    · simp (config := { maxSteps := 1000000 }) only [push_cast, ↓reduceIte, ↓normL_data, ↓frzL_data, Nat.reduceEqDiff, Nat.reduceLT, reduceCtorEq, Nat.reduceAdd, Nat.reduceMul, Nat.reduceDiv, Nat.reduceMod, Nat.reduceSub, Nat.reduceLeDiff, Nat.reduceBEq, Int.reduceLE, Int.reduceLT, Int.reduceToNat, Int.reduceAdd, Int.reduceSub, Int.reduceMul, Int.reduceEq, Int.reduceBEq, Int.reduceNeg, Int.reduceGT, Int.natCast_pos]
      refine vcall_p false (below_ok b i5 h5 3 hb k5 (by omega) (by omega)) (by simp (config := { maxSteps := 1000000 }) only [push_cast, ↓reduceIte, ↓normL_data, ↓frzL_data, Nat.reduceEqDiff, Nat.reduceLT, reduceCtorEq, Nat.reduceAdd, Nat.reduceMul, Nat.reduceDiv, Nat.reduceMod, Nat.reduceSub, Nat.reduceLeDiff, Nat.reduceBEq, Int.reduceLE, Int.reduceLT, Int.reduceToNat, Int.reduceAdd, Int.reduceSub, Int.reduceMul, Int.reduceEq, Int.reduceBEq, Int.reduceNeg, Int.reduceGT, Int.natCast_pos]) ?_
      rintro _ ⟨_, i6, h6, k6, ⟨x6, a6, b6, rfl⟩, rfl⟩
      simp (config := { maxSteps := 1000000 }) only [push_cast, ↓reduceIte, ↓normL_data, ↓frzL_data, Nat.reduceEqDiff, Nat.reduceLT, reduceCtorEq, Nat.reduceAdd, Nat.reduceMul, Nat.reduceDiv, Nat.reduceMod, Nat.reduceSub, Nat.reduceLeDiff, Nat.reduceBEq, Int.reduceLE, Int.reduceLT, Int.reduceToNat, Int.reduceAdd, Int.reduceSub, Int.reduceMul, Int.reduceEq, Int.reduceBEq, Int.reduceNeg, Int.reduceGT, Int.natCast_pos]
      refine vcall_p false (below_ok b i6 h6 2 hb k6 (by omega) (by omega)) (by simp (config := { maxSteps := 1000000 }) only [push_cast, ↓reduceIte, ↓normL_data, ↓frzL_data, Nat.reduceEqDiff, Nat.reduceLT, reduceCtorEq, Nat.reduceAdd, Nat.reduceMul, Nat.reduceDiv, Nat.reduceMod, Nat.reduceSub, Nat.reduceLeDiff, Nat.reduceBEq, Int.reduceLE, Int.reduceLT, Int.reduceToNat, Int.reduceAdd, Int.reduceSub, Int.reduceMul, Int.reduceEq, Int.reduceBEq, Int.reduceNeg, Int.reduceGT, Int.natCast_pos]) ?_
      rintro _ ⟨_, i7, h7, k7, ⟨x7, a7, b7, rfl⟩, rfl⟩
      simp (config := { maxSteps := 1000000 }) only [push_cast, ↓reduceIte, ↓normL_data, ↓frzL_data, Nat.reduceEqDiff, Nat.reduceLT, reduceCtorEq, Nat.reduceAdd, Nat.reduceMul, Nat.reduceDiv, Nat.reduceMod, Nat.reduceSub, Nat.reduceLeDiff, Nat.reduceBEq, Int.reduceLE, Int.reduceLT, Int.reduceToNat, Int.reduceAdd, Int.reduceSub, Int.reduceMul, Int.reduceEq, Int.reduceBEq, Int.reduceNeg, Int.reduceGT, Int.natCast_pos]
      refine vcall_by false (plain_ok ⟨2, x1, x6, x3, x4, x7⟩) ?_
      simp (config := { maxSteps := 1000000 }) only [push_cast, ↓reduceIte, ↓normL_data, ↓frzL_data, Nat.reduceEqDiff, Nat.reduceLT, reduceCtorEq, Nat.reduceAdd, Nat.reduceMul, Nat.reduceDiv, Nat.reduceMod, Nat.reduceSub, Nat.reduceLeDiff, Nat.reduceBEq, Int.reduceLE, Int.reduceLT, Int.reduceToNat, Int.reduceAdd, Int.reduceSub, Int.reduceMul, Int.reduceEq, Int.reduceBEq, Int.reduceNeg, Int.reduceGT, Int.natCast_pos, sE]
      refine fin_R (h := h7) ⟨plainM ⟨2, x1, x6, x3, x4, x7⟩, plain_plainM _ (by simp) (reg4 a1 b1) (reg4 (x := x6) a6 (by omega)) (reg4 a3 b3) (reg4 a4 b4) (fun e => by simp at e) (fun _ => ⟨by simp only; omega, a7, by simp only; omega⟩), rfl⟩ k7 ?_
      simp (config := { maxSteps := 1000000 }) only [push_cast, ↓reduceIte, ↓normL_data, ↓frzL_data, Nat.reduceEqDiff, Nat.reduceLT, reduceCtorEq, Nat.reduceAdd, Nat.reduceMul, Nat.reduceDiv, Nat.reduceMod, Nat.reduceSub, Nat.reduceLeDiff, Nat.reduceBEq, Int.reduceLE, Int.reduceLT, Int.reduceToNat, Int.reduceAdd, Int.reduceSub, Int.reduceMul, Int.reduceEq, Int.reduceBEq, Int.reduceNeg, Int.reduceGT, Int.natCast_pos, sE]
  · simp (config := { maxSteps := 1000000 }) only [push_cast, ↓reduceIte, ↓normL_data, ↓frzL_data, Nat.reduceEqDiff, Nat.reduceLT, reduceCtorEq, Nat.reduceAdd, Nat.reduceMul, Nat.reduceDiv, Nat.reduceMod, Nat.reduceSub, Nat.reduceLeDiff, Nat.reduceBEq, Int.reduceLE, Int.reduceLT, Int.reduceToNat, Int.reduceAdd, Int.reduceSub, Int.reduceMul, Int.reduceEq, Int.reduceBEq, Int.reduceNeg, Int.reduceGT, Int.natCast_pos]
    refine vcall_by false (plain_ok ⟨10, x1, x2, x3, x4, 0⟩) ?_
    simp (config := { maxSteps := 1000000 }) only [push_cast, ↓reduceIte, ↓normL_data, ↓frzL_data, Nat.reduceEqDiff, Nat.reduceLT, reduceCtorEq, Nat.reduceAdd, Nat.reduceMul, Nat.reduceDiv, Nat.reduceMod, Nat.reduceSub, Nat.reduceLeDiff, Nat.reduceBEq, Int.reduceLE, Int.reduceLT, Int.reduceToNat, Int.reduceAdd, Int.reduceSub, Int.reduceMul, Int.reduceEq, Int.reduceBEq, Int.reduceNeg, Int.reduceGT, Int.natCast_pos, sE]
    refine fin_R (h := h5) ⟨plainM ⟨10, x1, x2, x3, x4, 0⟩, plain_plainM _ (by simp) (reg4 a1 b1) (reg4 a2 b2) (reg4 a3 b3) (reg4 a4 b4) (fun e => by simp at e) (fun e => by simp at e), rfl⟩ k5 ?_
    simp (config := { maxSteps := 1000000 }) only [push_cast, ↓reduceIte, ↓normL_data, ↓frzL_data, Nat.reduceEqDiff, Nat.reduceLT, reduceCtorEq, Nat.reduceAdd, Nat.reduceMul, Nat.reduceDiv, Nat.reduceMod, Nat.reduceSub, Nat.reduceLeDiff, Nat.reduceBEq, Int.reduceLE, Int.reduceLT, Int.reduceToNat, Int.reduceAdd, Int.reduceSub, Int.reduceMul, Int.reduceEq, Int.reduceBEq, Int.reduceNeg, Int.reduceGT, Int.natCast_pos, sE]
  iterate 2
    · simp (config := { maxSteps := 1000000 }) only [push_cast, ↓reduceIte, ↓normL_data, ↓frzL_data, Nat.reduceEqDiff, Nat.reduceLT, reduceCtorEq, Nat.reduceAdd, Nat.reduceMul, Nat.reduceDiv, Nat.reduceMod, Nat.reduceSub, Nat.reduceLeDiff, Nat.reduceBEq, Int.reduceLE, Int.reduceLT, Int.reduceToNat, Int.reduceAdd, Int.reduceSub, Int.reduceMul, Int.reduceEq, Int.reduceBEq, Int.reduceNeg, Int.reduceGT, Int.natCast_pos]
      refine vcall_by false (plain_ok ⟨11, x1, x2, x3, x4, 0⟩) ?_
      simp (config := { maxSteps := 1000000 }) only [push_cast, ↓reduceIte, ↓normL_data, ↓frzL_data, Nat.reduceEqDiff, Nat.reduceLT, reduceCtorEq, Nat.reduceAdd, Nat.reduceMul, Nat.reduceDiv, Nat.reduceMod, Nat.reduceSub, Nat.reduceLeDiff, Nat.reduceBEq, Int.reduceLE, Int.reduceLT, Int.reduceToNat, Int.reduceAdd, Int.reduceSub, Int.reduceMul, Int.reduceEq, Int.reduceBEq, Int.reduceNeg, Int.reduceGT, Int.natCast_pos, sE]
      refine fin_R (h := h5) ⟨plainM ⟨11, x1, x2, x3, x4, 0⟩, plain_plainM _ (by simp) (reg4 a1 b1) (reg4 a2 b2) (reg4 a3 b3) (reg4 a4 b4) (fun e => by simp at e) (fun e => by simp at e), rfl⟩ k5 ?_
      simp (config := { maxSteps := 1000000 }) only [push_cast, ↓reduceIte, ↓normL_data, ↓frzL_data, Nat.reduceEqDiff, Nat.reduceLT, reduceCtorEq, Nat.reduceAdd, Nat.reduceMul, Nat.reduceDiv, Nat.reduceMod, Nat.reduceSub, Nat.reduceLeDiff, Nat.reduceBEq, Int.reduceLE, Int.reduceLT, Int.reduceToNat, Int.reduceAdd, Int.reduceSub, Int.reduceMul, Int.reduceEq, Int.reduceBEq, Int.reduceNeg, Int.reduceGT, Int.natCast_pos, sE]
  all_goals
    simp (config := { maxSteps := 1000000 }) only [push_cast, ↓reduceIte, ↓normL_data, ↓frzL_data, Nat.reduceEqDiff, Nat.reduceLT, reduceCtorEq, Nat.reduceAdd, Nat.reduceMul, Nat.reduceDiv, Nat.reduceMod, Nat.reduceSub, Nat.reduceLeDiff, Nat.reduceBEq, Int.reduceLE, Int.reduceLT, Int.reduceToNat, Int.reduceAdd, Int.reduceSub, Int.reduceMul, Int.reduceEq, Int.reduceBEq, Int.reduceNeg, Int.reduceGT, Int.natCast_pos]
    refine vcall_p false (below_ok b i5 h5 7 hb k5 (by omega) (by omega)) (by simp (config := { maxSteps := 1000000 }) only [push_cast, ↓reduceIte, ↓normL_data, ↓frzL_data, Nat.reduceEqDiff, Nat.reduceLT, reduceCtorEq, Nat.reduceAdd, Nat.reduceMul, Nat.reduceDiv, Nat.reduceMod, Nat.reduceSub, Nat.reduceLeDiff, Nat.reduceBEq, Int.reduceLE, Int.reduceLT, Int.reduceToNat, Int.reduceAdd, Int.reduceSub, Int.reduceMul, Int.reduceEq, Int.reduceBEq, Int.reduceNeg, Int.reduceGT, Int.natCast_pos]) ?_
    rintro _ ⟨_, i6, h6, k6, ⟨x6, a6, b6, rfl⟩, rfl⟩
    simp (config := { maxSteps := 1000000 }) only [push_cast, ↓reduceIte, ↓normL_data, ↓frzL_data, Nat.reduceEqDiff, Nat.reduceLT, reduceCtorEq, Nat.reduceAdd, Nat.reduceMul, Nat.reduceDiv, Nat.reduceMod, Nat.reduceSub, Nat.reduceLeDiff, Nat.reduceBEq, Int.reduceLE, Int.reduceLT, Int.reduceToNat, Int.reduceAdd, Int.reduceSub, Int.reduceMul, Int.reduceEq, Int.reduceBEq, Int.reduceNeg, Int.reduceGT, Int.natCast_pos]
    have ew : IntKind.i64.wrap (3 + x6) = 3 + x6 := w64 _ (by omega) (by omega)
    simp (config := { maxSteps := 1000000 }) only [push_cast, ↓reduceIte, ↓normL_data, ↓frzL_data, Nat.reduceEqDiff, Nat.reduceLT, reduceCtorEq, Nat.reduceAdd, Nat.reduceMul, Nat.reduceDiv, Nat.reduceMod, Nat.reduceSub, Nat.reduceLeDiff, Nat.reduceBEq, Int.reduceLE, Int.reduceLT, Int.reduceToNat, Int.reduceAdd, Int.reduceSub, Int.reduceMul, Int.reduceEq, Int.reduceBEq, Int.reduceNeg, Int.reduceGT, Int.natCast_pos, ew]
    refine vcall_by false (plain_ok ⟨3 + x6, x1, x2, x3, x4, 0⟩) ?_
    simp (config := { maxSteps := 1000000 }) only [push_cast, ↓reduceIte, ↓normL_data, ↓frzL_data, Nat.reduceEqDiff, Nat.reduceLT, reduceCtorEq, Nat.reduceAdd, Nat.reduceMul, Nat.reduceDiv, Nat.reduceMod, Nat.reduceSub, Nat.reduceLeDiff, Nat.reduceBEq, Int.reduceLE, Int.reduceLT, Int.reduceToNat, Int.reduceAdd, Int.reduceSub, Int.reduceMul, Int.reduceEq, Int.reduceBEq, Int.reduceNeg, Int.reduceGT, Int.natCast_pos, sE]
    refine fin_R (h := h6) ⟨plainM ⟨3 + x6, x1, x2, x3, x4, 0⟩, plain_plainM _ (by simp only; omega) (reg4 a1 b1) (reg4 a2 b2) (reg4 a3 b3) (reg4 a4 b4) (fun e => by simp only at e; omega) (fun e => by simp only at e; omega), rfl⟩ k6 ?_
    simp (config := { maxSteps := 1000000 }) only [push_cast, ↓reduceIte, ↓normL_data, ↓frzL_data, Nat.reduceEqDiff, Nat.reduceLT, reduceCtorEq, Nat.reduceAdd, Nat.reduceMul, Nat.reduceDiv, Nat.reduceMod, Nat.reduceSub, Nat.reduceLeDiff, Nat.reduceBEq, Int.reduceLE, Int.reduceLT, Int.reduceToNat, Int.reduceAdd, Int.reduceSub, Int.reduceMul, Int.reduceEq, Int.reduceBEq, Int.reduceNeg, Int.reduceGT, Int.natCast_pos, sE]
end GV

set_option linter.unusedSimpArgs false
set_option linter.unusedVariables false
set_option maxHeartbeats 4000000
namespace GV
open Go
@[push_cast] theorem ssE_sE (s : GC.St) : [sE s] = ssE [s] := rfl
def rL (M : Nat) (res : List In) : Prop := ∃ l : List GC.St, l.length ≤ M ∧ res = [.rr (ssR l)]
structure BlkI (b : List UInt8) (n B : Nat) where
  i : Nat
  ci : Nat
  ch : Int
  l : List GC.St
  h1 : i ≤ n
  h2 : ci ≤ b.length
  h3 : l.length ≤ i * (B + 2)
theorem block_step (b : List UInt8) (d B : Nat) (hd : d ≤ 2) (hB : B ≤ 10000) (hb : b.length ≤ 1048576)
    (ih : d < 2 → ∀ (i : Nat) (h : Int) (n : Nat), i ≤ b.length → n ≤ 8 → CallP Go.Proofs.Try.prog gl0 63 [cuR b i h, .c (iD n), .c (iD ((d : Int) + 1))] (drawnR b (rL B)))
    (i : Nat) (h : Int) (n : Nat) (hi : i ≤ b.length) (hn : n ≤ 8) : CallP Go.Proofs.Try.prog gl0 63 [cuR b i h, .c (iD n), .c (iD d)] (drawnR b (rL (8 * (B + 2)))) := by
  refine okFnP (fn := Go.Proofs.Try.f63) [.tmp 6] 3 52 (by kernel_rfl) (by kernel_rfl) rfl (by kernel_rfl) (by decide) rfl rfl rfl ?_
  simp (config := { maxSteps := 1000000 }) only [push_cast, ↓reduceIte, ↓normL_data, ↓frzL_data, Nat.reduceEqDiff, Nat.reduceLT, reduceCtorEq, Nat.reduceAdd, Nat.reduceMul, Nat.reduceDiv, Nat.reduceMod, Nat.reduceSub, Nat.reduceLeDiff, Nat.reduceBEq, Int.reduceLE, Int.reduceLT, Int.reduceToNat, Int.reduceAdd, Int.reduceSub, Int.reduceMul, Int.reduceEq, Int.reduceBEq, Int.reduceNeg, Int.reduceGT, Int.natCast_pos]
  refine VC.loop' tab_ok (σ := BlkI b n B) (fun x => St.of gl0 [(0, .c (.ptr 0 0)), (1, .c (.d (iD n))), (2, .c (.d (iD d))), (7, .c (.own 7)), (8, .c (.d (iD x.i)))]
    [(7, ssR x.l)] [(0, [.d (bS b), .d (iD x.ci), .d (iD x.ch)])]) (fun x => n - x.i) ⟨0, i, h, [], by omega, hi, by simp⟩ (St.le_of ?_) ?_
  · simp (config := { maxSteps := 1000000 }) only [push_cast, ↓reduceIte, ↓normL_data, ↓frzL_data, Nat.reduceEqDiff, Nat.reduceLT, reduceCtorEq, Nat.reduceAdd, Nat.reduceMul, Nat.reduceDiv, Nat.reduceMod, Nat.reduceSub, Nat.reduceLeDiff, Nat.reduceBEq, Int.reduceLE, Int.reduceLT, Int.reduceToNat, Int.reduceAdd, Int.reduceSub, Int.reduceMul, Int.reduceEq, Int.reduceBEq, Int.reduceNeg, Int.reduceGT, Int.natCast_pos]
  · intro x
    obtain ⟨j, ci, ch, l, q1, q2, q3⟩ := x
    have ew : IntKind.i64.wrap ((j : Int) + 1) = ((j + 1 : Nat) : Int) := by rw [w64 _ (by omega) (by omega)]; omega
    have ed : IntKind.i64.wrap ((d : Int) + 1) = (d : Int) + 1 := w64 _ (by omega) (by omega)
    have q4 : j * (B + 2) ≤ 8 * (B + 2) := Nat.mul_le_mul_right _ (by omega)
    have q5 : (j + 1) * (B + 2) = j * (B + 2) + (B + 2) := by rw [Nat.add_mul, Nat.one_mul]
    have plain : ∀ (ci : Nat) (ch : Int), ci ≤ b.length → True := fun _ _ _ => trivial
    by_cases hj : j < n
    · by_cases h2 : d < 2
      · have h2' : (d : Int) < 2 := by omega
        by_cases h12 : (l.length : Int) < 12
        · simp (config := { maxSteps := 1000000 }) only [push_cast, ↓reduceIte, ↓normL_data, ↓frzL_data, Nat.reduceEqDiff, Nat.reduceLT, reduceCtorEq, Nat.reduceAdd, Nat.reduceMul, Nat.reduceDiv, Nat.reduceMod, Nat.reduceSub, Nat.reduceLeDiff, Nat.reduceBEq, Int.reduceLE, Int.reduceLT, Int.reduceToNat, Int.reduceAdd, Int.reduceSub, Int.reduceMul, Int.reduceEq, Int.reduceBEq, Int.reduceNeg, Int.reduceGT, Int.natCast_pos, hj, h2', h12]
          refine vcall_p false (once_ok b ci ch 8 hb q2 (by omega) (by omega)) (by simp (config := { maxSteps := 1000000 }) only [push_cast, ↓reduceIte, ↓normL_data, ↓frzL_data, Nat.reduceEqDiff, Nat.reduceLT, reduceCtorEq, Nat.reduceAdd, Nat.reduceMul, Nat.reduceDiv, Nat.reduceMod, Nat.reduceSub, Nat.reduceLeDiff, Nat.reduceBEq, Int.reduceLE, Int.reduceLT, Int.reduceToNat, Int.reduceAdd, Int.reduceSub, Int.reduceMul, Int.reduceEq, Int.reduceBEq, Int.reduceNeg, Int.reduceGT, Int.natCast_pos]) ?_
          rintro _ ⟨_, i1, h1, k1, ⟨x1, rfl⟩, rfl⟩
          simp (config := { maxSteps := 1000000 }) only [push_cast, ↓reduceIte, ↓normL_data, ↓frzL_data, Nat.reduceEqDiff, Nat.reduceLT, reduceCtorEq, Nat.reduceAdd, Nat.reduceMul, Nat.reduceDiv, Nat.reduceMod, Nat.reduceSub, Nat.reduceLeDiff, Nat.reduceBEq, Int.reduceLE, Int.reduceLT, Int.reduceToNat, Int.reduceAdd, Int.reduceSub, Int.reduceMul, Int.reduceEq, Int.reduceBEq, Int.reduceNeg, Int.reduceGT, Int.natCast_pos]
          refine ⟨fun e1 => ?_, fun e1 => ?_⟩
          · refine vcall_p false (below_ok b i1 h1 3 hb k1 (by omega) (by omega)) (by simp (config := { maxSteps := 1000000 }) only [push_cast, ↓reduceIte, ↓normL_data, ↓frzL_data, Nat.reduceEqDiff, Nat.reduceLT, reduceCtorEq, Nat.reduceAdd, Nat.reduceMul, Nat.reduceDiv, Nat.reduceMod, Nat.reduceSub, Nat.reduceLeDiff, Nat.reduceBEq, Int.reduceLE, Int.reduceLT, Int.reduceToNat, Int.reduceAdd, Int.reduceSub, Int.reduceMul, Int.reduceEq, Int.reduceBEq, Int.reduceNeg, Int.reduceGT, Int.natCast_pos]) ?_
            rintro _ ⟨_, i2, h2, k2, ⟨x2, a2, b2, rfl⟩, rfl⟩
            simp (config := { maxSteps := 1000000 }) only [push_cast, ↓reduceIte, ↓normL_data, ↓frzL_data, Nat.reduceEqDiff, Nat.reduceLT, reduceCtorEq, Nat.reduceAdd, Nat.reduceMul, Nat.reduceDiv, Nat.reduceMod, Nat.reduceSub, Nat.reduceLeDiff, Nat.reduceBEq, Int.reduceLE, Int.reduceLT, Int.reduceToNat, Int.reduceAdd, Int.reduceSub, Int.reduceMul, Int.reduceEq, Int.reduceBEq, Int.reduceNeg, Int.reduceGT, Int.natCast_pos]
            refine ⟨by omega, ?_⟩
            refine vcall_p false (below_ok b i2 h2 2 hb k2 (by omega) (by omega)) (by simp (config := { maxSteps := 1000000 }) only [push_cast, ↓reduceIte, ↓normL_data, ↓frzL_data, Nat.reduceEqDiff, Nat.reduceLT, reduceCtorEq, Nat.reduceAdd, Nat.reduceMul, Nat.reduceDiv, Nat.reduceMod, Nat.reduceSub, Nat.reduceLeDiff, Nat.reduceBEq, Int.reduceLE, Int.reduceLT, Int.reduceToNat, Int.reduceAdd, Int.reduceSub, Int.reduceMul, Int.reduceEq, Int.reduceBEq, Int.reduceNeg, Int.reduceGT, Int.natCast_pos]) ?_
            rintro _ ⟨_, i3, h3, k3, ⟨x3, a3, b3, rfl⟩, rfl⟩
            obtain ⟨m, rfl⟩ : ∃ m : Nat, x3 = m := ⟨x3.toNat, by omega⟩
            have em : IntKind.i64.wrap (1 + (m : Int)) = ((m + 1 : Nat) : Int) := by rw [w64 _ (by omega) (by omega)]; omega
            simp (config := { maxSteps := 1000000 }) only [push_cast, ↓reduceIte, ↓normL_data, ↓frzL_data, Nat.reduceEqDiff, Nat.reduceLT, reduceCtorEq, Nat.reduceAdd, Nat.reduceMul, Nat.reduceDiv, Nat.reduceMod, Nat.reduceSub, Nat.reduceLeDiff, Nat.reduceBEq, Int.reduceLE, Int.reduceLT, Int.reduceToNat, Int.reduceAdd, Int.reduceSub, Int.reduceMul, Int.reduceEq, Int.reduceBEq, Int.reduceNeg, Int.reduceGT, Int.natCast_pos, ed, em]
            refine vcall_p false (ih ‹_› i3 h3 (m + 1) k3 (by omega)) (by simp (config := { maxSteps := 1000000 }) only [push_cast, ↓reduceIte, ↓normL_data, ↓frzL_data, Nat.reduceEqDiff, Nat.reduceLT, reduceCtorEq, Nat.reduceAdd, Nat.reduceMul, Nat.reduceDiv, Nat.reduceMod, Nat.reduceSub, Nat.reduceLeDiff, Nat.reduceBEq, Int.reduceLE, Int.reduceLT, Int.reduceToNat, Int.reduceAdd, Int.reduceSub, Int.reduceMul, Int.reduceEq, Int.reduceBEq, Int.reduceNeg, Int.reduceGT, Int.natCast_pos]) ?_
            rintro _ ⟨_, i4, h4, k4, ⟨l4, a4, rfl⟩, rfl⟩
            simp (config := { maxSteps := 1000000 }) only [push_cast, ↓reduceIte, ↓normL_data, ↓frzL_data, Nat.reduceEqDiff, Nat.reduceLT, reduceCtorEq, Nat.reduceAdd, Nat.reduceMul, Nat.reduceDiv, Nat.reduceMod, Nat.reduceSub, Nat.reduceLeDiff, Nat.reduceBEq, Int.reduceLE, Int.reduceLT, Int.reduceToNat, Int.reduceAdd, Int.reduceSub, Int.reduceMul, Int.reduceEq, Int.reduceBEq, Int.reduceNeg, Int.reduceGT, Int.natCast_pos]
            refine ⟨by simp; omega, by simp; omega, kloop_next ⟨j + 1, i4, h4, l ++ [⟨12, 0, 0, 0, 0, IntKind.i64.wrap (1 + x2)⟩] ++ l4 ++ [⟨13, 0, 0, 0, 0, 0⟩], by omega, k4, by simp; omega⟩ (St.le_of ?_) (by simp only; omega)⟩
            simp (config := { maxSteps := 1000000 }) only [push_cast, ↓reduceIte, ↓normL_data, ↓frzL_data, Nat.reduceEqDiff, Nat.reduceLT, reduceCtorEq, Nat.reduceAdd, Nat.reduceMul, Nat.reduceDiv, Nat.reduceMod, Nat.reduceSub, Nat.reduceLeDiff, Nat.reduceBEq, Int.reduceLE, Int.reduceLT, Int.reduceToNat, Int.reduceAdd, Int.reduceSub, Int.reduceMul, Int.reduceEq, Int.reduceBEq, Int.reduceNeg, Int.reduceGT, Int.natCast_pos, ew]
          · refine vcall_p false (stmt_ok b i1 h1 hb k1) (by simp (config := { maxSteps := 1000000 }) only [push_cast, ↓reduceIte, ↓normL_data, ↓frzL_data, Nat.reduceEqDiff, Nat.reduceLT, reduceCtorEq, Nat.reduceAdd, Nat.reduceMul, Nat.reduceDiv, Nat.reduceMod, Nat.reduceSub, Nat.reduceLeDiff, Nat.reduceBEq, Int.reduceLE, Int.reduceLT, Int.reduceToNat, Int.reduceAdd, Int.reduceSub, Int.reduceMul, Int.reduceEq, Int.reduceBEq, Int.reduceNeg, Int.reduceGT, Int.natCast_pos]) ?_
            rintro _ ⟨_, i2, h2, k2, ⟨⟨o2, d2, x2, y2, z2, n2⟩, a2, rfl⟩, rfl⟩
            simp (config := { maxSteps := 1000000 }) only [push_cast, ↓reduceIte, ↓normL_data, ↓frzL_data, Nat.reduceEqDiff, Nat.reduceLT, reduceCtorEq, Nat.reduceAdd, Nat.reduceMul, Nat.reduceDiv, Nat.reduceMod, Nat.reduceSub, Nat.reduceLeDiff, Nat.reduceBEq, Int.reduceLE, Int.reduceLT, Int.reduceToNat, Int.reduceAdd, Int.reduceSub, Int.reduceMul, Int.reduceEq, Int.reduceBEq, Int.reduceNeg, Int.reduceGT, Int.natCast_pos, sE]
            refine ⟨by omega, kloop_next ⟨j + 1, i2, h2, l ++ [⟨o2, d2, x2, y2, z2, n2⟩], by omega, k2, by simp; omega⟩ (St.le_of ?_) (by simp only; omega)⟩
            simp (config := { maxSteps := 1000000 }) only [push_cast, ↓reduceIte, ↓normL_data, ↓frzL_data, Nat.reduceEqDiff, Nat.reduceLT, reduceCtorEq, Nat.reduceAdd, Nat.reduceMul, Nat.reduceDiv, Nat.reduceMod, Nat.reduceSub, Nat.reduceLeDiff, Nat.reduceBEq, Int.reduceLE, Int.reduceLT, Int.reduceToNat, Int.reduceAdd, Int.reduceSub, Int.reduceMul, Int.reduceEq, Int.reduceBEq, Int.reduceNeg, Int.reduceGT, Int.natCast_pos, ew]
        · simp (config := { maxSteps := 1000000 }) only [push_cast, ↓reduceIte, ↓normL_data, ↓frzL_data, Nat.reduceEqDiff, Nat.reduceLT, reduceCtorEq, Nat.reduceAdd, Nat.reduceMul, Nat.reduceDiv, Nat.reduceMod, Nat.reduceSub, Nat.reduceLeDiff, Nat.reduceBEq, Int.reduceLE, Int.reduceLT, Int.reduceToNat, Int.reduceAdd, Int.reduceSub, Int.reduceMul, Int.reduceEq, Int.reduceBEq, Int.reduceNeg, Int.reduceGT, Int.natCast_pos, hj, h2', h12]
          refine vcall_p false (stmt_ok b ci ch hb q2) (by simp (config := { maxSteps := 1000000 }) only [push_cast, ↓reduceIte, ↓normL_data, ↓frzL_data, Nat.reduceEqDiff, Nat.reduceLT, reduceCtorEq, Nat.reduceAdd, Nat.reduceMul, Nat.reduceDiv, Nat.reduceMod, Nat.reduceSub, Nat.reduceLeDiff, Nat.reduceBEq, Int.reduceLE, Int.reduceLT, Int.reduceToNat, Int.reduceAdd, Int.reduceSub, Int.reduceMul, Int.reduceEq, Int.reduceBEq, Int.reduceNeg, Int.reduceGT, Int.natCast_pos]) ?_
          rintro _ ⟨_, i2, h2, k2, ⟨⟨o2, d2, x2, y2, z2, n2⟩, a2, rfl⟩, rfl⟩
          simp (config := { maxSteps := 1000000 }) only [push_cast, ↓reduceIte, ↓normL_data, ↓frzL_data, Nat.reduceEqDiff, Nat.reduceLT, reduceCtorEq, Nat.reduceAdd, Nat.reduceMul, Nat.reduceDiv, Nat.reduceMod, Nat.reduceSub, Nat.reduceLeDiff, Nat.reduceBEq, Int.reduceLE, Int.reduceLT, Int.reduceToNat, Int.reduceAdd, Int.reduceSub, Int.reduceMul, Int.reduceEq, Int.reduceBEq, Int.reduceNeg, Int.reduceGT, Int.natCast_pos, sE]
          refine ⟨by omega, kloop_next ⟨j + 1, i2, h2, l ++ [⟨o2, d2, x2, y2, z2, n2⟩], by omega, k2, by simp; omega⟩ (St.le_of ?_) (by simp only; omega)⟩
          simp (config := { maxSteps := 1000000 }) only [push_cast, ↓reduceIte, ↓normL_data, ↓frzL_data, Nat.reduceEqDiff, Nat.reduceLT, reduceCtorEq, Nat.reduceAdd, Nat.reduceMul, Nat.reduceDiv, Nat.reduceMod, Nat.reduceSub, Nat.reduceLeDiff, Nat.reduceBEq, Int.reduceLE, Int.reduceLT, Int.reduceToNat, Int.reduceAdd, Int.reduceSub, Int.reduceMul, Int.reduceEq, Int.reduceBEq, Int.reduceNeg, Int.reduceGT, Int.natCast_pos, ew]
      · have h2' : ¬ ((d : Int) < 2) := by omega
        simp (config := { maxSteps := 1000000 }) only [push_cast, ↓reduceIte, ↓normL_data, ↓frzL_data, Nat.reduceEqDiff, Nat.reduceLT, reduceCtorEq, Nat.reduceAdd, Nat.reduceMul, Nat.reduceDiv, Nat.reduceMod, Nat.reduceSub, Nat.reduceLeDiff, Nat.reduceBEq, Int.reduceLE, Int.reduceLT, Int.reduceToNat, Int.reduceAdd, Int.reduceSub, Int.reduceMul, Int.reduceEq, Int.reduceBEq, Int.reduceNeg, Int.reduceGT, Int.natCast_pos, hj, h2']
        refine vcall_p false (stmt_ok b ci ch hb q2) (by simp (config := { maxSteps := 1000000 }) only [push_cast, ↓reduceIte, ↓normL_data, ↓frzL_data, Nat.reduceEqDiff, Nat.reduceLT, reduceCtorEq, Nat.reduceAdd, Nat.reduceMul, Nat.reduceDiv, Nat.reduceMod, Nat.reduceSub, Nat.reduceLeDiff, Nat.reduceBEq, Int.reduceLE, Int.reduceLT, Int.reduceToNat, Int.reduceAdd, Int.reduceSub, Int.reduceMul, Int.reduceEq, Int.reduceBEq, Int.reduceNeg, Int.reduceGT, Int.natCast_pos]) ?_
        rintro _ ⟨_, i2, h2, k2, ⟨⟨o2, d2, x2, y2, z2, n2⟩, a2, rfl⟩, rfl⟩
        simp (config := { maxSteps := 1000000 }) only [push_cast, ↓reduceIte, ↓normL_data, ↓frzL_data, Nat.reduceEqDiff, Nat.reduceLT, reduceCtorEq, Nat.reduceAdd, Nat.reduceMul, Nat.reduceDiv, Nat.reduceMod, Nat.reduceSub, Nat.reduceLeDiff, Nat.reduceBEq, Int.reduceLE, Int.reduceLT, Int.reduceToNat, Int.reduceAdd, Int.reduceSub, Int.reduceMul, Int.reduceEq, Int.reduceBEq, Int.reduceNeg, Int.reduceGT, Int.natCast_pos, sE]
        refine ⟨by omega, kloop_next ⟨j + 1, i2, h2, l ++ [⟨o2, d2, x2, y2, z2, n2⟩], by omega, k2, by simp; omega⟩ (St.le_of ?_) (by simp only; omega)⟩
        simp (config := { maxSteps := 1000000 }) only [push_cast, ↓reduceIte, ↓normL_data, ↓frzL_data, Nat.reduceEqDiff, Nat.reduceLT, reduceCtorEq, Nat.reduceAdd, Nat.reduceMul, Nat.reduceDiv, Nat.reduceMod, Nat.reduceSub, Nat.reduceLeDiff, Nat.reduceBEq, Int.reduceLE, Int.reduceLT, Int.reduceToNat, Int.reduceAdd, Int.reduceSub, Int.reduceMul, Int.reduceEq, Int.reduceBEq, Int.reduceNeg, Int.reduceGT, Int.natCast_pos, ew]
    · simp (config := { maxSteps := 1000000 }) only [push_cast, ↓reduceIte, ↓normL_data, ↓frzL_data, Nat.reduceEqDiff, Nat.reduceLT, reduceCtorEq, Nat.reduceAdd, Nat.reduceMul, Nat.reduceDiv, Nat.reduceMod, Nat.reduceSub, Nat.reduceLeDiff, Nat.reduceBEq, Int.reduceLE, Int.reduceLT, Int.reduceToNat, Int.reduceAdd, Int.reduceSub, Int.reduceMul, Int.reduceEq, Int.reduceBEq, Int.reduceNeg, Int.reduceGT, Int.natCast_pos, hj]
      refine fin_R (h := ch) ⟨l, by omega, rfl⟩ q2 ?_
      simp (config := { maxSteps := 1000000 }) only [push_cast, ↓reduceIte, ↓normL_data, ↓frzL_data, Nat.reduceEqDiff, Nat.reduceLT, reduceCtorEq, Nat.reduceAdd, Nat.reduceMul, Nat.reduceDiv, Nat.reduceMod, Nat.reduceSub, Nat.reduceLeDiff, Nat.reduceBEq, Int.reduceLE, Int.reduceLT, Int.reduceToNat, Int.reduceAdd, Int.reduceSub, Int.reduceMul, Int.reduceEq, Int.reduceBEq, Int.reduceNeg, Int.reduceGT, Int.natCast_pos]
theorem drawnR_mono {M N : Nat} (h : M ≤ N) {b : List UInt8} {o : Out} (k : drawnR b (rL M) o) : drawnR b (rL N) o := by
  obtain ⟨r, i, hh, h1, ⟨l, h2, h3⟩, h4⟩ := k
  exact ⟨r, i, hh, h1, ⟨l, by omega, h3⟩, h4⟩
theorem block_ok (b : List UInt8) (hb : b.length ≤ 1048576) (i : Nat) (h : Int) (n : Nat) (hi : i ≤ b.length) (hn : n ≤ 8) : CallP Go.Proofs.Try.prog gl0 63 [cuR b i h, .c (iD n), .c (iD 0)] (drawnR b (rL 2000)) := by
  have b2 := block_step b 2 0 (by omega) (by omega) hb (fun h => by omega)
  have b1 := block_step b 1 16 (by omega) (by omega) hb (fun _ i h n hi hn => b2 i h n hi hn)
  have b0 := block_step b 0 144 (by omega) (by omega) hb (fun _ i h n hi hn => b1 i h n hi hn)
  exact (b0 i h n hi hn).mono fun o ho => drawnR_mono (by omega) ho
def rLS (M : Nat) (res : List In) : Prop := ∃ l : List GC.St, l.length ≤ M ∧ res = [.c (ssS l)]
theorem lcase_ok (b : List UInt8) (hb : b.length ≤ 1048576) (i : Nat) (h : Int) (hi : i ≤ b.length) : CallP Go.Proofs.Try.prog gl0 36 [cuR b i h] (drawnR b (rLS 2003)) := by
  refine okFnP (fn := Go.Proofs.Try.f36) [.tmp 2] 1 19 (by kernel_rfl) (by kernel_rfl) rfl (by kernel_rfl) (by decide) rfl rfl rfl ?_
  simp (config := { maxSteps := 1000000 }) only [push_cast, ↓reduceIte, ↓normL_data, ↓frzL_data, Nat.reduceEqDiff, Nat.reduceLT, reduceCtorEq, Nat.reduceAdd, Nat.reduceMul, Nat.reduceDiv, Nat.reduceMod, Nat.reduceSub, Nat.reduceLeDiff, Nat.reduceBEq, Int.reduceLE, Int.reduceLT, Int.reduceToNat, Int.reduceAdd, Int.reduceSub, Int.reduceMul, Int.reduceEq, Int.reduceBEq, Int.reduceNeg, Int.reduceGT, Int.natCast_pos]
  refine vcall_p false (below_ok b i h 9 hb hi (by omega) (by omega)) (by simp (config := { maxSteps := 1000000 }) only [push_cast, ↓reduceIte, ↓normL_data, ↓frzL_data, Nat.reduceEqDiff, Nat.reduceLT, reduceCtorEq, Nat.reduceAdd, Nat.reduceMul, Nat.reduceDiv, Nat.reduceMod, Nat.reduceSub, Nat.reduceLeDiff, Nat.reduceBEq, Int.reduceLE, Int.reduceLT, Int.reduceToNat, Int.reduceAdd, Int.reduceSub, Int.reduceMul, Int.reduceEq, Int.reduceBEq, Int.reduceNeg, Int.reduceGT, Int.natCast_pos]) ?_
  rintro _ ⟨_, i1, h1, k1, ⟨x1, a1, b1, rfl⟩, rfl⟩
  obtain ⟨n, rfl⟩ : ∃ n : Nat, x1 = n := ⟨x1.toNat, by omega⟩
  simp (config := { maxSteps := 1000000 }) only [push_cast, ↓reduceIte, ↓normL_data, ↓frzL_data, Nat.reduceEqDiff, Nat.reduceLT, reduceCtorEq, Nat.reduceAdd, Nat.reduceMul, Nat.reduceDiv, Nat.reduceMod, Nat.reduceSub, Nat.reduceLeDiff, Nat.reduceBEq, Int.reduceLE, Int.reduceLT, Int.reduceToNat, Int.reduceAdd, Int.reduceSub, Int.reduceMul, Int.reduceEq, Int.reduceBEq, Int.reduceNeg, Int.reduceGT, Int.natCast_pos]
  refine vcall_p false (block_ok b hb i1 h1 n k1 (by omega)) (by simp (config := { maxSteps := 1000000 }) only [push_cast, ↓reduceIte, ↓normL_data, ↓frzL_data, Nat.reduceEqDiff, Nat.reduceLT, reduceCtorEq, Nat.reduceAdd, Nat.reduceMul, Nat.reduceDiv, Nat.reduceMod, Nat.reduceSub, Nat.reduceLeDiff, Nat.reduceBEq, Int.reduceLE, Int.reduceLT, Int.reduceToNat, Int.reduceAdd, Int.reduceSub, Int.reduceMul, Int.reduceEq, Int.reduceBEq, Int.reduceNeg, Int.reduceGT, Int.natCast_pos]) ?_
  rintro _ ⟨_, i2, h2, k2, ⟨l, a2, rfl⟩, rfl⟩
  simp (config := { maxSteps := 1000000 }) only [push_cast, ↓reduceIte, ↓normL_data, ↓frzL_data, Nat.reduceEqDiff, Nat.reduceLT, reduceCtorEq, Nat.reduceAdd, Nat.reduceMul, Nat.reduceDiv, Nat.reduceMod, Nat.reduceSub, Nat.reduceLeDiff, Nat.reduceBEq, Int.reduceLE, Int.reduceLT, Int.reduceToNat, Int.reduceAdd, Int.reduceSub, Int.reduceMul, Int.reduceEq, Int.reduceBEq, Int.reduceNeg, Int.reduceGT, Int.natCast_pos]
  refine ⟨by omega, ?_⟩
  refine vcall_p false (below_ok b i2 h2 4 hb k2 (by omega) (by omega)) (by simp (config := { maxSteps := 1000000 }) only [push_cast, ↓reduceIte, ↓normL_data, ↓frzL_data, Nat.reduceEqDiff, Nat.reduceLT, reduceCtorEq, Nat.reduceAdd, Nat.reduceMul, Nat.reduceDiv, Nat.reduceMod, Nat.reduceSub, Nat.reduceLeDiff, Nat.reduceBEq, Int.reduceLE, Int.reduceLT, Int.reduceToNat, Int.reduceAdd, Int.reduceSub, Int.reduceMul, Int.reduceEq, Int.reduceBEq, Int.reduceNeg, Int.reduceGT, Int.natCast_pos]) ?_
  rintro _ ⟨_, i3, h3, k3, ⟨x3, a3, b3, rfl⟩, rfl⟩
  simp (config := { maxSteps := 1000000 }) only [push_cast, ↓reduceIte, ↓normL_data, ↓frzL_data, Nat.reduceEqDiff, Nat.reduceLT, reduceCtorEq, Nat.reduceAdd, Nat.reduceMul, Nat.reduceDiv, Nat.reduceMod, Nat.reduceSub, Nat.reduceLeDiff, Nat.reduceBEq, Int.reduceLE, Int.reduceLT, Int.reduceToNat, Int.reduceAdd, Int.reduceSub, Int.reduceMul, Int.reduceEq, Int.reduceBEq, Int.reduceNeg, Int.reduceGT, Int.natCast_pos]
  refine ⟨by omega, ?_⟩
  refine fin_R (h := h3) ⟨⟨2, 0, 0, 0, 0, 0⟩ :: ⟨2, 1, 1, 0, 0, 0⟩ :: (l ++ [⟨11, 0, x3, 0, 0, 0⟩]), by simp; omega, rfl⟩ k3 ?_
  simp (config := { maxSteps := 1000000 }) only [push_cast, ↓reduceIte, ↓normL_data, ↓frzL_data, Nat.reduceEqDiff, Nat.reduceLT, reduceCtorEq, Nat.reduceAdd, Nat.reduceMul, Nat.reduceDiv, Nat.reduceMod, Nat.reduceSub, Nat.reduceLeDiff, Nat.reduceBEq, Int.reduceLE, Int.reduceLT, Int.reduceToNat, Int.reduceAdd, Int.reduceSub, Int.reduceMul, Int.reduceEq, Int.reduceBEq, Int.reduceNeg, Int.reduceGT, Int.natCast_pos]
theorem drawProgram_ok (b : List UInt8) (hb : b.length ≤ 1048576) : CallP Go.Proofs.Try.prog gl0 10 [.c (bS b)] (fun o => ∃ l : List GC.St, l.length ≤ 2003 ∧ o = ⟨[.c (ssS l)], []⟩) := by
  obtain ⟨h, hn⟩ := new_ok b hb
  refine okFnP (fn := Go.Proofs.Try.f10) [.tmp 2] 1 6 (by kernel_rfl) (by kernel_rfl) rfl (by kernel_rfl) (by decide) rfl rfl rfl ?_
  simp (config := { maxSteps := 1000000 }) only [push_cast, ↓reduceIte, ↓normL_data, ↓frzL_data, Nat.reduceEqDiff, Nat.reduceLT, reduceCtorEq, Nat.reduceAdd, Nat.reduceMul, Nat.reduceDiv, Nat.reduceMod, Nat.reduceSub, Nat.reduceLeDiff, Nat.reduceBEq, Int.reduceLE, Int.reduceLT, Int.reduceToNat, Int.reduceAdd, Int.reduceSub, Int.reduceMul, Int.reduceEq, Int.reduceBEq, Int.reduceNeg, Int.reduceGT, Int.natCast_pos]
  refine vcall_by false hn ?_
  simp (config := { maxSteps := 1000000 }) only [push_cast, ↓reduceIte, ↓normL_data, ↓frzL_data, Nat.reduceEqDiff, Nat.reduceLT, reduceCtorEq, Nat.reduceAdd, Nat.reduceMul, Nat.reduceDiv, Nat.reduceMod, Nat.reduceSub, Nat.reduceLeDiff, Nat.reduceBEq, Int.reduceLE, Int.reduceLT, Int.reduceToNat, Int.reduceAdd, Int.reduceSub, Int.reduceMul, Int.reduceEq, Int.reduceBEq, Int.reduceNeg, Int.reduceGT, Int.natCast_pos]
  refine vcall_p false (lcase_ok b hb 0 h (by omega)) (by simp (config := { maxSteps := 1000000 }) only [push_cast, ↓reduceIte, ↓normL_data, ↓frzL_data, Nat.reduceEqDiff, Nat.reduceLT, reduceCtorEq, Nat.reduceAdd, Nat.reduceMul, Nat.reduceDiv, Nat.reduceMod, Nat.reduceSub, Nat.reduceLeDiff, Nat.reduceBEq, Int.reduceLE, Int.reduceLT, Int.reduceToNat, Int.reduceAdd, Int.reduceSub, Int.reduceMul, Int.reduceEq, Int.reduceBEq, Int.reduceNeg, Int.reduceGT, Int.natCast_pos]) ?_
  rintro _ ⟨_, i1, h1, k1, ⟨l, a1, rfl⟩, rfl⟩
  simp (config := { maxSteps := 1000000 }) only [push_cast, ↓reduceIte, ↓normL_data, ↓frzL_data, Nat.reduceEqDiff, Nat.reduceLT, reduceCtorEq, Nat.reduceAdd, Nat.reduceMul, Nat.reduceDiv, Nat.reduceMod, Nat.reduceSub, Nat.reduceLeDiff, Nat.reduceBEq, Int.reduceLE, Int.reduceLT, Int.reduceToNat, Int.reduceAdd, Int.reduceSub, Int.reduceMul, Int.reduceEq, Int.reduceBEq, Int.reduceNeg, Int.reduceGT, Int.natCast_pos]
  refine vfinP_by _ ⟨l, a1, rfl⟩ ?_
  simp (config := { maxSteps := 1000000 }) only [push_cast, ↓reduceIte, ↓normL_data, ↓frzL_data, Nat.reduceEqDiff, Nat.reduceLT, reduceCtorEq, Nat.reduceAdd, Nat.reduceMul, Nat.reduceDiv, Nat.reduceMod, Nat.reduceSub, Nat.reduceLeDiff, Nat.reduceBEq, Int.reduceLE, Int.reduceLT, Int.reduceToNat, Int.reduceAdd, Int.reduceSub, Int.reduceMul, Int.reduceEq, Int.reduceBEq, Int.reduceNeg, Int.reduceGT, Int.natCast_pos]
end GV

