/- This text proves the plain law of labels, gates, compiling, simplifying, pruning, garbling and unrolling. No condition but those that each theorem states. -/
import Derived.Laws.Entries
import Derived.Laws.BitsLemmas
import Derived.RowKit
set_option linter.unusedSimpArgs false
set_option linter.unusedVariables false
namespace GC
open Go Go.RowKit

theorem snoc_ind {α : Type} {p : List α → Prop} (h0 : p []) (h1 : ∀ l x, p l → p (l ++ [x])) (l : List α) : p l := by
  have H : ∀ n, ∀ l : List α, l.length = n → p l := by
    intro n
    induction n with
    | zero => intro l hl; obtain rfl := List.eq_nil_of_length_eq_zero hl; exact h0
    | succ n ih =>
      intro l hl
      have hne : l ≠ [] := by intro e; simp [e] at hl
      rw [← List.dropLast_concat_getLast hne]
      exact h1 _ _ (ih _ (by simp [hl]))
  exact H l.length l rfl

/-- xor of numbers that are not negative. -/
def xr (a b : Int) : Int := ((a.toNat ^^^ b.toNat : Nat) : Int)
def an (a b : Int) : Int := ((a.toNat &&& b.toNat : Nat) : Int)

theorem i64_in (n : Int) (h0 : 0 ≤ n) (h1 : n < 9223372036854775808) : IntKind.i64.wrap n = n := by rw [IntKind.wrap_i64]; omega
theorem bits_xor_i64 (a b : Int) (ha : 0 ≤ a) (ha' : a < 9223372036854775808) (hb : 0 ≤ b) (hb' : b < 9223372036854775808) : bits .xor .i64 a b = xr a b := by
  obtain ⟨A, rfl⟩ := Int.eq_ofNat_of_zero_le ha
  obtain ⟨B, rfl⟩ := Int.eq_ofNat_of_zero_le hb
  have hx : A ^^^ B < 2 ^ 63 := Nat.xor_lt_two_pow (by omega) (by omega)
  show IntKind.i64.wrap ((BitVec.ofInt 64 (A : Int) ^^^ BitVec.ofInt 64 (B : Int)).toNat : Int) = _
  rw [BitVec.toNat_xor, BitVec.ofInt_natCast, BitVec.ofInt_natCast, BitVec.toNat_ofNat, BitVec.toNat_ofNat, Nat.mod_eq_of_lt (by omega), Nat.mod_eq_of_lt (by omega), i64_in _ (by omega) (by omega)]
  simp [xr]
theorem bits_and_i64 (a b : Int) (ha : 0 ≤ a) (ha' : a < 9223372036854775808) (hb : 0 ≤ b) (hb' : b < 9223372036854775808) : bits .and .i64 a b = an a b := by
  obtain ⟨A, rfl⟩ := Int.eq_ofNat_of_zero_le ha
  obtain ⟨B, rfl⟩ := Int.eq_ofNat_of_zero_le hb
  have hx : A &&& B < 2 ^ 63 := Nat.and_lt_two_pow _ (by omega)
  show IntKind.i64.wrap ((BitVec.ofInt 64 (A : Int) &&& BitVec.ofInt 64 (B : Int)).toNat : Int) = _
  rw [BitVec.toNat_and, BitVec.ofInt_natCast, BitVec.ofInt_natCast, BitVec.toNat_ofNat, BitVec.toNat_ofNat, Nat.mod_eq_of_lt (by omega), Nat.mod_eq_of_lt (by omega), i64_in _ (by omega) (by omega)]
  simp [an]

theorem xr_nonneg (a b : Int) : 0 ≤ xr a b := Int.natCast_nonneg _
theorem xr_comm (a b : Int) : xr a b = xr b a := by unfold xr; rw [Nat.xor_comm]
theorem xr_assoc (a b c : Int) : xr (xr a b) c = xr a (xr b c) := by simp [xr, Nat.xor_assoc]
theorem xr_left (a b c : Int) : xr a (xr b c) = xr b (xr a c) := by rw [← xr_assoc, xr_comm a b, xr_assoc]
theorem xr_self (a : Int) : xr a a = 0 := by simp [xr]
theorem xr_zero (a : Int) (h : 0 ≤ a) : xr a 0 = a := by simp [xr]; omega
theorem zero_xr (a : Int) (h : 0 ≤ a) : xr 0 a = a := by rw [xr_comm, xr_zero a h]
theorem xr_cancel (a b : Int) (h : 0 ≤ b) : xr a (xr a b) = b := by rw [← xr_assoc, xr_self, zero_xr b h]
theorem xr_lt (k : Nat) (a b : Int) (ha : 0 ≤ a) (ha' : a < 2 ^ k) (hb : 0 ≤ b) (hb' : b < 2 ^ k) : xr a b < 2 ^ k := by
  obtain ⟨A, rfl⟩ := Int.eq_ofNat_of_zero_le ha
  obtain ⟨B, rfl⟩ := Int.eq_ofNat_of_zero_le hb
  have hx : A ^^^ B < 2 ^ k := Nat.xor_lt_two_pow (by exact_mod_cast ha') (by exact_mod_cast hb')
  simp only [xr, Int.toNat_natCast]
  exact_mod_cast hx
theorem xr_lt16 (a b : Int) (ha : 0 ≤ a) (ha' : a ≤ 65535) (hb : 0 ≤ b) (hb' : b ≤ 65535) : xr a b ≤ 65535 := by have := xr_lt 16 a b ha (by omega) hb (by omega); omega
theorem xr_mod2 (a b : Int) (ha : 0 ≤ a) (hb : 0 ≤ b) : xr a b % 2 = (a % 2 + b % 2) % 2 := by
  obtain ⟨A, rfl⟩ := Int.eq_ofNat_of_zero_le ha
  obtain ⟨B, rfl⟩ := Int.eq_ofNat_of_zero_le hb
  have : (A ^^^ B) % 2 = (A + B) % 2 := by
    have h := @Nat.xor_mod_two_pow A B 1
    have a2 : A % 2 = 0 ∨ A % 2 = 1 := by omega
    have b2 : B % 2 = 0 ∨ B % 2 = 1 := by omega
    simp only [Nat.pow_one] at h
    rw [h]
    rcases a2 with a2 | a2 <;> rcases b2 with b2 | b2 <;> rw [a2, b2] <;> simp <;> omega
  simp only [xr, Int.toNat_natCast]
  omega

/-- x times a bit. -/
def tm (b x : Int) : Int := if b = 1 then x else 0
theorem tm_one (x : Int) : tm 1 x = x := rfl
theorem tm_zero (x : Int) : tm 0 x = 0 := rfl

/-- Half gates: what the evaluator computes for an and gate is the label of the product. -/
theorem half_gates (H1 H2 : Int → Int) (a b d va vb : Int) (ha : 0 ≤ a) (hb : 0 ≤ b) (hd : 0 ≤ d) (hd1 : d % 2 = 1)
    (h1 : ∀ x, 0 ≤ H1 x) (h2 : ∀ x, 0 ≤ H2 x) (hva : va = 0 ∨ va = 1) (hvb : vb = 0 ∨ vb = 1)
    (G E Z : Int) (hG : G = xr (xr (H1 a) (H1 (xr a d))) (tm (b % 2) d)) (hE : E = xr (xr (H2 b) (H2 (xr b d))) a)
    (hZ : Z = xr (xr (xr (H1 a) (H2 b)) (tm (a % 2) G)) (tm (b % 2) (xr E a))) :
    xr (xr (xr (H1 (xr a (tm va d))) (H2 (xr b (tm vb d)))) (tm (xr a (tm va d) % 2) G)) (tm (xr b (tm vb d) % 2) (xr E (xr a (tm va d)))) = xr Z (tm (va * vb) d) := by
  subst hG hE hZ
  have pa : a % 2 = 0 ∨ a % 2 = 1 := by omega
  have pb : b % 2 = 0 ∨ b % 2 = 1 := by omega
  have xa : xr a d % 2 = (a % 2 + 1) % 2 := by rw [xr_mod2 a d ha hd, hd1]
  have xb : xr b d % 2 = (b % 2 + 1) % 2 := by rw [xr_mod2 b d hb hd, hd1]
  have n1 := h1 a
  have n2 := h2 b
  have n3 := h1 (xr a d)
  have n4 := h2 (xr b d)
  generalize h1e : H1 a = p at *
  generalize h2e : H2 b = q at *
  generalize h3e : H1 (xr a d) = r at *
  generalize h4e : H2 (xr b d) = s at *
  rcases hva with rfl | rfl <;> rcases hvb with rfl | rfl <;> rcases pa with pa | pa <;> rcases pb with pb | pb <;>
    simp [tm, xa, xb, pa, pb, xr_zero, ha, hb, hd, xr_nonneg, h1e, h2e, h3e, h4e, n1, n2, n3, n4] <;>
    simp [xr_assoc, xr_comm, xr_left, xr_self, xr_cancel, xr_zero, zero_xr, ha, hb, hd, n1, n2, n3, n4, xr_nonneg]
end GC

set_option linter.unusedSimpArgs false
set_option linter.unusedVariables false
namespace GC

/-- A gate: kind, operands. -/
structure Gt where
  k : Int
  a : Int
  b : Int
theorem Gt.ext' {g h : Gt} (h1 : g.k = h.k) (h2 : g.a = h.a) (h3 : g.b = h.b) : g = h := by cases g; cases h; simp_all
instance : DecidableEq Gt := fun g h =>
  if h1 : g.k = h.k then if h2 : g.a = h.a then if h3 : g.b = h.b then .isTrue (Gt.ext' h1 h2 h3) else .isFalse (fun e => h3 (by rw [e])) else .isFalse (fun e => h2 (by rw [e])) else .isFalse (fun e => h1 (by rw [e]))

/-- The value of a gate, out of those of the wires ahead of it. -/
def gval (bits : Int → Bool) (ws : List Bool) (g : Gt) : Bool :=
  if g.k = 1 then bits g.a
  else if g.k = 2 then g.a == 1
  else if g.k = 3 then (ws.getD g.a.toNat false).xor (ws.getD g.b.toNat false)
  else if g.k = 4 then (ws.getD g.a.toNat false) && (ws.getD g.b.toNat false)
  else if g.k = 5 then !(ws.getD g.a.toNat false)
  else false
/-- The values of all wires. -/
def evs (bits : Int → Bool) (gs : List Gt) : List Bool := gs.foldl (fun ws g => ws ++ [gval bits ws g]) []
theorem evs_snoc (bits : Int → Bool) (gs : List Gt) (g : Gt) : evs bits (gs ++ [g]) = evs bits gs ++ [gval bits (evs bits gs) g] := by simp [evs]
theorem evs_length (bits : Int → Bool) (gs : List Gt) : (evs bits gs).length = gs.length := by
  induction gs using snoc_ind with
  | h0 => rfl
  | h1 gs g ih => rw [evs_snoc]; simp [ih]
theorem evs_append (bits : Int → Bool) (gs hs : List Gt) : ∃ l, evs bits (gs ++ hs) = evs bits gs ++ l ∧ l.length = hs.length := by
  induction hs using snoc_ind with
  | h0 => exact ⟨[], by simp, rfl⟩
  | h1 hs g ih =>
    obtain ⟨l, h1, h2⟩ := ih
    exact ⟨l ++ [gval bits (evs bits (gs ++ hs)) g], by rw [← List.append_assoc, evs_snoc, h1, List.append_assoc], by simp [h2]⟩

/-- Wire w is there and has the value v. -/
def has (bits : Int → Bool) (gs : List Gt) (w : Int) (v : Bool) : Prop := 0 ≤ w ∧ w < gs.length ∧ (evs bits gs).getD w.toNat false = v
theorem has.mono {bits : Int → Bool} {gs hs : List Gt} {w : Int} {v : Bool} (h : has bits gs w v) : has bits (gs ++ hs) w v := by
  obtain ⟨h0, h1, h2⟩ := h
  obtain ⟨l, e, _⟩ := evs_append bits gs hs
  refine ⟨h0, by simp; omega, ?_⟩
  rw [e, List.getD_eq_getElem?_getD, List.getElem?_append_left (by rw [evs_length]; omega), ← List.getD_eq_getElem?_getD, h2]
theorem has_last (bits : Int → Bool) (gs : List Gt) (g : Gt) : has bits (gs ++ [g]) gs.length (gval bits (evs bits gs) g) := by
  refine ⟨by omega, by simp; omega, ?_⟩
  rw [evs_snoc, List.getD_eq_getElem?_getD, List.getElem?_append_right (by rw [evs_length]; omega)]
  simp [evs_length]
theorem has_input (bits : Int → Bool) (gs : List Gt) (i b : Int) : has bits (gs ++ [⟨1, i, b⟩]) gs.length (bits i) := by simpa [gval] using has_last bits gs ⟨1, i, b⟩
theorem has_const (bits : Int → Bool) (gs : List Gt) (i b : Int) : has bits (gs ++ [⟨2, i, b⟩]) gs.length (i == 1) := by simpa [gval] using has_last bits gs ⟨2, i, b⟩
theorem has_xor {bits : Int → Bool} {gs : List Gt} {a b : Int} {va vb : Bool} (ha : has bits gs a va) (hb : has bits gs b vb) : has bits (gs ++ [⟨3, a, b⟩]) gs.length (va.xor vb) := by
  have := has_last bits gs ⟨3, a, b⟩
  rw [← ha.2.2, ← hb.2.2]
  simpa [gval] using this
theorem has_and {bits : Int → Bool} {gs : List Gt} {a b : Int} {va vb : Bool} (ha : has bits gs a va) (hb : has bits gs b vb) : has bits (gs ++ [⟨4, a, b⟩]) gs.length (va && vb) := by
  have := has_last bits gs ⟨4, a, b⟩
  rw [← ha.2.2, ← hb.2.2]
  simpa [gval] using this
theorem has_not {bits : Int → Bool} {gs : List Gt} {a b : Int} {va : Bool} (ha : has bits gs a va) : has bits (gs ++ [⟨5, a, b⟩]) gs.length (!va) := by
  have := has_last bits gs ⟨5, a, b⟩
  rw [← ha.2.2]
  simpa [gval] using this
end GC

set_option linter.unusedSimpArgs false
set_option linter.unusedVariables false
namespace GC

def okG (n : Nat) (g : Gt) : Prop :=
  if g.k = 1 then 0 ≤ g.a ∧ g.a ≤ 79 ∧ g.b = 0
  else if g.k = 2 then 0 ≤ g.a ∧ g.a ≤ 1 ∧ g.b = 0
  else if g.k = 3 ∨ g.k = 4 then 0 ≤ g.a ∧ g.a < n ∧ 0 ≤ g.b ∧ g.b < n
  else if g.k = 5 then 0 ≤ g.a ∧ g.a < n ∧ g.b = 0
  else False
def okGs (gs : List Gt) : Prop := ∀ i g, gs[i]? = some g → okG i g
theorem okGs_nil : okGs [] := by intro i g h; simp at h
theorem okGs_snoc {gs : List Gt} {g : Gt} (h : okGs gs) (hg : okG gs.length g) : okGs (gs ++ [g]) := by
  intro i x hx
  rcases Nat.lt_trichotomy i gs.length with hi | hi | hi
  · rw [List.getElem?_append_left hi] at hx; exact h i x hx
  · subst hi; simp at hx; subst hx; exact hg
  · rw [List.getElem?_append_right (by omega)] at hx
    have : ([g] : List Gt).length ≤ i - gs.length := by simp; omega
    rw [List.getElem?_eq_none this] at hx; cases hx
theorem okGs_left {gs hs : List Gt} (h : okGs (gs ++ hs)) : okGs gs := by
  intro i g hg
  have hi : i < gs.length := by
    rcases Nat.lt_or_ge i gs.length with h | h
    · exact h
    · rw [List.getElem?_eq_none h] at hg; cases hg
  exact h i g (by rw [List.getElem?_append_left hi]; exact hg)

def cnt (k : Int) (gs : List Gt) : Nat := (gs.filter (fun g => g.k == k)).length
theorem cnt_append (k : Int) (gs hs : List Gt) : cnt k (gs ++ hs) = cnt k gs + cnt k hs := by simp [cnt]
theorem cnt_snoc (k : Int) (gs : List Gt) (g : Gt) : cnt k (gs ++ [g]) = cnt k gs + if g.k = k then 1 else 0 := by
  simp [cnt, List.filter_cons]; split <;> simp_all
theorem cnt_nil (k : Int) : cnt k [] = 0 := rfl

/-- What an emitter does to the gates: it appends p of them, q of which are and gates; all stay valid. -/
structure Ext (gs gs' : List Gt) (p q : Nat) : Prop where
  pre : ∃ hs, gs' = gs ++ hs ∧ hs.length = p ∧ cnt 4 hs = q
  ok : okGs gs → okGs gs'
theorem Ext.refl (gs : List Gt) : Ext gs gs 0 0 := ⟨⟨[], by simp, rfl, rfl⟩, id⟩
theorem Ext.trans {a b c : List Gt} {p q p' q' : Nat} (h : Ext a b p q) (h' : Ext b c p' q') : Ext a c (p + p') (q + q') := by
  obtain ⟨⟨u, rfl, h1, h2⟩, h3⟩ := h
  obtain ⟨⟨v, rfl, k1, k2⟩, k3⟩ := h'
  exact ⟨⟨u ++ v, by simp, by simp [h1, k1], by simp [cnt_append, h2, k2]⟩, fun x => k3 (h3 x)⟩
theorem Ext.of {a b : List Gt} {p q p' q' : Nat} (h : Ext a b p q) (e1 : p = p') (e2 : q = q') : Ext a b p' q' := by subst e1 e2; exact h
theorem Ext.has {bits : Int → Bool} {gs gs' : List Gt} {p q : Nat} (h : Ext gs gs' p q) {w : Int} {v : Bool} (hw : has bits gs w v) : has bits gs' w v := by
  obtain ⟨⟨u, rfl, h1, h2⟩, h3⟩ := h
  exact hw.mono
theorem Ext.len {gs gs' : List Gt} {p q : Nat} (h : Ext gs gs' p q) : gs'.length = gs.length + p := by
  obtain ⟨⟨u, rfl, h1, h2⟩, h3⟩ := h
  simp [h1]
theorem Ext.cnt {gs gs' : List Gt} {p q : Nat} (h : Ext gs gs' p q) : cnt 4 gs' = cnt 4 gs + q := by
  obtain ⟨⟨u, rfl, h1, h2⟩, h3⟩ := h
  rw [cnt_append, h2]

/-! ### put -/
def put (gs : List Gt) (k a b : Int) : Int × List Gt := ((gs.length : Int), gs ++ [⟨k, a, b⟩])
def bo (b : Bool) : Nat := if b then 1 else 0

theorem put_ext (gs : List Gt) (k a b : Int) (h : okG gs.length ⟨k, a, b⟩) : Ext gs (put gs k a b).2 1 (if k = 4 then 1 else 0) :=
  ⟨⟨[⟨k, a, b⟩], rfl, rfl, by simp [cnt, List.filter_cons]; split <;> simp_all⟩, fun x => okGs_snoc x h⟩
theorem put_input (bits : Int → Bool) (gs : List Gt) (i : Int) (h0 : 0 ≤ i) (h1 : i ≤ 79) : Ext gs (put gs 1 i 0).2 1 0 ∧ has bits (put gs 1 i 0).2 (put gs 1 i 0).1 (bits i) :=
  ⟨put_ext gs 1 i 0 (by simp [okG]; omega), has_input _ _ _ _⟩
theorem put_const (bits : Int → Bool) (gs : List Gt) (v : Bool) : Ext gs (put gs 2 (bo v) 0).2 1 0 ∧ has bits (put gs 2 (bo v) 0).2 (put gs 2 (bo v) 0).1 v :=
  ⟨put_ext gs 2 _ 0 (by cases v <;> simp [okG, bo]), by have := has_const bits gs (bo v) 0; cases v <;> simpa [bo, put] using this⟩
theorem put_xor {bits : Int → Bool} {gs : List Gt} {a b : Int} {va vb : Bool} (ha : has bits gs a va) (hb : has bits gs b vb) : Ext gs (put gs 3 a b).2 1 0 ∧ has bits (put gs 3 a b).2 (put gs 3 a b).1 (va.xor vb) :=
  ⟨put_ext gs 3 a b (by simp [okG]; exact ⟨ha.1, ha.2.1, hb.1, hb.2.1⟩), has_xor ha hb⟩
theorem put_and {bits : Int → Bool} {gs : List Gt} {a b : Int} {va vb : Bool} (ha : has bits gs a va) (hb : has bits gs b vb) : Ext gs (put gs 4 a b).2 1 1 ∧ has bits (put gs 4 a b).2 (put gs 4 a b).1 (va && vb) :=
  ⟨put_ext gs 4 a b (by simp [okG]; exact ⟨ha.1, ha.2.1, hb.1, hb.2.1⟩), has_and ha hb⟩
theorem put_not {bits : Int → Bool} {gs : List Gt} {a : Int} {va : Bool} (ha : has bits gs a va) : Ext gs (put gs 5 a 0).2 1 0 ∧ has bits (put gs 5 a 0).2 (put gs 5 a 0).1 (!va) :=
  ⟨put_ext gs 5 a 0 (by simp [okG]; exact ⟨ha.1, ha.2.1⟩), has_not ha⟩

/-! ### lists of wires -/
def hasL (bits : Int → Bool) (gs : List Gt) : List Int → List Bool → Prop
  | [], [] => True
  | w :: ws, v :: vs => has bits gs w v ∧ hasL bits gs ws vs
  | _, _ => False
theorem hasL.ext {bits : Int → Bool} {gs gs' : List Gt} {p q : Nat} (h : Ext gs gs' p q) : ∀ {ws : List Int} {vs : List Bool}, hasL bits gs ws vs → hasL bits gs' ws vs
  | [], [], _ => trivial
  | _ :: _, _ :: _, hw => ⟨h.has hw.1, hasL.ext h hw.2⟩
theorem hasL.length {bits : Int → Bool} {gs : List Gt} : ∀ {ws : List Int} {vs : List Bool}, hasL bits gs ws vs → ws.length = vs.length
  | [], [], _ => rfl
  | _ :: _, _ :: _, hw => by simp [hasL.length hw.2]
theorem hasL.at {bits : Int → Bool} {gs : List Gt} : ∀ {ws : List Int} {vs : List Bool} (h : hasL bits gs ws vs) (i : Nat) (hi : i < ws.length), has bits gs (ws.getD i 0) (vs.getD i false)
  | _ :: _, _ :: _, hw, 0, _ => hw.1
  | _ :: ws, _ :: vs, hw, i + 1, hi => by simpa using hasL.at hw.2 i (by simpa using hi)
theorem hasL.append {bits : Int → Bool} {gs : List Gt} : ∀ {ws : List Int} {vs : List Bool} {ws' : List Int} {vs' : List Bool}, hasL bits gs ws vs → hasL bits gs ws' vs' → hasL bits gs (ws ++ ws') (vs ++ vs')
  | [], [], _, _, _, h => h
  | _ :: _, _ :: _, _, _, hw, h => ⟨hw.1, hasL.append hw.2 h⟩
theorem hasL.take {bits : Int → Bool} {gs : List Gt} : ∀ {ws : List Int} {vs : List Bool} (i : Nat), hasL bits gs ws vs → hasL bits gs (ws.take i) (vs.take i)
  | [], [], _, _ => by simp [hasL]
  | _ :: _, _ :: _, 0, _ => by simp [hasL]
  | _ :: _, _ :: _, i + 1, hw => ⟨hw.1, hasL.take i hw.2⟩
theorem hasL.drop {bits : Int → Bool} {gs : List Gt} : ∀ {ws : List Int} {vs : List Bool} (i : Nat), hasL bits gs ws vs → hasL bits gs (ws.drop i) (vs.drop i)
  | [], [], _, _ => by simp [hasL]
  | _ :: _, _ :: _, 0, hw => hw
  | _ :: _, _ :: _, i + 1, hw => by simpa using hasL.drop i hw.2

/-! ### full adder -/
def full (gs : List Gt) (a b c : Int) : (Int × Int) × List Gt :=
  let x := put gs 3 a c
  let y := put x.2 3 b c
  let z := put y.2 3 a y.1
  let w := put z.2 4 x.1 y.1
  let v := put w.2 3 w.1 c
  ((z.1, v.1), v.2)
def fullS (a b c : Bool) : Bool := a.xor (b.xor c)
def fullC (a b c : Bool) : Bool := ((a.xor c) && (b.xor c)).xor c
theorem full_has {bits : Int → Bool} {gs : List Gt} {a b c : Int} {va vb vc : Bool} (ha : has bits gs a va) (hb : has bits gs b vb) (hc : has bits gs c vc) :
    Ext gs (full gs a b c).2 5 1 ∧ has bits (full gs a b c).2 (full gs a b c).1.1 (fullS va vb vc) ∧ has bits (full gs a b c).2 (full gs a b c).1.2 (fullC va vb vc) := by
  obtain ⟨e1, x1⟩ := put_xor ha hc
  obtain ⟨e2, x2⟩ := put_xor (e1.has hb) (e1.has hc)
  obtain ⟨e3, x3⟩ := put_xor (e2.has (e1.has ha)) x2
  obtain ⟨e4, x4⟩ := put_and (e3.has (e2.has x1)) (e3.has x2)
  obtain ⟨e5, x5⟩ := put_xor x4 (e4.has (e3.has (e2.has (e1.has hc))))
  exact ⟨(((e1.trans e2).trans e3).trans e4).trans e5, e5.has (e4.has x3), x5⟩

/-! ### sums -/
def addL : List Gt → Int → List Int → List Int → List Int × List Gt
  | gs, c, a :: as, b :: bs =>
    if as = [] then
      let w := put gs 3 a b
      let v := put w.2 3 w.1 c
      ([v.1], v.2)
    else
      let f := full gs a b c
      let r := addL f.2 f.1.2 as bs
      (f.1.1 :: r.1, r.2)
  | gs, _, _, _ => ([], gs)
def addB : Bool → List Bool → List Bool → List Bool
  | c, a :: as, b :: bs => if as = [] then [(a.xor b).xor c] else fullS a b c :: addB (fullC a b c) as bs
  | _, _, _ => []
theorem addL_has {bits : Int → Bool} : ∀ {as bs : List Int} {vas vbs : List Bool} {gs : List Gt} {c : Int} {vc : Bool}, hasL bits gs as vas → hasL bits gs bs vbs → as.length = bs.length → 0 < as.length → has bits gs c vc →
    Ext gs (addL gs c as bs).2 (5 * as.length - 3) (as.length - 1) ∧ hasL bits (addL gs c as bs).2 (addL gs c as bs).1 (addB vc vas vbs)
  | a :: as, b :: bs, va :: vas, vb :: vbs, gs, c, vc, ha, hb, hl, h0, hc => by
    by_cases hn : as = []
    · subst hn
      have hv : vas = [] := List.eq_nil_of_length_eq_zero (by have := ha.2.length; simpa using this.symm)
      subst hv
      obtain ⟨e1, x1⟩ := put_xor ha.1 hb.1
      obtain ⟨e2, x2⟩ := put_xor x1 (e1.has hc)
      simp only [addL, addB, if_true]
      exact ⟨(e1.trans e2).of (by simp) (by simp), x2, trivial⟩
    · have hv : vas ≠ [] := by rintro rfl; exact hn (List.eq_nil_of_length_eq_zero (by have := ha.2.length; simpa using this))
      have hp : 0 < as.length := List.length_pos_iff.2 hn
      obtain ⟨e1, x1, x2⟩ := full_has ha.1 hb.1 hc
      obtain ⟨e2, x3⟩ := addL_has (ha.2.ext e1) (hb.2.ext e1) (by simpa using hl) hp x2
      simp only [addL, addB, if_neg hn, if_neg hv]
      exact ⟨(e1.trans e2).of (by simp; omega) (by simp; omega), e2.has x1, x3⟩
def sumM (gs : List Gt) (as bs : List Int) (first : Bool) : List Int × List Gt :=
  let c := put gs 2 (bo first) 0
  addL c.2 c.1 as bs
theorem sumM_has {bits : Int → Bool} {gs : List Gt} {as bs : List Int} {vas vbs : List Bool} (first : Bool) (ha : hasL bits gs as vas) (hb : hasL bits gs bs vbs) (hl : as.length = bs.length) (h0 : 0 < as.length) :
    Ext gs (sumM gs as bs first).2 (5 * as.length - 2) (as.length - 1) ∧ hasL bits (sumM gs as bs first).2 (sumM gs as bs first).1 (addB first vas vbs) := by
  obtain ⟨e1, x1⟩ := put_const bits gs first
  obtain ⟨e2, x2⟩ := addL_has (ha.ext e1) (hb.ext e1) hl h0 x1
  exact ⟨(e1.trans e2).of (by omega) (by omega), x2⟩

/-! ### not, each bit -/
def notsM : List Gt → List Int → List Int × List Gt
  | gs, [] => ([], gs)
  | gs, w :: ws =>
    let p := put gs 5 w 0
    let r := notsM p.2 ws
    (p.1 :: r.1, r.2)
theorem notsM_has {bits : Int → Bool} : ∀ {ws : List Int} {vs : List Bool} {gs : List Gt}, hasL bits gs ws vs → Ext gs (notsM gs ws).2 ws.length 0 ∧ hasL bits (notsM gs ws).2 (notsM gs ws).1 (vs.map (!·))
  | [], [], gs, _ => ⟨Ext.refl _, trivial⟩
  | w :: ws, v :: vs, gs, h => by
    obtain ⟨e1, x1⟩ := put_not h.1
    obtain ⟨e2, x2⟩ := notsM_has (h.2.ext e1)
    exact ⟨(e1.trans e2).of (by simp; omega) (by omega), e2.has x1, x2⟩

/-! ### a gate for each bit -/
def bitsM (k : Int) : List Gt → List Int → List Int → List Int × List Gt
  | gs, a :: as, b :: bs =>
    let p := put gs k a b
    let r := bitsM k p.2 as bs
    (p.1 :: r.1, r.2)
  | gs, _, _ => ([], gs)
theorem bitsM_and {bits : Int → Bool} : ∀ {as bs : List Int} {vas vbs : List Bool} {gs : List Gt}, hasL bits gs as vas → hasL bits gs bs vbs → as.length = bs.length →
    Ext gs (bitsM 4 gs as bs).2 as.length as.length ∧ hasL bits (bitsM 4 gs as bs).2 (bitsM 4 gs as bs).1 (List.zipWith (· && ·) vas vbs)
  | [], [], [], [], gs, _, _, _ => ⟨Ext.refl _, trivial⟩
  | a :: as, b :: bs, va :: vas, vb :: vbs, gs, ha, hb, hl => by
    obtain ⟨e1, x1⟩ := put_and ha.1 hb.1
    obtain ⟨e2, x2⟩ := bitsM_and (ha.2.ext e1) (hb.2.ext e1) (by simpa using hl)
    exact ⟨(e1.trans e2).of (by simp; omega) (by simp; omega), e2.has x1, x2⟩
theorem bitsM_xor {bits : Int → Bool} : ∀ {as bs : List Int} {vas vbs : List Bool} {gs : List Gt}, hasL bits gs as vas → hasL bits gs bs vbs → as.length = bs.length →
    Ext gs (bitsM 3 gs as bs).2 as.length 0 ∧ hasL bits (bitsM 3 gs as bs).2 (bitsM 3 gs as bs).1 (List.zipWith Bool.xor vas vbs)
  | [], [], [], [], gs, _, _, _ => ⟨Ext.refl _, trivial⟩
  | a :: as, b :: bs, va :: vas, vb :: vbs, gs, ha, hb, hl => by
    obtain ⟨e1, x1⟩ := put_xor ha.1 hb.1
    obtain ⟨e2, x2⟩ := bitsM_xor (ha.2.ext e1) (hb.2.ext e1) (by simpa using hl)
    exact ⟨(e1.trans e2).of (by simp; omega) (by simp), e2.has x1, x2⟩

/-! ### one wire and each bit -/
def scaleM : List Gt → Int → List Int → List Int × List Gt
  | gs, _, [] => ([], gs)
  | gs, s, w :: ws =>
    let p := put gs 4 s w
    let r := scaleM p.2 s ws
    (p.1 :: r.1, r.2)
theorem scaleM_has {bits : Int → Bool} {s : Int} {vs : Bool} : ∀ {ws : List Int} {vws : List Bool} {gs : List Gt}, has bits gs s vs → hasL bits gs ws vws →
    Ext gs (scaleM gs s ws).2 ws.length ws.length ∧ hasL bits (scaleM gs s ws).2 (scaleM gs s ws).1 (vws.map (vs && ·))
  | [], [], gs, _, _ => ⟨Ext.refl _, trivial⟩
  | w :: ws, v :: vws, gs, hs, h => by
    obtain ⟨e1, x1⟩ := put_and hs h.1
    obtain ⟨e2, x2⟩ := scaleM_has (e1.has hs) (h.2.ext e1)
    exact ⟨(e1.trans e2).of (by simp; omega) (by simp; omega), e2.has x1, x2⟩
end GC

set_option linter.unusedSimpArgs false
set_option linter.unusedVariables false
namespace GC

/-! ### comparison -/
def carryL : List Gt → Int → List Int → List Int → Int × List Gt
  | gs, c, a :: as, b :: bs => let f := full gs a b c; carryL f.2 f.1.2 as bs
  | gs, c, _, _ => (c, gs)
def carryB : Bool → List Bool → List Bool → Bool
  | c, a :: as, b :: bs => carryB (fullC a b c) as bs
  | c, _, _ => c
theorem carryL_has {bits : Int → Bool} : ∀ {as bs : List Int} {vas vbs : List Bool} {gs : List Gt} {c : Int} {vc : Bool}, hasL bits gs as vas → hasL bits gs bs vbs → as.length = bs.length → has bits gs c vc →
    Ext gs (carryL gs c as bs).2 (5 * as.length) as.length ∧ has bits (carryL gs c as bs).2 (carryL gs c as bs).1 (carryB vc vas vbs)
  | [], [], [], [], gs, c, vc, _, _, _, hc => ⟨Ext.refl _, hc⟩
  | a :: as, b :: bs, va :: vas, vb :: vbs, gs, c, vc, ha, hb, hl, hc => by
    obtain ⟨e1, x1, x2⟩ := full_has ha.1 hb.1 hc
    obtain ⟨e2, x3⟩ := carryL_has (ha.2.ext e1) (hb.2.ext e1) (by simpa using hl) x2
    exact ⟨(e1.trans e2).of (by simp; omega) (by simp; omega), x3⟩
def lessM (gs : List Gt) (as bs : List Int) : Int × List Gt :=
  let z := notsM gs bs
  let c := put z.2 2 1 0
  let r := carryL c.2 c.1 as z.1
  put r.2 5 r.1 0
theorem lessM_has {bits : Int → Bool} {gs : List Gt} {as bs : List Int} {vas vbs : List Bool} (ha : hasL bits gs as vas) (hb : hasL bits gs bs vbs) (hl : as.length = bs.length) :
    Ext gs (lessM gs as bs).2 (6 * as.length + 2) as.length ∧ has bits (lessM gs as bs).2 (lessM gs as bs).1 (!carryB true vas (vbs.map (!·))) := by
  obtain ⟨e1, x1⟩ := notsM_has hb
  obtain ⟨e2, x2⟩ := put_const bits (notsM gs bs).2 true
  obtain ⟨e3, x3⟩ := carryL_has ((ha.ext e1).ext e2) (x1.ext e2) (by have := x1.length; have := hb.length; simp at *; omega) x2
  obtain ⟨e4, x4⟩ := put_not x3
  exact ⟨(((e1.trans e2).trans e3).trans e4).of (by omega) (by omega), x4⟩

/-! ### equality -/
def eqL : List Gt → List Int → List Int → List Int × List Gt
  | gs, a :: as, b :: bs =>
    let y := put gs 3 a b
    let n := put y.2 5 y.1 0
    let r := eqL n.2 as bs
    (n.1 :: r.1, r.2)
  | gs, _, _ => ([], gs)
theorem eqL_has {bits : Int → Bool} : ∀ {as bs : List Int} {vas vbs : List Bool} {gs : List Gt}, hasL bits gs as vas → hasL bits gs bs vbs → as.length = bs.length →
    Ext gs (eqL gs as bs).2 (2 * as.length) 0 ∧ hasL bits (eqL gs as bs).2 (eqL gs as bs).1 (List.zipWith (fun a b => !(a.xor b)) vas vbs)
  | [], [], [], [], gs, _, _, _ => ⟨Ext.refl _, trivial⟩
  | a :: as, b :: bs, va :: vas, vb :: vbs, gs, ha, hb, hl => by
    obtain ⟨e1, x1⟩ := put_xor ha.1 hb.1
    obtain ⟨e2, x2⟩ := put_not x1
    obtain ⟨e3, x3⟩ := eqL_has ((ha.2.ext e1).ext e2) ((hb.2.ext e1).ext e2) (by simpa using hl)
    exact ⟨((e1.trans e2).trans e3).of (by simp; omega) (by simp), e3.has x2, x3⟩
def andL : List Gt → Int → List Int → Int × List Gt
  | gs, w, [] => (w, gs)
  | gs, w, x :: xs => let p := put gs 4 w x; andL p.2 p.1 xs
theorem andL_has {bits : Int → Bool} : ∀ {xs : List Int} {vxs : List Bool} {gs : List Gt} {w : Int} {v : Bool}, hasL bits gs xs vxs → has bits gs w v →
    Ext gs (andL gs w xs).2 xs.length xs.length ∧ has bits (andL gs w xs).2 (andL gs w xs).1 (vxs.foldl (· && ·) v)
  | [], [], gs, w, v, _, h => ⟨Ext.refl _, h⟩
  | x :: xs, vx :: vxs, gs, w, v, hx, h => by
    obtain ⟨e1, x1⟩ := put_and h hx.1
    obtain ⟨e2, x2⟩ := andL_has (hx.2.ext e1) x1
    exact ⟨(e1.trans e2).of (by simp; omega) (by simp; omega), x2⟩
def equalM (gs : List Gt) (as bs : List Int) : Int × List Gt :=
  let l := eqL gs as bs
  andL l.2 (l.1.getD 0 0) (l.1.drop 1)
theorem equalM_has {bits : Int → Bool} {gs : List Gt} {as bs : List Int} {vas vbs : List Bool} (ha : hasL bits gs as vas) (hb : hasL bits gs bs vbs) (hl : as.length = bs.length) (h0 : 0 < as.length) :
    Ext gs (equalM gs as bs).2 (3 * as.length - 1) (as.length - 1) ∧ has bits (equalM gs as bs).2 (equalM gs as bs).1 (((List.zipWith (fun a b => !(a.xor b)) vas vbs).drop 1).foldl (· && ·) ((List.zipWith (fun a b => !(a.xor b)) vas vbs).getD 0 false)) := by
  obtain ⟨e1, x1⟩ := eqL_has ha hb hl
  have hlen : (eqL gs as bs).1.length = as.length := by have := x1.length; have := ha.length; have := hb.length; simp at *; omega
  obtain ⟨e2, x2⟩ := andL_has (x1.drop 1) (x1.at 0 (by omega))
  exact ⟨(e1.trans e2).of (by simp; omega) (by simp; omega), x2⟩

/-! ### choice -/
def muxM : List Gt → Int → List Int → List Int → List Int × List Gt
  | gs, s, a :: as, b :: bs =>
    let x := put gs 3 a b
    let y := put x.2 4 s x.1
    let z := put y.2 3 y.1 b
    let r := muxM z.2 s as bs
    (z.1 :: r.1, r.2)
  | gs, _, _, _ => ([], gs)
theorem muxM_has {bits : Int → Bool} {s : Int} {vs : Bool} : ∀ {as bs : List Int} {vas vbs : List Bool} {gs : List Gt}, has bits gs s vs → hasL bits gs as vas → hasL bits gs bs vbs → as.length = bs.length →
    Ext gs (muxM gs s as bs).2 (3 * as.length) as.length ∧ hasL bits (muxM gs s as bs).2 (muxM gs s as bs).1 (List.zipWith (fun a b => (vs && (a.xor b)).xor b) vas vbs)
  | [], [], [], [], gs, _, _, _, _ => ⟨Ext.refl _, trivial⟩
  | a :: as, b :: bs, va :: vas, vb :: vbs, gs, hs, ha, hb, hl => by
    obtain ⟨e1, x1⟩ := put_xor ha.1 hb.1
    obtain ⟨e2, x2⟩ := put_and (e1.has hs) x1
    obtain ⟨e3, x3⟩ := put_xor x2 (e2.has (e1.has hb.1))
    have e := (e1.trans e2).trans e3
    obtain ⟨e4, x4⟩ := muxM_has (e.has hs) (ha.2.ext e) (hb.2.ext e) (by simpa using hl)
    exact ⟨(e.trans e4).of (by simp; omega) (by simp; omega), e4.has x3, x4⟩

/-! ### product -/
def mulStep (as bs : List Int) (i : Nat) (s : List Int × List Gt) : List Int × List Gt :=
  let p := scaleM s.2 (bs.getD i 0) (as.take (4 - i))
  let h := sumM p.2 (s.1.drop i) p.1 false
  (s.1.take i ++ h.1, h.2)
def mulM (gs : List Gt) (as bs : List Int) : List Int × List Gt :=
  mulStep as bs 3 (mulStep as bs 2 (mulStep as bs 1 (scaleM gs (bs.getD 0 0) as)))
def mulStepB (as bs : List Bool) (i : Nat) (s : List Bool) : List Bool :=
  s.take i ++ addB false (s.drop i) ((as.take (4 - i)).map (bs.getD i false && ·))
def mulB (as bs : List Bool) : List Bool := mulStepB as bs 3 (mulStepB as bs 2 (mulStepB as bs 1 (as.map (bs.getD 0 false && ·))))
theorem mulStep_has {bits : Int → Bool} {as bs : List Int} {vas vbs : List Bool} {i : Nat} {s : List Int × List Gt} {vs : List Bool} (ha : hasL bits s.2 as vas) (hb : hasL bits s.2 bs vbs) (hs : hasL bits s.2 s.1 vs)
    (la : as.length = 4) (lb : bs.length = 4) (ls : s.1.length = 4) (h1 : 1 ≤ i) (h3 : i ≤ 3) :
    Ext s.2 (mulStep as bs i s).2 (22 - 6 * i) (7 - 2 * i) ∧ hasL bits (mulStep as bs i s).2 (mulStep as bs i s).1 (mulStepB vas vbs i vs) ∧ (mulStep as bs i s).1.length = 4 := by
  obtain ⟨e1, x1⟩ := scaleM_has (hb.at i (by omega)) (ha.take (4 - i))
  have l1 : (scaleM s.2 (bs.getD i 0) (as.take (4 - i))).1.length = 4 - i := by have := x1.length; have := ha.length; simp at *; omega
  obtain ⟨e2, x2⟩ := sumM_has false ((hs.drop i).ext e1) x1 (by rw [List.length_drop, l1]; omega) (by rw [List.length_drop]; omega)
  have r : hasL bits (mulStep as bs i s).2 (mulStep as bs i s).1 (mulStepB vas vbs i vs) := ((((hs.take i).ext e1).ext e2).append x2)
  have e3 : Ext s.2 (mulStep as bs i s).2 (22 - 6 * i) (7 - 2 * i) := (e1.trans e2).of (by simp; omega) (by simp; omega)
  refine ⟨e3, r, ?_⟩
  have h2 : (addB false (vs.drop i) ((vas.take (4 - i)).map (vbs.getD i false && ·))).length = 4 - i := by
    have hvs := hs.length
    have hvas := ha.length
    have aux : ∀ (n : Nat) (c : Bool) (u v : List Bool), u.length = n → v.length = n → (addB c u v).length = n := by
      intro n
      induction n with
      | zero => intro c u v hu hv; obtain rfl := List.eq_nil_of_length_eq_zero hu; rfl
      | succ n ih =>
        intro c u v hu hv
        match u, v, hu, hv with
        | a :: u, b :: v, hu, hv =>
          unfold addB
          split
          · subst_vars; simp at hu; simp [← hu]
          · simp at hu hv; simp [ih _ u v hu hv]
    exact aux _ _ _ _ (by simp; omega) (by simp; omega)
  have := r.length
  unfold mulStepB at this
  have := hs.length
  simp at *
  omega
theorem mulM_has {bits : Int → Bool} {gs : List Gt} {as bs : List Int} {vas vbs : List Bool} (ha : hasL bits gs as vas) (hb : hasL bits gs bs vbs) (la : as.length = 4) (lb : bs.length = 4) :
    Ext gs (mulM gs as bs).2 34 13 ∧ hasL bits (mulM gs as bs).2 (mulM gs as bs).1 (mulB vas vbs) := by
  obtain ⟨e0, x0⟩ := scaleM_has (hb.at 0 (by omega)) ha
  have l0 : (scaleM gs (bs.getD 0 0) as).1.length = 4 := by have := x0.length; have := ha.length; simp at *; omega
  obtain ⟨e1, x1, l1⟩ := mulStep_has (i := 1) (ha.ext e0) (hb.ext e0) x0 la lb l0 (by omega) (by omega)
  have f1 := e0.trans e1
  obtain ⟨e2, x2, l2⟩ := mulStep_has (i := 2) (ha.ext f1) (hb.ext f1) x1 la lb l1 (by omega) (by omega)
  have f2 := f1.trans e2
  obtain ⟨e3, x3, l3⟩ := mulStep_has (i := 3) (ha.ext f2) (hb.ext f2) x2 la lb l2 (by omega) (by omega)
  exact ⟨(f2.trans e3).of (by omega) (by omega), x3⟩

/-! ### four bits of a number -/
def b4 (n : Nat) : List Bool := [n % 2 == 1, n / 2 % 2 == 1, n / 4 % 2 == 1, n / 8 % 2 == 1]
def fin16 (P : Nat → Nat → Bool) : Bool := (List.range 16).all fun n => (List.range 16).all fun m => P n m
theorem fin16_all {P : Nat → Nat → Bool} (h : fin16 P = true) (n m : Nat) (hn : n < 16) (hm : m < 16) : P n m = true := by
  unfold fin16 at h
  rw [List.all_eq_true] at h
  have := h n (by simpa using hn)
  rw [List.all_eq_true] at this
  exact this m (by simpa using hm)
theorem add_b4 (n m : Nat) (hn : n < 16) (hm : m < 16) : addB false (b4 n) (b4 m) = b4 ((n + m) % 16) :=
  of_decide_eq_true (fin16_all (P := fun n m => decide (addB false (b4 n) (b4 m) = b4 ((n + m) % 16))) (by decide) n m hn hm)
theorem sub_b4 (n m : Nat) (hn : n < 16) (hm : m < 16) : addB true (b4 n) ((b4 m).map (!·)) = b4 ((n + 16 - m) % 16) :=
  of_decide_eq_true (fin16_all (P := fun n m => decide (addB true (b4 n) ((b4 m).map (!·)) = b4 ((n + 16 - m) % 16))) (by decide) n m hn hm)
theorem mul_b4 (n m : Nat) (hn : n < 16) (hm : m < 16) : mulB (b4 n) (b4 m) = b4 (n * m % 16) :=
  of_decide_eq_true (fin16_all (P := fun n m => decide (mulB (b4 n) (b4 m) = b4 (n * m % 16))) (by decide) n m hn hm)
theorem less_b4 (n m : Nat) (hn : n < 16) (hm : m < 16) : (!carryB true (b4 n) ((b4 m).map (!·))) = decide (n < m) :=
  of_decide_eq_true (fin16_all (P := fun n m => decide ((!carryB true (b4 n) ((b4 m).map (!·))) = decide (n < m))) (by decide) n m hn hm)
theorem equal_b4 (n m : Nat) (hn : n < 16) (hm : m < 16) : ((List.zipWith (fun a b => !(a.xor b)) (b4 n) (b4 m)).drop 1).foldl (· && ·) ((List.zipWith (fun a b => !(a.xor b)) (b4 n) (b4 m)).getD 0 false) = decide (n = m) :=
  of_decide_eq_true (fin16_all (P := fun n m => decide (((List.zipWith (fun a b => !(a.xor b)) (b4 n) (b4 m)).drop 1).foldl (· && ·) ((List.zipWith (fun a b => !(a.xor b)) (b4 n) (b4 m)).getD 0 false) = decide (n = m))) (by decide) n m hn hm)
theorem and_b4 (n m : Nat) (hn : n < 16) (hm : m < 16) : List.zipWith (· && ·) (b4 n) (b4 m) = b4 (n &&& m) :=
  of_decide_eq_true (fin16_all (P := fun n m => decide (List.zipWith (· && ·) (b4 n) (b4 m) = b4 (n &&& m))) (by decide) n m hn hm)
theorem xor_b4 (n m : Nat) (hn : n < 16) (hm : m < 16) : List.zipWith Bool.xor (b4 n) (b4 m) = b4 (n ^^^ m) :=
  of_decide_eq_true (fin16_all (P := fun n m => decide (List.zipWith Bool.xor (b4 n) (b4 m) = b4 (n ^^^ m))) (by decide) n m hn hm)
theorem mux_b4 (s : Bool) (n m : Nat) (hn : n < 16) (hm : m < 16) : List.zipWith (fun a b => (s && (a.xor b)).xor b) (b4 n) (b4 m) = b4 (if s then n else m) := by
  cases s
  · exact of_decide_eq_true (fin16_all (P := fun n m => decide (List.zipWith (fun a b => (false && (a.xor b)).xor b) (b4 n) (b4 m) = b4 (if false then n else m))) (by decide) n m hn hm)
  · exact of_decide_eq_true (fin16_all (P := fun n m => decide (List.zipWith (fun a b => (true && (a.xor b)).xor b) (b4 n) (b4 m) = b4 (if true then n else m))) (by decide) n m hn hm)
end GC

set_option linter.unusedSimpArgs false
set_option linter.unusedVariables false
namespace GC

/-- A statement. -/
structure St where
  op : Int
  dst : Int
  a : Int
  b : Int
  c : Int
  n : Int
theorem St.ext' {s t : St} (h1 : s.op = t.op) (h2 : s.dst = t.dst) (h3 : s.a = t.a) (h4 : s.b = t.b) (h5 : s.c = t.c) (h6 : s.n = t.n) : s = t := by cases s; cases t; simp_all

def isReg (x : Int) : Prop := 0 ≤ x ∧ x ≤ 7
instance (x : Int) : Decidable (isReg x) := by unfold isReg; infer_instance
/-- The statement is valid. -/
def okSt (s : St) : Prop :=
  if s.op = 1 then isReg s.dst ∧ s.a = 0 ∧ s.b = 0 ∧ s.c = 0 ∧ 0 ≤ s.n ∧ s.n ≤ 15
  else if s.op = 2 then isReg s.dst ∧ 0 ≤ s.a ∧ s.a ≤ 4 ∧ s.b = 0 ∧ s.c = 0 ∧ 0 ≤ s.n ∧ s.n ≤ 3
  else if 3 ≤ s.op ∧ s.op ≤ 9 then isReg s.dst ∧ isReg s.a ∧ isReg s.b ∧ s.c = 0 ∧ s.n = 0
  else if s.op = 10 then isReg s.dst ∧ isReg s.a ∧ isReg s.b ∧ isReg s.c ∧ s.n = 0
  else if s.op = 11 then s.dst = 0 ∧ isReg s.a ∧ s.b = 0 ∧ s.c = 0 ∧ s.n = 0
  else if s.op = 12 then s.dst = 0 ∧ s.a = 0 ∧ s.b = 0 ∧ s.c = 0 ∧ 1 ≤ s.n ∧ s.n ≤ 8
  else s.op = 13 ∧ s.dst = 0 ∧ s.a = 0 ∧ s.b = 0 ∧ s.c = 0 ∧ s.n = 0
instance (s : St) : Decidable (okSt s) := by unfold okSt; infer_instance
/-- Valid, and no part of a loop. -/
def plain (s : St) : Prop := okSt s ∧ s.op ≤ 11

/-! ### emitting a statement -/
def constL : List Gt → List Bool → List Int × List Gt
  | gs, [] => ([], gs)
  | gs, v :: vs => let p := put gs 2 (bo v) 0; let r := constL p.2 vs; (p.1 :: r.1, r.2)
theorem constL_has (bits : Int → Bool) : ∀ (vs : List Bool) (gs : List Gt), Ext gs (constL gs vs).2 vs.length 0 ∧ hasL bits (constL gs vs).2 (constL gs vs).1 vs
  | [], gs => ⟨Ext.refl _, trivial⟩
  | v :: vs, gs => by
    obtain ⟨e1, x1⟩ := put_const bits gs v
    obtain ⟨e2, x2⟩ := constL_has bits vs (put gs 2 (bo v) 0).2
    exact ⟨(e1.trans e2).of (by simp; omega) (by simp), e2.has x1, x2⟩
def inputL : List Gt → Int → Nat → List Int × List Gt
  | gs, _, 0 => ([], gs)
  | gs, i, n + 1 => let p := put gs 1 i 0; let r := inputL p.2 (i + 1) n; (p.1 :: r.1, r.2)
theorem inputL_has (bits : Int → Bool) : ∀ (n : Nat) (gs : List Gt) (i : Int), 0 ≤ i → i + n ≤ 80 → Ext gs (inputL gs i n).2 n 0 ∧ hasL bits (inputL gs i n).2 (inputL gs i n).1 ((List.range n).map fun (j : Nat) => bits (i + (j : Int)))
  | 0, gs, i, _, _ => ⟨Ext.refl _, trivial⟩
  | n + 1, gs, i, h0, h1 => by
    obtain ⟨e1, x1⟩ := put_input bits gs i h0 (by omega)
    obtain ⟨e2, x2⟩ := inputL_has bits n (put gs 1 i 0).2 (i + 1) (by omega) (by omega)
    refine ⟨(e1.trans e2).of (by omega) (by simp), ?_⟩
    rw [List.range_succ_eq_map]
    refine ⟨by have := e2.has x1; simp only [Int.natCast_zero, Int.add_zero]; exact this, ?_⟩
    have : (List.map (fun (j : Nat) => bits (i + (j : Int))) (List.map Nat.succ (List.range n))) = (List.range n).map fun (j : Nat) => bits (i + 1 + (j : Int)) := by
      rw [List.map_map]; apply List.map_congr_left; intro j _; simp only [Function.comp]; congr 1; omega
    rw [this]; exact x2

def wordOf (gs : List Gt) (regs : List (List Int)) (s : St) (zero : Int) : List Int × List Gt :=
  let a := regs.getD s.a.toNat []
  let b := regs.getD s.b.toNat []
  if s.op = 1 then constL gs (b4 s.n.toNat)
  else if s.op = 2 then inputL gs ((s.a * 4 + s.n) * 4) 4
  else if s.op = 3 then sumM gs a b false
  else if s.op = 4 then let z := notsM gs b; sumM z.2 a z.1 true
  else if s.op = 5 then mulM gs a b
  else if s.op = 6 then bitsM 4 gs a b
  else if s.op = 7 then bitsM 3 gs a b
  else if s.op = 8 then let r := lessM gs a b; ([r.1, zero, zero, zero], r.2)
  else if s.op = 9 then let r := equalM gs a b; ([r.1, zero, zero, zero], r.2)
  else muxM gs (a.getD 0 0) b (regs.getD s.c.toNat [])

/-- An upper bound of the and gates. -/
def andsOf (s : St) : Nat := if s.op = 3 ∨ s.op = 4 ∨ s.op = 9 then 3 else if s.op = 5 then 13 else if s.op = 6 ∨ s.op = 8 ∨ s.op = 10 then 4 else 0

/-! ### the meaning of a statement -/
def operate (op : Int) (a b : Nat) : Nat :=
  if op = 3 then (a + b) % 16 else if op = 4 then (a + 16 - b) % 16 else if op = 5 then a * b % 16 else if op = 6 then a &&& b else if op = 7 then a ^^^ b
  else if op = 8 then bo (decide (a < b)) else bo (decide (a = b))
def result (regs : List Nat) (inp : Nat → Nat → Nat) (s : St) : Nat :=
  if s.op = 1 then s.n.toNat
  else if s.op = 2 then inp s.a.toNat s.n.toNat
  else if s.op = 10 then (if regs.getD s.a.toNat 0 % 2 = 1 then regs.getD s.b.toNat 0 else regs.getD s.c.toNat 0)
  else operate s.op (regs.getD s.a.toNat 0) (regs.getD s.b.toNat 0)

/-- The words of the registers stand for their values. -/
structure Rep (bits : Int → Bool) (gs : List Gt) (regs : List (List Int)) (vals : List Nat) : Prop where
  l1 : regs.length = 8
  l2 : vals.length = 8
  lt : ∀ i, vals.getD i 0 < 16
  wd : ∀ i, i < 8 → hasL bits gs (regs.getD i []) (b4 (vals.getD i 0))
theorem Rep.ext {bits : Int → Bool} {gs gs' : List Gt} {p q : Nat} {regs : List (List Int)} {vals : List Nat} (h : Rep bits gs regs vals) (e : Ext gs gs' p q) : Rep bits gs' regs vals :=
  ⟨h.l1, h.l2, h.lt, fun i hi => (h.wd i hi).ext e⟩
theorem Rep.len {bits : Int → Bool} {gs : List Gt} {regs : List (List Int)} {vals : List Nat} (h : Rep bits gs regs vals) (i : Nat) (hi : i < 8) : (regs.getD i []).length = 4 := by
  have := (h.wd i hi).length
  simpa [b4] using this
theorem Rep.set {bits : Int → Bool} {gs : List Gt} {regs : List (List Int)} {vals : List Nat} (h : Rep bits gs regs vals) {w : List Int} {v : Nat} (hv : v < 16) (hw : hasL bits gs w (b4 v)) (i : Nat) : Rep bits gs (regs.set i w) (vals.set i v) := by
  refine ⟨by simp [h.l1], by simp [h.l2], fun j => ?_, fun j hj => ?_⟩
  · by_cases e : i = j
    · subst e
      by_cases hi : i < 8
      · rw [List.getD_eq_getElem?_getD, List.getElem?_set_self (by rw [h.l2]; exact hi)]; exact hv
      · rw [List.getD_eq_getElem?_getD, List.getElem?_eq_none (by simp [h.l2]; omega)]; simp
    · rw [List.getD_eq_getElem?_getD, List.getElem?_set_ne e, ← List.getD_eq_getElem?_getD]; exact h.lt j
  · by_cases e : i = j
    · subst e
      rw [List.getD_eq_getElem?_getD, List.getElem?_set_self (by rw [h.l1]; exact hj), List.getD_eq_getElem?_getD, List.getElem?_set_self (by rw [h.l2]; exact hj)]; exact hw
    · have g1 : (regs.set i w).getD j [] = regs.getD j [] := by rw [List.getD_eq_getElem?_getD, List.getElem?_set_ne e, ← List.getD_eq_getElem?_getD]
      have g2 : (vals.set i v).getD j 0 = vals.getD j 0 := by rw [List.getD_eq_getElem?_getD, List.getElem?_set_ne e, ← List.getD_eq_getElem?_getD]
      rw [g1, g2]; exact h.wd j hj

theorem bo_b4 (v : Bool) : b4 (bo v) = [v, false, false, false] := by cases v <;> decide
theorem operate_lt (op : Int) (a b : Nat) (ha : a < 16) (hb : b < 16) : operate op a b < 16 := by
  have h1 : a &&& b < 2 ^ 4 := Nat.and_lt_two_pow _ (by omega)
  have h2 : a ^^^ b < 2 ^ 4 := Nat.xor_lt_two_pow (by omega) (by omega)
  have h3 : ∀ x : Bool, bo x < 16 := by intro x; cases x <;> decide
  unfold operate
  repeat' split
  all_goals first | exact h3 _ | omega

/-- What emitting a statement gives. -/
theorem wordOf_has {bits : Int → Bool} {gs : List Gt} {regs : List (List Int)} {vals : List Nat} {inp : Nat → Nat → Nat} {zero : Int} {s : St} (h : Rep bits gs regs vals) (hz : has bits gs zero false)
    (hin : ∀ p n, p < 5 → n < 4 → inp p n < 16 ∧ ∀ j : Nat, j < 4 → bits (((p * 4 + n) * 4 + j : Nat) : Int) = (b4 (inp p n)).getD j false) (hs : okSt s) (ho : s.op < 11) :
    ∃ p q, Ext gs (wordOf gs regs s zero).2 p q ∧ p ≤ 34 ∧ q ≤ andsOf s ∧ hasL bits (wordOf gs regs s zero).2 (wordOf gs regs s zero).1 (b4 (result vals inp s)) ∧ result vals inp s < 16 := by
  obtain ⟨op, dst, a, b, c, n⟩ := s
  unfold okSt at hs
  simp only at hs ho
  by_cases h1 : op = 1
  · rw [if_pos h1] at hs
    obtain ⟨_, _, _, _, n0, n1⟩ := hs
    subst h1
    obtain ⟨e, x⟩ := constL_has bits (b4 n.toNat) gs
    simp only [wordOf, result, if_true]
    exact ⟨_, _, e, by simp [b4], by simp, x, by omega⟩
  rw [if_neg h1] at hs
  by_cases h2 : op = 2
  · rw [if_pos h2] at hs
    obtain ⟨_, a0, a1, _, _, n0, n1⟩ := hs
    subst h2
    obtain ⟨hi1, hi2⟩ := hin a.toNat n.toNat (by omega) (by omega)
    obtain ⟨e, x⟩ := inputL_has bits 4 gs ((a * 4 + n) * 4) (by omega) (by omega)
    simp only [wordOf, result, if_true, if_neg h1]
    refine ⟨_, _, e, by omega, by simp, ?_, hi1⟩
    have g : ∀ j : Nat, j < 4 → bits ((a * 4 + n) * 4 + (j : Int)) = (b4 (inp a.toNat n.toNat)).getD j false := by
      intro j hj
      rw [← hi2 j hj]; congr 1; omega
    have : ((List.range 4).map fun (j : Nat) => bits ((a * 4 + n) * 4 + (j : Int))) = b4 (inp a.toNat n.toNat) := by
      have e : (List.range 4).map (fun (j : Nat) => bits ((a * 4 + n) * 4 + (j : Int))) = (List.range 4).map fun (j : Nat) => (b4 (inp a.toNat n.toNat)).getD j false := List.map_congr_left (fun j hj => g j (by simpa using hj))
      rw [e]
      simp [b4, List.range, List.range.loop]
    rw [← this]; exact x
  rw [if_neg h2] at hs
  by_cases h10 : op = 10
  · rw [if_neg (by omega), if_pos h10] at hs
    obtain ⟨_, ⟨a0, a1⟩, ⟨b0, b1⟩, ⟨c0, c1⟩, _⟩ := hs
    subst h10
    have ha := h.wd a.toNat (by omega)
    have hb := h.wd b.toNat (by omega)
    have hc := h.wd c.toNat (by omega)
    have la := h.len a.toNat (by omega)
    have lb := h.len b.toNat (by omega)
    have lc := h.len c.toNat (by omega)
    obtain ⟨e, x⟩ := muxM_has (ha.at 0 (by omega)) hb hc (by omega)
    have v : (b4 (vals.getD a.toNat 0)).getD 0 false = decide (vals.getD a.toNat 0 % 2 = 1) := by
      show (vals.getD a.toNat 0 % 2 == 1) = _
      rw [Bool.eq_iff_iff]; simp
    rw [mux_b4 _ _ _ (h.lt _) (h.lt _), v] at x
    have tb := h.lt b.toNat
    have tc := h.lt c.toNat
    refine ⟨_, _, e, by rw [lb]; decide, by rw [lb]; simp [andsOf], ?_, ?_⟩
    · have : result vals inp ⟨10, dst, a, b, c, n⟩ = if decide (vals.getD a.toNat 0 % 2 = 1) = true then vals.getD b.toNat 0 else vals.getD c.toNat 0 := by simp [result]
      rw [this]; exact x
    · simp only [result, Int.reduceEq, if_false, if_true]
      split <;> assumption
  by_cases h39 : 3 ≤ op ∧ op ≤ 9
  case neg =>
    rw [if_neg h39, if_neg h10, if_neg (by omega), if_neg (by omega)] at hs
    omega
  rw [if_pos h39] at hs
  obtain ⟨_, ⟨a0, a1⟩, ⟨b0, b1⟩, _⟩ := hs
  have ha := h.wd a.toNat (by omega)
  have hb := h.wd b.toNat (by omega)
  have la := h.len a.toNat (by omega)
  have lb := h.len b.toNat (by omega)
  have ta := h.lt a.toNat
  have tb := h.lt b.toNat
  have hr : result vals inp ⟨op, dst, a, b, c, n⟩ = operate op (vals.getD a.toNat 0) (vals.getD b.toNat 0) := by simp [result, h1, h2, h10]
  rw [hr]
  have hlt := operate_lt op _ _ ta tb
  generalize vals.getD a.toNat 0 = x at *
  generalize vals.getD b.toNat 0 = y at *
  have hop : op = 3 ∨ op = 4 ∨ op = 5 ∨ op = 6 ∨ op = 7 ∨ op = 8 ∨ op = 9 := by omega
  rcases hop with rfl | rfl | rfl | rfl | rfl | rfl | rfl
  · obtain ⟨e, v⟩ := sumM_has false ha hb (by omega) (by omega)
    rw [add_b4 _ _ ta tb] at v
    exact ⟨_, _, e, by rw [la]; decide, by rw [la]; simp [andsOf], v, hlt⟩
  · obtain ⟨e1, v1⟩ := notsM_has hb
    have l1 : (notsM gs (regs.getD b.toNat [])).1.length = 4 := by have := v1.length; rw [this]; simp [b4]
    obtain ⟨e, v⟩ := sumM_has true (ha.ext e1) v1 (by omega) (by omega)
    rw [sub_b4 _ _ ta tb] at v
    exact ⟨_, _, e1.trans e, by rw [la, lb]; decide, by rw [la]; simp [andsOf], v, hlt⟩
  · obtain ⟨e, v⟩ := mulM_has ha hb (by omega) (by omega)
    rw [mul_b4 _ _ ta tb] at v
    exact ⟨_, _, e, by decide, by simp [andsOf], v, hlt⟩
  · obtain ⟨e, v⟩ := bitsM_and ha hb (by omega)
    rw [and_b4 _ _ ta tb] at v
    exact ⟨_, _, e, by rw [la]; decide, by rw [la]; simp [andsOf], v, hlt⟩
  · obtain ⟨e, v⟩ := bitsM_xor ha hb (by omega)
    rw [xor_b4 _ _ ta tb] at v
    exact ⟨_, _, e, by rw [la]; decide, by simp [andsOf], v, hlt⟩
  · obtain ⟨e, v⟩ := lessM_has ha hb (by omega)
    rw [less_b4 _ _ ta tb] at v
    refine ⟨_, _, e, by rw [la]; decide, by rw [la]; simp [andsOf], ?_, hlt⟩
    have z := e.has hz
    show hasL bits _ [_, zero, zero, zero] (b4 (bo (decide (x < y))))
    rw [bo_b4]
    exact ⟨v, z, z, z, trivial⟩
  · obtain ⟨e, v⟩ := equalM_has ha hb (by omega) (by omega)
    rw [equal_b4 _ _ ta tb] at v
    refine ⟨_, _, e, by rw [la]; decide, by rw [la]; simp [andsOf], ?_, hlt⟩
    have z := e.has hz
    show hasL bits _ [_, zero, zero, zero] (b4 (bo (decide (x = y))))
    rw [bo_b4]
    exact ⟨v, z, z, z, trivial⟩
end GC

set_option linter.unusedSimpArgs false
set_option linter.unusedVariables false
namespace GC

/-- What compiling has come to: the gates, the registers' words, the output wires. -/
structure CS where
  gs : List Gt
  regs : List (List Int)
  outs : List Int
def startC : CS := ⟨(constL [] (b4 0)).2, List.replicate 8 (constL [] (b4 0)).1, []⟩
def stepC (c : CS) (s : St) : CS :=
  if s.op = 11 then ⟨c.gs, c.regs, c.outs ++ c.regs.getD s.a.toNat []⟩
  else ⟨(wordOf c.gs c.regs s 0).2, c.regs.set s.dst.toNat (wordOf c.gs c.regs s 0).1, c.outs⟩
def compileL (l : List St) : CS := l.foldl stepC startC
/-- What running has come to: the registers, the outputs. -/
structure RS where
  regs : List Nat
  outs : List Nat
def startR : RS := ⟨List.replicate 8 0, []⟩
def stepR (inp : Nat → Nat → Nat) (r : RS) (s : St) : RS :=
  if s.op = 11 then ⟨r.regs, r.outs ++ [r.regs.getD s.a.toNat 0]⟩
  else ⟨r.regs.set s.dst.toNat (result r.regs inp s), r.outs⟩
def runL (inp : Nat → Nat → Nat) (l : List St) : RS := l.foldl (stepR inp) startR

def Bits (inp : Nat → Nat → Nat) (bits : Int → Bool) : Prop := ∀ p n, p < 5 → n < 4 → inp p n < 16 ∧ ∀ j : Nat, j < 4 → bits (((p * 4 + n) * 4 + j : Nat) : Int) = (b4 (inp p n)).getD j false

structure CR (bits : Int → Bool) (l : List St) (c : CS) (r : RS) : Prop where
  rep : Rep bits c.gs c.regs r.regs
  zero : has bits c.gs 0 false
  outs : hasL bits c.gs c.outs (r.outs.flatMap b4)
  small : ∀ x ∈ r.outs, x < 16
  ok : okGs c.gs
  len : c.gs.length ≤ 4 + 34 * l.length
  ands : cnt 4 c.gs ≤ (l.map andsOf).sum
theorem startC_gs : startC.gs = [⟨2, 0, 0⟩, ⟨2, 0, 0⟩, ⟨2, 0, 0⟩, ⟨2, 0, 0⟩] := by rfl
theorem CR.start (bits : Int → Bool) : CR bits [] startC startR := by
  obtain ⟨e, x⟩ := constL_has bits (b4 0) []
  refine ⟨⟨rfl, rfl, fun i => ?_, fun i hi => ?_⟩, ?_, trivial, by simp [startR], e.ok okGs_nil, by rw [startC_gs]; decide, by rw [startC_gs]; decide⟩
  · show (List.replicate 8 0).getD i 0 < 16
    rw [List.getD_eq_getElem?_getD, List.getElem?_replicate]; split <;> simp
  · have g1 : (List.replicate 8 (constL [] (b4 0)).1).getD i [] = (constL [] (b4 0)).1 := by rw [List.getD_eq_getElem?_getD, List.getElem?_replicate, if_pos hi]; rfl
    have g2 : (List.replicate 8 0).getD i 0 = 0 := by rw [List.getD_eq_getElem?_getD, List.getElem?_replicate, if_pos hi]; rfl
    show hasL bits (constL [] (b4 0)).2 ((List.replicate 8 (constL [] (b4 0)).1).getD i []) (b4 ((List.replicate 8 0).getD i 0))
    rw [g1, g2]; exact x
  · exact x.1
theorem CR.step {bits : Int → Bool} {inp : Nat → Nat → Nat} (hin : Bits inp bits) {l : List St} {c : CS} {r : RS} (h : CR bits l c r) {s : St} (hs : plain s) : CR bits (l ++ [s]) (stepC c s) (stepR inp r s) := by
  by_cases ho : s.op = 11
  · have ha : isReg s.a := by
      have := hs.1
      unfold okSt at this
      rw [if_neg (by omega), if_neg (by omega), if_neg (by omega), if_neg (by omega), if_pos ho] at this
      exact this.2.1
    have hw := h.rep.wd s.a.toNat (by unfold isReg at ha; omega)
    simp only [stepC, stepR, if_pos ho]
    refine ⟨h.rep, h.zero, ?_, ?_, h.ok, by have := h.len; simp; omega, by have := h.ands; simp; omega⟩
    · show hasL bits c.gs _ _
      rw [List.flatMap_append]
      have : [r.regs.getD s.a.toNat 0].flatMap b4 = b4 (r.regs.getD s.a.toNat 0) := by simp
      rw [this]
      exact h.outs.append hw
    · intro x hx
      rcases List.mem_append.1 hx with hx | hx
      · exact h.small x hx
      · rw [List.mem_singleton.1 hx]; exact h.rep.lt _
  · obtain ⟨p, q, e, hp, hq, hw, hlt⟩ := wordOf_has h.rep h.zero hin hs.1 (by have := hs.2; omega)
    simp only [stepC, stepR, if_neg ho]
    exact ⟨(h.rep.ext e).set hlt hw _, e.has h.zero, h.outs.ext e, h.small, e.ok h.ok, by have := h.len; have := e.len; simp; omega, by have := h.ands; have := e.cnt; simp; omega⟩
theorem CR.all {bits : Int → Bool} {inp : Nat → Nat → Nat} (hin : Bits inp bits) (l : List St) (hl : ∀ s ∈ l, plain s) : CR bits l (compileL l) (runL inp l) := by
  induction l using snoc_ind with
  | h0 => exact CR.start bits
  | h1 l s ih =>
    have := (ih (fun x hx => hl x (by simp [hx]))).step hin (hl s (by simp))
    simpa [compileL, runL] using this

theorem hasL_outs {bits : Int → Bool} {gs : List Gt} : ∀ {ws : List Int} {vs : List Bool}, hasL bits gs ws vs → (∀ w ∈ ws, 0 ≤ w ∧ w < gs.length) ∧ ws.map (fun w => (evs bits gs).getD w.toNat false) = vs
  | [], [], _ => ⟨by simp, rfl⟩
  | w :: ws, v :: vs, h => by
    obtain ⟨h1, h2⟩ := hasL_outs h.2
    refine ⟨fun x hx => ?_, ?_⟩
    · rcases List.mem_cons.1 hx with rfl | hx
      · exact ⟨h.1.1, h.1.2.1⟩
      · exact h1 x hx
    · simp only [List.map_cons, h.1.2.2, h2]
end GC

set_option linter.unusedSimpArgs false
set_option linter.unusedVariables false
namespace GC

def dG : Gt := ⟨0, 0, 0⟩
def gAt (gs : List Gt) (w : Int) : Gt := gs.getD w.toNat dG
theorem gval_ext (bits : Int → Bool) (ws l : List Bool) (g : Gt) {n : Nat} (hn : n ≤ ws.length) (h : okG n g) : gval bits (ws ++ l) g = gval bits ws g := by
  unfold okG at h
  unfold gval
  split at h
  · simp [*]
  split at h
  · simp [*]
  split at h
  · have e1 : (ws ++ l).getD g.a.toNat false = ws.getD g.a.toNat false := by rw [List.getD_eq_getElem?_getD, List.getElem?_append_left (by omega), List.getD_eq_getElem?_getD]
    have e2 : (ws ++ l).getD g.b.toNat false = ws.getD g.b.toNat false := by rw [List.getD_eq_getElem?_getD, List.getElem?_append_left (by omega), List.getD_eq_getElem?_getD]
    rw [e1, e2]
  split at h
  · have e1 : (ws ++ l).getD g.a.toNat false = ws.getD g.a.toNat false := by rw [List.getD_eq_getElem?_getD, List.getElem?_append_left (by omega), List.getD_eq_getElem?_getD]
    rw [if_neg (by omega), if_neg (by omega), if_neg (by omega), if_neg (by omega), if_pos (by assumption), if_neg (by omega), if_neg (by omega), if_neg (by omega), if_neg (by omega), if_pos (by assumption), e1]
  · exact absurd h id
/-- The value of wire i is that of gate i over all wires. -/
theorem ev_at (bits : Int → Bool) (gs : List Gt) (h : okGs gs) (i : Nat) (hi : i < gs.length) : (evs bits gs).getD i false = gval bits (evs bits gs) (gs.getD i dG) := by
  induction gs using snoc_ind with
  | h0 => simp at hi
  | h1 gs g ih =>
    rw [evs_snoc]
    have ok := okGs_left h
    rcases Nat.lt_or_ge i gs.length with hl | hl
    · have e1 : (evs bits gs ++ [gval bits (evs bits gs) g]).getD i false = (evs bits gs).getD i false := by rw [List.getD_eq_getElem?_getD, List.getElem?_append_left (by rw [evs_length]; omega), List.getD_eq_getElem?_getD]
      have e2 : (gs ++ [g]).getD i dG = gs.getD i dG := by rw [List.getD_eq_getElem?_getD, List.getElem?_append_left hl, List.getD_eq_getElem?_getD]
      rw [e1, e2, ih ok hl]
      refine (gval_ext bits _ _ _ (n := i) (by rw [evs_length]; omega) ?_).symm
      exact ok i _ (by rw [List.getD_eq_getElem?_getD, List.getElem?_eq_getElem hl]; rfl)
    · have : i = gs.length := by simp at hi; omega
      subst this
      have e1 : (evs bits gs ++ [gval bits (evs bits gs) g]).getD gs.length false = gval bits (evs bits gs) g := by rw [List.getD_eq_getElem?_getD, List.getElem?_append_right (by rw [evs_length]; omega)]; simp [evs_length]
      have e2 : (gs ++ [g]).getD gs.length dG = g := by rw [List.getD_eq_getElem?_getD, List.getElem?_append_right (by omega)]; simp
      rw [e1, e2]
      refine (gval_ext bits _ _ _ (n := gs.length) (by rw [evs_length]; omega) ?_).symm
      exact h gs.length g (by rw [List.getElem?_append_right (by omega)]; simp)
theorem has_at {bits : Int → Bool} {gs : List Gt} (h : okGs gs) {w : Int} {v : Bool} (hw : has bits gs w v) : v = gval bits (evs bits gs) (gAt gs w) := by
  obtain ⟨h0, h1, h2⟩ := hw
  rw [← h2]
  exact ev_at bits gs h w.toNat (by omega)
theorem ok_at {gs : List Gt} (h : okGs gs) {w : Int} (h0 : 0 ≤ w) (h1 : w < gs.length) : okG w.toNat (gAt gs w) := by
  refine h w.toNat _ ?_
  unfold gAt
  rw [List.getD_eq_getElem?_getD, List.getElem?_eq_getElem (show w.toNat < gs.length by omega)]; rfl

/-- A step of simplification: the gates grow by at most one, by an and gate only where q is one. -/
structure Grow (gs gs' : List Gt) (q : Nat) : Prop where
  pre : ∃ hs, gs' = gs ++ hs ∧ hs.length ≤ 1 ∧ cnt 4 hs ≤ q
  ok : okGs gs → okGs gs'
theorem Grow.refl (gs : List Gt) : Grow gs gs 0 := ⟨⟨[], by simp, by simp, by simp [cnt]⟩, id⟩
theorem Grow.le {gs gs' : List Gt} {p q : Nat} (h : Grow gs gs' p) (hp : p ≤ q) : Grow gs gs' q := by
  obtain ⟨⟨u, h1, h2, h3⟩, h4⟩ := h
  exact ⟨⟨u, h1, h2, Nat.le_trans h3 hp⟩, h4⟩
theorem Grow.has {bits : Int → Bool} {gs gs' : List Gt} {q : Nat} (h : Grow gs gs' q) {w : Int} {v : Bool} (hw : has bits gs w v) : has bits gs' w v := by
  obtain ⟨⟨u, rfl, h1, h2⟩, h3⟩ := h
  exact hw.mono
theorem Grow.len {gs gs' : List Gt} {q : Nat} (h : Grow gs gs' q) : gs'.length ≤ gs.length + 1 := by
  obtain ⟨⟨u, rfl, h1, h2⟩, h3⟩ := h
  simp; omega
theorem Grow.mono {gs gs' : List Gt} {q : Nat} (h : Grow gs gs' q) : gs.length ≤ gs'.length := by
  obtain ⟨⟨u, rfl, h1, h2⟩, h3⟩ := h
  simp
theorem Grow.cnt {gs gs' : List Gt} {q : Nat} (h : Grow gs gs' q) : cnt 4 gs' ≤ cnt 4 gs + q := by
  obtain ⟨⟨u, rfl, h1, h2⟩, h3⟩ := h
  rw [cnt_append]; omega

/-- The wire of an equal gate, which is appended if there is none. -/
def gateM (gs : List Gt) (g : Gt) : Int × List Gt := if gs.idxOf g < gs.length then ((gs.idxOf g : Int), gs) else ((gs.length : Int), gs ++ [g])
theorem gateM_has {bits : Int → Bool} {gs : List Gt} {g : Gt} (hok : okGs gs) (hg : okG gs.length g) :
    Grow gs (gateM gs g).2 (if g.k = 4 then 1 else 0) ∧ has bits (gateM gs g).2 (gateM gs g).1 (gval bits (evs bits gs) g) := by
  unfold gateM
  split
  · rename_i hi
    refine ⟨(Grow.refl gs).le (by omega), by simp, by simpa using hi, ?_⟩
    have := ev_at bits gs hok (gs.idxOf g) hi
    simp only [Int.toNat_natCast]
    rw [this, List.getD_eq_getElem?_getD, List.getElem?_eq_getElem hi, Option.getD_some]
    congr 1
    have := List.findIdx_getElem (xs := gs) (p := (· == g)) (w := hi)
    exact beq_iff_eq.1 this
  · exact ⟨⟨⟨[g], rfl, by simp, by simp [cnt, List.filter_cons]; split <;> simp_all⟩, fun h => okGs_snoc h hg⟩, has_last _ _ _⟩

def cst (gs : List Gt) (w : Int) : Int := if (gAt gs w).k = 2 then (gAt gs w).a else -1
theorem cst_has {bits : Int → Bool} {gs : List Gt} (hok : okGs gs) {w : Int} {v : Bool} (hw : has bits gs w v) (c : Int) (hc : cst gs w = c) (h0 : 0 ≤ c) : v = (c == 1) ∧ (c = 0 ∨ c = 1) := by
  have h1 := has_at hok hw
  have h2 := ok_at hok hw.1 hw.2.1
  unfold cst at hc
  split at hc
  · rename_i hk
    unfold okG at h2
    rw [hk] at h2
    simp at h2
    unfold gval at h1
    rw [hk] at h1
    simp at h1
    subst hc
    exact ⟨h1, by omega⟩
  · omega
def negM (gs : List Gt) (w : Int) : Int × List Gt :=
  if (gAt gs w).k = 2 then gateM gs ⟨2, 1 - (gAt gs w).a, 0⟩ else if (gAt gs w).k = 5 then ((gAt gs w).a, gs) else gateM gs ⟨5, w, 0⟩
theorem negM_has {bits : Int → Bool} {gs : List Gt} (hok : okGs gs) {w : Int} {v : Bool} (hw : has bits gs w v) : Grow gs (negM gs w).2 0 ∧ has bits (negM gs w).2 (negM gs w).1 (!v) := by
  have h1 := has_at hok hw
  have h2 := ok_at hok hw.1 hw.2.1
  unfold negM
  split
  · rename_i hk
    unfold okG at h2
    rw [hk] at h2
    simp at h2
    obtain ⟨e, x⟩ := gateM_has (bits := bits) (g := ⟨2, 1 - (gAt gs w).a, 0⟩) hok (by simp [okG] <;> omega)
    refine ⟨e, ?_⟩
    unfold gval at h1
    rw [hk] at h1
    simp at h1
    have : (!v) = gval bits (evs bits gs) ⟨2, 1 - (gAt gs w).a, 0⟩ := by
      rw [h1]; simp [gval]
      have : (gAt gs w).a = 0 ∨ (gAt gs w).a = 1 := by omega
      rcases this with h | h <;> rw [h] <;> rfl
    rw [this]; exact x
  · split
    · rename_i hk
      unfold okG at h2
      rw [hk] at h2
      simp at h2
      refine ⟨Grow.refl _, h2.1, ?_, ?_⟩
      · have h3 := hw.2.1; have h4 := hw.1; show (gAt gs w).a < gs.length; omega
      · unfold gval at h1
        rw [hk] at h1
        simp at h1
        rw [h1, ← List.getD_eq_getElem?_getD]; simp
    · obtain ⟨e, x⟩ := gateM_has (bits := bits) (g := ⟨5, w, 0⟩) hok (by simp [okG]; exact ⟨hw.1, hw.2.1⟩)
      refine ⟨e, ?_⟩
      have : (!v) = gval bits (evs bits gs) ⟨5, w, 0⟩ := by simp [gval]; rw [← List.getD_eq_getElem?_getD, hw.2.2]
      rw [this]; exact x

def xorM (gs : List Gt) (a b : Int) : Int × List Gt :=
  if a = b then gateM gs ⟨2, 0, 0⟩
  else if cst gs a = 0 then (b, gs)
  else if cst gs a = 1 then negM gs b
  else if cst gs b = 0 then (a, gs)
  else if cst gs b = 1 then negM gs a
  else gateM gs ⟨3, min a b, max a b⟩
def andM (gs : List Gt) (a b : Int) : Int × List Gt :=
  if a = b then (a, gs)
  else if cst gs a = 0 then gateM gs ⟨2, 0, 0⟩
  else if cst gs a = 1 then (b, gs)
  else if cst gs b = 0 then gateM gs ⟨2, 0, 0⟩
  else if cst gs b = 1 then (a, gs)
  else gateM gs ⟨4, min a b, max a b⟩
theorem zero_has {bits : Int → Bool} {gs : List Gt} (hok : okGs gs) : Grow gs (gateM gs ⟨2, 0, 0⟩).2 0 ∧ has bits (gateM gs ⟨2, 0, 0⟩).2 (gateM gs ⟨2, 0, 0⟩).1 false := by
  have := gateM_has (bits := bits) (g := ⟨2, 0, 0⟩) hok (by simp [okG])
  simpa [gval] using this
theorem xorM_has {bits : Int → Bool} {gs : List Gt} (hok : okGs gs) {a b : Int} {va vb : Bool} (ha : has bits gs a va) (hb : has bits gs b vb) : Grow gs (xorM gs a b).2 0 ∧ has bits (xorM gs a b).2 (xorM gs a b).1 (va.xor vb) := by
  unfold xorM
  split
  · rename_i e
    subst e
    have : va = vb := by rw [← ha.2.2, ← hb.2.2]
    subst this
    simpa using zero_has hok
  split
  · rename_i e
    obtain ⟨h, _⟩ := cst_has hok ha 0 e (by omega)
    subst h
    exact ⟨Grow.refl _, by simpa using hb⟩
  split
  · rename_i e
    obtain ⟨h, _⟩ := cst_has hok ha 1 e (by omega)
    subst h
    have := negM_has hok hb
    simpa using this
  split
  · rename_i e
    obtain ⟨h, _⟩ := cst_has hok hb 0 e (by omega)
    subst h
    exact ⟨Grow.refl _, by simpa using ha⟩
  split
  · rename_i e
    obtain ⟨h, _⟩ := cst_has hok hb 1 e (by omega)
    subst h
    have := negM_has hok ha
    simpa using this
  · have h1 := ha.1
    have h2 := ha.2.1
    have h3 := hb.1
    have h4 := hb.2.1
    have := gateM_has (bits := bits) (g := ⟨3, min a b, max a b⟩) hok (by simp [okG]; omega)
    have e : gval bits (evs bits gs) ⟨3, min a b, max a b⟩ = va.xor vb := by
      rw [← ha.2.2, ← hb.2.2]
      rcases Int.le_total a b with h | h
      · rw [Int.min_eq_left h, Int.max_eq_right h]; simp [gval]
      · rw [Int.min_eq_right h, Int.max_eq_left h]; simp [gval, Bool.xor_comm]
    rw [e] at this
    simpa using this
theorem andM_has {bits : Int → Bool} {gs : List Gt} (hok : okGs gs) {a b : Int} {va vb : Bool} (ha : has bits gs a va) (hb : has bits gs b vb) : Grow gs (andM gs a b).2 1 ∧ has bits (andM gs a b).2 (andM gs a b).1 (va && vb) := by
  unfold andM
  split
  · rename_i e
    subst e
    have : va = vb := by rw [← ha.2.2, ← hb.2.2]
    subst this
    exact ⟨(Grow.refl _).le (by omega), by simpa using ha⟩
  split
  · rename_i e
    obtain ⟨h, _⟩ := cst_has hok ha 0 e (by omega)
    subst h
    obtain ⟨g, x⟩ := zero_has (bits := bits) hok
    exact ⟨g.le (by omega), by simpa using x⟩
  split
  · rename_i e
    obtain ⟨h, _⟩ := cst_has hok ha 1 e (by omega)
    subst h
    exact ⟨(Grow.refl _).le (by omega), by simpa using hb⟩
  split
  · rename_i e
    obtain ⟨h, _⟩ := cst_has hok hb 0 e (by omega)
    subst h
    obtain ⟨g, x⟩ := zero_has (bits := bits) hok
    exact ⟨g.le (by omega), by simpa using x⟩
  split
  · rename_i e
    obtain ⟨h, _⟩ := cst_has hok hb 1 e (by omega)
    subst h
    exact ⟨(Grow.refl _).le (by omega), by simpa using ha⟩
  · have h1 := ha.1
    have h2 := ha.2.1
    have h3 := hb.1
    have h4 := hb.2.1
    have := gateM_has (bits := bits) (g := ⟨4, min a b, max a b⟩) hok (by simp [okG]; omega)
    have e : gval bits (evs bits gs) ⟨4, min a b, max a b⟩ = (va && vb) := by
      rw [← ha.2.2, ← hb.2.2]
      rcases Int.le_total a b with h | h
      · rw [Int.min_eq_left h, Int.max_eq_right h]; simp [gval]
      · rw [Int.min_eq_right h, Int.max_eq_left h]; simp [gval, Bool.and_comm]
    rw [e] at this
    simpa using this

/-! ### the whole -/
structure SS where
  gs : List Gt
  to : List Int
def stepS (s : SS) (g : Gt) : SS :=
  let r := if g.k = 3 then xorM s.gs (s.to.getD g.a.toNat 0) (s.to.getD g.b.toNat 0)
    else if g.k = 4 then andM s.gs (s.to.getD g.a.toNat 0) (s.to.getD g.b.toNat 0)
    else if g.k = 5 then negM s.gs (s.to.getD g.a.toNat 0)
    else gateM s.gs ⟨g.k, g.a, 0⟩
  ⟨r.2, s.to ++ [r.1]⟩
def simpL (gs : List Gt) : SS := gs.foldl stepS ⟨[], []⟩
structure SR (bits : Int → Bool) (gs : List Gt) (s : SS) : Prop where
  ok : okGs s.gs
  len : s.to.length = gs.length
  low : s.gs.length ≤ gs.length
  wires : ∀ i, i < gs.length → has bits s.gs (s.to.getD i 0) ((evs bits gs).getD i false)
  ands : cnt 4 s.gs ≤ cnt 4 gs
theorem SR.step {bits : Int → Bool} {gs : List Gt} {s : SS} (h : SR bits gs s) {g : Gt} (hg : okG gs.length g) : SR bits (gs ++ [g]) (stepS s g) := by
  have key : ∀ (r : Int × List Gt) (q : Nat), Grow s.gs r.2 q → q ≤ (if g.k = 4 then 1 else 0) → has bits r.2 r.1 (gval bits (evs bits gs) g) → SR bits (gs ++ [g]) ⟨r.2, s.to ++ [r.1]⟩ := by
    intro r q e hq x
    refine ⟨e.ok h.ok, by simp [h.len], by have := e.len; have := h.low; simp; omega, fun i hi => ?_, by have := e.cnt; have := h.ands; rw [cnt_snoc]; simp only; omega⟩
    rw [evs_snoc]
    rcases Nat.lt_or_ge i gs.length with hl | hl
    · have e1 : (evs bits gs ++ [gval bits (evs bits gs) g]).getD i false = (evs bits gs).getD i false := by rw [List.getD_eq_getElem?_getD, List.getElem?_append_left (by rw [evs_length]; omega), List.getD_eq_getElem?_getD]
      have e2 : (s.to ++ [r.1]).getD i 0 = s.to.getD i 0 := by rw [List.getD_eq_getElem?_getD, List.getElem?_append_left (by rw [h.len]; exact hl), List.getD_eq_getElem?_getD]
      simp only [e1, e2]
      exact e.has (h.wires i hl)
    · have : i = gs.length := by simp at hi; omega
      subst this
      have e1 : (evs bits gs ++ [gval bits (evs bits gs) g]).getD gs.length false = gval bits (evs bits gs) g := by rw [List.getD_eq_getElem?_getD, List.getElem?_append_right (by rw [evs_length]; omega)]; simp [evs_length]
      have e2 : (s.to ++ [r.1]).getD gs.length 0 = r.1 := by rw [List.getD_eq_getElem?_getD, List.getElem?_append_right (by rw [h.len]; omega)]; simp [h.len]
      simp only [e1, e2]
      exact x
  obtain ⟨k, a, b⟩ := g
  unfold okG at hg
  simp only at hg key
  unfold stepS
  simp only
  by_cases h3 : k = 3
  · subst h3
    simp at hg
    obtain ⟨e, x⟩ := xorM_has h.ok (h.wires a.toNat (by omega)) (h.wires b.toNat (by omega))
    exact key _ 0 e (by simp) (by simpa [gval] using x)
  by_cases h4 : k = 4
  · subst h4
    simp at hg
    obtain ⟨e, x⟩ := andM_has h.ok (h.wires a.toNat (by omega)) (h.wires b.toNat (by omega))
    exact key _ 1 e (by simp) (by simpa [gval] using x)
  by_cases h5 : k = 5
  · subst h5
    simp at hg
    obtain ⟨e, x⟩ := negM_has h.ok (h.wires a.toNat (by omega))
    exact key _ 0 e (by simp) (by simpa [gval] using x)
  rw [if_neg h3, if_neg h4, if_neg h5]
  have hk : k = 1 ∨ k = 2 := by
    by_cases h1 : k = 1
    · exact .inl h1
    · by_cases h2 : k = 2
      · exact .inr h2
      · simp [h1, h2, h3, h4, h5] at hg
  rcases hk with rfl | rfl
  · simp at hg
    obtain ⟨e, x⟩ := gateM_has (bits := bits) (g := ⟨1, a, 0⟩) h.ok (by simp [okG]; omega)
    exact key _ _ e (by simp) (by simpa [gval] using x)
  · simp at hg
    obtain ⟨e, x⟩ := gateM_has (bits := bits) (g := ⟨2, a, 0⟩) h.ok (by simp [okG]; omega)
    exact key _ _ e (by simp) (by simpa [gval] using x)
theorem SR.all (bits : Int → Bool) (gs : List Gt) (h : okGs gs) : SR bits gs (simpL gs) := by
  induction gs using snoc_ind with
  | h0 => exact ⟨okGs_nil, rfl, by simp [simpL], by simp, by simp [simpL, cnt]⟩
  | h1 gs g ih =>
    have := (ih (okGs_left h)).step (g := g) (h gs.length g (by rw [List.getElem?_append_right (by omega)]; simp))
    simpa [simpL] using this
end GC

set_option linter.unusedSimpArgs false
set_option linter.unusedVariables false
namespace GC
open Go

/-! ### words, tapes, labels -/
def isW (x : Int) : Prop := 0 ≤ x ∧ x ≤ 4294967295
instance (x : Int) : Decidable (isW x) := inferInstanceAs (Decidable (_ ∧ _))
def mixS (x : Int) : Int := (xr x (x / 65536) * 73244475) % 4294967296
def mixM (x : Int) : Int := xr (mixS (mixS x)) (mixS (mixS x) / 65536)
def keyM (k a b : Int) : Int := mixM (xr (mixM (xr (mixM k) a)) b)
theorem xr_w {a b : Int} (ha : isW a) (hb : isW b) : isW (xr a b) :=
  ⟨xr_nonneg _ _, by have := xr_lt 32 a b ha.1 (by have := ha.2; omega) hb.1 (by have := hb.2; omega); omega⟩
theorem mixS_w (x : Int) : isW (mixS x) := by unfold mixS isW; omega
theorem shr_w {a : Int} (ha : isW a) : isW (a / 65536) := by unfold isW at *; omega
theorem mixM_w (x : Int) : isW (mixM x) := xr_w (mixS_w _) (shr_w (mixS_w _))
theorem keyM_w (k a b : Int) : isW (keyM k a b) := mixM_w _

structure Tp where
  s : Int
  p : Int
def okT (t : Tp) (m : Int) : Prop := isW t.s ∧ 0 ≤ t.p ∧ t.p ≤ m
def belowM (t : Tp) (n : Int) : Int := keyM t.s 7 t.p / 256 % n
def forkM (t : Tp) (n : Int) : Tp := ⟨keyM t.s 9 n, 0⟩
def deltaM (t : Tp) : Int := belowM t 65536 + 1 - belowM t 65536 % 2
def zeroM (t : Tp) (k : Int) : Int := belowM (forkM t k) 65536
def hashM (x n : Int) : Int := keyM 77 n x % 65536
def isL (x : Int) : Prop := 0 ≤ x ∧ x ≤ 65535
instance (x : Int) : Decidable (isL x) := inferInstanceAs (Decidable (_ ∧ _))
theorem belowM_lt (t : Tp) (n : Int) (h : 0 < n) : 0 ≤ belowM t n ∧ belowM t n < n := ⟨Int.emod_nonneg _ (by omega), Int.emod_lt_of_pos _ h⟩
theorem zeroM_l (t : Tp) (k : Int) : isL (zeroM t k) := by have := belowM_lt (forkM t k) 65536 (by omega); unfold isL zeroM; omega
theorem deltaM_l (t : Tp) : isL (deltaM t) ∧ deltaM t % 2 = 1 := by have := belowM_lt t 65536 (by omega); unfold isL deltaM; omega
theorem hashM_l (x n : Int) : isL (hashM x n) := by unfold isL hashM; omega
theorem xr_l {a b : Int} (ha : isL a) (hb : isL b) : isL (xr a b) := ⟨xr_nonneg _ _, xr_lt16 a b ha.1 ha.2 hb.1 hb.2⟩
theorem tm_l {b x : Int} (hx : isL x) : isL (tm b x) := by unfold tm; split; exact hx; unfold isL; omega

/-! ### garbling -/
def zAt (z : List Int) (w : Int) : Int := z.getD w.toNat 0
/-- The label of a wire whose label for 0 is z. -/
def lab (z d : Int) (v : Bool) : Int := if v then xr z d else z
/-- The labels for 0, the tables, the labels of the constants. -/
structure GS where
  z : List Int
  tb : List Int
  cs : List Int
def gG (d a b n : Int) : Int := xr (xr (hashM a (2 * n)) (hashM (xr a d) (2 * n))) (tm (b % 2) d)
def gE (d a b n : Int) : Int := xr (xr (hashM b (2 * n + 1)) (hashM (xr b d) (2 * n + 1))) a
def gZ (d a b n : Int) : Int := xr (xr (xr (hashM a (2 * n)) (hashM b (2 * n + 1))) (tm (a % 2) (gG d a b n))) (tm (b % 2) (xr (gE d a b n) a))
def garbS (t : Tp) (s : GS) (g : Gt) : GS :=
  let n : Int := s.z.length
  let a := zAt s.z g.a
  let b := zAt s.z g.b
  if g.k = 1 then ⟨s.z ++ [zeroM t g.a], s.tb, s.cs⟩
  else if g.k = 2 then ⟨s.z ++ [zeroM t (1000 + n)], s.tb, s.cs ++ [lab (zeroM t (1000 + n)) (deltaM t) (g.a == 1)]⟩
  else if g.k = 3 then ⟨s.z ++ [xr a b], s.tb, s.cs⟩
  else if g.k = 4 then ⟨s.z ++ [gZ (deltaM t) a b n], s.tb ++ [gG (deltaM t) a b n, gE (deltaM t) a b n], s.cs⟩
  else ⟨s.z ++ [xr a (deltaM t)], s.tb, s.cs⟩
def garbM (gs : List Gt) (t : Tp) : GS := gs.foldl (garbS t) ⟨[], [], []⟩
theorem garbM_snoc (gs : List Gt) (g : Gt) (t : Tp) : garbM (gs ++ [g]) t = garbS t (garbM gs t) g := by simp [garbM]
theorem garbS_z (t : Tp) (s : GS) (g : Gt) : ∃ x, (garbS t s g).z = s.z ++ [x] := by
  unfold garbS; simp only; repeat' split
  all_goals exact ⟨_, rfl⟩
theorem garbM_z (gs : List Gt) (t : Tp) : (garbM gs t).z.length = gs.length := by
  induction gs using snoc_ind with
  | h0 => rfl
  | h1 gs g ih => rw [garbM_snoc]; obtain ⟨x, hx⟩ := garbS_z t (garbM gs t) g; rw [hx]; simp [ih]
theorem garbM_tb (gs : List Gt) (t : Tp) : (garbM gs t).tb.length = 2 * cnt 4 gs := by
  induction gs using snoc_ind with
  | h0 => rfl
  | h1 gs g ih =>
    rw [garbM_snoc, cnt_snoc]
    unfold garbS
    simp only
    by_cases h1 : g.k = 1
    · rw [if_pos h1, if_neg (by omega)]; exact ih
    rw [if_neg h1]
    by_cases h2 : g.k = 2
    · rw [if_pos h2, if_neg (by omega)]; exact ih
    rw [if_neg h2]
    by_cases h3 : g.k = 3
    · rw [if_pos h3, if_neg (by omega)]; exact ih
    rw [if_neg h3]
    by_cases h4 : g.k = 4
    · rw [if_pos h4, if_pos h4]; simp [ih]; omega
    · rw [if_neg h4, if_neg h4]; exact ih
theorem garbM_cs (gs : List Gt) (t : Tp) : (garbM gs t).cs.length = cnt 2 gs := by
  induction gs using snoc_ind with
  | h0 => rfl
  | h1 gs g ih =>
    rw [garbM_snoc, cnt_snoc]
    unfold garbS
    simp only
    by_cases h1 : g.k = 1
    · rw [if_pos h1, if_neg (by omega)]; exact ih
    rw [if_neg h1]
    by_cases h2 : g.k = 2
    · rw [if_pos h2, if_pos h2]; simp [ih]
    rw [if_neg h2]
    by_cases h3 : g.k = 3
    · rw [if_pos h3, if_neg (by omega)]; exact ih
    rw [if_neg h3]
    by_cases h4 : g.k = 4
    · rw [if_pos h4, if_neg (by omega)]; exact ih
    · rw [if_neg h4, if_neg (by omega)]; exact ih
theorem zAt_l {z : List Int} (h : ∀ x ∈ z, isL x) (w : Int) : isL (zAt z w) := by
  unfold zAt
  rw [List.getD_eq_getElem?_getD]
  cases hx : z[w.toNat]? with
  | none => decide
  | some x => exact h x (List.mem_of_getElem? hx)
theorem gG_l {d a b n : Int} (hd : isL d) : isL (gG d a b n) := xr_l (xr_l (hashM_l _ _) (hashM_l _ _)) (tm_l hd)
theorem gE_l {d a b n : Int} (ha : isL a) : isL (gE d a b n) := xr_l (xr_l (hashM_l _ _) (hashM_l _ _)) ha
theorem gZ_l {d a b n : Int} (hd : isL d) (ha : isL a) : isL (gZ d a b n) := xr_l (xr_l (xr_l (hashM_l _ _) (hashM_l _ _)) (tm_l (gG_l hd))) (tm_l (xr_l (gE_l ha) ha))
theorem lab_l {z d : Int} (v : Bool) (hz : isL z) (hd : isL d) : isL (lab z d v) := by unfold lab; split; exact xr_l hz hd; exact hz
theorem garbM_l (gs : List Gt) (t : Tp) : (∀ x ∈ (garbM gs t).z, isL x) ∧ (∀ x ∈ (garbM gs t).tb, isL x) ∧ ∀ x ∈ (garbM gs t).cs, isL x := by
  induction gs using snoc_ind with
  | h0 => simp [garbM]
  | h1 gs g ih =>
    rw [garbM_snoc]
    obtain ⟨h1, h2, h3⟩ := ih
    have hd := (deltaM_l t).1
    have add : ∀ {l : List Int} {x : Int}, (∀ x ∈ l, isL x) → isL x → ∀ y ∈ l ++ [x], isL y := by
      intro l x hl hx y hy
      rcases List.mem_append.1 hy with hy | hy
      · exact hl y hy
      · rw [List.mem_singleton.1 hy]; exact hx
    unfold garbS
    simp only
    split
    · exact ⟨add h1 (zeroM_l _ _), h2, h3⟩
    split
    · exact ⟨add h1 (zeroM_l _ _), h2, add h3 (lab_l _ (zeroM_l _ _) hd)⟩
    split
    · exact ⟨add h1 (xr_l (zAt_l h1 _) (zAt_l h1 _)), h2, h3⟩
    split
    · refine ⟨add h1 (gZ_l hd (zAt_l h1 _)), fun x hx => ?_, h3⟩
      simp only [List.mem_append, List.mem_cons, List.not_mem_nil, or_false] at hx
      rcases hx with hx | rfl | rfl
      · exact h2 x hx
      · exact gG_l hd
      · exact gE_l (zAt_l h1 _)
    · exact ⟨add h1 (xr_l (zAt_l h1 _) hd), h2, h3⟩
end GC

set_option linter.unusedSimpArgs false
set_option linter.unusedVariables false
namespace GC
open Go

/-! ### evaluating what was garbled -/
theorem zipWith_snoc {α β γ : Type} (f : α → β → γ) : ∀ (l : List α) (m : List β) (a : α) (b : β), l.length = m.length → List.zipWith f (l ++ [a]) (m ++ [b]) = List.zipWith f l m ++ [f a b]
  | [], [], a, b, _ => rfl
  | x :: l, y :: m, a, b, h => by simp [zipWith_snoc f l m a b (by simpa using h)]
def wiresM (bits : Int → Bool) (gs : List Gt) (t : Tp) : List Int := List.zipWith (fun z v => lab z (deltaM t) v) (garbM gs t).z (evs bits gs)
theorem wiresM_len (bits : Int → Bool) (gs : List Gt) (t : Tp) : (wiresM bits gs t).length = gs.length := by simp [wiresM, garbM_z, evs_length]
/-- The label for 0 of a new gate. -/
def zNew (gs : List Gt) (t : Tp) (g : Gt) : Int :=
  let n : Int := gs.length
  let a := zAt (garbM gs t).z g.a
  let b := zAt (garbM gs t).z g.b
  if g.k = 1 then zeroM t g.a else if g.k = 2 then zeroM t (1000 + n) else if g.k = 3 then xr a b else if g.k = 4 then gZ (deltaM t) a b n else xr a (deltaM t)
theorem garb_z (gs : List Gt) (t : Tp) (g : Gt) : (garbM (gs ++ [g]) t).z = (garbM gs t).z ++ [zNew gs t g] := by
  rw [garbM_snoc]; unfold garbS zNew
  simp only [garbM_z]
  split
  · rfl
  split
  · rfl
  split
  · rfl
  split <;> rfl
theorem wires_snoc (bits : Int → Bool) (gs : List Gt) (t : Tp) (g : Gt) : wiresM bits (gs ++ [g]) t = wiresM bits gs t ++ [lab (zNew gs t g) (deltaM t) (gval bits (evs bits gs) g)] := by
  unfold wiresM
  rw [garb_z, evs_snoc, zipWith_snoc _ _ _ _ _ (by rw [garbM_z, evs_length])]
theorem wire_at (bits : Int → Bool) (gs : List Gt) (t : Tp) {w : Int} (h0 : 0 ≤ w) (h1 : w < gs.length) : zAt (wiresM bits gs t) w = lab (zAt (garbM gs t).z w) (deltaM t) ((evs bits gs).getD w.toNat false) := by
  unfold zAt wiresM
  have e1 : w.toNat < (garbM gs t).z.length := by rw [garbM_z]; omega
  have e2 : w.toNat < (evs bits gs).length := by rw [evs_length]; omega
  simp only [List.getD_eq_getElem?_getD, List.getElem?_zipWith, List.getElem?_eq_getElem e1, List.getElem?_eq_getElem e2, Option.getD_some]
theorem lab_tm (z d : Int) (v : Bool) (hz : 0 ≤ z) : lab z d v = xr z (tm (bo v) d) := by
  cases v
  · show z = xr z (tm 0 d); rw [tm_zero, xr_zero z hz]
  · rfl
theorem wiresM_l (bits : Int → Bool) (gs : List Gt) (t : Tp) : ∀ x ∈ wiresM bits gs t, isL x := by
  intro x hx
  unfold wiresM at hx
  obtain ⟨i, hi, hx⟩ := List.getElem_of_mem hx
  have := (garbM_l gs t).1
  rw [List.getElem_zipWith] at hx
  rw [← hx]
  exact lab_l _ (this _ (List.getElem_mem _)) (deltaM_l t).1
section
variable (bits : Int → Bool) (gs : List Gt) (t : Tp) (g : Gt)
theorem wires_xor (hk : g.k = 3) (ha : 0 ≤ g.a ∧ g.a < gs.length) (hb : 0 ≤ g.b ∧ g.b < gs.length) :
    wiresM bits (gs ++ [g]) t = wiresM bits gs t ++ [xr (zAt (wiresM bits gs t) g.a) (zAt (wiresM bits gs t) g.b)] := by
  rw [wires_snoc, wire_at bits gs t ha.1 ha.2, wire_at bits gs t hb.1 hb.2]
  have hg : gval bits (evs bits gs) g = ((evs bits gs).getD g.a.toNat false).xor ((evs bits gs).getD g.b.toNat false) := by simp [gval, hk]
  have hz : zNew gs t g = xr (zAt (garbM gs t).z g.a) (zAt (garbM gs t).z g.b) := by simp [zNew, hk]
  rw [hg, hz]
  have n1 := (zAt_l (garbM_l gs t).1 g.a).1
  have n2 := (zAt_l (garbM_l gs t).1 g.b).1
  have n3 := (deltaM_l t).1.1
  generalize (evs bits gs).getD g.a.toNat false = va
  generalize (evs bits gs).getD g.b.toNat false = vb
  congr 2
  cases va <;> cases vb <;> simp [lab, xr_assoc, xr_comm, xr_left, xr_self, xr_cancel, xr_zero, zero_xr, n1, n2, n3, xr_nonneg]
theorem wires_not (hk : g.k = 5) (ha : 0 ≤ g.a ∧ g.a < gs.length) : wiresM bits (gs ++ [g]) t = wiresM bits gs t ++ [zAt (wiresM bits gs t) g.a] := by
  rw [wires_snoc, wire_at bits gs t ha.1 ha.2]
  have hg : gval bits (evs bits gs) g = !((evs bits gs).getD g.a.toNat false) := by simp [gval, hk]
  have hz : zNew gs t g = xr (zAt (garbM gs t).z g.a) (deltaM t) := by simp [zNew, hk]
  rw [hg, hz]
  have n1 := (zAt_l (garbM_l gs t).1 g.a).1
  have n3 := (deltaM_l t).1.1
  generalize (evs bits gs).getD g.a.toNat false = va
  congr 2
  cases va <;> simp [lab, xr_assoc, xr_comm, xr_left, xr_self, xr_cancel, xr_zero, zero_xr, n1, n3, xr_nonneg]
theorem wires_input (hk : g.k = 1) : wiresM bits (gs ++ [g]) t = wiresM bits gs t ++ [lab (zeroM t g.a) (deltaM t) (bits g.a)] := by
  rw [wires_snoc]
  have hg : gval bits (evs bits gs) g = bits g.a := by simp [gval, hk]
  have hz : zNew gs t g = zeroM t g.a := by simp [zNew, hk]
  rw [hg, hz]
theorem wires_const (hk : g.k = 2) : wiresM bits (gs ++ [g]) t = wiresM bits gs t ++ [lab (zeroM t (1000 + gs.length)) (deltaM t) (g.a == 1)] := by
  rw [wires_snoc]
  have hg : gval bits (evs bits gs) g = (g.a == 1) := by simp [gval, hk]
  have hz : zNew gs t g = zeroM t (1000 + gs.length) := by simp [zNew, hk]
  rw [hg, hz]
/-- What the evaluator computes for an and gate. -/
def evalAnd (a b G E n : Int) : Int := xr (xr (xr (hashM a (2 * n)) (hashM b (2 * n + 1))) (tm (a % 2) G)) (tm (b % 2) (xr E a))
theorem wires_and (hk : g.k = 4) (ha : 0 ≤ g.a ∧ g.a < gs.length) (hb : 0 ≤ g.b ∧ g.b < gs.length) :
    wiresM bits (gs ++ [g]) t = wiresM bits gs t ++ [evalAnd (zAt (wiresM bits gs t) g.a) (zAt (wiresM bits gs t) g.b)
      (gG (deltaM t) (zAt (garbM gs t).z g.a) (zAt (garbM gs t).z g.b) gs.length) (gE (deltaM t) (zAt (garbM gs t).z g.a) (zAt (garbM gs t).z g.b) gs.length) gs.length] := by
  rw [wires_snoc, wire_at bits gs t ha.1 ha.2, wire_at bits gs t hb.1 hb.2]
  have hg : gval bits (evs bits gs) g = (((evs bits gs).getD g.a.toNat false) && ((evs bits gs).getD g.b.toNat false)) := by simp [gval, hk]
  have hz : zNew gs t g = gZ (deltaM t) (zAt (garbM gs t).z g.a) (zAt (garbM gs t).z g.b) gs.length := by simp [zNew, hk]
  rw [hg, hz]
  have n1 := (zAt_l (garbM_l gs t).1 g.a).1
  have n2 := (zAt_l (garbM_l gs t).1 g.b).1
  have n3 := (deltaM_l t).1.1
  have n4 := (deltaM_l t).2
  have na := (zAt_l (garbM_l gs t).1 g.a).2
  generalize (evs bits gs).getD g.a.toNat false = va
  generalize (evs bits gs).getD g.b.toNat false = vb
  generalize zAt (garbM gs t).z g.a = a at *
  generalize zAt (garbM gs t).z g.b = b at *
  have hgates := half_gates (fun x => hashM x (2 * gs.length)) (fun x => hashM x (2 * gs.length + 1)) a b (deltaM t) (bo va) (bo vb) n1 n2 n3 n4 (fun x => (hashM_l _ _).1) (fun x => (hashM_l _ _).1)
    (by cases va <;> simp [bo]) (by cases vb <;> simp [bo]) (gG (deltaM t) a b gs.length) (gE (deltaM t) a b gs.length) (gZ (deltaM t) a b gs.length) rfl rfl rfl
  rw [lab_tm a _ va n1, lab_tm b _ vb n2]
  congr 2
  unfold evalAnd
  rw [hgates, lab_tm _ _ _ (gZ_l (deltaM_l t).1 ⟨n1, na⟩).1]
  congr 2
  cases va <;> cases vb <;> rfl
end
/-! ### prefixes -/
theorem garb_pre (gs hs : List Gt) (t : Tp) : (∃ r, (garbM (gs ++ hs) t).z = (garbM gs t).z ++ r) ∧ (∃ r, (garbM (gs ++ hs) t).tb = (garbM gs t).tb ++ r) ∧ ∃ r, (garbM (gs ++ hs) t).cs = (garbM gs t).cs ++ r := by
  induction hs using snoc_ind with
  | h0 => exact ⟨⟨[], by simp⟩, ⟨[], by simp⟩, ⟨[], by simp⟩⟩
  | h1 hs g ih =>
    obtain ⟨⟨r1, e1⟩, ⟨r2, e2⟩, ⟨r3, e3⟩⟩ := ih
    rw [← List.append_assoc, garbM_snoc]
    have : ∀ (s : GS), ∃ q1 q2 q3, garbS t s g = ⟨s.z ++ q1, s.tb ++ q2, s.cs ++ q3⟩ := by
      intro s
      unfold garbS
      simp only
      split
      · exact ⟨_, [], [], by rw [List.append_nil s.tb, List.append_nil s.cs]⟩
      split
      · exact ⟨_, [], _, by rw [List.append_nil s.tb]⟩
      split
      · exact ⟨_, [], [], by rw [List.append_nil s.tb, List.append_nil s.cs]⟩
      split
      · exact ⟨_, _, [], by rw [List.append_nil s.cs]⟩
      · exact ⟨_, [], [], by rw [List.append_nil s.tb, List.append_nil s.cs]⟩
    obtain ⟨q1, q2, q3, e⟩ := this (garbM (gs ++ hs) t)
    rw [e]
    exact ⟨⟨r1 ++ q1, by simp [e1]⟩, ⟨r2 ++ q2, by simp [e2]⟩, ⟨r3 ++ q3, by simp [e3]⟩⟩
theorem getD_pre {α : Type} (l r : List α) (i : Nat) (a : α) (h : i < l.length) : (l ++ r).getD i a = l.getD i a := by
  rw [List.getD_eq_getElem?_getD, List.getElem?_append_left h, ← List.getD_eq_getElem?_getD]
section
variable (gs hs : List Gt) (t : Tp) (g : Gt)
theorem z_at {w : Int} (h0 : 0 ≤ w) (h1 : w < gs.length) : zAt (garbM (gs ++ hs) t).z w = zAt (garbM gs t).z w := by
  obtain ⟨⟨r, e⟩, _⟩ := garb_pre gs hs t
  unfold zAt
  rw [e, getD_pre _ _ _ _ (by rw [garbM_z]; omega)]
theorem zNew_at : (garbM (gs ++ g :: hs) t).z.getD gs.length 0 = zNew gs t g := by
  have e0 : gs ++ g :: hs = (gs ++ [g]) ++ hs := by simp
  obtain ⟨⟨r, e⟩, _⟩ := garb_pre (gs ++ [g]) hs t
  rw [e0, e, getD_pre _ _ _ _ (by rw [garbM_z]; simp), garb_z, List.getD_eq_getElem?_getD, List.getElem?_append_right (by rw [garbM_z]; omega), garbM_z]
  simp
theorem tb_at (hk : g.k = 4) : (garbM (gs ++ g :: hs) t).tb.getD (2 * cnt 4 gs) 0 = gG (deltaM t) (zAt (garbM gs t).z g.a) (zAt (garbM gs t).z g.b) gs.length ∧
    (garbM (gs ++ g :: hs) t).tb.getD (2 * cnt 4 gs + 1) 0 = gE (deltaM t) (zAt (garbM gs t).z g.a) (zAt (garbM gs t).z g.b) gs.length := by
  have e0 : gs ++ g :: hs = (gs ++ [g]) ++ hs := by simp
  obtain ⟨_, ⟨r, e⟩, _⟩ := garb_pre (gs ++ [g]) hs t
  have e1 : (garbM (gs ++ [g]) t).tb = (garbM gs t).tb ++ [gG (deltaM t) (zAt (garbM gs t).z g.a) (zAt (garbM gs t).z g.b) gs.length, gE (deltaM t) (zAt (garbM gs t).z g.a) (zAt (garbM gs t).z g.b) gs.length] := by
    rw [garbM_snoc]; simp [garbS, hk, garbM_z]
  have l1 := garbM_tb gs t
  rw [e0, e, e1, List.append_assoc]
  constructor
  · rw [List.getD_eq_getElem?_getD, List.getElem?_append_right (by omega), l1]; simp
  · rw [List.getD_eq_getElem?_getD, List.getElem?_append_right (by omega), l1, show 2 * cnt 4 gs + 1 - 2 * cnt 4 gs = 1 by omega]; simp
theorem cs_at (hk : g.k = 2) : (garbM (gs ++ g :: hs) t).cs.getD (cnt 2 gs) 0 = lab (zeroM t (1000 + gs.length)) (deltaM t) (g.a == 1) := by
  have e0 : gs ++ g :: hs = (gs ++ [g]) ++ hs := by simp
  obtain ⟨_, _, ⟨r, e⟩⟩ := garb_pre (gs ++ [g]) hs t
  have e1 : (garbM (gs ++ [g]) t).cs = (garbM gs t).cs ++ [lab (zeroM t (1000 + gs.length)) (deltaM t) (g.a == 1)] := by
    rw [garbM_snoc]; simp [garbS, hk, garbM_z]
  have l1 := garbM_cs gs t
  rw [e0, e, e1, List.append_assoc, List.getD_eq_getElem?_getD, List.getElem?_append_right (by omega), l1]; simp
end
/-! ### decoding -/
theorem lab_mod (z d : Int) (v : Bool) (hz : 0 ≤ z) (hd : 0 ≤ d) (hd1 : d % 2 = 1) : lab z d v % 2 = (z % 2 + bo v) % 2 := by
  cases v
  · simp [lab, bo]
  · simp only [lab, if_true, bo]; rw [xr_mod2 z d hz hd, hd1]; rfl
theorem lab_ne (z d : Int) (hz : 0 ≤ z) (hd : 0 ≤ d) (hd1 : d % 2 = 1) : xr z d ≠ z := by
  intro e
  have := xr_mod2 z d hz hd
  rw [e, hd1] at this
  omega
end GC

set_option linter.unusedSimpArgs false
set_option linter.unusedVariables false
namespace GC

def two (k : Int) : Prop := k = 3 ∨ k = 4
instance (k : Int) : Decidable (two k) := inferInstanceAs (Decidable (_ ∨ _))
def bAt (l : List Bool) (w : Int) : Bool := l.getD w.toNat false
/-- The wires that gate i needs are marked. -/
def liveS (gs : List Gt) (l : List Bool) (i : Nat) : List Bool :=
  let g := gs.getD i dG
  let l1 := if l.getD i false = true ∧ (two g.k ∨ g.k = 5) then l.set g.a.toNat true else l
  if l.getD i false = true ∧ two g.k then l1.set g.b.toNat true else l1
def liveGo (gs : List Gt) : Nat → List Bool → List Bool
  | 0, l => l
  | i + 1, l => liveGo gs i (liveS gs l i)
def marks (n : Nat) (outs : List Int) : List Bool := outs.foldl (fun l w => l.set w.toNat true) (List.replicate n false)
def liveM (gs : List Gt) (outs : List Int) : List Bool := liveGo gs gs.length (marks gs.length outs)
theorem marks_snoc (n : Nat) (outs : List Int) (w : Int) : marks n (outs ++ [w]) = (marks n outs).set w.toNat true := by simp [marks]
theorem marks_len (n : Nat) (outs : List Int) : (marks n outs).length = n := by
  induction outs using snoc_ind with
  | h0 => simp [marks]
  | h1 l w ih => rw [marks_snoc]; simp [ih]
theorem liveS_len (gs : List Gt) (l : List Bool) (i : Nat) : (liveS gs l i).length = l.length := by
  unfold liveS; simp only; split <;> split <;> simp
theorem set_true {l : List Bool} {i j : Nat} (h : l.getD i false = true) : (l.set j true).getD i false = true := by
  rw [List.getD_eq_getElem?_getD] at h ⊢
  rw [List.getElem?_set]
  split
  · split
    · rfl
    · rename_i e h'; subst e
      rw [List.getElem?_eq_none (by omega)] at h; cases h
  · exact h
theorem set_same {l : List Bool} {j : Nat} (h : j < l.length) : (l.set j true).getD j false = true := by
  rw [List.getD_eq_getElem?_getD, List.getElem?_set, if_pos rfl, if_pos h]; rfl
theorem set_ne {l : List Bool} {i j : Nat} (h : j ≠ i) : (l.set j true).getD i false = l.getD i false := by
  rw [List.getD_eq_getElem?_getD, List.getElem?_set, if_neg h, ← List.getD_eq_getElem?_getD]
theorem liveS_mono {gs : List Gt} {l : List Bool} {i j : Nat} (h : l.getD j false = true) : (liveS gs l i).getD j false = true := by
  unfold liveS; simp only; split <;> split <;> first | exact h | exact set_true h | exact set_true (set_true h)
theorem liveGo_mono {gs : List Gt} {j : Nat} : ∀ (i : Nat) {l : List Bool}, l.getD j false = true → (liveGo gs i l).getD j false = true
  | 0, l, h => h
  | i + 1, l, h => liveGo_mono i (liveS_mono h)
theorem liveGo_len {gs : List Gt} : ∀ (i : Nat) (l : List Bool), (liveGo gs i l).length = l.length
  | 0, l => rfl
  | i + 1, l => by rw [liveGo, liveGo_len i, liveS_len]
theorem liveM_len (gs : List Gt) (outs : List Int) : (liveM gs outs).length = gs.length := by rw [liveM, liveGo_len, marks_len]
theorem marks_at {n : Nat} {outs : List Int} (h : ∀ w ∈ outs, 0 ≤ w ∧ w < n) : ∀ w ∈ outs, (marks n outs).getD w.toNat false = true := by
  induction outs using snoc_ind with
  | h0 => simp
  | h1 l w ih =>
    intro x hx
    rw [marks_snoc]
    rcases List.mem_append.1 hx with hx | hx
    · exact set_true (ih (fun w hw => h w (List.mem_append_left _ hw)) x hx)
    · rw [List.mem_singleton.1 hx]
      have := h w (by simp)
      exact set_same (by rw [marks_len]; omega)
/-- What gate i needs is marked. -/
def need (gs : List Gt) (l : List Bool) (i : Nat) : Prop := l.getD i false = true → (two (gs.getD i dG).k ∨ (gs.getD i dG).k = 5 → bAt l (gs.getD i dG).a = true) ∧ (two (gs.getD i dG).k → bAt l (gs.getD i dG).b = true)
theorem okG_at {gs : List Gt} (h : okGs gs) {i : Nat} (hi : i < gs.length) : okG i (gs.getD i dG) := by
  refine h i _ ?_
  rw [List.getD_eq_getElem?_getD, List.getElem?_eq_getElem hi]; rfl
theorem okG_two {i : Nat} {g : Gt} (h : okG i g) (hk : two g.k) : 0 ≤ g.a ∧ g.a < i ∧ 0 ≤ g.b ∧ g.b < i := by
  unfold okG at h; unfold two at hk
  rw [if_neg (by omega), if_neg (by omega), if_pos hk] at h; exact h
theorem okG_not {i : Nat} {g : Gt} (h : okG i g) (hk : g.k = 5) : 0 ≤ g.a ∧ g.a < i ∧ g.b = 0 := by
  unfold okG at h
  rw [if_neg (by omega), if_neg (by omega), if_neg (by omega), if_pos hk] at h; exact h
theorem liveS_same {gs : List Gt} (h : okGs gs) {l : List Bool} {i j : Nat} (hi : i < gs.length) (hj : i ≤ j) : (liveS gs l i).getD j false = l.getD j false := by
  have ok := okG_at h hi
  unfold liveS
  simp only
  by_cases h2 : two (gs.getD i dG).k
  · obtain ⟨a0, a1, b0, b1⟩ := okG_two ok h2
    split <;> split
    · rw [set_ne (by omega), set_ne (by omega)]
    · rw [set_ne (by omega)]
    · rw [set_ne (by omega)]
    · rfl
  · by_cases h5 : (gs.getD i dG).k = 5
    · obtain ⟨a0, a1, _⟩ := okG_not ok h5
      rw [if_neg (fun e => h2 e.2)]
      split
      · rw [set_ne (by omega)]
      · rfl
    · rw [if_neg (fun e => h2 e.2), if_neg (fun e => e.2.elim h2 h5)]
theorem liveGo_need {gs : List Gt} (h : okGs gs) : ∀ (i : Nat) {l : List Bool}, i ≤ gs.length → l.length = gs.length → (∀ j, i ≤ j → j < gs.length → need gs l j) → ∀ j, j < gs.length → need gs (liveGo gs i l) j
  | 0, l, _, _, hn, j, hj => hn j (Nat.zero_le _) hj
  | i + 1, l, hi, hl, hn, j, hj => by
    refine liveGo_need h i (by omega) (by rw [liveS_len, hl]) (fun j hij hj => ?_) j hj
    intro hlive
    rw [liveS_same h (by omega) hij] at hlive
    rcases Nat.eq_or_lt_of_le hij with e | hlt
    · subst e
      have ok := okG_at h hj
      unfold liveS bAt
      simp only
      refine ⟨fun hk => ?_, fun hk => ?_⟩
      · rw [if_pos (show _ ∧ _ from ⟨hlive, hk⟩)]
        have ha : (gs.getD i dG).a.toNat < l.length := by
          rcases hk with hk | hk
          · have := okG_two ok hk; omega
          · have := okG_not ok hk; omega
        split
        · exact set_true (set_same ha)
        · exact set_same ha
      · rw [if_pos (show l.getD i false = true ∧ (two (gs.getD i dG).k ∨ (gs.getD i dG).k = 5) from ⟨hlive, .inl hk⟩), if_pos (show l.getD i false = true ∧ two (gs.getD i dG).k from ⟨hlive, hk⟩)]
        have := okG_two ok hk
        exact set_same (by rw [List.length_set]; omega)
    · have := hn j (by omega) hj hlive
      exact ⟨fun hk => liveS_mono (this.1 hk), fun hk => liveS_mono (this.2 hk)⟩
theorem liveM_need {gs : List Gt} (h : okGs gs) (outs : List Int) : ∀ j, j < gs.length → need gs (liveM gs outs) j :=
  liveGo_need h gs.length (Nat.le_refl _) (marks_len _ _) (fun j h1 h2 => by omega)
theorem liveM_outs {gs : List Gt} {outs : List Int} (h : ∀ w ∈ outs, 0 ≤ w ∧ w < gs.length) : ∀ w ∈ outs, bAt (liveM gs outs) w = true := fun w hw => liveGo_mono _ (marks_at h w hw)

/-! ### the gates that stay -/
structure PS where
  gs : List Gt
  to : List Int
def reG (to : List Int) (g : Gt) : Gt := ⟨g.k, if two g.k ∨ g.k = 5 then zAt to g.a else g.a, if two g.k then zAt to g.b else g.b⟩
def prS (gs : List Gt) (l : List Bool) (s : PS) (i : Nat) : PS :=
  if l.getD i false = true then ⟨s.gs ++ [reG s.to (gs.getD i dG)], s.to.set i s.gs.length⟩ else s
def prGo (gs : List Gt) (l : List Bool) (n : Nat) : PS := (List.range n).foldl (prS gs l) ⟨[], List.replicate gs.length 0⟩
def pruneM (gs : List Gt) (outs : List Int) : List Gt × List Int :=
  let s := prGo gs (liveM gs outs) gs.length
  (s.gs, outs.map (zAt s.to))
theorem prGo_succ (gs : List Gt) (l : List Bool) (n : Nat) : prGo gs l (n + 1) = prS gs l (prGo gs l n) n := by simp [prGo, List.range_succ]
structure PR (bits : Int → Bool) (gs : List Gt) (l : List Bool) (n : Nat) (s : PS) : Prop where
  ok : okGs s.gs
  len : s.to.length = gs.length
  low : s.gs.length ≤ n
  ands : cnt 4 s.gs ≤ cnt 4 (gs.take n)
  at' : ∀ i, i < n → l.getD i false = true → has bits s.gs (s.to.getD i 0) ((evs bits gs).getD i false)
theorem has_gate (bits : Int → Bool) {gs : List Gt} {g : Gt} : has bits (gs ++ [g]) gs.length (gval bits (evs bits gs) g) := has_last bits gs g
theorem getD_set {α : Type} (l : List α) (i j : Nat) (x a : α) (h : i < l.length) : (l.set i x).getD j a = if i = j then x else l.getD j a := by
  rw [List.getD_eq_getElem?_getD, List.getElem?_set]
  split
  · rename_i e; subst e; simp [h]
  · rw [← List.getD_eq_getElem?_getD]
theorem reG_val {bits : Int → Bool} {gs hs : List Gt} {l : List Bool} {to : List Int} {i : Nat} (h : okGs gs) (hi : i < gs.length)
    (hn : need gs l i) (hl : l.getD i false = true) (hto : ∀ j, j < i → l.getD j false = true → has bits hs (to.getD j 0) ((evs bits gs).getD j false)) :
    okG hs.length (reG to (gs.getD i dG)) ∧ gval bits (evs bits hs) (reG to (gs.getD i dG)) = (evs bits gs).getD i false := by
  have ok := okG_at h hi
  rw [ev_at bits gs h i hi]
  obtain ⟨na, nb⟩ := hn hl
  generalize gs.getD i dG = g at *
  by_cases h2 : two g.k
  · obtain ⟨a0, a1, b0, b1⟩ := okG_two ok h2
    have ha := hto g.a.toNat (by omega) (na (.inl h2))
    have hb := hto g.b.toNat (by omega) (nb h2)
    have e : reG to g = ⟨g.k, zAt to g.a, zAt to g.b⟩ := by unfold reG; rw [if_pos (.inl h2), if_pos h2]
    rw [e]
    constructor
    · unfold okG
      simp only
      rw [if_neg (by unfold two at h2; omega), if_neg (by unfold two at h2; omega), if_pos (show g.k = 3 ∨ g.k = 4 from h2)]
      exact ⟨ha.1, ha.2.1, hb.1, hb.2.1⟩
    · unfold gval
      simp only
      unfold two at h2
      unfold zAt
      rcases h2 with h2 | h2 <;> simp only [h2, ha.2.2, hb.2.2, Int.reduceEq, ↓reduceIte]
  · by_cases h5 : g.k = 5
    · obtain ⟨a0, a1, b0⟩ := okG_not ok h5
      have ha := hto g.a.toNat (by omega) (na (.inr h5))
      have e : reG to g = ⟨g.k, zAt to g.a, g.b⟩ := by unfold reG; rw [if_pos (.inr h5), if_neg h2]
      rw [e]
      constructor
      · unfold okG
        simp only
        rw [if_neg (by omega), if_neg (by omega), if_neg (show ¬ (g.k = 3 ∨ g.k = 4) from h2), if_pos h5]
        exact ⟨ha.1, ha.2.1, b0⟩
      · unfold gval
        simp only
        unfold zAt
        simp only [h5, ha.2.2, Int.reduceEq, ↓reduceIte]
    · have e : reG to g = g := by unfold reG; rw [if_neg (fun e => e.elim h2 h5), if_neg h2]
      rw [e]
      unfold okG at ok ⊢
      constructor
      · split
        · rw [if_pos (by assumption)] at ok; exact ok
        · rw [if_neg (by assumption)] at ok
          split
          · rw [if_pos (by assumption)] at ok; exact ok
          · rw [if_neg (by assumption), if_neg (show ¬ (g.k = 3 ∨ g.k = 4) from h2), if_neg h5] at ok; exact ok.elim
      · unfold gval
        split
        · rfl
        · split
          · rfl
          · rw [if_neg (by assumption), if_neg (by assumption), if_neg (show ¬ (g.k = 3 ∨ g.k = 4) from h2), if_neg h5] at ok; exact ok.elim
theorem PR.all (bits : Int → Bool) {gs : List Gt} (h : okGs gs) {l : List Bool} (hn : ∀ j, j < gs.length → need gs l j) : ∀ n, n ≤ gs.length → PR bits gs l n (prGo gs l n)
  | 0, _ => ⟨okGs_nil, by simp [prGo], by simp [prGo], by simp [prGo, cnt_nil], fun i hi => by omega⟩
  | n + 1, hi => by
    have ih := PR.all bits h hn n (by omega)
    have et : gs.take (n + 1) = gs.take n ++ [gs.getD n dG] := by
      rw [List.take_succ_eq_append_getElem (by omega), List.getD_eq_getElem?_getD, List.getElem?_eq_getElem (by omega)]; rfl
    rw [prGo_succ]
    unfold prS
    split
    · rename_i hl
      obtain ⟨v1, v2⟩ := reG_val (bits := bits) (hs := (prGo gs l n).gs) (to := (prGo gs l n).to) h (by omega) (hn n (by omega)) hl ih.at'
      refine ⟨okGs_snoc ih.ok v1, by simp [ih.len], by have := ih.low; simp; omega, ?_, fun i hi' hli => ?_⟩
      · have := ih.ands
        rw [et, cnt_snoc, cnt_snoc]
        show cnt 4 (prGo gs l n).gs + (if (gs.getD n dG).k = 4 then 1 else 0) ≤ _
        omega
      · show has bits ((prGo gs l n).gs ++ [_]) (((prGo gs l n).to.set n ((prGo gs l n).gs.length : Int)).getD i 0) _
        rw [getD_set _ _ _ _ _ (by rw [ih.len]; omega)]
        split
        · rename_i e; subst e
          have := has_last bits (prGo gs l n).gs (reG (prGo gs l n).to (gs.getD n dG))
          rw [v2] at this; exact this
        · exact (ih.at' i (by omega) hli).mono
    · rename_i hl
      refine ⟨ih.ok, ih.len, by have := ih.low; omega, ?_, fun i hi' hli => ?_⟩
      · have := ih.ands
        rw [et, cnt_snoc]; omega
      · have : i ≠ n := fun e => hl (by rw [← e]; exact hli)
        exact ih.at' i (by omega) hli
/-- What pruning leaves: a valid circuit, no more and gates, the same outputs. -/
structure Opt (bits : Int → Bool) (gs : List Gt) (outs : List Int) (r : List Gt × List Int) : Prop where
  ok : okGs r.1
  len : r.1.length ≤ gs.length
  ands : cnt 4 r.1 ≤ cnt 4 gs
  outs : r.2.map (fun w => (evs bits r.1).getD w.toNat false) = outs.map (fun w => (evs bits gs).getD w.toNat false)
  olen : ∀ w ∈ r.2, 0 ≤ w ∧ w < r.1.length
theorem prune_opt (bits : Int → Bool) {gs : List Gt} (h : okGs gs) {outs : List Int} (ho : ∀ w ∈ outs, 0 ≤ w ∧ w < gs.length) : Opt bits gs outs (pruneM gs outs) := by
  have p := PR.all bits h (liveM_need h outs) gs.length (Nat.le_refl _)
  have key : ∀ w ∈ outs, has bits (pruneM gs outs).1 (zAt (prGo gs (liveM gs outs) gs.length).to w) ((evs bits gs).getD w.toNat false) := fun w hw => p.at' w.toNat (by have := ho w hw; omega) (liveM_outs ho w hw)
  refine ⟨p.ok, p.low, by have := p.ands; rwa [List.take_length] at this, ?_, fun w hw => ?_⟩
  · show (outs.map (zAt _)).map _ = _
    rw [List.map_map]
    refine List.map_congr_left fun w hw => ?_
    exact (key w hw).2.2
  · obtain ⟨x, hx, rfl⟩ := List.mem_map.1 hw
    exact ⟨(key x hx).1, (key x hx).2.1⟩
def simpM (gs : List Gt) (outs : List Int) : List Gt × List Int := ((simpL gs).gs, outs.map (zAt (simpL gs).to))
theorem simp_opt (bits : Int → Bool) {gs : List Gt} (h : okGs gs) {outs : List Int} (ho : ∀ w ∈ outs, 0 ≤ w ∧ w < gs.length) : Opt bits gs outs (simpM gs outs) := by
  have s := SR.all bits gs h
  have key : ∀ w ∈ outs, has bits (simpM gs outs).1 (zAt (simpL gs).to w) ((evs bits gs).getD w.toNat false) := fun w hw => s.wires w.toNat (by have := ho w hw; omega)
  refine ⟨s.ok, s.low, s.ands, ?_, fun w hw => ?_⟩
  · show (outs.map (zAt _)).map _ = _
    rw [List.map_map]
    refine List.map_congr_left fun w hw => ?_
    exact (key w hw).2.2
  · obtain ⟨x, hx, rfl⟩ := List.mem_map.1 hw
    exact ⟨(key x hx).1, (key x hx).2.1⟩
def optM (gs : List Gt) (outs : List Int) : List Gt × List Int := pruneM (simpM gs outs).1 (simpM gs outs).2
theorem opt_opt (bits : Int → Bool) {gs : List Gt} (h : okGs gs) {outs : List Int} (ho : ∀ w ∈ outs, 0 ≤ w ∧ w < gs.length) : Opt bits gs outs (optM gs outs) := by
  have a := simp_opt bits h ho
  have b := prune_opt bits a.ok a.olen
  exact ⟨b.ok, Nat.le_trans b.len a.len, Nat.le_trans b.ands a.ands, b.outs.trans a.outs, b.olen⟩
end GC

set_option linter.unusedSimpArgs false
set_option linter.unusedVariables false
namespace GC

/-! ### programs as trees -/
inductive Tr where
  | s (x : St)
  | l (x : St) (body : List Tr)
def endS : St := ⟨13, 0, 0, 0, 0, 0⟩
mutual
def Tr.flat : Tr → List St
  | .s x => [x]
  | .l x b => x :: (flatT b ++ [endS])
def flatT : List Tr → List St
  | [] => []
  | t :: f => t.flat ++ flatT f
end
def repL : Nat → List St → List St
  | 0, _ => []
  | n + 1, l => l ++ repL n l
mutual
def Tr.un : Tr → List St
  | .s x => [x]
  | .l x b => repL x.n.toNat (unT b)
def unT : List Tr → List St
  | [] => []
  | t :: f => t.un ++ unT f
end
/-- A tree of at most h loops inside each other, of valid statements. -/
inductive OkT : Nat → List Tr → Prop
  | nil (h : Nat) : OkT h []
  | s (h : Nat) (x : St) (f : List Tr) (hx : okSt x) (h1 : x.op ≠ 12) (h2 : x.op ≠ 13) (hf : OkT h f) : OkT h (.s x :: f)
  | l (h : Nat) (x : St) (b f : List Tr) (hx : okSt x) (h1 : x.op = 12) (hb : OkT h b) (hf : OkT (h + 1) f) : OkT (h + 1) (.l x b :: f)
theorem okSt_end {x : St} (h : okSt x) (h1 : x.op = 13) : x = endS := by
  unfold okSt at h
  simp only [h1, Int.reduceEq, Int.reduceLE, ↓reduceIte, and_false] at h
  exact St.ext' h1 h.2.1 h.2.2.1 h.2.2.2.1 h.2.2.2.2.1 h.2.2.2.2.2
theorem okSt_loop {x : St} (h : okSt x) (h1 : x.op = 12) : 1 ≤ x.n ∧ x.n ≤ 8 := by
  unfold okSt at h
  simp only [h1, Int.reduceEq, Int.reduceLE, ↓reduceIte, and_false] at h
  exact ⟨h.2.2.2.2.1, h.2.2.2.2.2⟩
theorem okSt_op {x : St} (h : okSt x) : 1 ≤ x.op ∧ x.op ≤ 13 := by
  unfold okSt at h
  repeat' split at h
  all_goals omega
def depS (x : St) : Int := if x.op = 12 then 1 else if x.op = 13 then -1 else 0
/-- From depth d on the loops are closed, and stay in the range. -/
def depOk : Int → List St → Prop
  | d, [] => d = 0
  | d, x :: l => (0 ≤ d + depS x ∧ d + depS x ≤ 3) ∧ depOk (d + depS x) l
instance depDec : (d : Int) → (l : List St) → Decidable (depOk d l)
  | d, [] => inferInstanceAs (Decidable (d = 0))
  | d, x :: l => @instDecidableAnd _ _ inferInstance (depDec (d + depS x) l)
def okP (l : List St) : Prop := (∀ x ∈ l, okSt x) ∧ depOk 0 l ∧ l.length ≤ 40
instance (l : List St) : Decidable (okP l) := by unfold okP; infer_instance
theorem OkT.mono {h h' : Nat} {f : List Tr} (k : OkT h f) : h ≤ h' → OkT h' f := by
  intro hh
  induction k generalizing h' with
  | nil h => exact .nil h'
  | s h x f hx h1 h2 hf ih => exact .s h' x f hx h1 h2 (ih hh)
  | l h x b f hx h1 hb hf ihb ihf =>
    obtain ⟨k, rfl⟩ : ∃ k, h' = k + 1 := ⟨h' - 1, by omega⟩
    exact .l k x b f hx h1 (ihb (by omega)) (ihf hh)
theorem parse : ∀ (n : Nat) (d : Nat) (l : List St), l.length ≤ n → d ≤ 3 → (∀ x ∈ l, okSt x) → depOk d l →
    ∃ f rest, l = flatT f ++ rest ∧ OkT (3 - d) f ∧ ((d = 0 ∧ rest = []) ∨ ∃ r, rest = endS :: r ∧ 0 < d ∧ depOk ((d : Int) - 1) r)
  | n, d, [], _, hd, _, h => ⟨[], [], rfl, .nil _, .inl ⟨by simp only [depOk] at h; omega, rfl⟩⟩
  | 0, d, x :: l, hl, _, _, _ => by simp at hl
  | n + 1, d, x :: l, hl, hd, hx, h => by
    obtain ⟨⟨h1, h2⟩, h3⟩ := h
    have okx := hx x (by simp)
    have okl : ∀ y ∈ l, okSt y := fun y hy => hx y (List.mem_cons_of_mem _ hy)
    have hl' : l.length ≤ n := by simpa using hl
    by_cases e1 : x.op = 12
    · have ed : depS x = 1 := by simp [depS, e1]
      rw [ed] at h1 h2 h3
      have ed1 : ((d : Int) + 1) = ((d + 1 : Nat) : Int) := by omega
      rw [ed1] at h3
      obtain ⟨f1, r1, p1, p2, p3⟩ := parse n (d + 1) l hl' (by omega) okl h3
      rcases p3 with ⟨p3, _⟩ | ⟨r, rfl, p4, p5⟩
      · omega
      · have ed2 : (((d + 1 : Nat) : Int) - 1) = (d : Int) := by omega
        rw [ed2] at p5
        have hr : r.length ≤ n := by rw [p1] at hl'; simp at hl'; omega
        obtain ⟨f2, r2, q1, q2, q3⟩ := parse n d r hr hd (fun y hy => okl y (by rw [p1]; simp [hy])) p5
        refine ⟨.l x f1 :: f2, r2, ?_, ?_, q3⟩
        · rw [p1, q1]; simp [flatT, Tr.flat]
        · rw [show 3 - d = (3 - (d + 1)) + 1 by omega]
          exact .l _ x f1 f2 okx e1 p2 (q2.mono (by omega))
    · by_cases e2 : x.op = 13
      · have ed : depS x = -1 := by simp [depS, e2]
        rw [ed] at h1 h3
        refine ⟨[], x :: l, rfl, .nil _, .inr ⟨l, by rw [okSt_end okx e2], by omega, ?_⟩⟩
        rw [show (d : Int) - 1 = (d : Int) + -1 by omega]; exact h3
      · have ed : depS x = 0 := by simp [depS, e1, e2]
        rw [ed, Int.add_zero] at h3
        obtain ⟨f1, r1, p1, p2, p3⟩ := parse n d l hl' hd okl h3
        exact ⟨.s x :: f1, r1, by rw [p1]; simp [flatT, Tr.flat], .s _ x f1 okx e1 e2 p2, p3⟩
theorem okP_tree {l : List St} (h : okP l) : ∃ f, l = flatT f ∧ OkT 3 f := by
  obtain ⟨h1, h2, h3⟩ := h
  obtain ⟨f, r, p1, p2, p3⟩ := parse l.length 0 l (Nat.le_refl _) (by omega) h1 h2
  rcases p3 with ⟨_, rfl⟩ | ⟨r', _, h0, _⟩
  · exact ⟨f, by rw [p1]; simp, p2⟩
  · omega
theorem repL_len : ∀ (n : Nat) (l : List St), (repL n l).length = n * l.length
  | 0, l => by simp [repL]
  | n + 1, l => by simp [repL, repL_len n l, Nat.add_mul]; omega
theorem repL_mem : ∀ {n : Nat} {l : List St} {x : St}, x ∈ repL n l → x ∈ l
  | n + 1, l, x, h => (List.mem_append.1 h).elim id repL_mem
theorem repL_snoc : ∀ (n : Nat) (l : List St), repL (n + 1) l = repL n l ++ l
  | 0, l => by simp [repL]
  | n + 1, l => by
    show l ++ repL (n + 1) l = (l ++ repL n l) ++ l
    rw [repL_snoc n l, List.append_assoc]
theorem unT_len {h : Nat} {f : List Tr} (k : OkT h f) : (unT f).length ≤ 8 ^ h * (flatT f).length := by
  induction k with
  | nil h => simp [unT]
  | s h x f hx h1 h2 hf ih =>
    simp only [unT, Tr.un, flatT, Tr.flat, List.length_append, List.length_cons, List.length_nil]
    have : 1 ≤ 8 ^ h := Nat.pow_pos (by omega)
    rw [Nat.mul_add]; omega
  | l h x b f hx h1 hb hf ihb ihf =>
    simp only [unT, Tr.un, flatT, Tr.flat, List.length_append, List.length_cons, List.length_nil, repL_len]
    obtain ⟨n0, n1⟩ := okSt_loop hx h1
    have e1 : x.n.toNat * (unT b).length ≤ 8 * (8 ^ h * (flatT b).length) := Nat.mul_le_mul (by omega) ihb
    have e2 : 8 * (8 ^ h * (flatT b).length) = 8 ^ (h + 1) * (flatT b).length := by rw [Nat.pow_succ]; rw [← Nat.mul_assoc, Nat.mul_comm 8]
    have e3 : 8 ^ (h + 1) * ((flatT b).length + (0 + 1) + 1 + (flatT f).length) = 8 ^ (h + 1) * (flatT b).length + 8 ^ (h + 1) * 2 + 8 ^ (h + 1) * (flatT f).length := by
      rw [← Nat.mul_add, ← Nat.mul_add]
    rw [e3]; omega
theorem unT_plain {h : Nat} {f : List Tr} (k : OkT h f) : ∀ x ∈ unT f, plain x := by
  induction k with
  | nil h => simp [unT]
  | s h x f hx h1 h2 hf ih =>
    intro y hy
    rcases List.mem_append.1 (show y ∈ [x] ++ unT f from hy) with hy | hy
    · rw [List.mem_singleton.1 hy]
      have := okSt_op hx
      exact ⟨hx, by omega⟩
    · exact ih y hy
  | l h x b f hx h1 hb hf ihb ihf =>
    intro y hy
    rcases List.mem_append.1 (show y ∈ repL x.n.toNat (unT b) ++ unT f from hy) with hy | hy
    · exact ihb y (repL_mem hy)
    · exact ihf y hy
theorem flatT_append : ∀ (f g : List Tr), flatT (f ++ g) = flatT f ++ flatT g
  | [], g => rfl
  | t :: f, g => by simp [flatT, flatT_append f g]
theorem unT_append : ∀ (f g : List Tr), unT (f ++ g) = unT f ++ unT g
  | [], g => rfl
  | t :: f, g => by simp [unT, unT_append f g]
theorem flat_pos (t : Tr) : 0 < t.flat.length := by cases t <;> simp [Tr.flat]
/-- Unrolling, told of the program itself. -/
noncomputable def unrollM (l : List St) : List St := if h : okP l then unT (Classical.choose (okP_tree h)) else []
mutual
theorem flat_inj : ∀ (t u : Tr) (r r' : List St) {h : Nat}, t.flat ++ r = u.flat ++ r' → OkT h [t] → OkT h [u] → t = u ∧ r = r'
  | .s x, .s y, r, r', h, e, _, _ => by simp [Tr.flat] at e; exact ⟨by rw [e.1], e.2⟩
  | .s x, .l y c, r, r', h, e, h1, h2 => by
    simp [Tr.flat] at e
    cases h1; cases h2
    rw [e.1] at *; contradiction
  | .l x b, .s y, r, r', h, e, h1, h2 => by
    simp [Tr.flat] at e
    cases h1; cases h2
    rw [e.1] at *; contradiction
  | .l x b, .l y c, r, r', h, e, h1, h2 => by
    simp only [Tr.flat, List.cons_append, List.append_assoc, List.cons.injEq] at e
    cases h1 with
    | l h0 _ _ _ _ _ hb _ =>
      cases h2 with
      | l _ _ _ _ _ _ hc _ =>
        obtain ⟨e1, e2⟩ := flatT_inj b c (endS :: r) (endS :: r') (by simpa using e.2) hb hc (.inr ⟨_, rfl⟩) (.inr ⟨_, rfl⟩)
        exact ⟨by rw [e.1, e1], by simpa using e2⟩
theorem flatT_inj : ∀ (f g : List Tr) (r r' : List St) {h : Nat}, flatT f ++ r = flatT g ++ r' → OkT h f → OkT h g → (r = [] ∨ ∃ q, r = endS :: q) → (r' = [] ∨ ∃ q, r' = endS :: q) → f = g ∧ r = r'
  | [], [], r, r', h, e, _, _, _, _ => ⟨rfl, e⟩
  | [], u :: g, r, r', h, e, _, h2, hr, _ => by
    exfalso
    have e' : r = u.flat ++ (flatT g ++ r') := by simpa [flatT] using e
    rcases hr with rfl | ⟨q, rfl⟩
    · have := congrArg List.length e'
      have hp := flat_pos u
      simp at this; omega
    · cases h2 with
      | s _ x _ hx h1 h2 _ => simp [Tr.flat] at e'; rw [← e'.1] at h2; exact h2 rfl
      | l _ x _ _ hx h1 _ _ => simp [Tr.flat] at e'; rw [← e'.1] at h1; exact absurd h1 (by decide)
  | t :: f, [], r, r', h, e, h1, _, _, hr => by
    exfalso
    have e' : t.flat ++ (flatT f ++ r) = r' := by simpa [flatT] using e
    rcases hr with rfl | ⟨q, rfl⟩
    · have := congrArg List.length e'
      have hp := flat_pos t
      simp at this; rw [this.1] at hp; simp at hp
    · cases h1 with
      | s _ x _ hx h1 h2 _ => simp [Tr.flat] at e'; rw [e'.1] at h2; exact h2 rfl
      | l _ x _ _ hx h1 _ _ => simp [Tr.flat] at e'; rw [e'.1] at h1; exact absurd h1 (by decide)
  | t :: f, u :: g, r, r', h, e, h1, h2, hr, hr' => by
    have e' : t.flat ++ (flatT f ++ r) = u.flat ++ (flatT g ++ r') := by simpa [flatT] using e
    have t1 : OkT h [t] ∧ OkT h f := by
      cases h1 with
      | s _ x _ hx k1 k2 hf => exact ⟨.s _ x [] hx k1 k2 (.nil _), hf⟩
      | l _ x b _ hx k1 hb hf => exact ⟨.l _ x b [] hx k1 hb (.nil _), hf⟩
    have t2 : OkT h [u] ∧ OkT h g := by
      cases h2 with
      | s _ x _ hx k1 k2 hf => exact ⟨.s _ x [] hx k1 k2 (.nil _), hf⟩
      | l _ x b _ hx k1 hb hf => exact ⟨.l _ x b [] hx k1 hb (.nil _), hf⟩
    obtain ⟨a1, a2⟩ := flat_inj t u _ _ e' t1.1 t2.1
    obtain ⟨b1, b2⟩ := flatT_inj f g r r' a2 t1.2 t2.2 hr hr'
    exact ⟨by rw [a1, b1], b2⟩
end
theorem unroll_eq {l : List St} {f : List Tr} (h : okP l) (hf : l = flatT f) (ho : OkT 3 f) : unrollM l = unT f := by
  obtain ⟨e1, e2⟩ := Classical.choose_spec (okP_tree h)
  unfold unrollM
  rw [dif_pos h]
  generalize Classical.choose (okP_tree h) = g at *
  have := (flatT_inj g f [] [] (by simp [← e1, ← hf]) e2 ho (.inl rfl) (.inl rfl)).1
  rw [this]
end GC

