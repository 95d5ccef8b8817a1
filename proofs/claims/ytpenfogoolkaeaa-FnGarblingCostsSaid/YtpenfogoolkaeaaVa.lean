/- This text proves a frame: what is known of temporaries, rows and variables, and how each operation moves it (first part). No condition but those that each theorem states. -/
import Derived.Test.YtpenfogoolkaeaaPure
import Derived.Maps.AppendAt
import Derived.Great.BuildSlice
import Derived.Laws.Tables
import Derived.Laws.OwnMore
import Derived.Lib.AppendStr
import Derived.WalkKit
set_option linter.unusedSimpArgs false
set_option linter.unusedVariables false
namespace GV
open Go

/-! ### data that is never written -/
inductive D where
  | v (x : Value)
  | sl (sz : Nat) (els : List (List D))
def dU : D := .v undef
instance : Inhabited D := ⟨dU⟩

/-- In the world w the cell v reads as d; all blocks that it leads to are in Φ. -/
inductive RC (Φ : Nat → Prop) (w : World) : D → Value → Prop
  | v (x : Value) (h : x.oneCell' = true) : RC Φ w (.v x) x
  | nil (sz : Nat) (A : Option Addr) (c : Nat) : RC Φ w (.sl sz []) (.slice A 0 c)
  | sl (sz : Nat) (els : List (List D)) (b o c : Nat) (u : Nat → Nat → Value) (hΦ : Φ b) (hn : els.length ≤ c)
      (hl : ∀ i, i < els.length → (els.getD i []).length = sz)
      (hc : ∀ i j, i < els.length → j < sz → w.cell? ⟨b, o + (i * sz + j), none⟩ = some (u i j))
      (hr : ∀ i j, i < els.length → j < sz → RC Φ w ((els.getD i []).getD j dU) (u i j)) :
      RC Φ w (.sl sz els) (.slice (some ⟨b, o, none⟩) els.length c)
theorem RC.mono {Φ Ψ : Nat → Prop} {w : World} {d : D} {v : Value} (h : RC Φ w d v) (hp : ∀ b, Φ b → Ψ b) : RC Ψ w d v := by
  induction h with
  | v x h => exact .v x h
  | nil sz A c => exact .nil sz A c
  | sl sz els b o c u h1 h2 h3 h4 _ ih => exact .sl sz els b o c u (hp _ h1) h2 h3 h4 ih
theorem RC.heap {Φ : Nat → Prop} {w w' : World} {d : D} {v : Value} (h : RC Φ w d v) (hp : ∀ b, Φ b → w'.heap[b]? = w.heap[b]?) : RC Φ w' d v := by
  induction h with
  | v x h => exact .v x h
  | nil sz A c => exact .nil sz A c
  | sl sz els b o c u h1 h2 h3 h4 _ ih =>
    exact .sl sz els b o c u h1 h2 h3 (fun i j hi hj => (World.cell?_of_block (w := w) (w' := w') (a := ⟨b, o + (i * sz + j), none⟩) (hp b h1)).trans (h4 i j hi hj)) ih
theorem RC.one {Φ : Nat → Prop} {w : World} {d : D} {v : Value} (h : RC Φ w d v) : v.oneCell' = true := by
  cases h <;> first | assumption | rfl

/-! ### what is known of a value -/
inductive C where
  | no
  | und
  | d (x : D)
  | bw (s : Nat) (x : D)
  | own (s : Nat)
  | nil (e sz : Nat)
  | ptr (v j : Nat)
  | eo (s sz i j : Nat)
  | er (cs : List D)
  | eb (s : Nat) (cs : List D)
inductive AV where
  | c (x : C)
  | ag (l : List C)
  | tu (l : List (Bool × List C))
structure Row where
  e : Nat
  sz : Nat
  els : List (List D)
structure St where
  env : Nat → AV
  rows : Nat → Option Row
  vars : Nat → Option (List C)
  gl : Nat → Option (List D)
/-- Ghosts: the blocks that are never written; the rows' headers; the variables' blocks. -/
structure Gh where
  F : Nat → Prop
  hv : Nat → Value
  ga : Nat → Nat

def readsAt (Φ : Nat → Prop) (w : World) (cs : List D) (v : Value) : Prop :=
  ∃ b o, v = .pointer (some ⟨b, o, none⟩) ∧ Φ b ∧ ∀ j, j < cs.length → ∃ u, w.cell? ⟨b, o + j, none⟩ = some u ∧ RC Φ w (cs.getD j dU) u
theorem readsAt.mono {Φ Ψ : Nat → Prop} {w : World} {cs : List D} {v : Value} (h : readsAt Φ w cs v) (hp : ∀ b, Φ b → Ψ b) : readsAt Ψ w cs v := by
  obtain ⟨b, o, h1, h2, h3⟩ := h
  exact ⟨b, o, h1, hp _ h2, fun j hj => let ⟨u, h4, h5⟩ := h3 j hj; ⟨u, h4, h5.mono hp⟩⟩
theorem readsAt.heap {Φ : Nat → Prop} {w w' : World} {cs : List D} {v : Value} (h : readsAt Φ w cs v) (hp : ∀ b, Φ b → w'.heap[b]? = w.heap[b]?) : readsAt Φ w' cs v := by
  obtain ⟨b, o, h1, h2, h3⟩ := h
  exact ⟨b, o, h1, h2, fun j hj => let ⟨u, h4, h5⟩ := h3 j hj; ⟨u, (World.cell?_of_block (w := w) (w' := w') (a := ⟨b, o + j, none⟩) (hp b h2)).trans h4, h5.heap hp⟩⟩

/-- The blocks that a view of row s may lead to. -/
def viewF (g : Gh) (s : Nat) : Nat → Prop := fun b => g.F b ∨ (g.hv s).ownBlock = some b

def relC (s : St) (g : Gh) (w : World) (c : C) (v : Value) : Prop :=
  match c with
  | .no => True
  | .und => v = undef
  | .d x => RC g.F w x v
  | .bw t x => (s.rows t).isSome = true → RC (viewF g t) w x v
  | .own t => (s.rows t).isSome = true → v = g.hv t
  | .nil _ _ => v = .slice none 0 0
  | .ptr t j => (s.vars t).isSome = true → v = .pointer (some ⟨g.ga t, j, none⟩)
  | .eo t sz i j => (s.rows t).isSome = true → ∃ b, (g.hv t).ownBlock = some b ∧ v = .pointer (some ⟨b, i * sz + j, none⟩)
  | .er cs => readsAt g.F w cs v
  | .eb t cs => (s.rows t).isSome = true → readsAt (viewF g t) w cs v
def relCs (s : St) (g : Gh) (w : World) (l : List C) (arr : Array Value) : Prop := arr.size = l.length ∧ ∀ j, j < l.length → relC s g w (l.getD j .no) (arr.getD j undef)
def relPart (s : St) (g : Gh) (w : World) (p : Bool × List C) (v : Value) : Prop :=
  match p.1 with
  | true => ∃ arr, v = .agg arr ∧ relCs s g w p.2 arr
  | false => relC s g w (p.2.getD 0 .no) v
def relAV (s : St) (g : Gh) (w : World) (x : AV) (v : Value) : Prop :=
  match x with
  | .c c => relC s g w c v
  | .ag l => ∃ arr, v = .agg arr ∧ relCs s g w l arr
  | .tu l => ∃ arr, v = .tuple arr ∧ arr.size = l.length ∧ ∀ j, j < l.length → relPart s g w (l.getD j (false, [])) (arr.getD j undef)
def rowOk (F : Nat → Prop) (w : World) (v : Value) (r : Row) : Prop :=
  ∃ xs, w.ownsRow 0 r.e r.sz v r.els.length xs ∧ 0 < r.sz ∧ ∀ i, i < r.els.length → (r.els.getD i []).length = r.sz ∧ ∀ j, j < r.sz → RC F w ((r.els.getD i []).getD j dU) (xs.getD (i * r.sz + j) undef)
def varOk (s : St) (g : Gh) (w : World) (b : Nat) (cs : List C) : Prop := ∃ arr T, w.heap[b]? = some (.cells arr T (0, 0)) ∧ relCs s g w cs arr

/-- The machine's frame and world are as the state says. w0: the world in which the activation began; own0: the blocks that it was handed to write. -/
structure Rel (w0 : World) (own0 : Nat → Prop) (s : St) (g : Gh) (a : Act) (w : World) : Prop where
  defers : a.defers = []
  os : w.os = w0.os
  tape : w.tape = w0.tape
  output : w.output = w0.output
  size : w0.heap.size ≤ w.heap.size
  frame : ∀ b, b < w0.heap.size → ¬ own0 b → w.heap[b]? = w0.heap[b]?
  lt : ∀ b, g.F b → b < w.heap.size
  rows : ∀ t r, s.rows t = some r → rowOk g.F w (g.hv t) r
  vars : ∀ t cs, s.vars t = some cs → varOk s g w (g.ga t) cs
  rowF : ∀ t r b, s.rows t = some r → (g.hv t).ownBlock = some b → ¬ g.F b ∧ (own0 b ∨ w0.heap.size ≤ b)
  varF : ∀ t cs, s.vars t = some cs → ¬ g.F (g.ga t) ∧ (own0 (g.ga t) ∨ w0.heap.size ≤ g.ga t)
  rr : ∀ t u rt ru b, t ≠ u → s.rows t = some rt → s.rows u = some ru → (g.hv t).ownBlock = some b → (g.hv u).ownBlock ≠ some b
  vv : ∀ t u ct cu, t ≠ u → s.vars t = some ct → s.vars u = some cu → g.ga t ≠ g.ga u
  rv : ∀ t u r c, s.rows t = some r → s.vars u = some c → (g.hv t).ownBlock ≠ some (g.ga u)
  env : ∀ j, relAV s g w (s.env j) (a.tmps.getD j undef)
  glob : ∀ k cs, s.gl k = some cs → readsAt g.F w cs (.pointer (some ⟨k, 0, none⟩))

/-! ### moving along -/
/-- The same blocks but those of M. -/
structure Keeps (w w' : World) (M : Nat → Prop) : Prop where
  os : w'.os = w.os
  tape : w'.tape = w.tape
  output : w'.output = w.output
  size : w.heap.size ≤ w'.heap.size
  heap : ∀ b, b < w.heap.size → ¬ M b → w'.heap[b]? = w.heap[b]?
theorem Keeps.refl (w : World) (M : Nat → Prop) : Keeps w w M := ⟨rfl, rfl, rfl, Nat.le_refl _, fun _ _ _ => rfl⟩
theorem Keeps.trans {a b c : World} {M : Nat → Prop} (h : Keeps a b M) (k : Keeps b c M) : Keeps a c M :=
  ⟨k.os.trans h.os, k.tape.trans h.tape, k.output.trans h.output, Nat.le_trans h.size k.size, fun x hx hm => (k.heap x (Nat.lt_of_lt_of_le hx h.size) hm).trans (h.heap x hx hm)⟩
theorem Keeps.mono {w w' : World} {M N : Nat → Prop} (h : Keeps w w' M) (hm : ∀ b, M b → N b) : Keeps w w' N := ⟨h.os, h.tape, h.output, h.size, fun b hb hn => h.heap b hb (fun hb' => hn (hm b hb'))⟩
theorem Keeps.alloc (w : World) (o : Obj) (M : Nat → Prop) : Keeps w (w.alloc o) M := ⟨rfl, rfl, rfl, by simp, fun b hb _ => heap_alloc_old w o hb⟩
theorem Keeps.grown {w w' : World} {row : Option Nat} (h : w.grownBy w' row) : Keeps w w' (fun b => row = some b) :=
  ⟨h.os, h.tape, h.output, h.size, fun b hb hm => h.block b hb (fun e => hm e.symm)⟩

/-- What is alive may die, ghosts of what lives stay, F may grow, blocks that nobody leads to may turn: a cell's relation stays. -/
structure Moves (s s' : St) (g g' : Gh) (w w' : World) : Prop where
  F : ∀ b, g.F b → g'.F b
  heapF : ∀ b, g.F b → w'.heap[b]? = w.heap[b]?
  rows : ∀ t, (s'.rows t).isSome = true → (s.rows t).isSome = true ∧ g'.hv t = g.hv t ∧ ∀ b, (g.hv t).ownBlock = some b → w'.heap[b]? = w.heap[b]?
  vars : ∀ t, (s'.vars t).isSome = true → (s.vars t).isSome = true ∧ g'.ga t = g.ga t
theorem Moves.view {s s' : St} {g g' : Gh} {w w' : World} (h : Moves s s' g g' w w') {t : Nat} (ht : (s'.rows t).isSome = true) : (∀ b, viewF g t b → viewF g' t b) ∧ ∀ b, viewF g t b → w'.heap[b]? = w.heap[b]? := by
  obtain ⟨h1, h2, h3⟩ := h.rows t ht
  refine ⟨fun b hb => ?_, fun b hb => ?_⟩
  · rcases hb with hb | hb
    · exact .inl (h.F b hb)
    · exact .inr (by rw [h2]; exact hb)
  · rcases hb with hb | hb
    · exact h.heapF b hb
    · exact h3 b hb
theorem relC.move {s s' : St} {g g' : Gh} {w w' : World} (h : Moves s s' g g' w w') {c : C} {v : Value} (hc : relC s g w c v) : relC s' g' w' c v := by
  cases c with
  | no => trivial
  | und => exact hc
  | d x => exact (RC.heap hc h.heapF).mono h.F
  | bw t x => exact fun ht => ((hc (h.rows t ht).1).heap (h.view ht).2).mono (h.view ht).1
  | own t => exact fun ht => (hc (h.rows t ht).1).trans (h.rows t ht).2.1.symm
  | nil e sz => exact hc
  | ptr t j => intro ht; have := hc (h.vars t ht).1; rw [(h.vars t ht).2]; exact this
  | eo t sz i j => intro ht; obtain ⟨b, h1, h2⟩ := hc (h.rows t ht).1; exact ⟨b, by rw [(h.rows t ht).2.1]; exact h1, h2⟩
  | er cs => exact (readsAt.heap hc h.heapF).mono h.F
  | eb t cs => exact fun ht => ((hc (h.rows t ht).1).heap (h.view ht).2).mono (h.view ht).1
theorem relCs.move {s s' : St} {g g' : Gh} {w w' : World} (h : Moves s s' g g' w w') {l : List C} {arr : Array Value} (hc : relCs s g w l arr) : relCs s' g' w' l arr :=
  ⟨hc.1, fun j hj => (hc.2 j hj).move h⟩
theorem relPart.move {s s' : St} {g g' : Gh} {w w' : World} (h : Moves s s' g g' w w') {p : Bool × List C} {v : Value} (hc : relPart s g w p v) : relPart s' g' w' p v := by
  obtain ⟨b, l⟩ := p
  cases b
  · exact relC.move h hc
  · obtain ⟨arr, h1, h2⟩ := hc; exact ⟨arr, h1, h2.move h⟩
theorem relAV.move {s s' : St} {g g' : Gh} {w w' : World} (h : Moves s s' g g' w w') {x : AV} {v : Value} (hc : relAV s g w x v) : relAV s' g' w' x v := by
  cases x with
  | c c => exact relC.move h hc
  | ag l => obtain ⟨arr, h1, h2⟩ := hc; exact ⟨arr, h1, h2.move h⟩
  | tu l => obtain ⟨arr, h1, h2, h3⟩ := hc; exact ⟨arr, h1, h2, fun j hj => (h3 j hj).move h⟩
theorem rowOk.move {F F' : Nat → Prop} {w w' : World} {v : Value} {r : Row} (h : rowOk F w v r) (hF : ∀ b, F b → F' b) (hf : ∀ b, F b → w'.heap[b]? = w.heap[b]?) (hb : ∀ b, v.ownBlock = some b → w'.heap[b]? = w.heap[b]?) : rowOk F' w' v r := by
  obtain ⟨xs, h1, h2, h3⟩ := h
  refine ⟨xs, ⟨h1.1, ?_⟩, h2, fun i hi => ⟨(h3 i hi).1, fun j hj => (((h3 i hi).2 j hj).heap hf).mono hF⟩⟩
  rcases h1.2 with h | ⟨b, cap, cur, rfl, k1, k2, k3⟩
  · exact .inl h
  · exact .inr ⟨b, cap, cur, rfl, k1, (hb b rfl).trans k2, k3⟩
end GV

set_option linter.unusedSimpArgs false
set_option linter.unusedVariables false
namespace GV
open Go

def upd {α : Type} (f : Nat → α) (i : Nat) (x : α) : Nat → α := fun j => if j = i then x else f j
theorem upd_same {α : Type} (f : Nat → α) (i : Nat) (x : α) : upd f i x i = x := by simp [upd]
theorem upd_ne {α : Type} (f : Nat → α) (i j : Nat) (x : α) (h : j ≠ i) : upd f i x j = f j := by simp [upd, h]

/-- Forget what speaks of row t. -/
def C.rmR (t : Nat) : C → C
  | .bw u x => if u = t then .no else .bw u x
  | .own u => if u = t then .no else .own u
  | .eo u sz i j => if u = t then .no else .eo u sz i j
  | .eb u cs => if u = t then .no else .eb u cs
  | c => c
def C.rmV (t : Nat) : C → C
  | .ptr u j => if u = t then .no else .ptr u j
  | c => c
/-- Row t is called u from now on. -/
def C.reR (t u : Nat) : C → C
  | .bw x y => if x = t then .bw u y else .bw x y
  | .own x => if x = t then .own u else .own x
  | .eo x sz i j => if x = t then .eo u sz i j else .eo x sz i j
  | .eb x cs => if x = t then .eb u cs else .eb x cs
  | c => c
/-- Row t is never written again: it reads as d. -/
def C.frR (t : Nat) (dd : D) : C → C
  | .own x => if x = t then .d dd else .own x
  | .bw x y => if x = t then .d y else .bw x y
  | .eb x cs => if x = t then .er cs else .eb x cs
  | c => c
def AV.map (f : C → C) : AV → AV
  | .c x => .c (f x)
  | .ag l => .ag (l.map f)
  | .tu l => .tu (l.map fun p => (p.1, p.2.map f))
def St.map (s : St) (f : C → C) : St := { env := fun j => (s.env j).map f, rows := s.rows, vars := fun t => (s.vars t).map (List.map f), gl := s.gl }
def St.put (s : St) (d : Nat) (x : AV) : St := { s with env := upd s.env d x }
def St.killR (s : St) (t : Nat) : St := { s with rows := upd s.rows t none }
def St.killV (s : St) (t : Nat) : St := { s with vars := upd s.vars t none }
def St.addR (s : St) (t : Nat) (r : Row) : St := { s.map (C.rmR t) with rows := upd s.rows t (some r) }
def St.addV (s : St) (t : Nat) (cs : List C) : St := { s.map (C.rmV t) with vars := upd (s.map (C.rmV t)).vars t (some (cs.map (C.rmV t))) }
def St.setV (s : St) (t : Nat) (cs : List C) : St := { s with vars := upd s.vars t (some cs) }

/-! ### a map that keeps what is known -/
theorem getD_map {α β : Type} (l : List α) (f : α → β) (j : Nat) (a : α) (h : j < l.length) (b : β) : (l.map f).getD j b = f (l.getD j a) := by
  simp [List.getD_eq_getElem?_getD, h]
theorem relCs.map {s s' : St} {g g' : Gh} {w w' : World} {f : C → C} (hf : ∀ c v, relC s g w c v → relC s' g' w' (f c) v) {l : List C} {arr : Array Value} (h : relCs s g w l arr) : relCs s' g' w' (l.map f) arr :=
  ⟨by simp [h.1], fun j hj => by rw [getD_map l f j .no (by simpa using hj)]; exact hf _ _ (h.2 j (by simpa using hj))⟩
theorem relPart.map {s s' : St} {g g' : Gh} {w w' : World} {f : C → C} (hf : ∀ c v, relC s g w c v → relC s' g' w' (f c) v) {p : Bool × List C} {v : Value} (h : relPart s g w p v) : relPart s' g' w' (p.1, p.2.map f) v := by
  obtain ⟨b, l⟩ := p
  cases b
  · show relC s' g' w' ((l.map f).getD 0 .no) v
    cases l with
    | nil => trivial
    | cons x l => exact hf _ _ h
  · obtain ⟨arr, h1, h2⟩ := h; exact ⟨arr, h1, h2.map hf⟩
theorem relAV.map {s s' : St} {g g' : Gh} {w w' : World} {f : C → C} (hf : ∀ c v, relC s g w c v → relC s' g' w' (f c) v) {x : AV} {v : Value} (h : relAV s g w x v) : relAV s' g' w' (x.map f) v := by
  cases x with
  | c c => exact hf _ _ h
  | ag l => obtain ⟨arr, h1, h2⟩ := h; exact ⟨arr, h1, h2.map hf⟩
  | tu l =>
    obtain ⟨arr, h1, h2, h3⟩ := h
    refine ⟨arr, h1, by simp [h2], fun j hj => ?_⟩
    have hj' : j < l.length := by simpa using hj
    show relPart s' g' w' ((l.map fun p => (p.1, p.2.map f)).getD j (false, [])) (arr.getD j undef)
    rw [getD_map l (fun p => (p.1, p.2.map f)) j (false, []) hj']
    exact (h3 j hj').map hf
theorem varOk.map {s s' : St} {g g' : Gh} {w w' : World} {f : C → C} (hf : ∀ c v, relC s g w c v → relC s' g' w' (f c) v) {b : Nat} {cs : List C} (h : varOk s g w b cs) (hb : w'.heap[b]? = w.heap[b]?) : varOk s' g' w' b (cs.map f) := by
  obtain ⟨arr, T, h1, h2⟩ := h
  exact ⟨arr, T, hb.trans h1, h2.map hf⟩
theorem varOk.move {s s' : St} {g g' : Gh} {w w' : World} (hm : Moves s s' g g' w w') {b : Nat} {cs : List C} (h : varOk s g w b cs) (hb : w'.heap[b]? = w.heap[b]?) : varOk s' g' w' b cs := by
  obtain ⟨arr, T, h1, h2⟩ := h
  exact ⟨arr, T, hb.trans h1, h2.move hm⟩

section
variable {w0 : World} {own0 : Nat → Prop} {s : St} {g : Gh} {a : Act} {w : World}

theorem Rel.eval (h : Rel w0 own0 s g a w) (t : Nat) : relAV s g w (s.env t) (a.eval (.tmp t)) := h.env t

theorem Rel.put (h : Rel w0 own0 s g a w) {d : Nat} {x : AV} {v : Value} (hd : d < a.tmps.size) (hx : relAV s g w x v) : Rel w0 own0 (s.put d x) g (a.put (some d) v) w where
  defers := h.defers
  os := h.os
  tape := h.tape
  output := h.output
  size := h.size
  frame := h.frame
  lt := h.lt
  rows := h.rows
  vars := h.vars
  rowF := h.rowF
  varF := h.varF
  rr := h.rr
  vv := h.vv
  rv := h.rv
  glob := h.glob
  env := fun j => by
    show relAV s g w (upd s.env d x j) ((a.tmps.setIfInBounds d v).getD j undef)
    by_cases e : j = d
    · subst e; rw [upd_same]
      have : (a.tmps.setIfInBounds j v).getD j undef = v := by simp [Array.getD_eq_getD_getElem?, hd]
      rw [this]; exact hx
    · rw [upd_ne _ _ _ _ e]
      have : (a.tmps.setIfInBounds d v).getD j undef = a.tmps.getD j undef := by
        simp [Array.getD_eq_getD_getElem?, Array.getElem?_setIfInBounds_ne (Ne.symm e)]
      rw [this]; exact h.env j

/-- A row or a variable is given up. -/
theorem Rel.killR (h : Rel w0 own0 s g a w) (t : Nat) : Rel w0 own0 (s.killR t) g a w := by
  have hs : ∀ u r, (s.killR t).rows u = some r → s.rows u = some r := by
    intro u r hu
    simp only [St.killR, upd] at hu
    split at hu
    · cases hu
    · exact hu
  have hm : Moves s (s.killR t) g g w w := ⟨fun _ h => h, fun _ _ => rfl, fun u hu => by
      obtain ⟨r, hr⟩ := Option.isSome_iff_exists.1 hu
      exact ⟨by rw [hs u r hr]; rfl, rfl, fun _ _ => rfl⟩, fun u hu => ⟨hu, rfl⟩⟩
  exact ⟨h.defers, h.os, h.tape, h.output, h.size, h.frame, h.lt, fun u r hu => h.rows u r (hs u r hu), fun u cs hu => (h.vars u cs hu).move hm rfl, fun u r b hu hb => h.rowF u r b (hs u r hu) hb, h.varF,
    fun u x ru rx b hne hu hx hb => h.rr u x ru rx b hne (hs u ru hu) (hs x rx hx) hb, h.vv, fun u x r c hu hx => h.rv u x r c (hs u r hu) hx, fun j => (h.env j).move hm, h.glob⟩
theorem Rel.killV (h : Rel w0 own0 s g a w) (t : Nat) : Rel w0 own0 (s.killV t) g a w := by
  have hs : ∀ u r, (s.killV t).vars u = some r → s.vars u = some r := by
    intro u r hu
    simp only [St.killV, upd] at hu
    split at hu
    · cases hu
    · exact hu
  have hm : Moves s (s.killV t) g g w w := ⟨fun _ h => h, fun _ _ => rfl, fun u hu => ⟨hu, rfl, fun _ _ => rfl⟩, fun u hu => by
      obtain ⟨r, hr⟩ := Option.isSome_iff_exists.1 hu
      exact ⟨by rw [hs u r hr]; rfl, rfl⟩⟩
  exact ⟨h.defers, h.os, h.tape, h.output, h.size, h.frame, h.lt, h.rows, fun u cs hu => (h.vars u cs (hs u cs hu)).move hm rfl, h.rowF, fun u cs hu => h.varF u cs (hs u cs hu),
    h.rr, fun u x cu cx hne hu hx => h.vv u x cu cx hne (hs u cu hu) (hs x cx hx), fun u x r c hu hx => h.rv u x r c hu (hs x c hx), fun j => (h.env j).move hm, h.glob⟩

/-- The world moves on; what turns is nobody's. -/
theorem Rel.keep {w' : World} {M : Nat → Prop} (h : Rel w0 own0 s g a w) (k : Keeps w w' M) (hF : ∀ b, M b → ¬ g.F b) (hr : ∀ t r b, s.rows t = some r → (g.hv t).ownBlock = some b → ¬ M b) (hv : ∀ t c, s.vars t = some c → ¬ M (g.ga t))
    (ho : ∀ b, M b → own0 b ∨ w0.heap.size ≤ b) : Rel w0 own0 s g a w' := by
  have hlt : ∀ t r b, s.rows t = some r → (g.hv t).ownBlock = some b → b < w.heap.size := by
    intro t r b ht hb
    obtain ⟨xs, h1, _⟩ := h.rows t r ht
    exact (h1.lt b hb).2
  have hvlt : ∀ t c, s.vars t = some c → g.ga t < w.heap.size := by
    intro t c ht
    obtain ⟨arr, T, h1, _⟩ := h.vars t c ht
    exact (Array.getElem?_eq_some_iff.1 h1).1
  have hFh : ∀ b, g.F b → w'.heap[b]? = w.heap[b]? := fun b hb => k.heap b (h.lt b hb) (fun hm => hF b hm hb)
  have hm : Moves s s g g w w' := ⟨fun _ h => h, hFh, fun t ht => by
      obtain ⟨r, hrr⟩ := Option.isSome_iff_exists.1 ht
      exact ⟨ht, rfl, fun b hb => k.heap b (hlt t r b hrr hb) (hr t r b hrr hb)⟩, fun t ht => ⟨ht, rfl⟩⟩
  exact ⟨h.defers, k.os.trans h.os, k.tape.trans h.tape, k.output.trans h.output, Nat.le_trans h.size k.size,
    fun b hb hn => (k.heap b (Nat.lt_of_lt_of_le hb h.size) (fun hm' => by rcases ho b hm' with h1 | h1; exact hn h1; omega)).trans (h.frame b hb hn),
    fun b hb => Nat.lt_of_lt_of_le (h.lt b hb) k.size,
    fun t r ht => (h.rows t r ht).move (fun _ h => h) hFh (fun b hb => k.heap b (hlt t r b ht hb) (hr t r b ht hb)),
    fun t c ht => (h.vars t c ht).move hm (k.heap _ (hvlt t c ht) (hv t c ht)),
    h.rowF, h.varF, h.rr, h.vv, h.rv, fun j => (h.env j).move hm, fun k cs hk => (h.glob k cs hk).heap hFh⟩
/-- A new block, a draw: nothing turns. -/
theorem Rel.grow {w' : World} (h : Rel w0 own0 s g a w) (k : Keeps w w' (fun _ => False)) : Rel w0 own0 s g a w' :=
  h.keep k (fun _ h => h.elim) (fun _ _ _ _ _ h => h) (fun _ _ _ h => h) (fun _ h => h.elim)

theorem relC.rmR {s' : St} {g' : Gh} (t : Nat) (hF : g'.F = g.F) (hr : ∀ u, u ≠ t → s'.rows u = s.rows u ∧ g'.hv u = g.hv u) (hv : ∀ u, (s'.vars u).isSome = true → (s.vars u).isSome = true ∧ g'.ga u = g.ga u) (c : C) (v : Value) (h : relC s g w c v) : relC s' g' w (c.rmR t) v := by
  have hview : ∀ u, u ≠ t → viewF g' u = viewF g u := fun u hu => by funext b; simp [viewF, hF, (hr u hu).2]
  cases c with
  | no => trivial
  | und => exact h
  | nil e sz => exact h
  | d x => show RC g'.F w x v; rw [hF]; exact h
  | er cs => show readsAt g'.F w cs v; rw [hF]; exact h
  | ptr u j => intro hu; rw [(hv u hu).2]; exact h (hv u hu).1
  | bw u x =>
    by_cases e : u = t
    · simp [C.rmR, e, relC]
    · simp only [C.rmR, if_neg e]; intro hu; rw [hview u e]; exact h (by rw [← (hr u e).1]; exact hu)
  | own u =>
    by_cases e : u = t
    · simp [C.rmR, e, relC]
    · simp only [C.rmR, if_neg e]; intro hu; rw [(hr u e).2]; exact h (by rw [← (hr u e).1]; exact hu)
  | eo u sz i j =>
    by_cases e : u = t
    · simp [C.rmR, e, relC]
    · simp only [C.rmR, if_neg e]; intro hu; rw [(hr u e).2]; exact h (by rw [← (hr u e).1]; exact hu)
  | eb u cs =>
    by_cases e : u = t
    · simp [C.rmR, e, relC]
    · simp only [C.rmR, if_neg e]; intro hu; rw [hview u e]; exact h (by rw [← (hr u e).1]; exact hu)

/-- A row of one's own comes up, under the name t (who bore it is forgotten). -/
theorem Rel.addR (h : Rel w0 own0 s g a w) (t : Nat) (r : Row) (v : Value) (hr : rowOk g.F w v r)
    (hb : ∀ b, v.ownBlock = some b → ¬ g.F b ∧ (own0 b ∨ w0.heap.size ≤ b) ∧ (∀ u ru, u ≠ t → s.rows u = some ru → (g.hv u).ownBlock ≠ some b) ∧ ∀ u c, s.vars u = some c → g.ga u ≠ b) :
    Rel w0 own0 (s.addR t r) { g with hv := upd g.hv t v } a w := by
  have hmap : ∀ c v', relC s g w c v' → relC (s.addR t r) { g with hv := upd g.hv t v } w (c.rmR t) v' :=
    relC.rmR t rfl (fun u hu => ⟨upd_ne _ _ _ _ hu, upd_ne _ _ _ _ hu⟩) (fun u hu => ⟨by
      simp only [St.addR, St.map] at hu
      cases hs : s.vars u with
      | none => simp [hs] at hu
      | some c => rfl, rfl⟩)
  have hrows : ∀ u ru, (s.addR t r).rows u = some ru → (u = t ∧ ru = r) ∨ (u ≠ t ∧ s.rows u = some ru) := by
    intro u ru hu
    by_cases e : u = t
    · subst e; simp only [St.addR, upd_same, Option.some.injEq] at hu; exact .inl ⟨rfl, hu.symm⟩
    · simp only [St.addR, upd_ne _ _ _ _ e] at hu; exact .inr ⟨e, hu⟩
  have hvars : ∀ u c, (s.addR t r).vars u = some c → ∃ c', s.vars u = some c' ∧ c = c'.map (C.rmR t) := by
    intro u c hu
    simp only [St.addR, St.map, Option.map_eq_some_iff] at hu
    obtain ⟨c', h1, h2⟩ := hu
    exact ⟨c', h1, h2.symm⟩
  refine ⟨h.defers, h.os, h.tape, h.output, h.size, h.frame, h.lt, fun u ru hu => ?_, fun u c hu => ?_, fun u ru b hu hbb => ?_, fun u c hu => ?_, fun u x ru rx b hne hu hx hbb => ?_, fun u x cu cx hne hu hx => ?_, fun u x ru c hu hx => ?_, fun j => (h.env j).map hmap, h.glob⟩
  · rcases hrows u ru hu with ⟨rfl, rfl⟩ | ⟨e, hu'⟩
    · simp only [upd_same]; exact hr
    · simp only [upd_ne _ _ _ _ e]; exact h.rows u ru hu'
  · obtain ⟨c', h1, rfl⟩ := hvars u c hu
    exact (h.vars u c' h1).map hmap rfl
  · rcases hrows u ru hu with ⟨rfl, rfl⟩ | ⟨e, hu'⟩
    · simp only [upd_same] at hbb; exact ⟨(hb b hbb).1, (hb b hbb).2.1⟩
    · simp only [upd_ne _ _ _ _ e] at hbb; exact h.rowF u ru b hu' hbb
  · obtain ⟨c', h1, rfl⟩ := hvars u c hu
    exact h.varF u c' h1
  · rcases hrows u ru hu with ⟨rfl, rfl⟩ | ⟨e, hu'⟩ <;> rcases hrows x rx hx with ⟨rfl, rfl⟩ | ⟨e', hx'⟩
    · exact absurd rfl hne
    · simp only [upd_same] at hbb; simp only [upd_ne _ _ _ _ e']; exact (hb b hbb).2.2.1 x rx e' hx'
    · simp only [upd_same]; simp only [upd_ne _ _ _ _ e] at hbb
      intro hc; exact (hb b hc).2.2.1 u ru e hu' hbb
    · simp only [upd_ne _ _ _ _ e] at hbb; simp only [upd_ne _ _ _ _ e']; exact h.rr u x ru rx b hne hu' hx' hbb
  · obtain ⟨c1, h1, rfl⟩ := hvars u cu hu
    obtain ⟨c2, h2, rfl⟩ := hvars x cx hx
    exact h.vv u x c1 c2 hne h1 h2
  · obtain ⟨c1, h1, rfl⟩ := hvars x c hx
    rcases hrows u ru hu with ⟨rfl, rfl⟩ | ⟨e, hu'⟩
    · simp only [upd_same]; intro hc; exact (hb _ hc).2.2.2 x c1 h1 rfl
    · simp only [upd_ne _ _ _ _ e]; exact h.rv u x ru c1 hu' h1
end
end GV

set_option linter.unusedSimpArgs false
set_option linter.unusedVariables false
namespace GV
open Go

/-- Views of row t are forgotten: it is written. -/
def C.rmB (t : Nat) : C → C
  | .bw u x => if u = t then .no else .bw u x
  | .eb u cs => if u = t then .no else .eb u cs
  | c => c
def St.setR (s : St) (t : Nat) (r : Row) : St := { s.map (C.rmB t) with rows := upd s.rows t (some r) }
def St.frR (s : St) (t : Nat) (r : Row) : St := { s.map (C.frR t (.sl r.sz r.els)) with rows := upd s.rows t none }
def St.reR (s : St) (t u : Nat) : St := { s.map (fun c => (c.rmR u).reR t u) with rows := upd (upd s.rows t none) u (s.rows t) }

theorem rowOk.reads {F Ψ : Nat → Prop} {w : World} {v : Value} {r : Row} (h : rowOk F w v r) (hF : ∀ b, F b → Ψ b) (hb : ∀ b, v.ownBlock = some b → Ψ b) : RC Ψ w (.sl r.sz r.els) v := by
  obtain ⟨xs, h1, h2, h3⟩ := h
  rcases h1.2 with ⟨rfl, h0⟩ | ⟨b, cap, cur, rfl, k1, k2, k3, k4, k5, k6⟩
  · have : r.els = [] := List.eq_nil_of_length_eq_zero h0
    rw [this]; exact .nil _ _ _
  · refine .sl r.sz r.els b 0 cap (fun i j => xs.getD (i * r.sz + j) undef) (hb b rfl) k3 (fun i hi => (h3 i hi).1) (fun i j hi hj => ?_) (fun i j hi hj => ((h3 i hi).2 j hj).mono hF)
    have hlt : i * r.sz + j < xs.length := by
      rw [h1.1]
      have : (i + 1) * r.sz ≤ r.els.length * r.sz := Nat.mul_le_mul_right _ hi
      rw [Nat.add_mul, Nat.one_mul] at this
      omega
    have := h1.cells (g := b) rfl (i * r.sz + j) (xs.getD (i * r.sz + j) undef) (by rw [List.getD_eq_getElem?_getD, List.getElem?_eq_getElem hlt]; rfl)
    have ha : (⟨b, 0, none⟩ : Addr).add (i * r.sz + j) = ⟨b, 0 + (i * r.sz + j), none⟩ := by unfold Addr.add; split <;> simp_all
    rwa [ha] at this

section
variable {w0 : World} {own0 : Nat → Prop} {s : St} {g : Gh} {a : Act} {w : World}

theorem relC.rmV {s' : St} {g' : Gh} (t : Nat) (hF : g'.F = g.F) (hh : g'.hv = g.hv) (hr : s'.rows = s.rows) (hv : ∀ u, u ≠ t → (s'.vars u).isSome = true → (s.vars u).isSome = true ∧ g'.ga u = g.ga u) (c : C) (v : Value) (h : relC s g w c v) : relC s' g' w (c.rmV t) v := by
  have hview : ∀ u, viewF g' u = viewF g u := fun u => by funext b; simp [viewF, hF, hh]
  cases c with
  | no => trivial
  | und => exact h
  | nil e sz => exact h
  | d x => show RC g'.F w x v; rw [hF]; exact h
  | er cs => show readsAt g'.F w cs v; rw [hF]; exact h
  | ptr u j =>
    by_cases e : u = t
    · simp [C.rmV, e, relC]
    · simp only [C.rmV, if_neg e]; intro hu; rw [(hv u e hu).2]; exact h (hv u e hu).1
  | bw u x => intro hu; rw [hview u]; exact h (by rw [← hr]; exact hu)
  | own u => intro hu; rw [hh]; exact h (by rw [← hr]; exact hu)
  | eo u sz i j => intro hu; rw [hh]; exact h (by rw [← hr]; exact hu)
  | eb u cs => intro hu; rw [hview u]; exact h (by rw [← hr]; exact hu)

/-- A variable in a block of its own comes up, under the name t. -/
theorem Rel.addV (h : Rel w0 own0 s g a w) (t : Nat) (b : Nat) (cs : List C) (arr : Array Value) (T : TypeId) (hb : w.heap[b]? = some (.cells arr T (0, 0))) (hc : relCs s g w cs arr)
    (hF : ¬ g.F b) (ho : own0 b ∨ w0.heap.size ≤ b) (hr : ∀ u r, s.rows u = some r → (g.hv u).ownBlock ≠ some b) (hv : ∀ u c, u ≠ t → s.vars u = some c → g.ga u ≠ b) :
    Rel w0 own0 (s.addV t cs) { g with ga := upd g.ga t b } a w := by
  have hsome : ∀ u c, u ≠ t → (s.addV t cs).vars u = some c → ∃ c', s.vars u = some c' ∧ c = c'.map (C.rmV t) := by
    intro u c e hu
    simp only [St.addV, upd_ne _ _ _ _ e, St.map, Option.map_eq_some_iff] at hu
    obtain ⟨c', h1, h2⟩ := hu
    exact ⟨c', h1, h2.symm⟩
  have hmap : ∀ c v', relC s g w c v' → relC (s.addV t cs) { g with ga := upd g.ga t b } w (c.rmV t) v' :=
    relC.rmV t rfl rfl rfl (fun u e hu => by
      obtain ⟨c, hc⟩ := Option.isSome_iff_exists.1 hu
      obtain ⟨c', h1, _⟩ := hsome u c e hc
      exact ⟨by rw [h1]; rfl, upd_ne _ _ _ _ e⟩)
  have hself : (s.addV t cs).vars t = some (cs.map (C.rmV t)) := by simp [St.addV, upd_same]
  refine ⟨h.defers, h.os, h.tape, h.output, h.size, h.frame, h.lt, h.rows, fun u c hu => ?_, h.rowF, fun u c hu => ?_, h.rr, fun u x cu cx hne hu hx => ?_, fun u x r c hu hx => ?_, fun j => (h.env j).map hmap, h.glob⟩
  · by_cases e : u = t
    · subst e
      rw [hself] at hu; cases hu
      simp only [upd_same]
      exact ⟨arr, T, hb, hc.map hmap⟩
    · obtain ⟨c', h1, rfl⟩ := hsome u c e hu
      simp only [upd_ne _ _ _ _ e]
      exact (h.vars u c' h1).map hmap rfl
  · by_cases e : u = t
    · subst e; simp only [upd_same]; exact ⟨hF, ho⟩
    · obtain ⟨c', h1, rfl⟩ := hsome u c e hu
      simp only [upd_ne _ _ _ _ e]; exact h.varF u c' h1
  · by_cases e : u = t
    · subst e
      obtain ⟨c', h1, _⟩ := hsome x cx (Ne.symm hne) hx
      simp only [upd_same, upd_ne _ _ _ _ (Ne.symm hne)]; exact Ne.symm (hv x c' (Ne.symm hne) h1)
    · obtain ⟨c', h1, _⟩ := hsome u cu e hu
      by_cases e' : x = t
      · subst e'; simp only [upd_same, upd_ne _ _ _ _ e]; exact hv u c' e h1
      · obtain ⟨c2, h2, _⟩ := hsome x cx e' hx
        simp only [upd_ne _ _ _ _ e, upd_ne _ _ _ _ e']; exact h.vv u x c' c2 hne h1 h2
  · by_cases e : x = t
    · subst e; simp only [upd_same]; exact hr u r hu
    · obtain ⟨c', h1, _⟩ := hsome x c e hx
      simp only [upd_ne _ _ _ _ e]; exact h.rv u x r c' hu h1

/-- A variable's cells are written. -/
theorem Rel.setV {w' : World} (h : Rel w0 own0 s g a w) (t : Nat) (cs cs' : List C) (ht : s.vars t = some cs) (k : Keeps w w' (fun b => b = g.ga t)) (hv : varOk s g w' (g.ga t) cs') : Rel w0 own0 (s.setV t cs') g a w' := by
  have hlt : ∀ u r b, s.rows u = some r → (g.hv u).ownBlock = some b → b < w.heap.size := by
    intro u r b hu hb
    obtain ⟨xs, h1, _⟩ := h.rows u r hu
    exact (h1.lt b hb).2
  have hvlt : ∀ u c, s.vars u = some c → g.ga u < w.heap.size := by
    intro u c hu
    obtain ⟨arr, T, h1, _⟩ := h.vars u c hu
    exact (Array.getElem?_eq_some_iff.1 h1).1
  have hrow : ∀ u r b, s.rows u = some r → (g.hv u).ownBlock = some b → w'.heap[b]? = w.heap[b]? := fun u r b hu hb => k.heap b (hlt u r b hu hb) (fun e => h.rv u t r cs hu ht (by rw [hb, e]))
  have hFh : ∀ b, g.F b → w'.heap[b]? = w.heap[b]? := fun b hb => k.heap b (h.lt b hb) (fun e => (h.varF t cs ht).1 (by rw [← e]; exact hb))
  have hsome : ∀ u c, (s.setV t cs').vars u = some c → (u = t ∧ c = cs') ∨ (u ≠ t ∧ s.vars u = some c) := by
    intro u c hu
    by_cases e : u = t
    · subst e; simp only [St.setV, upd_same, Option.some.injEq] at hu; exact .inl ⟨rfl, hu.symm⟩
    · simp only [St.setV, upd_ne _ _ _ _ e] at hu; exact .inr ⟨e, hu⟩
  have hal : ∀ u c, (s.setV t cs').vars u = some c → ∃ c', s.vars u = some c' := by
    intro u c hu
    rcases hsome u c hu with ⟨rfl, _⟩ | ⟨_, h1⟩
    · exact ⟨cs, ht⟩
    · exact ⟨c, h1⟩
  have hm : Moves s (s.setV t cs') g g w w' := ⟨fun _ h => h, hFh, fun u hu => by
      obtain ⟨r, hrr⟩ := Option.isSome_iff_exists.1 hu
      exact ⟨hu, rfl, fun b hb => hrow u r b hrr hb⟩, fun u hu => by
      obtain ⟨c, hc⟩ := Option.isSome_iff_exists.1 hu
      obtain ⟨c', h1⟩ := hal u c hc
      exact ⟨by rw [h1]; rfl, rfl⟩⟩
  have hm' : Moves s (s.setV t cs') g g w' w' := ⟨fun _ h => h, fun _ _ => rfl, fun u hu => ⟨hu, rfl, fun _ _ => rfl⟩, hm.vars⟩
  refine ⟨h.defers, k.os.trans h.os, k.tape.trans h.tape, k.output.trans h.output, Nat.le_trans h.size k.size, fun b hb hn => ?_, fun b hb => Nat.lt_of_lt_of_le (h.lt b hb) k.size,
    fun u r hu => (h.rows u r hu).move (fun _ h => h) hFh (fun b hb => hrow u r b hu hb), fun u c hu => ?_, h.rowF, fun u c hu => ?_, h.rr, fun u x cu cx hne hu hx => ?_, fun u x r c hu hx => ?_, fun j => (h.env j).move hm, fun k cs hk => (h.glob k cs hk).heap hFh⟩
  · refine (k.heap b (Nat.lt_of_lt_of_le hb h.size) (fun e => ?_)).trans (h.frame b hb hn)
    rcases (h.varF t cs ht).2 with h1 | h1
    · rw [← e] at h1; exact hn h1
    · rw [← e] at h1; omega
  · rcases hsome u c hu with ⟨rfl, rfl⟩ | ⟨e, h1⟩
    · exact hv.move hm' rfl
    · exact (h.vars u c h1).move hm (k.heap _ (hvlt u c h1) (fun e' => h.vv u t c cs e h1 ht e'))
  · obtain ⟨c', h1⟩ := hal u c hu; exact h.varF u c' h1
  · obtain ⟨c1, h1⟩ := hal u cu hu
    obtain ⟨c2, h2⟩ := hal x cx hx
    exact h.vv u x c1 c2 hne h1 h2
  · obtain ⟨c1, h1⟩ := hal x c hx
    exact h.rv u x r c1 hu h1

/-- A row's elements are written in place. -/
theorem Rel.setR {w' : World} (h : Rel w0 own0 s g a w) (t : Nat) (r r' : Row) (ht : s.rows t = some r) (k : Keeps w w' (fun b => (g.hv t).ownBlock = some b)) (hv : rowOk g.F w' (g.hv t) r') : Rel w0 own0 (s.setR t r') g a w' := by
  have hlt : ∀ u r b, s.rows u = some r → (g.hv u).ownBlock = some b → b < w.heap.size := by
    intro u r b hu hb
    obtain ⟨xs, h1, _⟩ := h.rows u r hu
    exact (h1.lt b hb).2
  have hvlt : ∀ u c, s.vars u = some c → g.ga u < w.heap.size := by
    intro u c hu
    obtain ⟨arr, T, h1, _⟩ := h.vars u c hu
    exact (Array.getElem?_eq_some_iff.1 h1).1
  have hrow : ∀ u ru b, u ≠ t → s.rows u = some ru → (g.hv u).ownBlock = some b → w'.heap[b]? = w.heap[b]? := fun u ru b e hu hb => k.heap b (hlt u ru b hu hb) (fun hc => h.rr u t ru r b e hu ht hb hc)
  have hFh : ∀ b, g.F b → w'.heap[b]? = w.heap[b]? := fun b hb => k.heap b (h.lt b hb) (fun hc => (h.rowF t r b ht hc).1 hb)
  have hsome : ∀ u c, (s.setR t r').rows u = some c → (u = t ∧ c = r') ∨ (u ≠ t ∧ s.rows u = some c) := by
    intro u c hu
    by_cases e : u = t
    · subst e; simp only [St.setR, upd_same, Option.some.injEq] at hu; exact .inl ⟨rfl, hu.symm⟩
    · simp only [St.setR, upd_ne _ _ _ _ e] at hu; exact .inr ⟨e, hu⟩
  have hal : ∀ u c, (s.setR t r').rows u = some c → ∃ c', s.rows u = some c' := by
    intro u c hu
    rcases hsome u c hu with ⟨rfl, _⟩ | ⟨_, h1⟩
    · exact ⟨r, ht⟩
    · exact ⟨c, h1⟩
  have hvars : ∀ u c, (s.setR t r').vars u = some c → ∃ c', s.vars u = some c' ∧ c = c'.map (C.rmB t) := by
    intro u c hu
    simp only [St.setR, St.map, Option.map_eq_some_iff] at hu
    obtain ⟨c', h1, h2⟩ := hu
    exact ⟨c', h1, h2.symm⟩
  have hview : ∀ u ru, u ≠ t → s.rows u = some ru → ∀ b, viewF g u b → w'.heap[b]? = w.heap[b]? := by
    intro u ru e hu b hb
    rcases hb with hb | hb
    · exact hFh b hb
    · exact hrow u ru b e hu hb
  have hmap : ∀ c v', relC s g w c v' → relC (s.setR t r') g w' (c.rmB t) v' := by
    intro c v' hc
    have ex : ∀ u, ((s.setR t r').rows u).isSome = true → ∃ ru, s.rows u = some ru := fun u hu => by
      obtain ⟨c, hc⟩ := Option.isSome_iff_exists.1 hu; exact hal u c hc
    cases c with
    | no => trivial
    | und => exact hc
    | nil e sz => exact hc
    | d x => exact RC.heap hc hFh
    | er cs => exact readsAt.heap hc hFh
    | ptr u j =>
      intro hu
      obtain ⟨c, hc'⟩ := Option.isSome_iff_exists.1 hu
      obtain ⟨c', h1, _⟩ := hvars u c hc'
      exact hc (by rw [h1]; rfl)
    | own u => intro hu; obtain ⟨ru, h1⟩ := ex u hu; exact hc (by rw [h1]; rfl)
    | eo u sz i j => intro hu; obtain ⟨ru, h1⟩ := ex u hu; exact hc (by rw [h1]; rfl)
    | bw u x =>
      by_cases e : u = t
      · simp [C.rmB, e, relC]
      · simp only [C.rmB, if_neg e]; intro hu; obtain ⟨ru, h1⟩ := ex u hu
        exact RC.heap (hc (by rw [h1]; rfl)) (hview u ru e h1)
    | eb u x =>
      by_cases e : u = t
      · simp [C.rmB, e, relC]
      · simp only [C.rmB, if_neg e]; intro hu; obtain ⟨ru, h1⟩ := ex u hu
        exact readsAt.heap (hc (by rw [h1]; rfl)) (hview u ru e h1)
  refine ⟨h.defers, k.os.trans h.os, k.tape.trans h.tape, k.output.trans h.output, Nat.le_trans h.size k.size, fun b hb hn => ?_, fun b hb => Nat.lt_of_lt_of_le (h.lt b hb) k.size,
    fun u c hu => ?_, fun u c hu => ?_, fun u c b hu hb => ?_, fun u c hu => ?_, fun u x cu cx b hne hu hx hb => ?_, fun u x cu cx hne hu hx => ?_, fun u x ru c hu hx => ?_, fun j => (h.env j).map hmap, fun k cs hk => (h.glob k cs hk).heap hFh⟩
  · refine (k.heap b (Nat.lt_of_lt_of_le hb h.size) (fun e => ?_)).trans (h.frame b hb hn)
    rcases (h.rowF t r b ht e).2 with h1 | h1
    · exact hn h1
    · omega
  · rcases hsome u c hu with ⟨rfl, rfl⟩ | ⟨e, h1⟩
    · exact hv
    · exact (h.rows u c h1).move (fun _ h => h) hFh (fun b hb => hrow u c b e h1 hb)
  · obtain ⟨c', h1, rfl⟩ := hvars u c hu
    exact (h.vars u c' h1).map hmap (k.heap _ (hvlt u c' h1) (h.rv t u r c' ht h1))
  · obtain ⟨c', h1⟩ := hal u c hu; exact h.rowF u c' b h1 hb
  · obtain ⟨c', h1, rfl⟩ := hvars u c hu; exact h.varF u c' h1
  · obtain ⟨c1, h1⟩ := hal u cu hu
    obtain ⟨c2, h2⟩ := hal x cx hx
    exact h.rr u x c1 c2 b hne h1 h2 hb
  · obtain ⟨c1, h1, rfl⟩ := hvars u cu hu
    obtain ⟨c2, h2, rfl⟩ := hvars x cx hx
    exact h.vv u x c1 c2 hne h1 h2
  · obtain ⟨c1, h1⟩ := hal u ru hu
    obtain ⟨c2, h2, rfl⟩ := hvars x c hx
    exact h.rv u x c1 c2 h1 h2

theorem relC.frR (h : Rel w0 own0 s g a w) (t : Nat) (r : Row) (ht : s.rows t = some r) :
    ∀ c v', relC s g w c v' → relC (s.frR t r) { g with F := fun b => g.F b ∨ (g.hv t).ownBlock = some b } w (c.frR t (.sl r.sz r.els)) v' := by
  have hsome : ∀ u c, (s.frR t r).rows u = some c → u ≠ t ∧ s.rows u = some c := by
    intro u c hu
    by_cases e : u = t
    · subst e; simp [St.frR, upd_same] at hu
    · simp only [St.frR, upd_ne _ _ _ _ e] at hu; exact ⟨e, hu⟩
  have hvars : ∀ u c, (s.frR t r).vars u = some c → ∃ c', s.vars u = some c' ∧ c = c'.map (C.frR t (.sl r.sz r.els)) := by
    intro u c hu
    simp only [St.frR, St.map, Option.map_eq_some_iff] at hu
    obtain ⟨c', h1, h2⟩ := hu
    exact ⟨c', h1, h2.symm⟩
  have tt : (s.rows t).isSome = true := by rw [ht]; rfl
  have hview : ∀ u b, viewF g u b → viewF { g with F := fun b => g.F b ∨ (g.hv t).ownBlock = some b } u b := by
    intro u b hb
    rcases hb with hb | hb
    · exact .inl (.inl hb)
    · exact .inr hb
  intro c v' hc
  have ex : ∀ u, ((s.frR t r).rows u).isSome = true → (s.rows u).isSome = true := fun u hu => by
    obtain ⟨c, hc⟩ := Option.isSome_iff_exists.1 hu; rw [(hsome u c hc).2]; rfl
  cases c with
  | no => trivial
  | und => exact hc
  | nil e sz => exact hc
  | d x => exact RC.mono hc (fun b hb => .inl hb)
  | er cs => exact readsAt.mono hc (fun b hb => .inl hb)
  | ptr u j =>
    intro hu
    obtain ⟨c, hc'⟩ := Option.isSome_iff_exists.1 hu
    obtain ⟨c', h1, _⟩ := hvars u c hc'
    exact hc (by rw [h1]; rfl)
  | eo u sz i j => exact fun hu => hc (ex u hu)
  | own u =>
    by_cases e : u = t
    · subst e
      simp only [C.frR, if_true, relC]
      rw [hc tt]
      exact (h.rows u r ht).reads (fun b hb => .inl hb) (fun b hb => .inr hb)
    · simp only [C.frR, if_neg e]; exact fun hu => hc (ex u hu)
  | bw u x =>
    by_cases e : u = t
    · subst e
      simp only [C.frR, if_true, relC]
      exact RC.mono (hc tt) (fun b hb => hb)
    · simp only [C.frR, if_neg e]; exact fun hu => RC.mono (hc (ex u hu)) (hview u)
  | eb u x =>
    by_cases e : u = t
    · subst e
      simp only [C.frR, if_true, relC]
      exact readsAt.mono (hc tt) (fun b hb => hb)
    · simp only [C.frR, if_neg e]; exact fun hu => readsAt.mono (hc (ex u hu)) (hview u)

/-- A row is never written again. -/
theorem Rel.frR (h : Rel w0 own0 s g a w) (t : Nat) (r : Row) (ht : s.rows t = some r) : Rel w0 own0 (s.frR t r) { g with F := fun b => g.F b ∨ (g.hv t).ownBlock = some b } a w := by
  have hsome : ∀ u c, (s.frR t r).rows u = some c → u ≠ t ∧ s.rows u = some c := by
    intro u c hu
    by_cases e : u = t
    · subst e; simp [St.frR, upd_same] at hu
    · simp only [St.frR, upd_ne _ _ _ _ e] at hu; exact ⟨e, hu⟩
  have hvars : ∀ u c, (s.frR t r).vars u = some c → ∃ c', s.vars u = some c' ∧ c = c'.map (C.frR t (.sl r.sz r.els)) := by
    intro u c hu
    simp only [St.frR, St.map, Option.map_eq_some_iff] at hu
    obtain ⟨c', h1, h2⟩ := hu
    exact ⟨c', h1, h2.symm⟩
  have tt : (s.rows t).isSome = true := by rw [ht]; rfl
  have hview : ∀ u b, viewF g u b → viewF { g with F := fun b => g.F b ∨ (g.hv t).ownBlock = some b } u b := by
    intro u b hb
    rcases hb with hb | hb
    · exact .inl (.inl hb)
    · exact .inr hb
  have hmap := relC.frR h t r ht
  refine ⟨h.defers, h.os, h.tape, h.output, h.size, h.frame, fun b hb => ?_, fun u c hu => ?_, fun u c hu => ?_, fun u c b hu hb => ?_, fun u c hu => ?_, fun u x cu cx b hne hu hx hb => ?_, fun u x cu cx hne hu hx => ?_, fun u x ru c hu hx => ?_, fun j => (h.env j).map hmap, fun k cs hk => (h.glob k cs hk).mono (fun b hb => .inl hb)⟩
  · rcases hb with hb | hb
    · exact h.lt b hb
    · obtain ⟨xs, h1, _⟩ := h.rows t r ht
      exact (h1.lt b hb).2
  · exact (h.rows u c (hsome u c hu).2).move (fun b hb => .inl hb) (fun _ _ => rfl) (fun _ _ => rfl)
  · obtain ⟨c', h1, rfl⟩ := hvars u c hu
    exact (h.vars u c' h1).map hmap rfl
  · obtain ⟨e, h1⟩ := hsome u c hu
    refine ⟨fun hc => ?_, (h.rowF u c b h1 hb).2⟩
    rcases hc with hc | hc
    · exact (h.rowF u c b h1 hb).1 hc
    · exact h.rr u t c r b e h1 ht hb hc
  · obtain ⟨c', h1, rfl⟩ := hvars u c hu
    refine ⟨fun hc => ?_, (h.varF u c' h1).2⟩
    rcases hc with hc | hc
    · exact (h.varF u c' h1).1 hc
    · exact h.rv t u r c' ht h1 hc
  · exact h.rr u x cu cx b hne (hsome u cu hu).2 (hsome x cx hx).2 hb
  · obtain ⟨c1, h1, rfl⟩ := hvars u cu hu
    obtain ⟨c2, h2, rfl⟩ := hvars x cx hx
    exact h.vv u x c1 c2 hne h1 h2
  · obtain ⟨c2, h2, rfl⟩ := hvars x c hx
    exact h.rv u x ru c2 (hsome u ru hu).2 h2

theorem relC.reR (h : Rel w0 own0 s g a w) (t u : Nat) (r : Row) (htu : t ≠ u) (ht : s.rows t = some r) :
    ∀ c v', relC s g w c v' → relC (s.reR t u) { g with hv := upd g.hv u (g.hv t) } w ((c.rmR u).reR t u) v' := by
  have hsome : ∀ x c, (s.reR t u).rows x = some c → (x = u ∧ c = r) ∨ (x ≠ u ∧ x ≠ t ∧ s.rows x = some c) := by
    intro x c hx
    by_cases e : x = u
    · subst e; simp only [St.reR, upd_same] at hx; rw [ht] at hx; exact .inl ⟨rfl, (Option.some.inj hx).symm⟩
    · simp only [St.reR, upd_ne _ _ _ _ e] at hx
      by_cases e' : x = t
      · subst e'; simp [upd_same] at hx
      · rw [upd_ne _ _ _ _ e'] at hx; exact .inr ⟨e, e', hx⟩
  have hvars : ∀ x c, (s.reR t u).vars x = some c → ∃ c', s.vars x = some c' ∧ c = c'.map (fun c => (c.rmR u).reR t u) := by
    intro x c hx
    simp only [St.reR, St.map, Option.map_eq_some_iff] at hx
    obtain ⟨c', h1, h2⟩ := hx
    exact ⟨c', h1, h2.symm⟩
  have tt : (s.rows t).isSome = true := by rw [ht]; rfl
  have ex : ∀ x, x ≠ u → ((s.reR t u).rows x).isSome = true → x ≠ t ∧ (s.rows x).isSome = true := fun x e hx => by
    obtain ⟨c, hc⟩ := Option.isSome_iff_exists.1 hx
    rcases hsome x c hc with ⟨h1, _⟩ | ⟨_, h2, h3⟩
    · exact absurd h1 e
    · exact ⟨h2, by rw [h3]; rfl⟩
  have vu : viewF { g with hv := upd g.hv u (g.hv t) } u = viewF g t := by funext b; simp [viewF, upd_same]
  have vx : ∀ x, x ≠ u → viewF { g with hv := upd g.hv u (g.hv t) } x = viewF g x := fun x e => by funext b; simp [viewF, upd_ne _ _ _ _ e]
  intro c v' hc
  cases c with
  | no => trivial
  | und => exact hc
  | nil e sz => exact hc
  | d x => exact hc
  | er cs => exact hc
  | ptr x j =>
    intro hx
    obtain ⟨c, hc'⟩ := Option.isSome_iff_exists.1 hx
    obtain ⟨c', h1, _⟩ := hvars x c hc'
    exact hc (by rw [h1]; rfl)
  | own x =>
    by_cases e : x = u
    · subst e; simp [C.rmR, C.reR, relC]
    · by_cases e' : x = t
      · subst e'; simp only [C.rmR, if_neg e, C.reR, if_true]; intro _; rw [hc tt]; exact (upd_same _ _ _).symm
      · simp only [C.rmR, if_neg e, C.reR, if_neg e']; intro hx; rw [hc (ex x e hx).2]; exact (upd_ne _ _ _ _ e).symm
  | eo x sz i j =>
    by_cases e : x = u
    · subst e; simp [C.rmR, C.reR, relC]
    · by_cases e' : x = t
      · subst e'; simp only [C.rmR, if_neg e, C.reR, if_true]; intro _; obtain ⟨b, h1, h2⟩ := hc tt; exact ⟨b, by simp only [upd_same]; exact h1, h2⟩
      · simp only [C.rmR, if_neg e, C.reR, if_neg e']; intro hx; obtain ⟨b, h1, h2⟩ := hc (ex x e hx).2; exact ⟨b, by simp only [upd_ne _ _ _ _ e]; exact h1, h2⟩
  | bw x y =>
    by_cases e : x = u
    · subst e; simp [C.rmR, C.reR, relC]
    · by_cases e' : x = t
      · subst e'; simp only [C.rmR, if_neg e, C.reR, if_true]; intro _; rw [vu]; exact hc tt
      · simp only [C.rmR, if_neg e, C.reR, if_neg e']; intro hx; rw [vx x e]; exact hc (ex x e hx).2
  | eb x y =>
    by_cases e : x = u
    · subst e; simp [C.rmR, C.reR, relC]
    · by_cases e' : x = t
      · subst e'; simp only [C.rmR, if_neg e, C.reR, if_true]; intro _; rw [vu]; exact hc tt
      · simp only [C.rmR, if_neg e, C.reR, if_neg e']; intro hx; rw [vx x e]; exact hc (ex x e hx).2

/-- Row t is called u from now on. -/
theorem Rel.reR (h : Rel w0 own0 s g a w) (t u : Nat) (r : Row) (htu : t ≠ u) (ht : s.rows t = some r) : Rel w0 own0 (s.reR t u) { g with hv := upd g.hv u (g.hv t) } a w := by
  have hsome : ∀ x c, (s.reR t u).rows x = some c → (x = u ∧ c = r) ∨ (x ≠ u ∧ x ≠ t ∧ s.rows x = some c) := by
    intro x c hx
    by_cases e : x = u
    · subst e; simp only [St.reR, upd_same] at hx; rw [ht] at hx; exact .inl ⟨rfl, (Option.some.inj hx).symm⟩
    · simp only [St.reR, upd_ne _ _ _ _ e] at hx
      by_cases e' : x = t
      · subst e'; simp [upd_same] at hx
      · rw [upd_ne _ _ _ _ e'] at hx; exact .inr ⟨e, e', hx⟩
  have hvars : ∀ x c, (s.reR t u).vars x = some c → ∃ c', s.vars x = some c' ∧ c = c'.map (fun c => (c.rmR u).reR t u) := by
    intro x c hx
    simp only [St.reR, St.map, Option.map_eq_some_iff] at hx
    obtain ⟨c', h1, h2⟩ := hx
    exact ⟨c', h1, h2.symm⟩
  have tt : (s.rows t).isSome = true := by rw [ht]; rfl
  have ex : ∀ x, x ≠ u → ((s.reR t u).rows x).isSome = true → x ≠ t ∧ (s.rows x).isSome = true := fun x e hx => by
    obtain ⟨c, hc⟩ := Option.isSome_iff_exists.1 hx
    rcases hsome x c hc with ⟨h1, _⟩ | ⟨_, h2, h3⟩
    · exact absurd h1 e
    · exact ⟨h2, by rw [h3]; rfl⟩
  have vu : viewF { g with hv := upd g.hv u (g.hv t) } u = viewF g t := by funext b; simp [viewF, upd_same]
  have vx : ∀ x, x ≠ u → viewF { g with hv := upd g.hv u (g.hv t) } x = viewF g x := fun x e => by funext b; simp [viewF, upd_ne _ _ _ _ e]
  have hmap := relC.reR h t u r htu ht
  refine ⟨h.defers, h.os, h.tape, h.output, h.size, h.frame, h.lt, fun x c hx => ?_, fun x c hx => ?_, fun x c b hx hb => ?_, fun x c hx => ?_, fun x y cx cy b hne hx hy hb => ?_, fun x y cx cy hne hx hy => ?_, fun x y rx c hx hy => ?_, fun j => (h.env j).map hmap, h.glob⟩
  · rcases hsome x c hx with ⟨rfl, rfl⟩ | ⟨e, _, h1⟩
    · simp only [upd_same]; exact h.rows t c ht
    · simp only [upd_ne _ _ _ _ e]; exact h.rows x c h1
  · obtain ⟨c', h1, rfl⟩ := hvars x c hx
    exact (h.vars x c' h1).map hmap rfl
  · rcases hsome x c hx with ⟨rfl, rfl⟩ | ⟨e, _, h1⟩
    · simp only [upd_same] at hb; exact h.rowF t c b ht hb
    · simp only [upd_ne _ _ _ _ e] at hb; exact h.rowF x c b h1 hb
  · obtain ⟨c', h1, rfl⟩ := hvars x c hx; exact h.varF x c' h1
  · rcases hsome x cx hx with ⟨rfl, rfl⟩ | ⟨e, e2, h1⟩ <;> rcases hsome y cy hy with ⟨rfl, rfl⟩ | ⟨f, f2, h2⟩
    · exact absurd rfl hne
    · simp only [upd_same] at hb; simp only [upd_ne _ _ _ _ f]; exact h.rr t y cx cy b (Ne.symm f2) ht h2 hb
    · simp only [upd_same]; simp only [upd_ne _ _ _ _ e] at hb; exact h.rr x t cx cy b e2 h1 ht hb
    · simp only [upd_ne _ _ _ _ e] at hb; simp only [upd_ne _ _ _ _ f]; exact h.rr x y cx cy b hne h1 h2 hb
  · obtain ⟨c1, h1, rfl⟩ := hvars x cx hx
    obtain ⟨c2, h2, rfl⟩ := hvars y cy hy
    exact h.vv x y c1 c2 hne h1 h2
  · obtain ⟨c2, h2, rfl⟩ := hvars y c hy
    rcases hsome x rx hx with ⟨rfl, rfl⟩ | ⟨e, _, h1⟩
    · simp only [upd_same]; exact h.rv t y rx c2 ht h2
    · simp only [upd_ne _ _ _ _ e]; exact h.rv x y rx c2 h1 h2
end
end GV

set_option linter.unusedSimpArgs false
set_option linter.unusedVariables false
namespace GV
open Go

/-! ### the types that the code names -/
inductive TD where
  | int (k : IntKind)
  | bool
  | str
  | sl (e : Nat)
  | st (fs : List (Nat × Nat × Bool))
  | arr (n e : Nat)
  | oth
structure TI where
  td : TD
  size : Nat
  bytes : Nat
  zc : List C
  eq : Option (List IntKind) := none
def TI.agg (i : TI) : Bool := match i.td with | .st _ => true | .arr _ _ => true | _ => false
abbrev Tab := Nat → Option TI
def zOk : C → Value → Prop
  | .d (.v x), z => z = x ∧ x.oneCell' = true
  | .nil _ _, z => z = .slice none 0 0
  | _, _ => False
def aggD : TypeDesc → Bool
  | .struct _ => true
  | .array _ _ => true
  | _ => false
def TDok (P : Program) (t : Nat) : TD → Prop
  | .int k => P.underlying t = some (.int k)
  | .bool => P.underlying t = some .bool
  | .str => P.underlying t = some .string
  | .sl e => P.underlying t = some (.slice e)
  | .st fs => ∃ fields, P.underlying t = some (.struct fields) ∧ fields.size = fs.length ∧ ∀ (k : Nat) (p : Nat × Nat × Bool), fs[k]? = some p → ∃ (f : Field) (i : TypeInfo) (d : TypeDesc), fields[k]? = some f ∧ f.offset = p.1 ∧ P.info? f.type = some i ∧ i.size = p.2.1 ∧ 0 < p.2.1 ∧ P.underlying f.type = some d ∧ aggD d = p.2.2
  | .arr n e => P.underlying t = some (.array n e)
  | .oth => ∃ d, P.underlying t = some d ∧ aggD d = false
/-- '==' of structs whose cells are whole numbers of these kinds. -/
def intsOf : List IntKind → List Int → List Value
  | k :: ks, x :: xs => .int k x :: intsOf ks xs
  | _, _ => []
def EqLaw (P : Program) (t : Nat) (ks : List IntKind) : Prop := ∀ (w : World) (xs ys : List Int), xs.length = ks.length → ys.length = ks.length →
  (Op.equal t (.agg (intsOf ks xs).toArray) (.agg (intsOf ks ys).toArray)).run P w = .ok (decide (xs = ys)) w ∧ P.eqGuardType P.depth t = false
structure TabOk (P : Program) (T : Tab) : Prop where
  eqs : ∀ t i ks, T t = some i → i.eq = some ks → EqLaw P t ks
  info : ∀ t i, T t = some i → ∃ f z, P.info? t = some f ∧ f.size = i.size ∧ f.bytes = i.bytes ∧ f.zero = some z ∧ z.cells.size = i.size ∧ i.zc.length = i.size ∧ ∀ j, j < i.size → zOk (i.zc.getD j .no) (z.cells.getD j undef)
  desc : ∀ t i, T t = some i → TDok P t i.td
section
variable {P : Program} {T : Tab}
theorem TabOk.isAgg (h : TabOk P T) {t : Nat} {i : TI} (ht : T t = some i) (w : World) : (isAgg t).run P w = .ok i.agg w := by
  have hd := h.desc t i ht
  obtain ⟨td, sz, by_, zc, eq_⟩ := i
  cases td with
  | int k => simp only [TDok] at hd; simp [Go.isAgg, run_underlying hd, TI.agg]
  | bool => simp only [TDok] at hd; simp [Go.isAgg, run_underlying hd, TI.agg]
  | str => simp only [TDok] at hd; simp [Go.isAgg, run_underlying hd, TI.agg]
  | sl e => simp only [TDok] at hd; simp [Go.isAgg, run_underlying hd, TI.agg]
  | arr n e => simp only [TDok] at hd; simp [Go.isAgg, run_underlying hd, TI.agg]
  | st fs => obtain ⟨fields, h1, _⟩ := hd; simp [Go.isAgg, run_underlying h1, TI.agg]
  | oth =>
    obtain ⟨d, h1, h2⟩ := hd
    cases d <;> first | (simp [aggD] at h2; done) | simp [Go.isAgg, run_underlying h1, TI.agg]
theorem TabOk.sizeOf (h : TabOk P T) {t : Nat} {i : TI} (ht : T t = some i) (w : World) : (Go.sizeOf t).run P w = .ok i.size w := by
  obtain ⟨f, z, h1, h2, _⟩ := h.info t i ht
  simp [Go.sizeOf, typeInfo, h1, h2]
theorem isAgg_run {t : TypeId} {d : TypeDesc} (h : P.underlying t = some d) (w : World) : (isAgg t).run P w = .ok (aggD d) w := by
  cases d <;> simp [Go.isAgg, run_underlying h, aggD]
end

/-! ### operands -/
def cval : Value → C
  | .slice none 0 0 => .nil 0 0
  | .int k n => .d (.v (.int k n))
  | .bool b => .d (.v (.bool b))
  | .string s => .d (.v (.string s))
  | .nilIface => .d (.v .nilIface)
  | _ => .no
def St.ev (s : St) : Operand → AV
  | .tmp t => s.env t
  | .const v => .c (cval v)
  | .global k => match s.gl k with | some cs => .c (.er cs) | none => .c .no
  | .func _ => .c .no
theorem cval_ok (s : St) (g : Gh) (w : World) (v : Value) : relC s g w (cval v) v := by
  unfold cval
  split
  · exact rfl
  · exact .v _ rfl
  · exact .v _ rfl
  · exact .v _ rfl
  · exact .v _ rfl
  · trivial
section
variable {w0 : World} {own0 : Nat → Prop} {s : St} {g : Gh} {a : Act} {w : World}
theorem Rel.ev (h : Rel w0 own0 s g a w) (x : Operand) : relAV s g w (s.ev x) (a.eval x) := by
  cases x with
  | tmp t => exact h.env t
  | const v => exact cval_ok s g w v
  | global k =>
    unfold St.ev
    simp only
    cases hk : s.gl k with
    | none => trivial
    | some cs => exact h.glob k cs hk
  | func f => trivial
end

/-! ### single cells made fit for a variable's cell, or for an element -/
/-- K is told: the cell as it is kept, what has become of all others, the state. -/
def reF (t u : Nat) (c : C) : C := (c.rmR u).reR t u
def norm (st : Nat) (c : C) (s : St) (K : C → (C → C) → St → Prop) : Prop :=
  match c with
  | .own t => match s.rows t with
    | some _ => if t = st then K (.own st) id s else K (.own st) (reF t st) (s.reR t st)
    | none => False
  | .nil e sz => 0 < sz ∧ K (.own st) (C.rmR st) (s.addR st ⟨e, sz, []⟩)
  | .d x => K (.d x) id s
  | .ptr v j => (s.vars v).isSome = true ∧ K (.ptr v j) id s
  | _ => False
def normL (st : Nat) : List C → (C → C) → St → (List C → (C → C) → St → Prop) → Prop
  | [], _, s, K => K [] id s
  | c :: cs, f, s, K => norm st (f c) s fun c' f1 s' => normL (st + 1) cs (f1 ∘ f) s' fun l h s'' => K (h c' :: l) (h ∘ f1) s''
/-- A cell as data that is never written again. -/
def frz (c : C) (s : St) (K : D → (C → C) → St → Prop) : Prop :=
  match c with
  | .d x => K x id s
  | .nil _ sz => K (.sl sz []) id s
  | .own t => match s.rows t with
    | some r => K (.sl r.sz r.els) (C.frR t (.sl r.sz r.els)) (s.frR t r)
    | none => False
  | _ => False
def frzL : List C → (C → C) → St → (List D → (C → C) → St → Prop) → Prop
  | [], _, s, K => K [] id s
  | c :: cs, f, s, K => frz (f c) s fun x f1 s' => frzL cs (f1 ∘ f) s' fun l h s'' => K (x :: l) (h ∘ f1) s''

/-- What a step of ghosts keeps: everything that is known, told anew by f; the memory. -/
structure Ghost (w0 : World) (own0 : Nat → Prop) (s s' : St) (g g' : Gh) (a : Act) (w : World) (f : C → C) : Prop where
  rel : Rel w0 own0 s' g' a w
  map : ∀ c v, relC s g w c v → relC s' g' w (f c) v
  F : ∀ b, g.F b → g'.F b
  F' : ∀ b, g'.F b → g.F b ∨ own0 b ∨ w0.heap.size ≤ b
  ga : g'.ga = g.ga
  lv : ∀ t, (s'.vars t).isSome = true → (s.vars t).isSome = true
theorem Ghost.refl {w0 : World} {own0 : Nat → Prop} {s : St} {g : Gh} {a : Act} {w : World} (h : Rel w0 own0 s g a w) : Ghost w0 own0 s s g g a w id := ⟨h, fun _ _ h => h, fun _ h => h, fun _ h => .inl h, rfl, fun _ h => h⟩
theorem Ghost.trans {w0 : World} {own0 : Nat → Prop} {s s' s'' : St} {g g' g'' : Gh} {a : Act} {w : World} {f f' : C → C} (h : Ghost w0 own0 s s' g g' a w f) (k : Ghost w0 own0 s' s'' g' g'' a w f') : Ghost w0 own0 s s'' g g'' a w (f' ∘ f) :=
  ⟨k.rel, fun c v hc => k.map _ _ (h.map c v hc), fun b hb => k.F b (h.F b hb), fun b hb => (k.F' b hb).elim (h.F' b) .inr, k.ga.trans h.ga, fun t ht => h.lv t (k.lv t ht)⟩
end GV

set_option linter.unusedSimpArgs false
set_option linter.unusedVariables false
namespace GV
open Go

def relL (s : St) (g : Gh) (w : World) : List C → List Value → Prop
  | [], [] => True
  | c :: cs, v :: vs => relC s g w c v ∧ relL s g w cs vs
  | _, _ => False
theorem relL.of {s : St} {g : Gh} {w : World} : ∀ {l : List C} {vs : List Value}, vs.length = l.length → (∀ j, j < l.length → relC s g w (l.getD j .no) (vs.getD j undef)) → relL s g w l vs
  | [], [], _, _ => trivial
  | c :: l, v :: vs, hl, h => ⟨h 0 (by simp), relL.of (by simpa using hl) fun j hj => by simpa using h (j + 1) (by simpa using hj)⟩
theorem relL.len {s : St} {g : Gh} {w : World} : ∀ {l : List C} {vs : List Value}, relL s g w l vs → vs.length = l.length
  | [], [], _ => rfl
  | _ :: _, _ :: _, h => by simp [relL.len h.2]
theorem relL.at {s : St} {g : Gh} {w : World} : ∀ {l : List C} {vs : List Value}, relL s g w l vs → ∀ j, j < l.length → relC s g w (l.getD j .no) (vs.getD j undef)
  | c :: l, v :: vs, h, 0, _ => h.1
  | c :: l, v :: vs, h, j + 1, hj => by simpa using relL.at h.2 j (by simpa using hj)
theorem relCs.toL {s : St} {g : Gh} {w : World} {l : List C} {arr : Array Value} (h : relCs s g w l arr) : relL s g w l arr.toList :=
  relL.of (by simpa using h.1) fun j hj => by have := h.2 j hj; simpa [Array.getD_eq_getD_getElem?, List.getD_eq_getElem?_getD] using this
theorem relL.toCs {s : St} {g : Gh} {w : World} {l : List C} {vs : List Value} (h : relL s g w l vs) : relCs s g w l vs.toArray :=
  ⟨by simpa using h.len, fun j hj => by have := h.at j hj; simpa [Array.getD_eq_getD_getElem?, List.getD_eq_getElem?_getD] using this⟩
theorem relL.map {s s' : St} {g g' : Gh} {w w' : World} {f : C → C} (hf : ∀ c v, relC s g w c v → relC s' g' w' (f c) v) : ∀ {l : List C} {vs : List Value}, relL s g w l vs → relL s' g' w' (l.map f) vs
  | [], [], _ => trivial
  | _ :: _, _ :: _, h => ⟨hf _ _ h.1, relL.map hf h.2⟩
def relDL (F : Nat → Prop) (w : World) : List D → List Value → Prop
  | [], [] => True
  | c :: cs, v :: vs => RC F w c v ∧ relDL F w cs vs
  | _, _ => False
theorem relDL.len {F : Nat → Prop} {w : World} : ∀ {l : List D} {vs : List Value}, relDL F w l vs → vs.length = l.length
  | [], [], _ => rfl
  | _ :: _, _ :: _, h => by simp [relDL.len h.2]
theorem relDL.at {F : Nat → Prop} {w : World} : ∀ {l : List D} {vs : List Value}, relDL F w l vs → ∀ j, j < l.length → RC F w (l.getD j dU) (vs.getD j undef)
  | c :: l, v :: vs, h, 0, _ => h.1
  | c :: l, v :: vs, h, j + 1, hj => by simpa using relDL.at h.2 j (by simpa using hj)
theorem relDL.of {F : Nat → Prop} {w : World} : ∀ {l : List D} {vs : List Value}, vs.length = l.length → (∀ j, j < l.length → RC F w (l.getD j dU) (vs.getD j undef)) → relDL F w l vs
  | [], [], _, _ => trivial
  | c :: l, v :: vs, hl, h => ⟨h 0 (by simp), relDL.of (by simpa using hl) fun j hj => by simpa using h (j + 1) (by simpa using hj)⟩
theorem relDL.mono {F F' : Nat → Prop} {w : World} (hF : ∀ b, F b → F' b) : ∀ {l : List D} {vs : List Value}, relDL F w l vs → relDL F' w l vs
  | [], [], _ => trivial
  | _ :: _, _ :: _, h => ⟨h.1.mono hF, relDL.mono hF h.2⟩
theorem relDL.toL {s : St} {g : Gh} {w : World} : ∀ {l : List D} {vs : List Value}, relDL g.F w l vs → relL s g w (l.map .d) vs
  | [], [], _ => trivial
  | _ :: _, _ :: _, h => ⟨h.1, relDL.toL h.2⟩
theorem relDL.one {F : Nat → Prop} {w : World} : ∀ {l : List D} {vs : List Value}, relDL F w l vs → ∀ v ∈ vs, v.oneCell' = true
  | [], [], _, _, hv => by cases hv
  | _ :: _, _ :: _, h, v, hv => by
    rcases List.mem_cons.1 hv with rfl | hv
    · exact h.1.one
    · exact relDL.one h.2 v hv

section
variable {w0 : World} {own0 : Nat → Prop} {s : St} {g : Gh} {a : Act} {w : World}

theorem hv_one (h : Rel w0 own0 s g a w) {t : Nat} {r : Row} (ht : s.rows t = some r) : (g.hv t).oneCell' = true := by
  obtain ⟨xs, h1, _⟩ := h.rows t r ht
  rcases h1.2 with ⟨e, _⟩ | ⟨b, cap, cur, e, _⟩ <;> rw [e] <;> rfl

theorem norm_sound {st : Nat} {c : C} {v : Value} {K : C → (C → C) → St → Prop} (h : Rel w0 own0 s g a w) (hc : relC s g w c v) (hn : norm st c s K) :
    ∃ c' f s' g', K c' f s' ∧ Ghost w0 own0 s s' g g' a w f ∧ relC s' g' w c' v ∧ v.oneCell' = true := by
  cases c with
  | no => exact hn.elim
  | und => exact hn.elim
  | bw t x => exact hn.elim
  | eo t sz i j => exact hn.elim
  | er cs => exact hn.elim
  | eb t cs => exact hn.elim
  | d x => exact ⟨_, _, _, g, hn, Ghost.refl h, hc, hc.one⟩
  | ptr t j => exact ⟨_, _, _, g, hn.2, Ghost.refl h, hc, by rw [hc hn.1]; rfl⟩
  | nil e sz =>
    obtain ⟨h0, hn⟩ := hn
    have hv : v = .slice none 0 0 := hc
    subst hv
    have hr := h.addR st ⟨e, sz, []⟩ (.slice none 0 0) ⟨[], ⟨by simp, .inl ⟨rfl, rfl⟩⟩, h0, by simp⟩ (fun b hb => by simp [Value.ownBlock] at hb)
    refine ⟨_, _, _, _, hn, ⟨hr, relC.rmR st rfl (fun u hu => ⟨upd_ne _ _ _ _ hu, upd_ne _ _ _ _ hu⟩) (fun u hu => ⟨?_, rfl⟩), fun _ h => h, fun _ h => .inl h, rfl, fun u hu => ?_⟩, fun _ => (upd_same _ _ _).symm, rfl⟩
    all_goals
      simp only [St.addR, St.map] at hu
      cases hs : s.vars u with
      | none => simp [hs] at hu
      | some c => rfl
  | own t =>
    unfold norm at hn
    simp only at hn
    cases hr : s.rows t with
    | none => simp [hr] at hn
    | some r =>
      simp only [hr] at hn
      have ha : (s.rows t).isSome = true := by rw [hr]; rfl
      by_cases e : t = st
      · subst e
        simp only [if_true] at hn
        exact ⟨_, _, _, g, hn, Ghost.refl h, hc, by rw [hc ha]; exact hv_one h hr⟩
      · simp only [if_neg e] at hn
        refine ⟨_, _, _, _, hn, ⟨h.reR t st r e hr, relC.reR h t st r e hr, fun _ h => h, fun _ h => .inl h, rfl, fun u hu => ?_⟩, fun _ => ?_, by rw [hc ha]; exact hv_one h hr⟩
        · simp only [St.reR, St.map] at hu
          cases hs : s.vars u with
          | none => simp [hs] at hu
          | some c => rfl
        · rw [hc ha]; exact (upd_same _ _ _).symm
theorem normL_sound : ∀ (l : List C) {st : Nat} {f : C → C} {s : St} {g : Gh} {vs : List Value} {K : List C → (C → C) → St → Prop}, Rel w0 own0 s g a w → (relL s g w (l.map f) vs) → normL st l f s K →
    ∃ l' h' s' g', K l' h' s' ∧ Ghost w0 own0 s s' g g' a w h' ∧ relL s' g' w l' vs ∧ ∀ v ∈ vs, v.oneCell' = true
  | [], st, f, s, g, [], K, h, _, hn => ⟨_, _, _, g, hn, Ghost.refl h, trivial, fun _ h => by cases h⟩
  | c :: l, st, f, s, g, v :: vs, K, h, hc, hn => by
    obtain ⟨c', f1, s1, g1, hk, gh1, r1, o1⟩ := norm_sound h hc.1 hn
    have hc2 : relL s1 g1 w (l.map (f1 ∘ f)) vs := by
      have := relL.map gh1.map hc.2
      rwa [List.map_map] at this
    obtain ⟨l', h', s2, g2, hk2, gh2, r2, o2⟩ := normL_sound l gh1.rel hc2 hk
    refine ⟨_, _, s2, g2, hk2, gh1.trans gh2, ⟨gh2.map _ _ r1, r2⟩, fun x hx => ?_⟩
    rcases List.mem_cons.1 hx with rfl | hx
    · exact o1
    · exact o2 x hx

theorem frz_sound {c : C} {v : Value} {K : D → (C → C) → St → Prop} (h : Rel w0 own0 s g a w) (hc : relC s g w c v) (hn : frz c s K) :
    ∃ x f s' g', K x f s' ∧ Ghost w0 own0 s s' g g' a w f ∧ RC g'.F w x v ∧ g'.hv = g.hv := by
  cases c with
  | no => exact hn.elim
  | und => exact hn.elim
  | bw t x => exact hn.elim
  | eo t sz i j => exact hn.elim
  | er cs => exact hn.elim
  | eb t cs => exact hn.elim
  | ptr t j => exact hn.elim
  | d x => exact ⟨_, _, _, g, hn, Ghost.refl h, hc, rfl⟩
  | nil e sz =>
    have hv : v = .slice none 0 0 := hc
    subst hv
    exact ⟨_, _, _, g, hn, Ghost.refl h, .nil _ _ _, rfl⟩
  | own t =>
    unfold frz at hn
    simp only at hn
    cases hr : s.rows t with
    | none => simp [hr] at hn
    | some r =>
      simp only [hr] at hn
      have ha : (s.rows t).isSome = true := by rw [hr]; rfl
      refine ⟨_, _, _, _, hn, ⟨h.frR t r hr, relC.frR h t r hr, fun b hb => .inl hb, fun b hb => hb.elim .inl (fun hb => .inr (h.rowF t r b hr hb).2), rfl, fun u hu => ?_⟩, ?_, rfl⟩
      · simp only [St.frR, St.map] at hu
        cases hs : s.vars u with
        | none => simp [hs] at hu
        | some c => rfl
      · rw [hc ha]
        exact (h.rows t r hr).reads (fun b hb => .inl hb) (fun b hb => .inr hb)
theorem frzL_sound : ∀ (l : List C) {f : C → C} {s : St} {g : Gh} {vs : List Value} {K : List D → (C → C) → St → Prop}, Rel w0 own0 s g a w → (relL s g w (l.map f) vs) → frzL l f s K →
    ∃ l' h' s' g', K l' h' s' ∧ Ghost w0 own0 s s' g g' a w h' ∧ relDL g'.F w l' vs ∧ g'.hv = g.hv
  | [], f, s, g, [], K, h, _, hn => ⟨_, _, _, g, hn, Ghost.refl h, trivial, rfl⟩
  | c :: l, f, s, g, v :: vs, K, h, hc, hn => by
    obtain ⟨x, f1, s1, g1, hk, gh1, r1, q1⟩ := frz_sound h hc.1 hn
    have hc2 : relL s1 g1 w (l.map (f1 ∘ f)) vs := by
      have := relL.map gh1.map hc.2
      rwa [List.map_map] at this
    obtain ⟨l', h', s2, g2, hk2, gh2, r2, q2⟩ := frzL_sound l gh1.rel hc2 hk
    exact ⟨_, _, s2, g2, hk2, gh1.trans gh2, ⟨r1.mono gh2.F, r2⟩, q2.trans q1⟩
end
end GV

set_option linter.unusedSimpArgs false
set_option linter.unusedVariables false
namespace GV
open Go

/-! ### what an operation does to a state: K is told the value and the state -/
def St.alive (s : St) (t : Nat) : Prop := (s.rows t).isSome = true
/-- A value out of cells, of a type. -/
def lp (i : TI) (l : List C) (K : AV → Prop) : Prop := if i.agg = true then i.size ≤ l.length ∧ K (.ag (l.take i.size)) else 0 < l.length ∧ K (.c (l.getD 0 .no))
def vload (T : Tab) (t : Nat) (x : AV) (s : St) (K : AV → Prop) : Prop :=
  match T t with
  | none => False
  | some i => match x with
    | .c (.ptr v j) => match s.vars v with
      | some cs => lp i (cs.drop j) K
      | none => False
    | .c (.er cs) => lp i (cs.map .d) K
    | .c (.eb u cs) => s.alive u ∧ lp i (cs.map (.bw u)) K
    | .c (.eo u sz k j) => match s.rows u with
      | some r => sz = r.sz ∧ k < r.els.length ∧ lp i (((r.els.getD k []).drop j).map .d) K
      | none => False
    | _ => False
def vfield (T : Tab) (t f : Nat) (K : Nat → Nat → Bool → Prop) : Prop :=
  match T t with
  | some i => match i.td with
    | .st fs => match fs[f]? with
      | some p => K p.1 p.2.1 p.2.2
      | none => False
    | _ => False
  | none => False
def vfieldAddr (T : Tab) (t : Nat) (x : AV) (f : Nat) (s : St) (K : AV → Prop) : Prop :=
  vfield T t f fun off _ _ => match x with
    | .c (.ptr v j) => (s.vars v).isSome = true ∧ K (.c (.ptr v (j + off)))
    | .c (.er cs) => K (.c (.er (cs.drop off)))
    | .c (.eb u cs) => s.alive u ∧ K (.c (.eb u (cs.drop off)))
    | .c (.eo u sz k j) => s.alive u ∧ K (.c (.eo u sz k (j + off)))
    | _ => False
def vfieldOf (T : Tab) (t : Nat) (x : AV) (f : Nat) (K : AV → Prop) : Prop :=
  vfield T t f fun off size ag => match x with
    | .ag l => off + size ≤ l.length ∧ if ag = true then K (.ag ((l.drop off).take size)) else K (.c (l.getD off .no))
    | _ => False
def vint (x : AV) (K : IntKind → Int → Prop) : Prop :=
  match x with
  | .c (.d (.v (.int k n))) => K k n
  | _ => False
def vindexAddr (T : Tab) (t : Nat) (x i : AV) (s : St) (K : AV → Prop) : Prop :=
  vint i fun _ n => match T t with
    | none => False
    | some it => match it.td with
      | .sl e => match T e with
        | none => False
        | some ie => match x with
          | .c (.own u) => match s.rows u with
            | some r => r.sz = ie.size ∧ 0 ≤ n ∧ n < r.els.length ∧ K (.c (.eo u r.sz n.toNat 0))
            | none => False
          | .c (.d (.sl sz els)) => sz = ie.size ∧ 0 ≤ n ∧ n < els.length ∧ K (.c (.er (els.getD n.toNat [])))
          | .c (.bw u (.sl sz els)) => s.alive u ∧ sz = ie.size ∧ 0 ≤ n ∧ n < els.length ∧ K (.c (.eb u (els.getD n.toNat [])))
          | _ => False
      | .arr m e => match T e with
        | none => False
        | some ie => match x with
          | .c (.ptr v j) => (s.vars v).isSome = true ∧ 0 ≤ n ∧ n < m ∧ K (.c (.ptr v (j + n.toNat * ie.size)))
          | _ => False
      | _ => False
def byteAt (b : ByteArray) (n : Nat) : Int := ((b.data.toList.getD n 0).toNat : Int)
def vindex (T : Tab) (t : Nat) (x i : AV) (K : AV → Prop) : Prop :=
  vint i fun _ n => match T t with
    | none => False
    | some it => match it.td, x with
      | .str, .c (.d (.v (.string b))) => 0 ≤ n ∧ n < b.size ∧ K (.c (.d (.v (.int .u8 (byteAt b n.toNat)))))
      | _, _ => False
def vnil (x : AV) (s : St) (K : AV → Prop) : Prop :=
  match x with
  | .c (.ptr v j) => (s.vars v).isSome = true ∧ K (.c (.ptr v j))
  | .c (.er cs) => K (.c (.er cs))
  | .c (.eo u sz k j) => s.alive u ∧ K (.c (.eo u sz k j))
  | _ => False
def vb (b : Bool) : AV := .c (.d (.v (.bool b)))
def vi (k : IntKind) (n : Int) : AV := .c (.d (.v (.int k n)))
def vstr (b : ByteArray) : AV := .c (.d (.v (.string b)))
def vbinInt (op : BinOp) (k : IntKind) (a : Int) (k' : IntKind) (b : Int) (K : AV → Prop) : Prop :=
  match op with
  | .add => k = k' ∧ K (vi k (k.wrap (a + b)))
  | .sub => k = k' ∧ K (vi k (k.wrap (a - b)))
  | .mul => k = k' ∧ K (vi k (k.wrap (a * b)))
  | .quo => k = k' ∧ b ≠ 0 ∧ K (vi k (k.wrap (a.tdiv b)))
  | .rem => k = k' ∧ b ≠ 0 ∧ K (vi k (a.tmod b))
  | .and => k = k' ∧ K (vi k (bits .and k a b))
  | .or => k = k' ∧ K (vi k (bits .or k a b))
  | .xor => k = k' ∧ K (vi k (bits .xor k a b))
  | .andNot => k = k' ∧ K (vi k (bits .andNot k a b))
  | .eql => k = k' ∧ K (vb (a == b))
  | .neq => k = k' ∧ K (vb (a != b))
  | .lss => k = k' ∧ K (vb (decide (a < b)))
  | .leq => k = k' ∧ K (vb (decide (a ≤ b)))
  | .gtr => k = k' ∧ K (vb (decide (b < a)))
  | .geq => k = k' ∧ K (vb (decide (b ≤ a)))
  | .shl => 0 ≤ b ∧ b ≤ k.bits ∧ K (vi k (k.wrap (a * 2 ^ b.toNat)))
  | .shr => 0 ≤ b ∧ b ≤ k.bits ∧ K (vi k (a / 2 ^ b.toNat))
def intsC : List C → Option (List (IntKind × Int))
  | [] => some []
  | .d (.v (.int k n)) :: l => (intsC l).map fun r => (k, n) :: r
  | _ :: _ => none
def vbin (T : Tab) (op : BinOp) (t : Nat) (x y : AV) (K : AV → Prop) : Prop :=
  match x, y with
  | .c (.d (.v (.int k a))), .c (.d (.v (.int k' b))) => vbinInt op k a k' b K
  | .c (.d (.v (.bool a))), .c (.d (.v (.bool b))) => (match T t with | some i => i.td = .bool | none => False) ∧ match op with
    | .eql => K (vb (a == b))
    | .neq => K (vb (a != b))
    | _ => False
  | .c (.d (.v (.string a))), .c (.d (.v (.string b))) => match op with
    | .add => a.size + b.size ≤ 9223372036854775807 ∧ K (vstr (a ++ b))
    | .eql => K (vb (a.toList == b.toList))
    | .neq => K (vb (!(a.toList == b.toList)))
    | .lss => K (vb (Op.bytesLess a.toList b.toList))
    | .leq => K (vb (Op.bytesLess a.toList b.toList || a.toList == b.toList))
    | .gtr => K (vb (!(Op.bytesLess a.toList b.toList || a.toList == b.toList)))
    | .geq => K (vb (!Op.bytesLess a.toList b.toList))
    | _ => False
  | .ag l, .ag m => match intsC l, intsC m with
    | some p, some q => (match T t with | some i => i.eq = some (p.map (·.1)) ∧ i.eq = some (q.map (·.1)) | none => False) ∧ match op with
      | .eql => K (vb (decide (p.map (·.2) = q.map (·.2))))
      | .neq => K (vb (!decide (p.map (·.2) = q.map (·.2))))
      | _ => False
    | _, _ => False
  | _, _ => False
def vun (op : UnOp) (x : AV) (K : AV → Prop) : Prop :=
  match op, x with
  | .neg, .c (.d (.v (.int k n))) => K (vi k (k.wrap (0 - n)))
  | .not, .c (.d (.v (.bool b))) => K (vb (!b))
  | _, _ => False
def vconv (T : Tab) (src dst : Nat) (x : AV) (s : St) (K : AV → Prop) : Prop :=
  match T src, T dst with
  | some i, some j => match i.td, j.td, x with
    | .int _, .int k, .c (.d (.v (.int _ n))) => K (vi k (k.wrap n))
    | .str, .str, .c (.d (.v (.string b))) => K (vstr b)
    | _, _, _ => False
  | _, _ => False
def vextract (x : AV) (i : Nat) (K : AV → Prop) : Prop :=
  match x with
  | .tu l => match l[i]? with
    | some (true, cs) => K (.ag cs)
    | some (false, cs) => K (.c (cs.getD 0 .no))
    | none => False
  | _ => False
/-- The bounds of a cut. -/
def vbounds (n : Nat) (lo hi : Option AV) (K : Nat → Nat → Prop) : Prop :=
  match hi with
  | some h => vint h fun _ h => 0 ≤ h ∧ h ≤ n ∧ (match lo with
    | some l => vint l fun _ l => 0 ≤ l ∧ l ≤ h ∧ K l.toNat h.toNat
    | none => K 0 h.toNat)
  | none => match lo with
    | some l => vint l fun _ l => 0 ≤ l ∧ l ≤ n ∧ K l.toNat n
    | none => K 0 n
def vslice (T : Tab) (t : Nat) (x : AV) (lo hi : Option AV) (s : St) (K : AV → Prop) : Prop :=
  match T t with
  | none => False
  | some it => match it.td with
    | .str => match x with
      | .c (.d (.v (.string b))) => vbounds b.size lo hi fun l h => K (vstr (b.extract l h))
      | _ => False
    | .sl e => match T e with
      | none => False
      | some ie => match x with
        | .c (.own u) => match s.rows u with
          | some r => r.sz = ie.size ∧ vbounds r.els.length lo hi fun l h => K (.c (.bw u (.sl r.sz ((r.els.take h).drop l))))
          | none => False
        | .c (.d (.sl sz els)) => (els = [] ∨ sz = ie.size) ∧ vbounds els.length lo hi fun l h => K (.c (.d (.sl sz ((els.take h).drop l))))
        | .c (.bw u (.sl sz els)) => s.alive u ∧ (els = [] ∨ sz = ie.size) ∧ vbounds els.length lo hi fun l h => K (.c (.bw u (.sl sz ((els.take h).drop l))))
        | _ => False
    | _ => False
def vlen (x : AV) (s : St) (K : AV → Prop) : Prop :=
  match x with
  | .c (.own u) => match s.rows u with
    | some r => K (vi .i64 r.els.length)
    | none => False
  | .c (.d (.sl _ els)) => K (vi .i64 els.length)
  | .c (.bw u (.sl _ els)) => s.alive u ∧ K (vi .i64 els.length)
  | .c (.nil _ _) => K (vi .i64 0)
  | .c (.d (.v (.string b))) => K (vi .i64 b.size)
  | _ => False
end GV

set_option linter.unusedSimpArgs false
set_option linter.unusedVariables false
namespace GV
open Go

theorem add_at (b o k : Nat) : (⟨b, o, none⟩ : Addr).add k = ⟨b, o + k, none⟩ := by unfold Addr.add; split <;> simp_all
theorem relL.drop {s : St} {g : Gh} {w : World} : ∀ (j : Nat) {l : List C} {vs : List Value}, relL s g w l vs → relL s g w (l.drop j) (vs.drop j)
  | 0, _, _, h => h
  | _ + 1, [], [], _ => trivial
  | j + 1, _ :: _, _ :: _, h => relL.drop j h.2
theorem relL.take {s : St} {g : Gh} {w : World} : ∀ (j : Nat) {l : List C} {vs : List Value}, relL s g w l vs → relL s g w (l.take j) (vs.take j)
  | 0, _, _, h => by simp [relL]
  | _ + 1, [], [], _ => trivial
  | j + 1, _ :: _, _ :: _, h => ⟨h.1, relL.take j h.2⟩

/-- Values that lie in a row of cells. -/
def Lie (w : World) (b o : Nat) (vs : List Value) : Prop := ∀ k, k < vs.length → w.cell? ⟨b, o + k, none⟩ = some (vs.getD k undef)
theorem Lie.same {w w' : World} {b o : Nat} {vs : List Value} (h : Lie w b o vs) (hb : w'.heap[b]? = w.heap[b]?) : Lie w' b o vs :=
  fun k hk => (World.cell?_of_block (w := w) (w' := w') (a := ⟨b, o + k, none⟩) hb).trans (h k hk)
theorem Lie.row {w : World} {b o : Nat} {arr : Array Value} {T : TypeId} {fr : Nat × Nat} (h : w.heap[b]? = some (.cells arr T fr)) : Lie w b o (arr.toList.drop o) := by
  intro k hk
  rw [cell_of_row w b (o + k) arr T fr h]
  have hk' : o + k < arr.size := by simp at hk; omega
  simp [List.getD_eq_getElem?_getD, hk', List.getElem?_drop]

section
variable {P : Program} {T : Tab} {w0 : World} {own0 : Nat → Prop} {s : St} {g : Gh} {a : Act} {w : World}

theorem lp_sound (TO : TabOk P T) {t : Nat} {i : TI} (ht : T t = some i) {l : List C} {vs : List Value} {b o : Nat} {K : AV → Prop} (hl : relL s g w l vs) (hk : lp i l K) (hw : Lie w b o vs) :
    ∃ x v, (∀ w', w'.heap[b]? = w.heap[b]? → (Instr.loadAt t (.pointer (some ⟨b, o, none⟩))).run P w' = .ok v w') ∧ K x ∧ relAV s g w x v := by
  unfold lp at hk
  by_cases ha : i.agg = true
  · rw [if_pos ha] at hk
    obtain ⟨h1, h2⟩ := hk
    refine ⟨_, .agg (vs.take i.size).toArray, fun w' hb => ?_, h2, ⟨_, rfl, (hl.take i.size).toCs⟩⟩
    have hc := run_loadCells_list (P := P) w' ⟨b, o, none⟩ (vs.take i.size) (fun j v hj => by
      rw [add_at]
      have hjl : j < (vs.take i.size).length := (List.getElem?_eq_some_iff.1 hj).1
      have hjv : j < vs.length := by simp at hjl; omega
      have := (hw.same hb) j hjv
      rw [this]
      rw [List.getElem?_take] at hj
      split at hj
      · rw [List.getD_eq_getElem?_getD, hj]; rfl
      · cases hj)
    have hlen : (vs.take i.size).length = i.size := by rw [List.length_take, hl.len]; omega
    rw [hlen] at hc
    simp [Instr.loadAt, Instr.sureAddr, loadVar, TO.isAgg ht, ha, TO.sizeOf ht, hc]
  · rw [if_neg ha] at hk
    obtain ⟨h1, h2⟩ := hk
    refine ⟨_, vs.getD 0 undef, fun w' hb => ?_, h2, hl.at 0 h1⟩
    have := (hw.same hb) 0 (by rw [hl.len]; exact h1)
    simp only [Nat.add_zero] at this
    have ha' : i.agg = false := by simpa using ha
    simp [Instr.loadAt, Instr.sureAddr, loadVar, TO.isAgg ht, ha', this]

/-- The one block that a load through this address looks at. -/
def rdB (g : Gh) : AV → Nat → Prop
  | .c (.ptr v _), b => b = g.ga v
  | .c (.er _), b => g.F b
  | .c (.eb u _), b => viewF g u b
  | .c (.eo u _ _ _), b => (g.hv u).ownBlock = some b
  | _, _ => False

theorem readsAt.lie {Φ : Nat → Prop} {cs : List D} {v : Value} (h : readsAt Φ w cs v) : ∃ b o vs, v = .pointer (some ⟨b, o, none⟩) ∧ Φ b ∧ Lie w b o vs ∧ relDL Φ w cs vs := by
  obtain ⟨b, o, h1, h2, h3⟩ := h
  have : ∃ u : Nat → Value, ∀ j, j < cs.length → w.cell? ⟨b, o + j, none⟩ = some (u j) ∧ RC Φ w (cs.getD j dU) (u j) :=
    ⟨fun j => if hj : j < cs.length then Classical.choose (h3 j hj) else undef, fun j hj => by simp only [dif_pos hj]; exact Classical.choose_spec (h3 j hj)⟩
  obtain ⟨u, hu⟩ := this
  have gd : ∀ j, j < cs.length → ((List.range cs.length).map u).getD j undef = u j := fun j hj => by simp [List.getD_eq_getElem?_getD, hj]
  refine ⟨b, o, (List.range cs.length).map u, h1, h2, fun k hk => ?_, relDL.of (by simp) fun j hj => ?_⟩
  · have hk' : k < cs.length := by simpa using hk
    rw [gd k hk']; exact (hu k hk').1
  · rw [gd j hj]; exact (hu j hj).2

theorem vload_sound (TO : TabOk P T) (h : Rel w0 own0 s g a w) {t : Nat} {x : AV} {v : Value} {K : AV → Prop} (hx : relAV s g w x v) (hk : vload T t x s K) :
    ∃ y u, (∀ w', (∀ b, rdB g x b → w'.heap[b]? = w.heap[b]?) → (Instr.loadAt t v).run P w' = .ok u w') ∧ K y ∧ relAV s g w y u := by
  unfold vload at hk
  cases ht : T t with
  | none => simp [ht] at hk
  | some i =>
    simp only [ht] at hk
    cases x with
    | ag l => exact hk.elim
    | tu l => exact hk.elim
    | c c =>
      cases c with
      | no => exact hk.elim
      | und => exact hk.elim
      | d x => exact hk.elim
      | bw u x => exact hk.elim
      | own u => exact hk.elim
      | nil e sz => exact hk.elim
      | ptr u j =>
        simp only at hk
        cases hu : s.vars u with
        | none => simp [hu] at hk
        | some cs =>
          simp only [hu] at hk
          have hv : v = .pointer (some ⟨g.ga u, j, none⟩) := hx (by rw [hu]; rfl)
          obtain ⟨arr, T', h1, h2⟩ := h.vars u cs hu
          obtain ⟨y, z, h3, h4, h5⟩ := lp_sound TO ht (b := g.ga u) (o := j) (h2.toL.drop j) hk (Lie.row h1)
          exact ⟨y, z, fun w' hb => by rw [hv]; exact h3 w' (hb _ rfl), h4, h5⟩
      | er cs =>
        obtain ⟨b, o, vs, hv, hb, hl, hr⟩ := readsAt.lie hx
        obtain ⟨y, z, h3, h4, h5⟩ := lp_sound TO ht (b := b) (o := o) hr.toL hk hl
        exact ⟨y, z, fun w' hb' => by rw [hv]; exact h3 w' (hb' _ hb), h4, h5⟩
      | eb u cs =>
        obtain ⟨ha, hk⟩ := hk
        obtain ⟨b, o, vs, hv, hb, hl, hr⟩ := readsAt.lie (hx ha)
        have hr' : relL s g w (cs.map (.bw u)) vs := by
          refine relL.of (by simpa using hr.len) fun j hj => ?_
          have hj' : j < cs.length := by simpa using hj
          have e : (cs.map (C.bw u)).getD j .no = .bw u (cs.getD j dU) := by simp [List.getD_eq_getElem?_getD, hj']
          rw [e]
          exact fun _ => hr.at j hj'
        obtain ⟨y, z, h3, h4, h5⟩ := lp_sound TO ht (b := b) (o := o) hr' hk hl
        exact ⟨y, z, fun w' hb' => by rw [hv]; exact h3 w' (hb' _ hb), h4, h5⟩
      | eo u sz k j =>
        simp only at hk
        cases hu : s.rows u with
        | none => simp [hu] at hk
        | some r =>
          simp only [hu] at hk
          obtain ⟨hsz, hkl, hk⟩ := hk
          obtain ⟨b, hb, hv⟩ := hx (by rw [hu]; rfl)
          obtain ⟨xs, h1, h2, h3⟩ := h.rows u r hu
          have hlen : (r.els.getD k []).length = r.sz := (h3 k hkl).1
          have hmul : (k + 1) * r.sz ≤ r.els.length * r.sz := Nat.mul_le_mul_right _ hkl
          rw [Nat.add_mul, Nat.one_mul] at hmul
          have hx1 := h1.1
          have hlie : Lie w b (k * r.sz) ((xs.drop (k * r.sz)).take r.sz) := by
            intro m hm
            have hm' : m < r.sz := by simp at hm; omega
            have hg : ((xs.drop (k * r.sz)).take r.sz)[m]? = some (xs.getD (k * r.sz + m) undef) := by
              rw [List.getElem?_take, if_pos hm', List.getElem?_drop, List.getElem?_eq_getElem (by omega)]
              rw [List.getD_eq_getElem?_getD, List.getElem?_eq_getElem (by omega)]; rfl
            have := h1.cells hb (k * r.sz + m) (xs.getD (k * r.sz + m) undef) (by rw [List.getD_eq_getElem?_getD, List.getElem?_eq_getElem (by omega)]; rfl)
            rw [add_at, Nat.zero_add] at this
            have e2 : ((xs.drop (k * r.sz)).take r.sz).getD m undef = xs.getD (k * r.sz + m) undef := by rw [List.getD_eq_getElem?_getD, hg]; rfl
            rw [this, e2]
          have hrel : relDL g.F w (r.els.getD k []) ((xs.drop (k * r.sz)).take r.sz) := by
            refine relDL.of (by rw [hlen]; simp; omega) fun m hm => ?_
            have hm' : m < r.sz := by omega
            have hg : ((xs.drop (k * r.sz)).take r.sz).getD m undef = xs.getD (k * r.sz + m) undef := by
              rw [List.getD_eq_getElem?_getD, List.getElem?_take, if_pos hm', List.getElem?_drop, ← List.getD_eq_getElem?_getD]
            rw [hg]; exact (h3 k hkl).2 m hm'
          have hrel' : relL s g w (((r.els.getD k []).drop j).map .d) (((xs.drop (k * r.sz)).take r.sz).drop j) := by
            have := (hrel.toL (s := s) (g := g)).drop j
            rwa [← List.map_drop] at this
          have hlie' : Lie w b (k * r.sz + j) (((xs.drop (k * r.sz)).take r.sz).drop j) := by
            intro m hm
            have hm' : j + m < ((xs.drop (k * r.sz)).take r.sz).length := by rw [List.length_drop] at hm; omega
            have := hlie (j + m) hm'
            rw [Nat.add_assoc, this]
            simp [List.getD_eq_getElem?_getD, List.getElem?_drop]
          obtain ⟨y, z, h4, h5, h6⟩ := lp_sound TO ht (b := b) (o := k * r.sz + j) hrel' hk hlie'
          exact ⟨y, z, fun w' hb' => by rw [hv, hsz]; exact h4 w' (hb' _ hb), h5, h6⟩
end
end GV

set_option linter.unusedSimpArgs false
set_option linter.unusedVariables false
namespace GV
open Go
section
variable {P : Program} {T : Tab} {w0 : World} {own0 : Nat → Prop} {s : St} {g : Gh} {a : Act} {w : World}

theorem vfield_sound (TO : TabOk P T) {t f : Nat} {K : Nat → Nat → Bool → Prop} (hk : vfield T t f K) :
    ∃ fields fld i d off, P.underlying t = some (.struct fields) ∧ fields[f]? = some fld ∧ fld.offset = off ∧ P.info? fld.type = some i ∧ 0 < i.size ∧ P.underlying fld.type = some d ∧ K off i.size (aggD d) := by
  unfold vfield at hk
  cases ht : T t with
  | none => simp [ht] at hk
  | some it =>
    simp only [ht] at hk
    obtain ⟨td, sz, by_, zc, eq_⟩ := it
    have hd := TO.desc t _ ht
    cases td <;> simp only at hk hd
    case st fs =>
      cases hf : fs[f]? with
      | none => simp [hf] at hk
      | some p =>
        simp only [hf] at hk
        obtain ⟨fields, h1, _, h2⟩ := hd
        obtain ⟨fld, i, d, h3, h4, h5, h6, h7, h8, h9⟩ := h2 f p hf
        exact ⟨fields, fld, i, d, p.1, h1, h3, h4, h5, by omega, h8, by rw [h6, h9]; exact hk⟩

theorem vfieldAddr_sound (TO : TabOk P T) {t f : Nat} {x : AV} {v : Value} {K : AV → Prop} (hx : relAV s g w x v) (hk : vfieldAddr T t x f s K) :
    ∃ y u, (∀ w', (Instr.fieldAt t v f).run P w' = .ok u w') ∧ K y ∧ relAV s g w y u := by
  obtain ⟨fields, fld, i, d, off, h1, h2, h3, h4, h5, h6, hk⟩ := vfield_sound TO hk
  have run : ∀ b o w', (Instr.fieldAt t (.pointer (some ⟨b, o, none⟩)) f).run P w' = .ok (.pointer (some ⟨b, o + off, none⟩)) w' := by
    intro b o w'
    have hs : (Go.sizeOf fld.type).run P w' = .ok i.size w' := by simp [Go.sizeOf, typeInfo, h4]
    have hne : i.size ≠ 0 := by omega
    simp [Instr.fieldAt, run_underlying h1, h2, Instr.sureAddr, fieldPlace, hs, hne, h3, add_at]
  cases x with
  | ag l => exact hk.elim
  | tu l => exact hk.elim
  | c c =>
    cases c with
    | no => exact hk.elim
    | und => exact hk.elim
    | d x => exact hk.elim
    | bw u x => exact hk.elim
    | own u => exact hk.elim
    | nil e sz => exact hk.elim
    | ptr u j =>
      have hv : v = _ := hx hk.1
      exact ⟨_, _, fun w' => by rw [hv]; exact run _ _ w', hk.2, fun _ => rfl⟩
    | er cs =>
      obtain ⟨b, o, hv, hb, hc⟩ := hx
      refine ⟨_, _, fun w' => by rw [hv]; exact run _ _ w', hk, ⟨b, o + off, rfl, hb, fun j hj => ?_⟩⟩
      have hj' : off + j < cs.length := by rw [List.length_drop] at hj; omega
      obtain ⟨u, h7, h8⟩ := hc (off + j) hj'
      refine ⟨u, by rw [Nat.add_assoc]; exact h7, ?_⟩
      have e : (cs.drop off).getD j dU = cs.getD (off + j) dU := by simp [List.getD_eq_getElem?_getD, List.getElem?_drop]
      rw [e]; exact h8
    | eb u cs =>
      obtain ⟨b, o, hv, hb, hc⟩ := hx hk.1
      refine ⟨_, _, fun w' => by rw [hv]; exact run _ _ w', hk.2, fun _ => ⟨b, o + off, rfl, hb, fun j hj => ?_⟩⟩
      have hj' : off + j < cs.length := by rw [List.length_drop] at hj; omega
      obtain ⟨u, h7, h8⟩ := hc (off + j) hj'
      refine ⟨u, by rw [Nat.add_assoc]; exact h7, ?_⟩
      have e : (cs.drop off).getD j dU = cs.getD (off + j) dU := by simp [List.getD_eq_getElem?_getD, List.getElem?_drop]
      rw [e]; exact h8
    | eo u sz k j =>
      obtain ⟨b, hb, hv⟩ := hx hk.1
      exact ⟨_, _, fun w' => by rw [hv]; exact run _ _ w', hk.2, fun _ => ⟨b, hb, by rw [Nat.add_assoc]⟩⟩

theorem part_run {t : TypeId} {i : TypeInfo} {d : TypeDesc} (hi : P.info? t = some i) (hd : P.underlying t = some d) {l : List C} {arr : Array Value} {off : Nat} {K : AV → Prop} (hr : relCs s g w l arr) (hle : off + i.size ≤ l.length) (h0 : 0 < i.size)
    (hk : if aggD d = true then K (.ag ((l.drop off).take i.size)) else K (.c (l.getD off .no))) : ∃ y u, (∀ w', (part t arr off).run P w' = .ok u w') ∧ K y ∧ relAV s g w y u := by
  have hsz : ∀ w', (Go.sizeOf t).run P w' = .ok i.size w' := fun w' => by simp [Go.sizeOf, typeInfo, hi]
  cases ha : aggD d with
  | true =>
    rw [ha, if_pos rfl] at hk
    refine ⟨_, .agg (arr.extract off (off + i.size)), fun w' => by simp [part, isAgg_run hd, ha, hsz], hk, ⟨_, rfl, ?_⟩⟩
    have := ((hr.toL.drop off).take i.size).toCs
    have e : ((arr.toList.drop off).take i.size).toArray = arr.extract off (off + i.size) := by
      apply Array.ext'
      simp [List.extract_eq_take_drop]
    rwa [e] at this
  | false =>
    rw [ha] at hk
    simp only [Bool.false_eq_true, if_false] at hk
    have hlt : off < arr.size := by rw [hr.1]; omega
    refine ⟨_, arr.getD off undef, fun w' => ?_, hk, hr.2 off (by omega)⟩
    simp [part, isAgg_run hd, ha, hlt, Array.getD_eq_getD_getElem?]

theorem vfieldOf_sound (TO : TabOk P T) {t f : Nat} {x : AV} {v : Value} {K : AV → Prop} (hx : relAV s g w x v) (hk : vfieldOf T t x f K) :
    ∃ y u, (∀ w', (Instr.field t v f).run P w' = .ok u w') ∧ K y ∧ relAV s g w y u := by
  obtain ⟨fields, fld, i, d, off, h1, h2, h3, h4, h5, h6, hk⟩ := vfield_sound TO hk
  cases x with
  | c c => exact hk.elim
  | tu l => exact hk.elim
  | ag l =>
    obtain ⟨arr, rfl, hr⟩ := hx
    obtain ⟨y, u, k1, k2, k3⟩ := part_run h4 h6 hr hk.1 h5 hk.2
    exact ⟨y, u, fun w' => by simp [Instr.field, run_underlying h1, h2, asAgg, h3, k1], k2, k3⟩

theorem vint_sound {x : AV} {v : Value} {K : IntKind → Int → Prop} (hx : relAV s g w x v) (hk : vint x K) : ∃ k n, v = .int k n ∧ K k n := by
  unfold vint at hk
  split at hk
  · rename_i k n
    have hx' : RC g.F w (.v (.int k n)) v := hx
    cases hx' with
    | v _ _ => exact ⟨k, n, rfl, hk⟩
  · exact hk.elim

theorem sl_form {Φ : Nat → Prop} {sz : Nat} {els : List (List D)} {v : Value} (h : RC Φ w (.sl sz els) v) : ∃ A c, v = .slice A els.length c ∧ els.length ≤ c ∧
    (0 < els.length → ∃ b o, A = some ⟨b, o, none⟩ ∧ Φ b ∧ ∀ i, i < els.length → (els.getD i []).length = sz ∧ ∀ j, j < sz → ∃ u, w.cell? ⟨b, o + (i * sz + j), none⟩ = some u ∧ RC Φ w ((els.getD i []).getD j dU) u) := by
  cases h with
  | nil _ A c => exact ⟨A, c, rfl, by simp, fun h => by simp at h⟩
  | sl _ _ b o c u h1 h2 h3 h4 h5 => exact ⟨_, c, rfl, h2, fun _ => ⟨b, o, rfl, h1, fun i hi => ⟨h3 i hi, fun j hj => ⟨u i j, h4 i j hi hj, h5 i j hi hj⟩⟩⟩⟩

theorem idx_run {t e : TypeId} {ie : TI} (TO : TabOk P T) (hu : P.underlying t = some (.slice e)) (he : T e = some ie) {b o len cap : Nat} {k : IntKind} {n : Int} (h0 : 0 ≤ n) (h1 : n < len) (w' : World) :
    (Instr.indexAt t (.slice (some ⟨b, o, none⟩) len cap) (.int k n)).run P w' = .ok (.pointer (some ⟨b, o + n.toNat * ie.size, none⟩)) w' := by
  have hc : 0 ≤ n ∧ n < len := ⟨h0, h1⟩
  simp [Instr.indexAt, asIntOf, run_underlying hu, hc, TO.sizeOf he, add_at]
theorem row_form {F : Nat → Prop} {v : Value} {r : Row} (h : rowOk F w v r) (h0 : 0 < r.els.length) : ∃ b cap, v = .slice (some ⟨b, 0, none⟩) r.els.length cap ∧ v.ownBlock = some b := by
  obtain ⟨xs, h1, _⟩ := h
  rcases h1.2 with ⟨_, h2⟩ | ⟨b, cap, cur, rfl, _⟩
  · omega
  · exact ⟨b, cap, rfl, rfl⟩

theorem vindexAddr_sound (TO : TabOk P T) (h : Rel w0 own0 s g a w) {t : Nat} {x i : AV} {v iv : Value} {K : AV → Prop} (hx : relAV s g w x v) (hi : relAV s g w i iv) (hk : vindexAddr T t x i s K) :
    ∃ y u, (∀ w', (Instr.indexAt t v iv).run P w' = .ok u w') ∧ K y ∧ relAV s g w y u := by
  obtain ⟨k, n, rfl, hk⟩ := vint_sound hi hk
  cases ht : T t with
  | none => simp [ht] at hk
  | some it =>
    simp only [ht] at hk
    obtain ⟨td, tsz, by_, zc, eq_⟩ := it
    have hd := TO.desc t _ ht
    cases td <;> simp only at hk hd
    case sl e =>
      cases he : T e with
      | none => simp [he] at hk
      | some ie =>
        simp only [he] at hk
        cases x with
        | ag l => exact hk.elim
        | tu l => exact hk.elim
        | c c =>
          cases c with
          | no => exact hk.elim
          | und => exact hk.elim
          | nil e sz => exact hk.elim
          | ptr u j => exact hk.elim
          | er cs => exact hk.elim
          | eb u cs => exact hk.elim
          | eo u sz k j => exact hk.elim
          | own u =>
            simp only at hk
            cases hu : s.rows u with
            | none => simp [hu] at hk
            | some r =>
              simp only [hu] at hk
              obtain ⟨h1, h2, h3, hk⟩ := hk
              have hv : v = g.hv u := hx (by rw [hu]; rfl)
              obtain ⟨b, cap, hf, hb⟩ := row_form (h.rows u r hu) (by omega)
              refine ⟨_, _, fun w' => by rw [hv, hf]; exact idx_run TO hd he h2 h3 w', hk, fun _ => ⟨b, hb, by simp [h1]⟩⟩
          | d x =>
            cases x with
            | v _ => exact hk.elim
            | sl sz els =>
              simp only at hk
              obtain ⟨h1, h2, h3, hk⟩ := hk
              obtain ⟨A, c, rfl, hc, hf⟩ := sl_form hx
              obtain ⟨b, o, rfl, hb, hf⟩ := hf (by omega)
              have hn : n.toNat < els.length := by omega
              refine ⟨_, _, fun w' => idx_run TO hd he h2 h3 w', hk, ⟨b, _, rfl, hb, fun j hj => ?_⟩⟩
              obtain ⟨h4, h5⟩ := hf n.toNat hn
              obtain ⟨u, h6, h7⟩ := h5 j (by omega)
              exact ⟨u, by rw [← h1, Nat.add_assoc]; exact h6, h7⟩
          | bw u x =>
            cases x with
            | v _ => exact hk.elim
            | sl sz els =>
              simp only at hk
              obtain ⟨h0, h1, h2, h3, hk⟩ := hk
              obtain ⟨A, c, rfl, hc, hf⟩ := sl_form (hx h0)
              obtain ⟨b, o, rfl, hb, hf⟩ := hf (by omega)
              have hn : n.toNat < els.length := by omega
              refine ⟨_, _, fun w' => idx_run TO hd he h2 h3 w', hk, fun _ => ⟨b, _, rfl, hb, fun j hj => ?_⟩⟩
              obtain ⟨h4, h5⟩ := hf n.toNat hn
              obtain ⟨u, h6, h7⟩ := h5 j (by omega)
              exact ⟨u, by rw [← h1, Nat.add_assoc]; exact h6, h7⟩
    case arr m e =>
      cases he : T e with
      | none => simp [he] at hk
      | some ie =>
        simp only [he] at hk
        cases x with
        | ag l => exact hk.elim
        | tu l => exact hk.elim
        | c c =>
          cases c <;> try exact hk.elim
          case ptr u j =>
            obtain ⟨h0, h1, h2, hk⟩ := hk
            have hv : v = _ := hx h0
            have hc : 0 ≤ n ∧ n < m := ⟨h1, h2⟩
            refine ⟨_, _, fun w' => ?_, hk, fun _ => rfl⟩
            rw [hv]
            simp [Instr.indexAt, asIntOf, run_underlying hd, hc, TO.sizeOf he, add_at, Instr.sureAddr]

theorem vindex_sound (TO : TabOk P T) {t : Nat} {x i : AV} {v iv : Value} {K : AV → Prop} (hx : relAV s g w x v) (hi : relAV s g w i iv) (hk : vindex T t x i K) :
    ∃ y u, (∀ w', (Instr.index t v iv).run P w' = .ok u w') ∧ K y ∧ relAV s g w y u := by
  obtain ⟨k, n, rfl, hk⟩ := vint_sound hi hk
  cases ht : T t with
  | none => simp [ht] at hk
  | some it =>
    simp only [ht] at hk
    obtain ⟨td, tsz, by_, zc, eq_⟩ := it
    have hd := TO.desc t _ ht
    cases td <;> simp only at hk hd
    case str =>
      split at hk
      · rename_i b _ _
        obtain ⟨h1, h2, hk⟩ := hk
        have hx' : RC g.F w (.v (.string b)) v := hx
        cases hx' with
        | v _ _ =>
          refine ⟨_, .int .u8 (byteAt b n.toNat), fun w' => ?_, hk, .v _ rfl⟩
          simp only [TDok] at hd
          have hlt : n.toNat < b.size := by omega
          have e : b[n.toNat]? = some b[n.toNat] := by simp [hlt]
          have e2 : byteAt b n.toNat = (b[n.toNat].toNat : Int) := by
            unfold byteAt
            rw [List.getD_eq_getElem?_getD, List.getElem?_eq_getElem (by simpa using hlt)]
            rfl
          simp [Instr.index, asIntOf, run_underlying hd, h1, e, e2]
      · exact hk.elim

theorem vnil_sound {x : AV} {v : Value} {K : AV → Prop} (hx : relAV s g w x v) (hk : vnil x s K) : ∃ b, v = .pointer (some b) ∧ ∃ y, K y ∧ relAV s g w y v := by
  unfold vnil at hk
  split at hk
  · exact ⟨_, hx hk.1, _, hk.2, hx⟩
  · obtain ⟨b, o, hv, _⟩ := id hx
    exact ⟨_, hv, _, hk, hx⟩
  · obtain ⟨b, _, hv⟩ := id hx hk.1
    exact ⟨_, hv, _, hk.2, hx⟩
  · exact hk.elim

theorem vun_sound {op : UnOp} {x : AV} {v : Value} {K : AV → Prop} (hx : relAV s g w x v) (hk : vun op x K) : ∃ y u, (∀ w', (Op.unary op v).run P w' = .ok u w') ∧ K y ∧ relAV s g w y u := by
  unfold vun at hk
  split at hk
  · have hx' : RC g.F w (.v _) v := hx
    cases hx' with
    | v _ _ => exact ⟨_, _, fun w' => by simp [Op.unary, Op.intArith], hk, .v _ rfl⟩
  · have hx' : RC g.F w (.v _) v := hx
    cases hx' with
    | v _ _ => exact ⟨_, _, fun w' => by simp [Op.unary], hk, .v _ rfl⟩
  · exact hk.elim

theorem vconv_sound (TO : TabOk P T) {src dst : Nat} {x : AV} {v : Value} {K : AV → Prop} (hx : relAV s g w x v) (hk : vconv T src dst x s K) : ∃ y u, (∀ w', (convert src dst v).run P w' = .ok u w') ∧ K y ∧ relAV s g w y u := by
  unfold vconv at hk
  split at hk
  · rename_i i j hi hj
    have h1 := TO.desc src i hi
    have h2 := TO.desc dst j hj
    split at hk
    · rename_i e1 e2
      rw [e1] at h1; rw [e2] at h2
      simp only [TDok] at h1 h2
      have hx' : RC g.F w (.v _) v := hx
      cases hx' with
      | v _ _ => exact ⟨_, _, fun w' => by simp [convert, run_underlying h1, run_underlying h2, Conv.intToInt], hk, .v _ rfl⟩
    · rename_i e1 e2
      rw [e1] at h1; rw [e2] at h2
      simp only [TDok] at h1 h2
      have hx' : RC g.F w (.v _) v := hx
      cases hx' with
      | v _ _ => exact ⟨_, _, fun w' => by simp [convert, run_underlying h1, run_underlying h2], hk, .v _ rfl⟩
    · exact hk.elim
  · exact hk.elim

theorem vextract_sound {x : AV} {v : Value} {i : Nat} {K : AV → Prop} (hx : relAV s g w x v) (hk : vextract x i K) : ∃ y u, (∀ w', (Instr.extract v i).run P w' = .ok u w') ∧ K y ∧ relAV s g w y u := by
  unfold vextract at hk
  split at hk
  · rename_i l
    obtain ⟨arr, rfl, h1, h2⟩ := hx
    cases hl : l[i]? with
    | none => simp [hl] at hk
    | some p =>
      have hil : i < l.length := (List.getElem?_eq_some_iff.1 hl).1
      have h3 := h2 i hil
      have e : l.getD i (false, []) = p := by rw [List.getD_eq_getElem?_getD, hl]; rfl
      rw [e] at h3
      have hrun : ∀ w', (Instr.extract (.tuple arr) i).run P w' = .ok (arr.getD i undef) w' := by
        intro w'
        have : i < arr.size := by omega
        simp [Instr.extract, this, Array.getD_eq_getD_getElem?]
      obtain ⟨b, cs⟩ := p
      cases b
      · simp only [hl] at hk; exact ⟨_, _, hrun, hk, h3⟩
      · simp only [hl] at hk; exact ⟨_, _, hrun, hk, h3⟩
  · exact hk.elim
end
end GV

set_option linter.unusedSimpArgs false
set_option linter.unusedVariables false
namespace GV
open Go
section
variable {P : Program} {T : Tab} {w0 : World} {own0 : Nat → Prop} {s : St} {g : Gh} {a : Act} {w : World}

theorem relI {k : IntKind} {n : Int} {v : Value} (h : relAV s g w (.c (.d (.v (.int k n)))) v) : v = .int k n := by
  have h' : RC g.F w (.v (.int k n)) v := h
  cases h'; rfl
theorem relB {b : Bool} {v : Value} (h : relAV s g w (.c (.d (.v (.bool b)))) v) : v = .bool b := by
  have h' : RC g.F w (.v (.bool b)) v := h
  cases h'; rfl
theorem relS {b : ByteArray} {v : Value} (h : relAV s g w (.c (.d (.v (.string b)))) v) : v = .string b := by
  have h' : RC g.F w (.v (.string b)) v := h
  cases h'; rfl
theorem rel_vi (k : IntKind) (n : Int) : relAV s g w (vi k n) (.int k n) := RC.v _ rfl
theorem rel_vb (b : Bool) : relAV s g w (vb b) (.bool b) := RC.v _ rfl
theorem rel_vstr (b : ByteArray) : relAV s g w (vstr b) (.string b) := RC.v _ rfl

theorem vbinInt_sound {op : BinOp} {k : IntKind} {x : Int} {k' : IntKind} {y : Int} {t : TypeId} {K : AV → Prop} (hk : vbinInt op k x k' y K) :
    ∃ z u, (∀ w', (binOp op t (.int k x) (.int k' y)).run P w' = .ok u w') ∧ K z ∧ relAV s g w z u := by
  cases op with
  | shl =>
    obtain ⟨h1, h2, hk⟩ := hk
    refine ⟨_, _, fun w' => ?_, hk, rel_vi _ _⟩
    have e : ¬ y < 0 := by omega
    have e2 : min y.toNat k.bits = y.toNat := by omega
    simp [binOp, Op.shift, e, e2]
  | shr =>
    obtain ⟨h1, h2, hk⟩ := hk
    refine ⟨_, _, fun w' => ?_, hk, rel_vi _ _⟩
    have e : ¬ y < 0 := by omega
    have e2 : min y.toNat k.bits = y.toNat := by omega
    have e3 : x.fdiv (2 ^ y.toNat) = x / 2 ^ y.toNat := by
      rw [Int.fdiv_eq_ediv_of_nonneg]
      have : (0 : Int) ≤ ((2 ^ y.toNat : Nat) : Int) := Int.natCast_nonneg _
      simpa using this
    simp [binOp, Op.shift, e, e2, e3]
  | quo =>
    obtain ⟨rfl, h2, hk⟩ := hk
    exact ⟨_, _, fun w' => by simp [binOp, Op.intDiv, h2], hk, rel_vi _ _⟩
  | rem =>
    obtain ⟨rfl, h2, hk⟩ := hk
    exact ⟨_, _, fun w' => by simp [binOp, Op.intDiv, h2], hk, rel_vi _ _⟩
  | add => obtain ⟨rfl, hk⟩ := hk; exact ⟨_, _, fun w' => by simp [binOp, Op.intArith], hk, rel_vi _ _⟩
  | sub => obtain ⟨rfl, hk⟩ := hk; exact ⟨_, _, fun w' => by simp [binOp, Op.intArith], hk, rel_vi _ _⟩
  | mul => obtain ⟨rfl, hk⟩ := hk; exact ⟨_, _, fun w' => by simp [binOp, Op.intArith], hk, rel_vi _ _⟩
  | and => obtain ⟨rfl, hk⟩ := hk; exact ⟨_, _, fun w' => by simp [binOp, intBits_and], hk, rel_vi _ _⟩
  | or => obtain ⟨rfl, hk⟩ := hk; exact ⟨_, _, fun w' => by simp [binOp, intBits_or], hk, rel_vi _ _⟩
  | xor => obtain ⟨rfl, hk⟩ := hk; exact ⟨_, _, fun w' => by simp [binOp, intBits_xor], hk, rel_vi _ _⟩
  | andNot => obtain ⟨rfl, hk⟩ := hk; exact ⟨_, _, fun w' => by simp [binOp, intBits_andNot], hk, rel_vi _ _⟩
  | eql => obtain ⟨rfl, hk⟩ := hk; exact ⟨_, _, fun w' => by simp [binOp, Op.intCmp], hk, rel_vb _⟩
  | neq => obtain ⟨rfl, hk⟩ := hk; exact ⟨_, _, fun w' => by simp [binOp, Op.intCmp], hk, rel_vb _⟩
  | lss => obtain ⟨rfl, hk⟩ := hk; exact ⟨_, _, fun w' => by simp [binOp, Op.intCmp], hk, rel_vb _⟩
  | leq => obtain ⟨rfl, hk⟩ := hk; exact ⟨_, _, fun w' => by simp [binOp, Op.intCmp], hk, rel_vb _⟩
  | gtr => obtain ⟨rfl, hk⟩ := hk; exact ⟨_, _, fun w' => by simp [binOp, Op.intCmp], hk, rel_vb _⟩
  | geq => obtain ⟨rfl, hk⟩ := hk; exact ⟨_, _, fun w' => by simp [binOp, Op.intCmp], hk, rel_vb _⟩

theorem intsC_form : ∀ {l : List C} {p : List (IntKind × Int)} {vs : List Value}, intsC l = some p → relL s g w l vs → vs = intsOf (p.map (·.1)) (p.map (·.2))
  | [], p, vs, h, hr => by
    simp [intsC] at h; subst h
    cases vs with
    | nil => rfl
    | cons v vs => exact hr.elim
  | c :: l, p, vs, h, hr => by
    cases vs with
    | nil => exact hr.elim
    | cons v vs =>
      unfold intsC at h
      split at h
      · rename_i e; cases e
      · rename_i k n l' e
        cases e
        cases h2 : intsC l with
        | none => simp [h2] at h
        | some q =>
          simp [h2] at h; subst h
          have hv : v = .int k n := by have h' : RC g.F w (.v (.int k n)) v := hr.1; cases h'; rfl
          simp [intsOf, hv, intsC_form h2 hr.2]
      · cases h

theorem vbin_sound (TO : TabOk P T) {op : BinOp} {t : Nat} {x y : AV} {v u : Value} {xo yo : Operand} {K : AV → Prop} (hx : relAV s g w x v) (hy : relAV s g w y u) (hk : vbin T op t x y K) :
    ∃ z r, (∀ w', (do eqGuard op t xo yo v u; binOp op t v u : Sem Value).run P w' = .ok r w') ∧ K z ∧ relAV s g w z r := by
  unfold vbin at hk
  split at hk
  · rename_i k a k' b
    obtain rfl := relI hx
    obtain rfl := relI hy
    obtain ⟨z, r, h1, h2, h3⟩ := vbinInt_sound (P := P) (s := s) (g := g) (w := w) (t := t) hk
    refine ⟨z, r, fun w' => ?_, h2, h3⟩
    cases op <;> simp [eqGuard, h1]
  · rename_i a b
    obtain rfl := relB hx
    obtain rfl := relB hy
    obtain ⟨ht, hk⟩ := hk
    cases hT : T t with
    | none => simp [hT] at ht
    | some i =>
      simp only [hT] at ht
      have hd := TO.desc t i hT
      rw [ht] at hd
      simp only [TDok] at hd
      cases op <;> try exact hk.elim
      · exact ⟨_, _, fun w' => by simp [eqGuard, binOp, run_equal_bool w' t a b hd], hk, rel_vb _⟩
      · exact ⟨_, _, fun w' => by simp [eqGuard, binOp, run_equal_bool w' t a b hd]; try (cases a <;> cases b <;> rfl), hk, rel_vb _⟩
  · rename_i a b
    obtain rfl := relS hx
    obtain rfl := relS hy
    cases op <;> try exact hk.elim
    · obtain ⟨h1, hk⟩ := hk
      refine ⟨_, _, fun w' => ?_, hk, rel_vstr _⟩
      have e : ¬ (((a.size + b.size : Nat) : Int) > IntKind.i64.max) := by
        have : IntKind.i64.max = 9223372036854775807 := by decide
        rw [this]; omega
      simp only [eqGuard, binOp, Op.stringOp, Sem.run_bind, if_neg e]
      simp
    all_goals exact ⟨_, _, fun w' => by simp [eqGuard, binOp, Op.stringOp], hk, rel_vb _⟩
  · rename_i l m
    obtain ⟨arr, rfl, ha⟩ := hx
    obtain ⟨brr, rfl, hb⟩ := hy
    split at hk
    · rename_i p q hp hq
      obtain ⟨ht, hk⟩ := hk
      cases hT : T t with
      | none => simp [hT] at ht
      | some i =>
        simp only [hT] at ht
        have e1 := intsC_form hp ha.toL
        have e2 := intsC_form hq hb.toL
        have hE := TO.eqs t i _ hT ht.1
        have hpq : q.map (·.1) = p.map (·.1) := by have := ht.2.symm.trans ht.1; simpa using this
        rw [hpq] at e2
        have ea : arr = (intsOf (p.map (·.1)) (p.map (·.2))).toArray := by rw [← e1]
        have eb : brr = (intsOf (p.map (·.1)) (q.map (·.2))).toArray := by rw [← e2]
        have hl : (q.map (·.2)).length = (p.map (·.1)).length := by rw [← hpq]; simp
        have run : ∀ w', (Op.equal t (.agg arr) (.agg brr)).run P w' = .ok (decide (p.map (·.2) = q.map (·.2))) w' := fun w' => by
          rw [ea, eb]; exact (hE w' _ _ (by simp) hl).1
        have gd : P.eqGuardType P.depth t = false := (hE default (p.map (·.2)) (p.map (·.2)) (by simp) (by simp)).2
        have hprog : ∀ w', (program).run P w' = .ok P w' := fun w' => rfl
        cases op <;> try exact hk.elim
        · exact ⟨_, _, fun w' => by simp [eqGuard, hprog, gd, binOp, run], hk, rel_vb _⟩
        · exact ⟨_, _, fun w' => by simp [eqGuard, hprog, gd, binOp, run], hk, rel_vb _⟩
    · exact hk.elim
  · exact hk.elim

theorem vlen_sound (TO : TabOk P T) (h : Rel w0 own0 s g a w) {x : AV} {v : Value} {t ty : Nat} {K : AV → Prop} (hx : relAV s g w x v)
    (ht1 : ∀ b, x = .c (.d (.v (.string b))) → P.underlying t = some .string) (ht2 : (∀ b, x ≠ .c (.d (.v (.string b)))) → ∃ e, P.underlying t = some (.slice e)) (hk : vlen x s K) :
    ∃ z r, (∀ w', (Builtin.len_ #[t] ty #[v]).run P w' = .ok r w') ∧ K z ∧ relAV s g w z r := by
  unfold vlen at hk
  split at hk
  · rename_i u
    obtain ⟨e, he⟩ := ht2 (fun b e => by cases e)
    cases hr : s.rows u with
    | none => simp [hr] at hk
    | some r =>
      simp only [hr] at hk
      have hv : v = g.hv u := hx (by rw [hr]; rfl)
      obtain ⟨xs, h1, _⟩ := h.rows u r hr
      rcases h1.2 with ⟨e1, e2⟩ | ⟨b, cap, cur, e1, _⟩
      · refine ⟨_, _, fun w' => ?_, hk, rel_vi _ _⟩
        rw [hv, e1, e2]; simp [Builtin.len_, run_underlying he]; rfl
      · refine ⟨_, _, fun w' => ?_, hk, rel_vi _ _⟩
        rw [hv, e1]; simp [Builtin.len_, run_underlying he]; rfl
  · rename_i els
    obtain ⟨e, he⟩ := ht2 (fun b e => by cases e)
    obtain ⟨A, c, rfl, _⟩ := sl_form hx
    exact ⟨_, _, fun w' => by simp [Builtin.len_, run_underlying he]; rfl, hk, rel_vi _ _⟩
  · rename_i u els
    obtain ⟨e, he⟩ := ht2 (fun b e => by cases e)
    obtain ⟨A, c, rfl, _⟩ := sl_form (hx hk.1)
    exact ⟨_, _, fun w' => by simp [Builtin.len_, run_underlying he]; rfl, hk.2, rel_vi _ _⟩
  · obtain ⟨e, he⟩ := ht2 (fun b e => by cases e)
    have hv : v = .slice none 0 0 := hx
    subst hv
    exact ⟨_, _, fun w' => by simp [Builtin.len_, run_underlying he]; rfl, hk, rel_vi _ _⟩
  · rename_i b
    have htv := ht1 b rfl
    obtain rfl := relS hx
    exact ⟨_, _, fun w' => by simp [Builtin.len_, run_underlying htv]; rfl, hk, rel_vi _ _⟩
  · exact hk.elim
end
end GV

set_option linter.unusedSimpArgs false
set_option linter.unusedVariables false
namespace GV
open Go
section
variable {P : Program} {T : Tab} {w0 : World} {own0 : Nat → Prop} {s : St} {g : Gh} {a : Act} {w : World}

theorem vbounds_sound {n cap : Nat} {lo hi : Option AV} {lv hv : Option Value} {b : Bool} {K : Nat → Nat → Prop} (hn : n ≤ cap)
    (hl : match lo, lv with | some x, some v => relAV s g w x v | none, none => True | _, _ => False)
    (hh : match hi, hv with | some x, some v => relAV s g w x v | none, none => True | _, _ => False) (hk : vbounds n lo hi K) :
    ∃ l h, (∀ w', (Instr.sliceBounds b n cap lv hv none).run P w' = .ok (l, h, cap) w') ∧ l ≤ h ∧ h ≤ n ∧ K l h := by
  unfold vbounds at hk
  cases hi with
  | none =>
    cases hv with
    | some _ => exact hh.elim
    | none =>
      cases lo with
      | none =>
        cases lv with
        | some _ => exact hl.elim
        | none => exact ⟨0, n, fun w' => by simp [Instr.sliceBounds], Nat.zero_le _, Nat.le_refl _, hk⟩
      | some x =>
        cases lv with
        | none => exact hl.elim
        | some v =>
          obtain ⟨k, m, rfl, h1, h2, hk⟩ := vint_sound hl hk
          refine ⟨m.toNat, n, fun w' => ?_, by omega, Nat.le_refl _, hk⟩
          have := run_sliceBound (P := P) w' k m n (if (none : Option Value).isSome then .slice3C else .sliceB) h1 h2
          simp at this
          simp [Instr.sliceBounds, this]
  | some y =>
    cases hv with
    | none => exact hh.elim
    | some v =>
      obtain ⟨k, m, rfl, h1, h2, hk⟩ := vint_sound hh hk
      have hm : m ≤ cap := by omega
      have r1 := fun w' => run_sliceBound (P := P) w' k m cap (if b then .sliceAcap else .sliceAlen) h1 hm
      cases lo with
      | none =>
        cases lv with
        | some _ => exact hl.elim
        | none => exact ⟨0, m.toNat, fun w' => by simp [Instr.sliceBounds, r1], Nat.zero_le _, by omega, hk⟩
      | some x =>
        cases lv with
        | none => exact hl.elim
        | some v =>
          obtain ⟨k', l, rfl, h3, h4, hk⟩ := vint_sound hl hk
          refine ⟨l.toNat, m.toNat, fun w' => ?_, by omega, by omega, hk⟩
          have h5 : l ≤ (m.toNat : Int) := by omega
          have := run_sliceBound (P := P) w' k' l m.toNat .sliceB h3 h5
          simp [Instr.sliceBounds, r1, this]

theorem RC.cut {Φ : Nat → Prop} {sz : Nat} {els : List (List D)} {A : Option Addr} {c : Nat} (h : RC Φ w (.sl sz els) (.slice A els.length c)) {l hh : Nat} (h1 : l ≤ hh) (h2 : hh ≤ els.length) :
    RC Φ w (.sl sz ((els.take hh).drop l)) (.slice (if c = l then A else A.map (·.add (l * sz))) (hh - l) (c - l)) := by
  obtain ⟨A', c', e, h3, h4⟩ := sl_form h
  cases e
  have hlen : ((els.take hh).drop l).length = hh - l := by simp; omega
  by_cases h0 : hh - l = 0
  · have e0 : (els.take hh).drop l = [] := List.eq_nil_of_length_eq_zero (by rw [hlen]; exact h0)
    rw [e0, h0]; exact .nil _ _ _
  · obtain ⟨b, o, rfl, hb, hc⟩ := h4 (by omega)
    have hne : c ≠ l := by omega
    rw [if_neg hne]
    have hcell : ∃ u : Nat → Nat → Value, ∀ i, i < els.length → ∀ j, j < sz → w.cell? ⟨b, o + (i * sz + j), none⟩ = some (u i j) ∧ RC Φ w ((els.getD i []).getD j dU) (u i j) :=
      ⟨fun i j => if hi : i < els.length then if hj : j < sz then Classical.choose ((hc i hi).2 j hj) else undef else undef, fun i hi j hj => by
        simp only [dif_pos hi, dif_pos hj]; exact Classical.choose_spec ((hc i hi).2 j hj)⟩
    obtain ⟨u, hu⟩ := hcell
    have ge : ∀ i, i < hh - l → ((els.take hh).drop l).getD i [] = els.getD (l + i) [] := fun i hi => by
      rw [List.getD_eq_getElem?_getD, List.getElem?_drop, List.getElem?_take, if_pos (by omega), ← List.getD_eq_getElem?_getD]
    have key := RC.sl (Φ := Φ) (w := w) sz ((els.take hh).drop l) b (o + l * sz) (c - l) (fun i j => u (l + i) j) hb (by rw [hlen]; omega)
      (fun i hi => by rw [hlen] at hi; rw [ge i hi]; exact (hc (l + i) (by omega)).1)
      (fun i j hi hj => by
        rw [hlen] at hi
        have := (hu (l + i) (by omega) j hj).1
        rw [Nat.add_mul] at this
        rw [Nat.add_assoc, ← Nat.add_assoc (l * sz)]; exact this)
      (fun i j hi hj => by rw [hlen] at hi; rw [ge i hi]; exact (hu (l + i) (by omega) j hj).2)
    rw [hlen] at key
    simp only [Option.map_some, add_at]
    exact key

theorem slice_run {t e : TypeId} (hu : P.underlying t = some (.slice e)) {sz : Nat} (hs : ∀ w', (Go.sizeOf e).run P w' = .ok sz w') {A : Option Addr} {n c l h : Nat} {lv hv : Option Value}
    (hb : ∀ w', (Instr.sliceBounds true n c lv hv none).run P w' = .ok (l, h, c) w') (w' : World) :
    (Instr.sliceAt t (.slice A n c) lv hv none).run P w' = .ok (.slice (if c = l then A else A.map (·.add (l * sz))) (h - l) (c - l)) w' := by
  simp [Instr.sliceAt, run_underlying hu, Instr.slice, hb, hs]

theorem vslice_sound (TO : TabOk P T) (hrel : Rel w0 own0 s g a w) {t : Nat} {x : AV} {v : Value} {lo hi : Option AV} {lv hv : Option Value} {K : AV → Prop} (hx : relAV s g w x v)
    (hl : match lo, lv with | some x, some v => relAV s g w x v | none, none => True | _, _ => False)
    (hh : match hi, hv with | some x, some v => relAV s g w x v | none, none => True | _, _ => False) (hk : vslice T t x lo hi s K) :
    ∃ z r, (∀ w', (Instr.sliceAt t v lv hv none).run P w' = .ok r w') ∧ K z ∧ relAV s g w z r := by
  unfold vslice at hk
  cases ht : T t with
  | none => simp [ht] at hk
  | some it =>
    simp only [ht] at hk
    obtain ⟨td, tsz, by_, zc, eq_⟩ := it
    have hd := TO.desc t _ ht
    cases td <;> simp only at hk hd
    case str =>
      simp only [TDok] at hd
      split at hk
      · rename_i b
        obtain rfl := relS hx
        obtain ⟨l, h, h1, h2, h3, hk⟩ := vbounds_sound (P := P) (b := false) (Nat.le_refl _) hl hh hk
        exact ⟨_, _, fun w' => by simp [Instr.sliceAt, run_underlying hd, Instr.slice, h1], hk, rel_vstr _⟩
      · exact hk.elim
    case sl e =>
      cases he : T e with
      | none => simp [he] at hk
      | some ie =>
        simp only [he] at hk
        have hs := TO.sizeOf he
        split at hk
        · rename_i u
          cases hr : s.rows u with
          | none => simp [hr] at hk
          | some r =>
            simp only [hr] at hk
            obtain ⟨hsz, hk⟩ := hk
            have ha : (s.rows u).isSome = true := by rw [hr]; rfl
            have hv : v = g.hv u := hx ha
            have hro := hrel.rows u r hr
            have hrd : RC (viewF g u) w (.sl r.sz r.els) v := by rw [hv]; exact hro.reads (fun b hb => .inl hb) (fun b hb => .inr hb)
            obtain ⟨A, c, rfl, hc, _⟩ := sl_form hrd
            obtain ⟨l, h, h1, h2, h3, hk⟩ := vbounds_sound (P := P) (b := true) hc hl hh hk
            refine ⟨_, _, slice_run hd (sz := r.sz) (by rw [hsz]; exact hs) h1, hk, fun _ => hrd.cut h2 h3⟩
        · rename_i sz els
          obtain ⟨hsz, hk⟩ := hk
          obtain ⟨A, c, rfl, hc, _⟩ := sl_form hx
          obtain ⟨l, h, h1, h2, h3, hk⟩ := vbounds_sound (P := P) (b := true) hc hl hh hk
          rcases hsz with e0 | e0
          · refine ⟨_, _, slice_run hd hs h1, hk, ?_⟩
            subst e0
            have : h - l = 0 := by simp at h3; omega
            rw [this]
            have e1 : (([] : List (List D)).take h).drop l = [] := by simp
            rw [e1]; exact RC.nil _ _ _
          · exact ⟨_, _, slice_run hd (sz := sz) (by rw [e0]; exact hs) h1, hk, RC.cut hx h2 h3⟩
        · rename_i u sz els
          obtain ⟨ha, hsz, hk⟩ := hk
          have hx' := hx ha
          obtain ⟨A, c, rfl, hc, _⟩ := sl_form hx'
          obtain ⟨l, h, h1, h2, h3, hk⟩ := vbounds_sound (P := P) (b := true) hc hl hh hk
          rcases hsz with e0 | e0
          · refine ⟨_, _, slice_run hd hs h1, hk, fun _ => ?_⟩
            subst e0
            have : h - l = 0 := by simp at h3; omega
            rw [this]
            have e1 : (([] : List (List D)).take h).drop l = [] := by simp
            rw [e1]; exact RC.nil _ _ _
          · exact ⟨_, _, slice_run hd (sz := sz) (by rw [e0]; exact hs) h1, hk, fun _ => RC.cut hx' h2 h3⟩
        · exact hk.elim
end
end GV

