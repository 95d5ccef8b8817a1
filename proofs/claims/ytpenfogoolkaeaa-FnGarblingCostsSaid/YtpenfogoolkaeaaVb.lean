/- This text proves the frame, second part: builders, appends, calls. No condition but those that each theorem states. -/
import Derived.Test.YtpenfogoolkaeaaVa
import Derived.Laws.CopyRow
import Derived.Deep.AppendSrc
set_option linter.unusedSimpArgs false
set_option linter.unusedVariables false
namespace GV
open Go

/-! ### a running activation; what changes things -/
structure Run (m n : Nat) (w0 : World) (own0 : Nat → Prop) (g0 : Gh) (s : St) (g : Gh) (a : Act) (w : World) : Prop where
  rel : Rel w0 own0 s g a w
  tmps : a.tmps.size = n
  ga : ∀ v, v < m → g.ga v = g0.ga v
  F : ∀ b, g0.F b → g.F b
  F' : ∀ b, g.F b → g0.F b ∨ own0 b ∨ w0.heap.size ≤ b

def fixN (T : Tab) (t : Nat) (x : AV) : AV :=
  match x with
  | .c (.nil e sz) => match T t with
    | some i => match i.td with
      | .sl e' => match T e' with
        | some ie => .c (.nil e' ie.size)
        | none => x
      | _ => x
    | none => x
  | _ => x
def vassign (d : Nat) (x : AV) (s : St) (K : AV → St → Prop) : Prop :=
  match x with
  | .c (.own t) => match s.rows t with
    | some _ => norm d (.own t) s fun c _ s' => K (.c c) s'
    | none => K x s
  | .c (.nil e sz) => if 0 < sz then norm d (.nil e sz) s fun c _ s' => K (.c c) s' else K x s
  | _ => K x s
def cellsOf : AV → Option (List C)
  | .c x => some [x]
  | .ag l => some l
  | .tu _ => none
def valloc (T : Tab) (t d : Nat) (s : St) (K : AV → St → Prop) : Prop :=
  match T t with
  | some i => normL (1000 * (d + 1)) i.zc id s fun l _ s' => K (.c (.ptr d 0)) (s'.addV d l)
  | none => False
def vbox (d : Nat) (x : AV) (s : St) (K : AV → St → Prop) : Prop :=
  match cellsOf x with
  | some l => normL (1000 * (d + 1)) l id s fun l _ s' => K (.c (.ptr d 0)) (s'.addV d l)
  | none => False
def vstore (T : Tab) (t : Nat) (x y : AV) (s : St) (K : St → Prop) : Prop :=
  match T t with
  | none => False
  | some i => match cellsOf y with
    | none => False
    | some l => l.length = i.size ∧ match x with
      | .c (.ptr v j) => (s.vars v).isSome = true ∧ normL (1000 * (v + 1) + j) l id s fun l' _ s' => match s'.vars v with
        | some cs => j + l'.length ≤ cs.length ∧ K (s'.setV v (cs.take j ++ l' ++ cs.drop (j + l'.length)))
        | none => False
      | .c (.eo u sz k j) => s.alive u ∧ frzL l id s fun ds _ s' => match s'.rows u with
        | some r => sz = r.sz ∧ k < r.els.length ∧ j + ds.length ≤ sz ∧ K (s'.setR u { r with els := r.els.set k (((r.els.getD k []).take j) ++ ds ++ ((r.els.getD k []).drop (j + ds.length))) })
        | none => False
      | _ => False

section
variable {P : Program} {T : Tab} {m n : Nat} {w0 : World} {own0 : Nat → Prop} {g0 : Gh} {s : St} {g : Gh} {a : Act} {w : World}

theorem Run.ghost {s' : St} {g' : Gh} {f : C → C} (h : Run m n w0 own0 g0 s g a w) (k : Ghost w0 own0 s s' g g' a w f) : Run m n w0 own0 g0 s' g' a w :=
  ⟨k.rel, h.tmps, fun v hv => by rw [k.ga]; exact h.ga v hv, fun b hb => k.F b (h.F b hb), fun b hb => (k.F' b hb).elim (h.F' b) .inr⟩
theorem Run.put (h : Run m n w0 own0 g0 s g a w) {d : Nat} {x : AV} {v : Value} (hd : d < n) (hx : relAV s g w x v) : Run m n w0 own0 g0 (s.put d x) g (a.put (some d) v) w :=
  ⟨h.rel.put (by rw [h.tmps]; exact hd) hx, by simp [Act.put, h.tmps], h.ga, h.F, h.F'⟩
theorem Run.grow {w' : World} (h : Run m n w0 own0 g0 s g a w) (k : Keeps w w' (fun _ => False)) : Run m n w0 own0 g0 s g a w' :=
  ⟨h.rel.grow k, h.tmps, h.ga, h.F, h.F'⟩

theorem fixN_rel {t : Nat} {x : AV} {v : Value} (h : relAV s g w x v) : relAV s g w (fixN T t x) v := by
  unfold fixN
  split
  · split
    · split
      · split
        · exact h
        · exact h
      · exact h
    · exact h
  · exact h

theorem vassign_sound {d : Nat} {x : AV} {v : Value} {K : AV → St → Prop} (h : Run m n w0 own0 g0 s g a w) (hx : relAV s g w x v) (hk : vassign d x s K) :
    ∃ y s' g', K y s' ∧ Run m n w0 own0 g0 s' g' a w ∧ relAV s' g' w y v := by
  unfold vassign at hk
  split at hk
  · split at hk
    · obtain ⟨c', f, s', g', h1, h2, h3, _⟩ := norm_sound (v := v) h.rel (by exact hx) hk
      exact ⟨_, _, _, h1, h.ghost h2, h3⟩
    · exact ⟨_, _, _, hk, h, hx⟩
  · split at hk
    · obtain ⟨c', f, s', g', h1, h2, h3, _⟩ := norm_sound (v := v) h.rel (by exact hx) hk
      exact ⟨_, _, _, h1, h.ghost h2, h3⟩
    · exact ⟨_, _, _, hk, h, hx⟩
  · exact ⟨_, _, _, hk, h, hx⟩

theorem Rel.mv {w' : World} {M : Nat → Prop} (h : Rel w0 own0 s g a w) (k : Keeps w w' M) (hF : ∀ b, M b → ¬ g.F b) (hr : ∀ t r b, s.rows t = some r → (g.hv t).ownBlock = some b → ¬ M b) : Moves s s g g w w' := by
  have hlt : ∀ t r b, s.rows t = some r → (g.hv t).ownBlock = some b → b < w.heap.size := by
    intro t r b ht hb
    obtain ⟨xs, h1, _⟩ := h.rows t r ht
    exact (h1.lt b hb).2
  exact ⟨fun _ h => h, fun b hb => k.heap b (h.lt b hb) (fun hm => hF b hm hb), fun t ht => by
      obtain ⟨r, hrr⟩ := Option.isSome_iff_exists.1 ht
      exact ⟨ht, rfl, fun b hb => k.heap b (hlt t r b hrr hb) (hr t r b hrr hb)⟩, fun t ht => ⟨ht, rfl⟩⟩

/-- A variable of these cells is made. -/
theorem Run.newVar (h : Run m n w0 own0 g0 s g a w) {d : Nat} (hd : m ≤ d) {l : List C} {vs : List Value} (hl : relL s g w l vs) (t : TypeId) :
    ∃ g', Run m n w0 own0 g0 (s.addV d l) g' a (w.alloc (.cells vs.toArray t)) ∧ g'.ga d = w.heap.size ∧ Keeps w (w.alloc (.cells vs.toArray t)) (fun _ => False) := by
  have k : Keeps w (w.alloc (.cells vs.toArray t)) (fun _ => False) := Keeps.alloc w _ _
  have h1 := h.rel.grow k
  have hm := h.rel.mv k (fun _ h => h.elim) (fun _ _ _ _ _ h => h)
  have hlt : ∀ u r, s.rows u = some r → (g.hv u).ownBlock ≠ some w.heap.size := by
    intro u r hu hb
    obtain ⟨xs, h2, _⟩ := h.rel.rows u r hu
    have := (h2.lt _ hb).2
    omega
  have h2 := h1.addV d w.heap.size l vs.toArray t (heap_alloc_new w _) (hl.toCs.move hm) (fun hb => by have := h.rel.lt _ hb; omega) (.inr h.rel.size) hlt
    (fun u c _ hu he => by
      obtain ⟨arr, T', h3, _⟩ := h.rel.vars u c hu
      have := (Array.getElem?_eq_some_iff.1 h3).1
      omega)
  refine ⟨_, ⟨h2, h.tmps, fun v hv => ?_, h.F, h.F'⟩, upd_same _ _ _, k⟩
  have : v ≠ d := by omega
  simp only [upd_ne _ _ _ _ this]; exact h.ga v hv

theorem relL_cells {l : List C} {x : AV} {v : Value} (hx : relAV s g w x v) (hl : cellsOf x = some l) : ∃ vs, relL s g w l vs ∧ ((∀ u ∈ vs, u.oneCell' = true) → v.cells = vs.toArray) := by
  cases x with
  | tu _ => simp [cellsOf] at hl
  | c c =>
    simp only [cellsOf, Option.some.injEq] at hl; subst hl
    refine ⟨[v], ⟨hx, trivial⟩, fun h => ?_⟩
    have := h v (by simp)
    cases v <;> first | rfl | cases this
  | ag l' =>
    simp only [cellsOf, Option.some.injEq] at hl; subst hl
    obtain ⟨arr, rfl, h1⟩ := hx
    exact ⟨arr.toList, h1.toL, fun _ => by simp [Value.cells]⟩

theorem zc_rel (TO : TabOk P T) {t : Nat} {i : TI} (ht : T t = some i) : ∃ f z, P.info? t = some f ∧ f.zero = some z ∧ relL s g w i.zc z.cells.toList ∧ f.size = i.size ∧ f.bytes = i.bytes ∧ z.cells.size = i.size ∧ i.zc.length = i.size := by
  obtain ⟨f, z, h1, h2, h3, h4, h5, h6, h7⟩ := TO.info t i ht
  refine ⟨f, z, h1, h4, relL.of (by simp [h5, h6]) fun j hj => ?_, h2, h3, h5, h6⟩
  have := h7 j (by omega)
  have e : z.cells.toList.getD j undef = z.cells.getD j undef := by simp [List.getD_eq_getElem?_getD, Array.getD_eq_getD_getElem?]
  rw [e]
  generalize i.zc.getD j .no = c at this
  generalize z.cells.getD j undef = u at this
  unfold zOk at this
  split at this
  · obtain ⟨rfl, h8⟩ := this; exact .v _ h8
  · exact this
  · exact this.elim

theorem valloc_sound (TO : TabOk P T) {t d : Nat} {K : AV → St → Prop} (h : Run m n w0 own0 g0 s g a w) (hd : m ≤ d) (hk : valloc T t d s K) :
    ∃ y v w' s' g', (Instr.alloc t true (.tuple #[])).run P w = .ok v w' ∧ K y s' ∧ Run m n w0 own0 g0 s' g' a w' ∧ relAV s' g' w' y v ∧ Keeps w w' (fun _ => False) := by
  unfold valloc at hk
  cases ht : T t with
  | none => simp [ht] at hk
  | some i =>
    simp only [ht] at hk
    obtain ⟨f, z, h1, h2, h3, h4, h5, h6, h7⟩ := zc_rel (s := s) (g := g) (w := w) TO ht
    obtain ⟨l', f', s', g', hk, h8, h9, _⟩ := normL_sound i.zc (f := id) h.rel (by simpa using h3) hk
    obtain ⟨g2, h10, h11, h12⟩ := (h.ghost h8).newVar hd h9 t
    refine ⟨_, _, _, _, g2, ?_, hk, h10, fun _ => rfl, h12⟩
    rw [h11]
    simp [Instr.alloc, zeroValue, typeInfo, h1, h2, Go.newVar, newRow]

theorem vbox_sound {t d : Nat} {x : AV} {v : Value} {K : AV → St → Prop} (h : Run m n w0 own0 g0 s g a w) (hx : relAV s g w x v) (hd : m ≤ d) (hk : vbox d x s K) :
    ∃ y v' w' s' g', (Instr.box t v).run P w = .ok v' w' ∧ K y s' ∧ Run m n w0 own0 g0 s' g' a w' ∧ relAV s' g' w' y v' ∧ Keeps w w' (fun _ => False) := by
  unfold vbox at hk
  cases hc : cellsOf x with
  | none => simp [hc] at hk
  | some l =>
    simp only [hc] at hk
    obtain ⟨vs, h1, h2⟩ := relL_cells hx hc
    obtain ⟨l', f', s', g', hk, h8, h9, h13⟩ := normL_sound l (f := id) h.rel (by simpa using h1) hk
    obtain ⟨g2, h10, h11, h12⟩ := (h.ghost h8).newVar hd h9 t
    refine ⟨_, _, _, _, g2, ?_, hk, h10, fun _ => rfl, h12⟩
    rw [h11]
    simp [Instr.box, Go.newVar, newRow, h2 h13]

theorem relL.append {l l' : List C} {vs vs' : List Value} (h : relL s g w l vs) (h' : relL s g w l' vs') : relL s g w (l ++ l') (vs ++ vs') := by
  induction l generalizing vs with
  | nil => cases vs with
    | nil => exact h'
    | cons => exact h.elim
  | cons c l ih => cases vs with
    | nil => exact h.elim
    | cons v vs => exact ⟨h.1, ih h.2⟩
theorem relDL.append {F : Nat → Prop} {l l' : List D} {vs vs' : List Value} (h : relDL F w l vs) (h' : relDL F w l' vs') : relDL F w (l ++ l') (vs ++ vs') := by
  induction l generalizing vs with
  | nil => cases vs with
    | nil => exact h'
    | cons => exact h.elim
  | cons c l ih => cases vs with
    | nil => exact h.elim
    | cons v vs => exact ⟨h.1, ih h.2⟩

theorem splice_getD {α : Type} (l d : List α) (j k : Nat) (u : α) (h : j + d.length ≤ l.length) : (l.take j ++ d ++ l.drop (j + d.length)).getD k u = if j ≤ k ∧ k < j + d.length then d.getD (k - j) u else l.getD k u := by
  have hj : min j l.length = j := by omega
  by_cases c1 : k < j
  · rw [if_neg (by omega), List.getD_eq_getElem?_getD, List.append_assoc, List.getElem?_append_left (by rw [List.length_take]; omega), List.getElem?_take, if_pos c1, ← List.getD_eq_getElem?_getD]
  · by_cases c2 : k < j + d.length
    · rw [if_pos ⟨by omega, c2⟩, List.getD_eq_getElem?_getD, List.append_assoc, List.getElem?_append_right (by rw [List.length_take]; omega), List.length_take, hj, List.getElem?_append_left (by omega), ← List.getD_eq_getElem?_getD]
    · rw [if_neg (by omega), List.getD_eq_getElem?_getD, List.getElem?_append_right (by rw [List.length_append, List.length_take]; omega), List.length_append, List.length_take, hj, List.getElem?_drop, ← List.getD_eq_getElem?_getD]
      congr 1; omega
theorem vstore_sound (TO : TabOk P T) {t : Nat} {x y : AV} {v u : Value} {K : St → Prop} (h : Run m n w0 own0 g0 s g a w) (hx : relAV s g w x v) (hy : relAV s g w y u) (hk : vstore T t x y s K) :
    ∃ w' s' g', (Instr.storeAt t v u).run P w = .ok () w' ∧ K s' ∧ Run m n w0 own0 g0 s' g' a w' := by
  unfold vstore at hk
  cases ht : T t with
  | none => simp [ht] at hk
  | some i =>
    simp only [ht] at hk
    cases hc : cellsOf y with
    | none => simp [hc] at hk
    | some l =>
      simp only [hc] at hk
      obtain ⟨hl, hk⟩ := hk
      obtain ⟨vs, h1, h2⟩ := relL_cells hy hc
      have hso := TO.sizeOf ht w
      split at hk
      · rename_i vv j
        obtain ⟨ha, hk⟩ := hk
        have hv : v = .pointer (some ⟨g.ga vv, j, none⟩) := hx ha
        obtain ⟨l', f', s', g', hk, h8, h9, h13⟩ := normL_sound l (f := id) h.rel (by simpa using h1) hk
        have hcells := h2 h13
        cases hvs : s'.vars vv with
        | none => simp [hvs] at hk
        | some cs =>
          simp only [hvs] at hk
          obtain ⟨hle, hk⟩ := hk
          have hr := h.ghost h8
          obtain ⟨arr, T', h14, h15⟩ := hr.rel.vars vv cs hvs
          have hlen := h9.len
          have hga : g'.ga = g.ga := h8.ga
          have hst := run_storeCells_at P (g.ga vv) j T' vs 0 arr w (by rw [← hga]; exact h14) (by rw [h15.1]; omega) h13
          have k : Keeps w (w.setRow (g.ga vv) (arr.toList.take (j + 0) ++ vs ++ arr.toList.drop (j + 0 + vs.length)).toArray) (fun b => b = g'.ga vv) :=
            ⟨rfl, rfl, rfl, by simp, fun b _ hb => setRow_other w _ _ _ (by rw [hga] at hb; exact hb)⟩
          have hmv := hr.rel.mv k (fun b hb => by rw [hb]; exact (hr.rel.varF vv cs hvs).1) (fun u r b hu hb he => hr.rel.rv u vv r cs hu hvs (by rw [hb, he]))
          have hrel : relL s' g' w (cs.take j ++ l' ++ cs.drop (j + l'.length)) (arr.toList.take (j + 0) ++ vs ++ arr.toList.drop (j + 0 + vs.length)) := by
            rw [Nat.add_zero, ← hlen]
            exact ((h15.toL.take j).append h9).append (h15.toL.drop _)
          refine ⟨_, _, g', ?_, hk, ⟨hr.rel.setV vv cs _ hvs k ⟨_, T', ?_, hrel.toCs.move hmv⟩, hr.tmps, hr.ga, hr.F, hr.F'⟩⟩
          · rw [hv]
            have hsz : vs.length = i.size := by rw [h1.len, hl]
            simp [Instr.storeAt, Instr.sureAddr, storeVar, hcells, hso, hsz, hst]
          · rw [hga]; exact setRow_heap w _ arr _ T' (0, 0) (by rw [← hga]; exact h14)
      · rename_i uu sz k j
        obtain ⟨ha, hk⟩ := hk
        obtain ⟨b, hb, hv⟩ := hx ha
        obtain ⟨ds, f', s', g', hk, h8, h9, hq⟩ := frzL_sound l (f := id) h.rel (by simpa using h1) hk
        have h13 := h9.one
        have hcells := h2 h13
        have hr := h.ghost h8
        cases hrr : s'.rows uu with
        | none => simp [hrr] at hk
        | some r =>
          simp only [hrr] at hk
          obtain ⟨hsz, hkl, hjl, hk⟩ := hk
          obtain ⟨xs, h14, h15, h16⟩ := hr.rel.rows uu r hrr
          have hhv : g'.hv uu = g.hv uu := by rw [hq]
          rcases h14.2 with ⟨e1, e2⟩ | ⟨b', cap, cur, e1, e2, e3, e4, e5, e6, e7⟩
          · omega
          · have hbb : b' = b := by rw [hhv] at e1; rw [e1] at hb; simpa [Value.ownBlock] using hb
            subst hbb
            have hel : (r.els.getD k []).length = r.sz := (h16 k hkl).1
            have hmul : (k + 1) * r.sz ≤ r.els.length * r.sz := Nat.mul_le_mul_right _ hkl
            have hmul2 : r.els.length * r.sz ≤ cap * r.sz := Nat.mul_le_mul_right _ e4
            rw [Nat.add_mul, Nat.one_mul] at hmul
            have hlen := h9.len
            have hst := run_storeCells_at P b' (k * sz + j) r.e vs 0 cur w e3 (by rw [e6, hlen, hsz]; omega) h13
            have hxl := h14.1
            have kk : Keeps w (w.setRow b' (cur.toList.take (k * sz + j + 0) ++ vs ++ cur.toList.drop (k * sz + j + 0 + vs.length)).toArray) (fun c => (g'.hv uu).ownBlock = some c) :=
              ⟨rfl, rfl, rfl, by simp, fun c _ hc => setRow_other w _ _ _ (fun e => hc (by rw [e1, e]; rfl))⟩
            have hFh : ∀ c, g'.F c → (w.setRow b' (cur.toList.take (k * sz + j + 0) ++ vs ++ cur.toList.drop (k * sz + j + 0 + vs.length)).toArray).heap[c]? = w.heap[c]? := fun c hc => kk.heap c (hr.rel.lt c hc) (fun he => (hr.rel.rowF uu r c hrr he).1 hc)
            refine ⟨_, _, g', ?_, hk, ⟨hr.rel.setR uu r _ hrr kk ⟨xs.take (k * sz + j) ++ vs ++ xs.drop (k * sz + j + vs.length), ⟨?_, .inr ⟨b', cap, _, ?_, e2, setRow_heap w _ cur _ r.e (0, 0) e3, ?_, e5, ?_, ?_⟩⟩, h15, ?_⟩, hr.tmps, hr.ga, hr.F, hr.F'⟩⟩
            · rw [hv]
              have hsz' : vs.length = i.size := by rw [h1.len, hl]
              simp [Instr.storeAt, Instr.sureAddr, storeVar, hcells, hso, hsz', hst]
            · simp only [List.length_append, List.length_take, List.length_drop, List.length_set, hxl, hsz, hlen]; omega
            · simpa using e1
            · simpa using e4
            · simp only [List.size_toArray, List.length_append, List.length_take, List.length_drop, Array.length_toList, e6, hsz, hlen]; omega
            · simp only [List.length_set]
              rw [← e7, hsz]
              have hA : r.els.length * r.sz ≤ cur.toList.length := by rw [Array.length_toList, e6]; exact hmul2
              simp only [Nat.add_zero]
              rw [List.take_append, List.take_append, List.take_take, List.take_take, List.drop_take]
              simp only [List.length_append, List.length_take, Array.length_toList, e6]
              have m1 : min (r.els.length * r.sz) (k * r.sz + j) = k * r.sz + j := by omega
              have m2 : min (k * r.sz + j) (r.els.length * r.sz) = k * r.sz + j := by omega
              have m3 : min (k * r.sz + j) (cap * r.sz) = k * r.sz + j := by omega
              rw [m1, m2, m3]
              congr 1
              · congr 1
                exact List.take_of_length_le (by omega)
            · intro i' hi'
              simp only [List.length_set] at hi'
              have hfit : k * sz + j + vs.length ≤ xs.length := by rw [hxl, hlen, hsz]; omega
              have hfit2 : j + ds.length ≤ (r.els.getD k []).length := by omega
              by_cases e : k = i'
              · subst e
                have hge : (r.els.set k ((r.els.getD k []).take j ++ ds ++ (r.els.getD k []).drop (j + ds.length))).getD k [] = (r.els.getD k []).take j ++ ds ++ (r.els.getD k []).drop (j + ds.length) := by
                  rw [List.getD_eq_getElem?_getD, List.getElem?_set_self (by simpa using hi')]; rfl
                rw [hge]
                refine ⟨by simp only [List.length_append, List.length_take, List.length_drop, hel]; omega, fun j' hj' => ?_⟩
                show RC g'.F _ _ ((xs.take (k * sz + j) ++ vs ++ xs.drop (k * sz + j + vs.length)).getD (k * r.sz + j') undef)
                rw [splice_getD _ _ _ _ _ hfit, splice_getD _ _ _ _ _ hfit2]
                by_cases c1 : j ≤ j' ∧ j' < j + ds.length
                · rw [if_pos c1, if_pos (by rw [hsz]; omega)]
                  have e9 : k * r.sz + j' - (k * sz + j) = j' - j := by rw [hsz]; omega
                  rw [e9]
                  exact (h9.at (j' - j) (by omega)).heap hFh
                · rw [if_neg c1, if_neg (by rw [hsz]; omega)]
                  exact ((h16 k hkl).2 j' hj').heap hFh
              · have hge : (r.els.set k ((r.els.getD k []).take j ++ ds ++ (r.els.getD k []).drop (j + ds.length))).getD i' [] = r.els.getD i' [] := by
                  rw [List.getD_eq_getElem?_getD, List.getElem?_set_ne e, ← List.getD_eq_getElem?_getD]
                rw [hge]
                refine ⟨(h16 i' hi').1, fun j' hj' => ?_⟩
                show RC g'.F _ _ ((xs.take (k * sz + j) ++ vs ++ xs.drop (k * sz + j + vs.length)).getD (i' * r.sz + j') undef)
                rw [splice_getD _ _ _ _ _ hfit, if_neg ?_]
                · exact ((h16 i' hi').2 j' hj').heap hFh
                · rw [hsz]
                  have hj2 : j' < r.sz := hj'
                  rcases Nat.lt_or_gt_of_ne e with e | e
                  · have : (k + 1) * r.sz ≤ i' * r.sz := Nat.mul_le_mul_right _ e
                    rw [Nat.add_mul, Nat.one_mul] at this
                    omega
                  · have : (i' + 1) * r.sz ≤ k * r.sz := Nat.mul_le_mul_right _ e
                    rw [Nat.add_mul, Nat.one_mul] at this
                    omega
      · exact hk.elim
end
end GV

set_option linter.unusedSimpArgs false
set_option linter.unusedVariables false
namespace GV
open Go

def known (s : St) : C → Prop
  | .no => False
  | .und => False
  | .d _ => True
  | .bw t _ => s.alive t
  | .own t => s.alive t
  | .nil _ _ => True
  | .ptr t _ => (s.vars t).isSome = true
  | .eo t _ _ _ => s.alive t
  | .er _ => True
  | .eb t _ => s.alive t
/-- A nil that is told what it is a slice of, by the cell that stood there. -/
def fitN : List C → List C → List C
  | .nil e sz :: l, .nil e' sz' :: l' => .nil e' sz' :: fitN l l'
  | c :: l, _ :: l' => c :: fitN l l'
  | l, [] => l
  | [], _ => []
def partOk (s : St) (x : AV) : Prop :=
  match x with
  | .c c => known s c
  | .ag _ => True
  | .tu _ => False
def vfill (s : St) (place : Nat → Option (Nat × Nat)) : List C → List (Nat × AV) → (List C → Prop) → Prop
  | cs, [], K => K cs
  | cs, (k, x) :: r, K => match place k, cellsOf x with
    | some (off, sz), some l => partOk s x ∧ l.length = sz ∧ off + sz ≤ cs.length ∧ vfill s place (cs.take off ++ fitN l (cs.drop off) ++ cs.drop (off + l.length)) r K
    | _, _ => False
def vbuild (T : Tab) (t : Nat) (parts : List (Nat × AV)) (s : St) (K : AV → Prop) : Prop :=
  match T t with
  | none => False
  | some i => match i.td with
    | .st fs => vfill s (fun k => (fs[k]?).map fun p => (p.1, p.2.1)) i.zc parts fun cs => K (.ag cs)
    | .arr _ e => match T e with
      | some ie => vfill s (fun k => some (k * ie.size, ie.size)) i.zc parts fun cs => K (.ag cs)
      | none => False
    | _ => False

section
variable {P : Program} {T : Tab} {m n : Nat} {w0 : World} {own0 : Nat → Prop} {g0 : Gh} {s : St} {g : Gh} {a : Act} {w : World}

theorem known_one (h : Rel w0 own0 s g a w) {c : C} {v : Value} (hc : relC s g w c v) (hk : known s c) : v.oneCell' = true := by
  cases c with
  | no => exact hk.elim
  | und => exact hk.elim
  | d x => exact RC.one hc
  | bw t x => exact (hc hk).one
  | own t =>
    obtain ⟨r, hr⟩ := Option.isSome_iff_exists.1 hk
    rw [hc hk]; exact hv_one h hr
  | nil e sz => rw [show v = _ from hc]; rfl
  | ptr t j => rw [hc hk]; rfl
  | eo t sz i j => obtain ⟨b, _, hv⟩ := hc hk; rw [hv]; rfl
  | er cs => obtain ⟨b, o, hv, _⟩ := hc; rw [hv]; rfl
  | eb t cs => obtain ⟨b, o, hv, _⟩ := hc hk; rw [hv]; rfl

theorem fitN_rel : ∀ {l l' : List C} {vs : List Value}, relL s g w l vs → relL s g w (fitN l l') vs
  | [], l', vs, h => by cases l' <;> simpa [fitN] using h
  | c :: l, [], vs, h => by simpa [fitN] using h
  | c :: l, c' :: l', [], h => h.elim
  | c :: l, c' :: l', v :: vs, h => by
    unfold fitN
    split
    · rename_i h1 h2
      cases h1; cases h2
      exact ⟨h.1, fitN_rel h.2⟩
    · rename_i h1 h2
      cases h1; cases h2
      exact ⟨h.1, fitN_rel h.2⟩
    · rename_i h2; cases h2
    · rename_i h1 _; cases h1
theorem fitN_len : ∀ (l l' : List C), (fitN l l').length = l.length
  | [], l' => by cases l' <;> simp [fitN]
  | c :: l, [] => by simp [fitN]
  | c :: l, c' :: l' => by
    unfold fitN
    split
    · rename_i h1 h2; cases h1; cases h2; simp [fitN_len]
    · rename_i h1 h2; cases h1; cases h2; simp [fitN_len]
    · rename_i h2; cases h2
    · rename_i h1 _; cases h1

theorem fold_set (cells : Array Value) (off : Nat) : ∀ (vs : List Value) (o : Nat) (cur : Array Value), off + o + vs.length ≤ cur.size →
    ((vs.zipIdx o).foldl (fun cs (p : Value × Nat) => cs.setIfInBounds (off + p.2) p.1) cur).toList = cur.toList.take (off + o) ++ vs ++ cur.toList.drop (off + o + vs.length)
  | [], o, cur, h => by simp
  | v :: vs, o, cur, h => by
    simp only [List.length_cons] at h
    simp only [List.zipIdx_cons, List.foldl_cons]
    rw [fold_set cells off vs (o + 1) _ (by simp; omega)]
    simp only [Array.toList_setIfInBounds]
    rw [List.take_set, List.drop_set_of_lt (by omega)]
    have e1 : off + (o + 1) = off + o + 1 := by omega
    rw [e1]
    have hlt : off + o < cur.toList.length := by simp; omega
    rw [List.take_succ_eq_append_getElem hlt, List.set_append_right _ _ (by rw [List.length_take]; omega)]
    have e2 : off + o - (cur.toList.take (off + o)).length = 0 := by rw [List.length_take]; omega
    rw [e2]
    have e3 : off + o + 1 + vs.length = off + o + (v :: vs).length := by simp; omega
    rw [e3]
    simp

def relParts (s : St) (g : Gh) (w : World) : List (Nat × AV) → List (Nat × Value) → Prop
  | [], [] => True
  | (k, x) :: r, (k', v) :: r' => k = k' ∧ relAV s g w x v ∧ relParts s g w r r'
  | _, _ => False

theorem vfill_sound (h : Rel w0 own0 s g a w) {place place' : Nat → Option (Nat × Nat)} (hp : ∀ k p, place k = some p → place' k = some p) : ∀ {parts : List (Nat × AV)} {ps : List (Nat × Value)} {cs : List C} {cells : Array Value} {K : List C → Prop},
    relParts s g w parts ps → relL s g w cs cells.toList → vfill s place cs parts K → ∃ cs' cells', Instr.fill place' cells ps = some cells' ∧ K cs' ∧ relL s g w cs' cells'.toList
  | [], [], cs, cells, K, _, hc, hk => ⟨cs, cells, rfl, hk, hc⟩
  | [], _ :: _, _, _, _, hr, _, _ => hr.elim
  | _ :: _, [], _, _, _, hr, _, _ => by simp [relParts] at hr
  | (k, x) :: r, (k', v) :: r', cs, cells, K, hr, hc, hk => by
    obtain ⟨rfl, hx, hr⟩ := hr
    unfold vfill at hk
    split at hk
    · rename_i off sz l hpl hcl
      obtain ⟨h1, h2, h3, hk⟩ := hk
      have hcells : ∃ vs, relL s g w l vs ∧ v.cells = vs.toArray := by
        cases x with
        | tu _ => simp [cellsOf] at hcl
        | c c =>
          simp only [cellsOf, Option.some.injEq] at hcl; subst hcl
          refine ⟨[v], ⟨hx, trivial⟩, ?_⟩
          have := known_one h hx h1
          cases v <;> first | rfl | cases this
        | ag l' =>
          simp only [cellsOf, Option.some.injEq] at hcl; subst hcl
          obtain ⟨arr, rfl, h1⟩ := hx
          exact ⟨arr.toList, h1.toL, by simp [Value.cells]⟩
      obtain ⟨vs, h4, h5⟩ := hcells
      have hlen := h4.len
      have hcl2 := hc.len
      have hfold := fold_set #[] off vs 0 cells (by simp at hcl2; omega)
      have hrel : relL s g w (cs.take off ++ fitN l (cs.drop off) ++ cs.drop (off + l.length)) (((vs.zipIdx 0).foldl (fun cs (p : Value × Nat) => cs.setIfInBounds (off + p.2) p.1) cells)).toList := by
        rw [hfold, Nat.add_zero, ← hlen]
        exact ((hc.take off).append (fitN_rel h4)).append (hc.drop _)
      obtain ⟨cs', cells', h6, h7, h8⟩ := vfill_sound h hp hr hrel hk
      refine ⟨cs', cells', ?_, h7, h8⟩
      rw [← h6]
      conv => lhs; unfold Instr.fill
      rw [hp k _ hpl, h5]
      have hn : ¬ (vs.toArray.size ≠ sz ∨ off + vs.toArray.size > cells.size) := by simp at hcl2; simp; omega
      simp only [if_neg hn]
      congr 1
      rw [← Array.foldl_toList]
      congr 1
      simp
      intro hh
      exact absurd hh (by simpa using hn)
    · exact hk.elim

theorem places_ok (fields : Array Field) (fs : List (Nat × Nat × Bool)) (hsz : fields.size = fs.length)
    (h : ∀ (k : Nat) (p : Nat × Nat × Bool), fs[k]? = some p → ∃ (f : Field) (i : TypeInfo) (d : TypeDesc), fields[k]? = some f ∧ f.offset = p.1 ∧ P.info? f.type = some i ∧ i.size = p.2.1 ∧ 0 < p.2.1 ∧ P.underlying f.type = some d ∧ aggD d = p.2.2) :
    fields.toList.mapM (fun f => (P.info? f.type).map fun i => (f.offset, i.size)) = some (fs.map fun p => (p.1, p.2.1)) := by
  have key : ∀ (l : List Field) (fs : List (Nat × Nat × Bool)), l.length = fs.length → (∀ (k : Nat) (p : Nat × Nat × Bool), fs[k]? = some p → ∃ (f : Field) (i : TypeInfo), l[k]? = some f ∧ f.offset = p.1 ∧ P.info? f.type = some i ∧ i.size = p.2.1) →
      l.mapM (fun f => (P.info? f.type).map fun i => (f.offset, i.size)) = some (fs.map fun p => (p.1, p.2.1)) := by
    intro l
    induction l with
    | nil => intro fs hl _; cases fs with
      | nil => rfl
      | cons => simp at hl
    | cons f l ih =>
      intro fs hl hh
      cases fs with
      | nil => simp at hl
      | cons p fs =>
        obtain ⟨f', i, h1, h2, h3, h4⟩ := hh 0 p (by simp)
        simp at h1; subst h1
        have := ih fs (by simpa using hl) (fun k q hq => by simpa using hh (k + 1) q (by simpa using hq))
        simp [List.mapM_cons, h3, this, h2, h4]
  exact key fields.toList fs (by simpa using hsz) fun k p hk => by
    obtain ⟨f, i, d, h1, h2, h3, h4, _⟩ := h k p hk
    exact ⟨f, i, by simpa using h1, h2, h3, h4⟩

theorem vbuild_sound (TO : TabOk P T) (h : Rel w0 own0 s g a w) {t : Nat} {parts : List (Nat × AV)} {ps : Array (Nat × Value)} {K : AV → Prop} (hp : relParts s g w parts ps.toList) (hk : vbuild T t parts s K) :
    ∃ y v, (∀ w', (Instr.build t ps).run P w' = .ok v w') ∧ K y ∧ relAV s g w y v := by
  unfold vbuild at hk
  cases ht : T t with
  | none => simp [ht] at hk
  | some i =>
    simp only [ht] at hk
    obtain ⟨f, z, h1, h2, h3, h4, h5, h6, h7⟩ := zc_rel (s := s) (g := g) (w := w) TO ht
    have hd := TO.desc t i ht
    split at hk
    · rename_i fs hfs
      rw [hfs] at hd
      obtain ⟨fields, k1, k2, k3⟩ := hd
      have hpl := places_ok fields fs k2 k3
      obtain ⟨cs', cells', h8, h9, h10⟩ := vfill_sound h (place' := ((fs.map fun p => (p.1, p.2.1)).toArray[·]?)) (fun k p hk => by simpa using hk) hp h3 hk
      refine ⟨_, .agg cells', fun w' => run_build w' t ps cells' ?_, h9, ⟨_, rfl, by simpa using h10.toCs⟩⟩
      unfold Program.built
      simp only [h1, k1, h2, hpl]
      exact h8
    · rename_i n' e hfs
      rw [hfs] at hd
      cases he : T e with
      | none => simp [he] at hk
      | some ie =>
        simp only [he] at hk
        obtain ⟨f', z', e1, e2, _⟩ := TO.info e ie he
        obtain ⟨cs', cells', h8, h9, h10⟩ := vfill_sound h (place' := fun k => some (k * ie.size, ie.size)) (fun k p hk => hk) hp h3 hk
        refine ⟨_, .agg cells', fun w' => run_build w' t ps cells' ?_, h9, ⟨_, rfl, by simpa using h10.toCs⟩⟩
        unfold Program.built
        have hd' : P.underlying t = some (.array _ _) := hd
        simp only [h1, hd', h2, e1, e2]
        exact h8
    · exact hk.elim
end
end GV

set_option linter.unusedSimpArgs false
set_option linter.unusedVariables false
namespace GV
open Go

def chunk (sz : Nat) (len : Nat) (l : List D) : List (List D) := (List.range len).map fun k => (l.drop (k * sz)).take sz
def vbuildSlice (T : Tab) (t len d : Nat) (parts : List (Nat × AV)) (s : St) (K : AV → St → Prop) : Prop :=
  match T t with
  | none => False
  | some i => match i.td with
    | .sl e => match T e with
      | none => False
      | some ie => 0 < ie.size ∧ len * ie.size ≤ 16777216 ∧ vfill s (fun k => some (k * ie.size, ie.size)) (List.replicate len ie.zc).flatten parts fun cs =>
          frzL cs id s fun ds _ s' => K (.c (.own d)) (s'.addR d ⟨e, ie.size, chunk ie.size len ds⟩)
    | _ => False
def zcD : List C → Option (List D)
  | [] => some []
  | .d x :: l => (zcD l).map (x :: ·)
  | .nil _ sz :: l => (zcD l).map (.sl sz [] :: ·)
  | _ :: _ => none
def vmakeSlice (T : Tab) (t d : Nat) (x y : AV) (s : St) (K : AV → St → Prop) : Prop :=
  vint x fun _ l => vint y fun _ c => 0 ≤ l ∧ l ≤ c ∧ match T t with
  | none => False
  | some i => match i.td with
    | .sl e => match T e with
      | none => False
      | some ie => match zcD ie.zc with
        | none => False
        | some z => 0 < ie.size ∧ 0 < ie.bytes ∧ c * ie.bytes ≤ 140737488355328 ∧ K (.c (.own d)) (s.addR d ⟨e, ie.size, List.replicate l.toNat z⟩)
    | _ => False
def D.flat : D → Bool
  | .v _ => true
  | .sl _ _ => false
def flatE (els : List (List D)) : Prop := ∀ l ∈ els, ∀ x ∈ l, D.flat x = true
def srcOf (s : St) (x : AV) (sz : Nat) (K : List (List D) → Prop) : Prop :=
  match x with
  | .c (.own u) => match s.rows u with
    | some r => r.sz = sz ∧ K r.els
    | none => False
  | .c (.d (.sl sz' els)) => (els = [] ∨ sz' = sz) ∧ K els
  | .c (.bw u (.sl sz' els)) => s.alive u ∧ (els = [] ∨ sz' = sz) ∧ flatE els ∧ K els
  | .c (.nil _ _) => K []
  | _ => False
def vappend (T : Tab) (t d : Nat) (x y : AV) (s : St) (K : AV → St → Prop) : Prop :=
  match T t with
  | none => False
  | some i => match i.td with
    | .sl e => match T e with
      | none => False
      | some ie => 0 < ie.size ∧ 0 < ie.bytes ∧ srcOf s y ie.size fun src => match x with
        | .c (.own u) => match s.rows u with
          | some r => r.e = e ∧ r.sz = ie.size ∧ (r.els.length + src.length) * ie.bytes ≤ 140737488355328 ∧ K (.c (.own d)) ((s.killR u).addR d ⟨e, ie.size, r.els ++ src⟩)
          | none => False
        | .c (.nil _ _) => src.length * ie.bytes ≤ 140737488355328 ∧ K (.c (.own d)) (s.addR d ⟨e, ie.size, src⟩)
        | _ => False
    | _ => False

section
variable {P : Program} {T : Tab} {m n : Nat} {w0 : World} {own0 : Nat → Prop} {g0 : Gh} {s : St} {g : Gh} {a : Act} {w : World}

theorem Run.addR (h : Run m n w0 own0 g0 s g a w) (t : Nat) (r : Row) (v : Value) (hr : rowOk g.F w v r)
    (hb : ∀ b, v.ownBlock = some b → ¬ g.F b ∧ (own0 b ∨ w0.heap.size ≤ b) ∧ (∀ u ru, u ≠ t → s.rows u = some ru → (g.hv u).ownBlock ≠ some b) ∧ ∀ u c, s.vars u = some c → g.ga u ≠ b) :
    Run m n w0 own0 g0 (s.addR t r) { g with hv := upd g.hv t v } a w :=
  ⟨h.rel.addR t r v hr hb, h.tmps, h.ga, h.F, h.F'⟩
theorem Run.killR (h : Run m n w0 own0 g0 s g a w) (t : Nat) : Run m n w0 own0 g0 (s.killR t) g a w := ⟨h.rel.killR t, h.tmps, h.ga, h.F, h.F'⟩

/-- A block that was just made is nobody's. -/
theorem Rel.fresh (h : Rel w0 own0 s g a w) {b : Nat} (hb : w.heap.size ≤ b) : ¬ g.F b ∧ (own0 b ∨ w0.heap.size ≤ b) ∧ (∀ u ru, s.rows u = some ru → (g.hv u).ownBlock ≠ some b) ∧ ∀ u c, s.vars u = some c → g.ga u ≠ b := by
  refine ⟨fun hf => ?_, .inr (Nat.le_trans h.size hb), fun u ru hu he => ?_, fun u c hu he => ?_⟩
  · have := h.lt b hf; omega
  · obtain ⟨xs, h2, _⟩ := h.rows u ru hu
    have := (h2.lt b he).2
    omega
  · obtain ⟨arr, T', h3, _⟩ := h.vars u c hu
    have := (Array.getElem?_eq_some_iff.1 h3).1
    omega

theorem relDL.take {F : Nat → Prop} : ∀ (j : Nat) {l : List D} {vs : List Value}, relDL F w l vs → relDL F w (l.take j) (vs.take j)
  | 0, _, _, h => by simp [relDL]
  | _ + 1, [], [], _ => trivial
  | j + 1, _ :: _, _ :: _, h => ⟨h.1, relDL.take j h.2⟩
theorem relDL.drop {F : Nat → Prop} : ∀ (j : Nat) {l : List D} {vs : List Value}, relDL F w l vs → relDL F w (l.drop j) (vs.drop j)
  | 0, _, _, h => h
  | _ + 1, [], [], _ => trivial
  | j + 1, _ :: _, _ :: _, h => relDL.drop j h.2
theorem relDL.heap {F : Nat → Prop} {w' : World} (hF : ∀ b, F b → w'.heap[b]? = w.heap[b]?) : ∀ {l : List D} {vs : List Value}, relDL F w l vs → relDL F w' l vs
  | [], [], _ => trivial
  | _ :: _, _ :: _, h => ⟨h.1.heap hF, relDL.heap hF h.2⟩

/-- The cells of a new row. -/
theorem rowOk_new {F : Nat → Prop} {w' : World} {e sz n cap b : Nat} {ds : List D} {cur : Array Value} (hcell : w'.heap[b]? = some (.cells cur e (0, 0))) (h0 : 0 < sz) (hn : n ≤ cap) (hm : cap ≤ maxLen) (hs : cur.size = cap * sz)
    (hr : relDL F w' ds (cur.toList.take (n * sz))) : rowOk F w' (.slice (some ⟨b, 0, none⟩) n cap) ⟨e, sz, chunk sz n ds⟩ := by
  have hlen := hr.len
  have hmul : n * sz ≤ cap * sz := Nat.mul_le_mul_right _ hn
  have hl2 : (cur.toList.take (n * sz)).length = n * sz := by rw [List.length_take, Array.length_toList, hs]; omega
  have hcl : (chunk sz n ds).length = n := by simp [chunk]
  refine ⟨cur.toList.take (n * sz), ⟨by rw [hl2, hcl], .inr ⟨b, cap, cur, by rw [hcl], Nat.zero_le _, hcell, by rw [hcl]; exact hn, hm, hs, by rw [hcl]⟩⟩, h0, fun i hi => ?_⟩
  simp only [hcl] at hi
  have hmul2 : (i + 1) * sz ≤ n * sz := Nat.mul_le_mul_right _ hi
  rw [Nat.add_mul, Nat.one_mul] at hmul2
  have hge : (chunk sz n ds).getD i [] = (ds.drop (i * sz)).take sz := by
    simp [chunk, List.getD_eq_getElem?_getD, hi]
  rw [hge]
  refine ⟨by simp only [List.length_take, List.length_drop]; omega, fun j hj => ?_⟩
  have hj' : j < sz := hj
  have := hr.at (i * sz + j) (by omega)
  have e1 : ((ds.drop (i * sz)).take sz).getD j dU = ds.getD (i * sz + j) dU := by
    rw [List.getD_eq_getElem?_getD, List.getElem?_take, if_pos hj', List.getElem?_drop, ← List.getD_eq_getElem?_getD]
  rw [e1]; exact this

theorem zeros_rel {l : List C} {z : Array Value} (hl : relL s g w l z.toList) (hz : z.size = l.length) (len : Nat) :
    relL s g w (List.replicate len l).flatten ((Array.range (len * l.length)).map (z[· % z.size]!)).toList := by
  have : ((Array.range (len * l.length)).map (z[· % z.size]!)).toList = (List.replicate len z.toList).flatten := by
    induction len with
    | zero => simp
    | succ k ih =>
      rw [Nat.add_mul, Nat.one_mul, List.replicate_succ', List.flatten_append]
      simp only [List.flatten_cons, List.flatten_nil, List.append_nil]
      rw [← ih]
      apply List.ext_getElem
      · simp [hz]
      · intro j h1 h2
        simp at h1
        by_cases hj : j < k * l.length
        · rw [List.getElem_append_left (by simpa using hj)]
          simp
        · rw [List.getElem_append_right (by simp; omega)]
          have e : j % z.size = j - k * l.length := by
            rw [hz]
            have e2 : j = l.length * k + (j - k * l.length) := by rw [Nat.mul_comm]; omega
            rw [e2, Nat.mul_add_mod, Nat.mul_comm, Nat.add_sub_cancel_left]
            exact Nat.mod_eq_of_lt (by omega)
          have h3 : j - k * l.length < z.size := by omega
          simp [e, h3]
  rw [this]
  clear this
  induction len with
  | zero => trivial
  | succ k ih => rw [List.replicate_succ, List.replicate_succ, List.flatten_cons, List.flatten_cons]; exact hl.append ih

theorem vbuildSlice_sound (TO : TabOk P T) (h : Run m n w0 own0 g0 s g a w) {t len d : Nat} {parts : List (Nat × AV)} {ps : Array (Nat × Value)} {K : AV → St → Prop} (hp : relParts s g w parts ps.toList) (hk : vbuildSlice T t len d parts s K) :
    ∃ y v w' s' g', (Instr.buildSlice t len ps).run P w = .ok v w' ∧ K y s' ∧ Run m n w0 own0 g0 s' g' a w' ∧ relAV s' g' w' y v ∧ Keeps w w' (fun _ => False) := by
  unfold vbuildSlice at hk
  cases ht : T t with
  | none => simp [ht] at hk
  | some i =>
    simp only [ht] at hk
    have hd := TO.desc t i ht
    split at hk
    · rename_i e hfs
      rw [hfs] at hd
      have hd' : P.underlying t = some (.slice e) := hd
      cases he : T e with
      | none => simp [he] at hk
      | some ie =>
        simp only [he] at hk
        obtain ⟨hsz, hbig, hk⟩ := hk
        obtain ⟨f, z, h1, h2, h3, h4, h5, h6, h7⟩ := zc_rel (s := s) (g := g) (w := w) TO he
        have hz := zeros_rel h3 (by rw [h6, h7]) len
        rw [h7] at hz
        obtain ⟨cs', cells', k1, k2, k3⟩ := vfill_sound h.rel (place' := fun k => some (k * ie.size, ie.size)) (fun k p hk => hk) hp hz hk
        obtain ⟨ds, f', s', g', k4, k5, k6, _⟩ := frzL_sound cs' (f := id) h.rel (by simpa using k3) k2
        have hr := h.ghost k5
        have kk : Keeps w (w.alloc (.cells cells' e)) (fun _ => False) := Keeps.alloc w _ _
        have hr2 := hr.grow kk
        have hFh : ∀ b, g'.F b → (w.alloc (.cells cells' e)).heap[b]? = w.heap[b]? := fun b hb => heap_alloc_old w _ (hr.rel.lt b hb)
        have hsize : cells'.size = len * ie.size := by
          have e1 := k3.len
          have : ∀ (ps : List (Nat × Value)) (c c' : Array Value) (pl : Nat → Option (Nat × Nat)), Instr.fill pl c ps = some c' → c'.size = c.size := by
            intro ps
            induction ps with
            | nil => intro c c' pl hh; simp [Instr.fill] at hh; rw [hh]
            | cons p ps ih =>
              intro c c' pl hh
              unfold Instr.fill at hh
              split at hh
              · cases hh
              · split at hh
                · cases hh
                · have := ih _ _ _ hh
                  rw [this]
                  rename_i v _ _ _ _
                  have : ∀ (l : List (Value × Nat)) (c : Array Value) (o : Nat), (l.foldl (fun cs (p : Value × Nat) => cs.setIfInBounds (o + p.2) p.1) c).size = c.size := by
                    intro l
                    induction l with
                    | nil => intro c o; rfl
                    | cons x l ih => intro c o; rw [List.foldl_cons, ih]; simp
                  rw [← Array.foldl_toList]
                  exact this _ _ _
          have := this _ _ _ _ k1
          rw [this]; simp
        have hfr := hr.rel.fresh (Nat.le_refl w.heap.size)
        have hlt : len ≤ 16777216 := by
          have := Nat.le_mul_of_pos_right len hsz
          omega
        refine ⟨_, .slice (some ⟨w.heap.size, 0, none⟩) len len, _, _, _, ?_, k4, hr2.addR d ⟨e, ie.size, chunk ie.size len ds⟩ (.slice (some ⟨w.heap.size, 0, none⟩) len len)
          (rowOk_new (heap_alloc_new w _) hsz (Nat.le_refl _) (by simp [maxLen]; omega) hsize (by
            rw [List.take_of_length_le (by rw [Array.length_toList, hsize]; exact Nat.le_refl _)]
            exact k6.heap hFh)) (fun b hb => by
              simp [Value.ownBlock] at hb; subst hb
              exact ⟨hfr.1, hfr.2.1, fun u ru _ hu => hfr.2.2.1 u ru hu, hfr.2.2.2⟩), fun _ => (upd_same _ _ _).symm, kk⟩
        by_cases hl0 : len = 0
        · subst hl0
          have hi : Instr.fill (fun i => some (i * ie.size, ie.size)) #[] ps.toList = some cells' := by
            have e0 : Array.range (0 * ie.size) = #[] := by rw [Nat.zero_mul]; rfl
            rw [e0] at k1
            simpa using k1
          have e0 : Array.range 0 = #[] := rfl
          simp [Instr.buildSlice, run_underlying hd', Go.sizeOf, typeInfo, h1, h4, hi, newRow, e0]
        · refine run_buildSlice w t e len ps cells' f z hd' h1 h2 (by rw [h4]; omega) (by rw [h4]; exact Nat.mul_ne_zero hl0 (by omega)) ?_
          rw [h4]; exact k1
    · exact hk.elim

theorem zcD_rel {F : Nat → Prop} : ∀ {l : List C} {z : List D} {vs : List Value}, zcD l = some z → relL s g w l vs → relDL g.F w z vs
  | [], z, vs, h, hr => by
    simp [zcD] at h; subst h
    cases vs with
    | nil => trivial
    | cons => exact hr.elim
  | c :: l, z, vs, h, hr => by
    cases vs with
    | nil => exact hr.elim
    | cons v vs =>
      unfold zcD at h
      split at h
      · rename_i e; cases e
      · rename_i x l' e
        cases e
        cases h2 : zcD l with
        | none => simp [h2] at h
        | some q => simp [h2] at h; subst h; exact ⟨hr.1, zcD_rel (F := F) h2 hr.2⟩
      · rename_i e' sz l' e
        cases e
        cases h2 : zcD l with
        | none => simp [h2] at h
        | some q =>
          simp [h2] at h; subst h
          refine ⟨?_, zcD_rel (F := F) h2 hr.2⟩
          have : v = .slice none 0 0 := hr.1
          rw [this]; exact .nil _ _ _
      · cases h
theorem chunk_rep (z : List D) (sz : Nat) (hz : z.length = sz) (n : Nat) : chunk sz n (List.replicate n z).flatten = List.replicate n z := by
  apply List.ext_getElem
  · simp [chunk]
  · intro i h1 h2
    simp [chunk] at h1
    simp only [chunk, List.getElem_map, List.getElem_range, List.getElem_replicate]
    have : ∀ k, i + k = n → ((List.replicate n z).flatten.drop (i * sz)) = (List.replicate k z).flatten := by
      intro k hk
      subst hk
      rw [List.replicate_append_replicate.symm, List.flatten_append, List.drop_append]
      have hl : (List.replicate i z).flatten.length = i * sz := by simp [hz]
      rw [List.drop_of_length_le (by rw [hl]; exact Nat.le_refl _), hl]
      simp
    rw [this (n - i) (by omega)]
    have : n - i = (n - i - 1) + 1 := by omega
    rw [this, List.replicate_succ, List.flatten_cons, ← hz]
    simp

theorem vmakeSlice_sound (TO : TabOk P T) (h : Run m n w0 own0 g0 s g a w) {t d : Nat} {x y : AV} {v u : Value} {K : AV → St → Prop} (hx : relAV s g w x v) (hy : relAV s g w y u) (hk : vmakeSlice T t d x y s K) :
    ∃ y v' w' s' g', (Instr.makeSlice t v u).run P w = .ok v' w' ∧ K y s' ∧ Run m n w0 own0 g0 s' g' a w' ∧ relAV s' g' w' y v' ∧ Keeps w w' (fun _ => False) := by
  unfold vmakeSlice at hk
  obtain ⟨kl, l, rfl, hk⟩ := vint_sound hx hk
  obtain ⟨kc, c, rfl, h0, hlc, hk⟩ := vint_sound hy hk
  cases ht : T t with
  | none => simp [ht] at hk
  | some i =>
    simp only [ht] at hk
    have hd := TO.desc t i ht
    split at hk
    · rename_i e hfs
      rw [hfs] at hd
      have hd' : P.underlying t = some (.slice e) := hd
      cases he : T e with
      | none => simp [he] at hk
      | some ie =>
        simp only [he] at hk
        split at hk
        · exact hk.elim
        · rename_i z hzc
          obtain ⟨hsz, hby, hbig, hk⟩ := hk
          obtain ⟨f, zv, h1, h2, h3, h4, h5, h6, h7⟩ := zc_rel (s := s) (g := g) (w := w) TO he
          have hcb : (c : Int) ≤ c * ie.bytes := by
            have : c * 1 ≤ c * (ie.bytes : Int) := Int.mul_le_mul_of_nonneg_left (by omega) (by omega)
            omega
          have hrun := run_make (P := P) w t e f zv hd' h1 h2 kl kc l c h0 hlc (by rw [h5, Int.mul_comm]; omega) (by omega)
          rw [h4] at hrun
          have kk : Keeps w (w.alloc (.cells (madeCells zv.cells (c.toNat * ie.size)) e)) (fun _ => False) := Keeps.alloc w _ _
          have hr2 := h.grow kk
          have hfr := h.rel.fresh (Nat.le_refl w.heap.size)
          have hFh : ∀ b, g.F b → (w.alloc (.cells (madeCells zv.cells (c.toNat * ie.size)) e)).heap[b]? = w.heap[b]? := fun b hb => heap_alloc_old w _ (h.rel.lt b hb)
          have hzl : z.length = ie.size := by rw [← (zcD_rel (F := g.F) hzc h3).len]; simp [h6]
          have hcells : relDL g.F w (List.replicate l.toNat z).flatten ((madeCells zv.cells (c.toNat * ie.size)).toList.take (l.toNat * ie.size)) := by
            have hall : relDL g.F w (List.replicate c.toNat z).flatten (madeCells zv.cells (c.toNat * ie.size)).toList := by
              have := zeros_rel (zcD_rel (F := g.F) hzc h3 |>.toL (s := s) (g := g)) (by simp [hzl, h6]) c.toNat
              simp only [List.length_map, hzl] at this
              have e1 : ∀ (k : Nat), (List.replicate k (z.map C.d)).flatten = ((List.replicate k z).flatten).map C.d := by
                intro k; induction k with
                | zero => rfl
                | succ k ih => rw [List.replicate_succ, List.flatten_cons, ih, List.replicate_succ, List.flatten_cons, List.map_append]
              rw [e1] at this
              refine relDL.of (by have e3 := this.len; simp [size_madeCells] at e3 ⊢; omega) fun j hj => ?_
              have hh := this.at j (by simpa using hj)
              rw [getD_map _ _ _ dU hj] at hh
              exact hh
            have hh := hall.take (l.toNat * ie.size)
            have e2 : (List.replicate c.toNat z).flatten.take (l.toNat * ie.size) = (List.replicate l.toNat z).flatten := by
              have : c.toNat = l.toNat + (c.toNat - l.toNat) := by omega
              rw [this, List.replicate_append_replicate.symm, List.flatten_append]
              have hl : (List.replicate l.toNat z).flatten.length = l.toNat * ie.size := by simp [hzl]
              rw [List.take_append_of_le_length (by rw [hl]; exact Nat.le_refl _), List.take_of_length_le (by rw [hl]; exact Nat.le_refl _)]
            rw [e2] at hh
            exact hh
          have hrow := rowOk_new (F := g.F) (e := e) (n := l.toNat) (cap := c.toNat) (heap_alloc_new w (.cells (madeCells zv.cells (c.toNat * ie.size)) e)) hsz (by omega) (by simp [maxLen]; omega) (size_madeCells _ _) (hcells.heap hFh)
          rw [chunk_rep z ie.size hzl] at hrow
          refine ⟨_, _, _, _, _, hrun, hk, hr2.addR d _ _ hrow (fun b hb => by
              simp [Value.ownBlock] at hb; subst hb
              exact ⟨hfr.1, hfr.2.1, fun u ru _ hu => hfr.2.2.1 u ru hu, hfr.2.2.2⟩), fun _ => (upd_same _ _ _).symm, kk⟩
    · exact hk.elim
end
end GV

set_option linter.unusedSimpArgs false
set_option linter.unusedVariables false
namespace GV
open Go
section
variable {P : Program} {T : Tab} {m n : Nat} {w0 : World} {own0 : Nat → Prop} {g0 : Gh} {s : St} {g : Gh} {a : Act} {w : World}

theorem flat_RC {Φ Ψ : Nat → Prop} {x : D} {v : Value} (h : RC Φ w x v) (hf : D.flat x = true) : RC Ψ w x v := by
  cases h with
  | v _ h => exact .v _ h
  | nil => cases hf
  | sl => cases hf

/-- The elements that lie behind a slice value. -/
def Behind (F : Nat → Prop) (w : World) (sz : Nat) (els : List (List D)) (v : Value) : Prop :=
  ∃ A c, v = .slice A els.length c ∧ (els.length = 0 ∨ ∃ (ad : Addr) (vs : List Value), A = some ad ∧ vs.length = els.length * sz ∧ (∀ j u, vs[j]? = some u → w.cell? (ad.add j) = some u) ∧
    ∀ i, i < els.length → (els.getD i []).length = sz ∧ ∀ j, j < sz → RC F w ((els.getD i []).getD j dU) (vs.getD (i * sz + j) undef))

theorem behind_sl {Φ : Nat → Prop} {sz : Nat} {els : List (List D)} {v : Value} (h : RC Φ w (.sl sz els) v) : Behind Φ w sz els v := by
  obtain ⟨A, c, rfl, hc, hf⟩ := sl_form h
  refine ⟨A, c, rfl, ?_⟩
  by_cases h0 : els.length = 0
  · exact .inl h0
  · obtain ⟨b, o, rfl, hb, hf⟩ := hf (by omega)
    have hcell : ∃ u : Nat → Value, ∀ i, i < els.length → ∀ j, j < sz → w.cell? ⟨b, o + (i * sz + j), none⟩ = some (u (i * sz + j)) ∧ RC Φ w ((els.getD i []).getD j dU) (u (i * sz + j)) := by
      refine ⟨fun k => (w.cell? ⟨b, o + k, none⟩).getD undef, fun i hi j hj => ?_⟩
      obtain ⟨u, h1, h2⟩ := (hf i hi).2 j hj
      simp only [h1]
      exact ⟨rfl, h2⟩
    obtain ⟨u, hu⟩ := hcell
    have gd : ∀ k, k < els.length * sz → ((List.range (els.length * sz)).map u).getD k undef = u k := fun k hk => by simp [List.getD_eq_getElem?_getD, hk]
    have split : ∀ k, k < els.length * sz → 0 < sz ∧ k / sz < els.length ∧ k % sz < sz ∧ k / sz * sz + k % sz = k := by
      intro k hk
      have hsz : 0 < sz := by
        rcases Nat.eq_zero_or_pos sz with e | e
        · rw [e] at hk; simp at hk
        · exact e
      refine ⟨hsz, (Nat.div_lt_iff_lt_mul hsz).2 hk, Nat.mod_lt _ hsz, ?_⟩
      rw [Nat.mul_comm]; exact Nat.div_add_mod k sz
    refine .inr ⟨_, (List.range (els.length * sz)).map u, rfl, by simp, fun j x hj => ?_, fun i hi => ⟨(hf i hi).1, fun j hj => ?_⟩⟩
    · rw [add_at]
      have hjl : j < els.length * sz := by have := (List.getElem?_eq_some_iff.1 hj).1; simpa using this
      obtain ⟨_, h2, h3, h4⟩ := split j hjl
      have := (hu _ h2 _ h3).1
      rw [h4] at this
      rw [this]
      simp [hjl] at hj
      rw [hj]
    · have hmul : (i + 1) * sz ≤ els.length * sz := Nat.mul_le_mul_right _ hi
      rw [Nat.add_mul, Nat.one_mul] at hmul
      rw [gd _ (by omega)]
      exact (hu i hi j hj).2

theorem srcOf_sound (h : Rel w0 own0 s g a w) {x : AV} {v : Value} {sz : Nat} {K : List (List D) → Prop} (hx : relAV s g w x v) (hk : srcOf s x sz K) :
    ∃ els, K els ∧ Behind g.F w sz els v := by
  unfold srcOf at hk
  split at hk
  · rename_i u
    cases hr : s.rows u with
    | none => simp [hr] at hk
    | some r =>
      simp only [hr] at hk
      obtain ⟨rfl, hk⟩ := hk
      have hv : v = g.hv u := hx (by rw [hr]; rfl)
      refine ⟨_, hk, ?_⟩
      have hro := h.rows u r hr
      have hb := behind_sl (hro.reads (Ψ := viewF g u) (fun b hb => .inl hb) (fun b hb => .inr hb))
      obtain ⟨A, c, e1, e2⟩ := hb
      refine ⟨A, c, by rw [hv]; exact e1, ?_⟩
      rcases e2 with e2 | ⟨ad, vs, rfl, h2, h3, h4⟩
      · exact .inl e2
      · obtain ⟨xs, k1, k2, k3⟩ := hro
        by_cases h0 : r.els.length = 0
        · exact .inl h0
        · refine .inr ⟨ad, xs, rfl, k1.1, ?_, k3⟩
          rcases k1.2 with ⟨_, e⟩ | ⟨b, cap, cur, e, _⟩
          · exact absurd e h0
          · rw [e1] at e
            simp at e
            have hb' : (g.hv u).ownBlock = some b := by rw [e1, e.1]; rfl
            intro j x hj
            have := k1.cells hb' j x hj
            rw [e.1]; exact this
  · rename_i sz' els
    obtain ⟨hsz, hk⟩ := hk
    refine ⟨els, hk, ?_⟩
    rcases hsz with rfl | rfl
    · obtain ⟨A, c, e, _⟩ := behind_sl hx
      exact ⟨A, c, e, .inl rfl⟩
    · exact behind_sl hx
  · rename_i u sz' els
    obtain ⟨ha, hsz, hfl, hk⟩ := hk
    refine ⟨els, hk, ?_⟩
    rcases hsz with rfl | rfl
    · obtain ⟨A, c, e, _⟩ := behind_sl (hx ha)
      exact ⟨A, c, e, .inl rfl⟩
    · obtain ⟨A, c, e, h1⟩ := behind_sl (hx ha)
      refine ⟨A, c, e, h1.imp id fun ⟨ad, vs, h2, h3, h4, h5⟩ => ⟨ad, vs, h2, h3, h4, fun i hi => ⟨(h5 i hi).1, fun j hj => flat_RC ((h5 i hi).2 j hj) ?_⟩⟩⟩
      refine hfl (els.getD i []) ?_ _ ?_
      · rw [List.getD_eq_getElem?_getD, List.getElem?_eq_getElem hi]; exact List.getElem_mem _
      · have hj' : j < (els.getD i []).length := by rw [(h5 i hi).1]; exact hj
        generalize els.getD i [] = l at hj' ⊢
        rw [List.getD_eq_getElem?_getD, List.getElem?_eq_getElem hj']; exact List.getElem_mem _
  · have hv : v = .slice none 0 0 := hx
    exact ⟨[], hk, none, 0, hv, .inl rfl⟩
  · exact hk.elim

theorem append_none (t ty e : TypeId) (i : TypeInfo) (ht : P.underlying t = some (.slice e)) (hi : P.info? e = some i) {base size : Nat}
    (v : Value) (n : Nat) (xs : List Value) (hown : w.ownsRow base e size v n xs) (c : Nat) : (Builtin.append_ #[t, t] ty #[v, .slice none 0 c]).run P w = .ok v w := by
  rcases hown.2 with ⟨rfl, rfl⟩ | ⟨g, cap, cur, rfl, _, _, hnc, _⟩
  · simp [Builtin.append_, run_underlying ht, Go.sizeOf, typeInfo, hi, Builtin.lenOf, Builtin.firstCells]
  · simp [Builtin.append_, run_underlying ht, Go.sizeOf, typeInfo, hi, Builtin.lenOf, Builtin.firstCells, hnc, storeCells]

/-- What an append leaves: the new header lies where the old one did, or in a new block. -/
theorem append_run (TO : TabOk P T) {t e ty : Nat} {i ie : TI} (ht : T t = some i) (hi : i.td = .sl e) (he : T e = some ie) (hsz : 0 < ie.size) (hby : 0 < ie.bytes) {F : Nat → Prop} (hFlt : ∀ b, F b → b < w.heap.size)
    {v : Value} {els : List (List D)} (hown : rowOk F w v ⟨e, ie.size, els⟩) (hFn : ∀ b, v.ownBlock = some b → ¬ F b) {u : Value} {src : List (List D)} (hsrc : Behind F w ie.size src u)
    (hbig : (els.length + src.length) * ie.bytes ≤ 140737488355328) :
    ∃ v' w', (Builtin.append_ #[t, t] ty #[v, u]).run P w = .ok v' w' ∧ rowOk F w' v' ⟨e, ie.size, els ++ src⟩ ∧ Keeps w w' (fun b => v.ownBlock = some b) ∧ (v'.ownBlock = v.ownBlock ∨ v'.ownBlock = some w.heap.size) := by
  obtain ⟨f, z, h1, h2, h3, h4, h5, h6, h7⟩ := zc_rel (s := ⟨fun _ => .c .no, fun _ => none, fun _ => none, fun _ => none⟩) (g := ⟨fun _ => False, fun _ => undef, fun _ => 0⟩) (w := w) TO he
  have hd := TO.desc t i ht
  rw [hi] at hd
  have hd' : P.underlying t = some (.slice e) := hd
  obtain ⟨xs, k1, k2, k3⟩ := hown
  simp only at k1 k2 k3
  obtain ⟨A, c, rfl, hb⟩ := hsrc
  have hlen : els.length + src.length ≤ maxLen := by
    have := Nat.le_mul_of_pos_right (els.length + src.length) hby
    simp [maxLen]; omega
  have app : ∀ (vs : List Value), vs.length = src.length * ie.size → (∀ i, i < src.length → (src.getD i []).length = ie.size ∧ ∀ j, j < ie.size → RC F w ((src.getD i []).getD j dU) (vs.getD (i * ie.size + j) undef)) →
      ∀ i, i < (els ++ src).length → ((els ++ src).getD i []).length = ie.size ∧ ∀ j, j < ie.size → RC F w (((els ++ src).getD i []).getD j dU) ((xs ++ vs).getD (i * ie.size + j) undef) := by
    intro vs hvl hvs i hi'
    have hx1 := k1.1
    by_cases hil : i < els.length
    · have hmul : (i + 1) * ie.size ≤ els.length * ie.size := Nat.mul_le_mul_right _ hil
      rw [Nat.add_mul, Nat.one_mul] at hmul
      have e1 : (els ++ src).getD i [] = els.getD i [] := by rw [List.getD_eq_getElem?_getD, List.getElem?_append_left hil, ← List.getD_eq_getElem?_getD]
      rw [e1]
      refine ⟨(k3 i hil).1, fun j hj => ?_⟩
      have e2 : (xs ++ vs).getD (i * ie.size + j) undef = xs.getD (i * ie.size + j) undef := by
        rw [List.getD_eq_getElem?_getD, List.getElem?_append_left (by omega), ← List.getD_eq_getElem?_getD]
      rw [e2]; exact (k3 i hil).2 j hj
    · have hil' : els.length ≤ i := by omega
      have hi2 : i - els.length < src.length := by simp at hi'; omega
      have e1 : (els ++ src).getD i [] = src.getD (i - els.length) [] := by rw [List.getD_eq_getElem?_getD, List.getElem?_append_right hil', ← List.getD_eq_getElem?_getD]
      rw [e1]
      refine ⟨(hvs _ hi2).1, fun j hj => ?_⟩
      have hmul : i * ie.size = els.length * ie.size + (i - els.length) * ie.size := by rw [← Nat.add_mul]; congr 1; omega
      have e2 : (xs ++ vs).getD (i * ie.size + j) undef = vs.getD ((i - els.length) * ie.size + j) undef := by
        rw [List.getD_eq_getElem?_getD, List.getElem?_append_right (by omega), ← List.getD_eq_getElem?_getD]
        congr 1; omega
      rw [e2]; exact (hvs _ hi2).2 j hj
  have fin : ∀ (w' : World) (v' : Value) (vs : List Value), w'.ownsRow 0 e ie.size v' (els.length + src.length) (xs ++ vs) → w.grownBy w' v.ownBlock → vs.length = src.length * ie.size →
      (∀ i, i < src.length → (src.getD i []).length = ie.size ∧ ∀ j, j < ie.size → RC F w ((src.getD i []).getD j dU) (vs.getD (i * ie.size + j) undef)) → rowOk F w' v' ⟨e, ie.size, els ++ src⟩ ∧ Keeps w w' (fun b => v.ownBlock = some b) := by
    intro w' v' vs ho hg hvl hvs
    have kk := Keeps.grown hg
    have hFh : ∀ b, F b → w'.heap[b]? = w.heap[b]? := fun b hb => kk.heap b (hFlt b hb) (fun he => hFn b he hb)
    refine ⟨⟨xs ++ vs, by simpa using ho, hsz, fun i hi => ⟨(app vs hvl hvs i hi).1, fun j hj => ((app vs hvl hvs i hi).2 j hj).heap hFh⟩⟩, kk⟩
  have z0 : src.length = 0 → (∀ i, i < src.length → (src.getD i []).length = ie.size ∧ ∀ j, j < ie.size → RC F w ((src.getD i []).getD j dU) (([] : List Value).getD (i * ie.size + j) undef)) := fun h0 i hi => absurd hi (by omega)
  rcases hb with h0 | ⟨ad, vs, rfl, hvl, hcell, hvs⟩
  · cases A with
    | none =>
      rw [h0]
      have ho := k1
      refine ⟨v, w, append_none t ty e f hd' h1 v els.length xs k1 c, ?_⟩
      have := fin w v [] (by rw [h0, List.append_nil, Nat.add_zero]; exact k1) ⟨rfl, rfl, rfl, Nat.le_refl _, fun _ _ _ => rfl⟩ (by simp [h0]) (z0 h0)
      exact ⟨this.1, this.2, .inl rfl⟩
    | some ad =>
      obtain ⟨v', w', hr, ho, hg, _, hat⟩ := run_append_own_at (P := P) w 0 t ty e f z ie.size ie.bytes hd' h1 h2 h4 h5 h6 hsz v els.length xs k1 ad src.length c [] (by simp [h0]) (by simp) (by simp) hlen hbig (Nat.zero_le _)
      have := fin w' v' [] ho hg (by simp [h0]) (z0 h0)
      exact ⟨v', w', hr, this.1, this.2, hat⟩
  · obtain ⟨v', w', hr, ho, hg, _, hat⟩ := run_append_own_at (P := P) w 0 t ty e f z ie.size ie.bytes hd' h1 h2 h4 h5 h6 hsz v els.length xs k1 ad src.length c vs hvl hcell (fun u hu => by
        obtain ⟨k, hk, rfl⟩ := List.mem_iff_getElem.1 hu
        have hk' : k < src.length * ie.size := by omega
        have h2' : k / ie.size < src.length := (Nat.div_lt_iff_lt_mul hsz).2 hk'
        have h3' : k % ie.size < ie.size := Nat.mod_lt _ hsz
        have h4' : k / ie.size * ie.size + k % ie.size = k := by rw [Nat.mul_comm]; exact Nat.div_add_mod k ie.size
        have := ((hvs _ h2').2 _ h3').one
        rw [h4', List.getD_eq_getElem?_getD, List.getElem?_eq_getElem hk] at this
        exact this) hlen hbig (Nat.zero_le _)
    have := fin w' v' vs ho hg hvl hvs
    exact ⟨v', w', hr, this.1, this.2, hat⟩

theorem vappend_sound (TO : TabOk P T) (h : Run m n w0 own0 g0 s g a w) {t d ty : Nat} {x y : AV} {v u : Value} {K : AV → St → Prop} (hx : relAV s g w x v) (hy : relAV s g w y u) (hk : vappend T t d x y s K) :
    ∃ z v' w' s' g', (Builtin.append_ #[t, t] ty #[v, u]).run P w = .ok v' w' ∧ K z s' ∧ Run m n w0 own0 g0 s' g' a w' ∧ relAV s' g' w' z v' := by
  unfold vappend at hk
  cases ht : T t with
  | none => simp [ht] at hk
  | some i =>
    simp only [ht] at hk
    split at hk
    · rename_i e hfs
      cases he : T e with
      | none => simp [he] at hk
      | some ie =>
        simp only [he] at hk
        obtain ⟨hsz, hby, hk⟩ := hk
        obtain ⟨src, hk, hsrc⟩ := srcOf_sound h.rel hy hk
        split at hk
        · rename_i uu _
          cases hr : s.rows uu with
          | none => simp [hr] at hk
          | some r =>
            simp only [hr] at hk
            obtain ⟨hre, hrs, hbig, hk⟩ := hk
            have hv : v = g.hv uu := hx (by rw [hr]; rfl)
            have hro := h.rel.rows uu r hr
            have hro' : rowOk g.F w v ⟨e, ie.size, r.els⟩ := by rw [hv, ← hre, ← hrs]; exact hro
            obtain ⟨v', w', h1, h2, h3, h4⟩ := append_run (ty := ty) TO ht hfs he hsz hby h.rel.lt hro' (fun b hb => (h.rel.rowF uu r b hr (by rw [← hv]; exact hb)).1) hsrc hbig
            have hkill := h.killR uu
            have hne : ∀ t2 r2 b, (s.killR uu).rows t2 = some r2 → (g.hv t2).ownBlock = some b → ¬ v.ownBlock = some b := by
              intro t2 r2 b h5 h6 h7
              simp only [St.killR, upd] at h5
              split at h5
              · cases h5
              · rename_i hne
                exact h.rel.rr uu t2 r r2 b (Ne.symm hne) hr h5 (by rw [← hv]; exact h7) h6
            have hkeep : Rel w0 own0 (s.killR uu) g a w' := hkill.rel.keep h3 (fun b hb => (h.rel.rowF uu r b hr (by rw [← hv]; exact hb)).1) hne
              (fun t2 c2 h5 h6 => h.rel.rv uu t2 r c2 hr h5 (by rw [← hv]; exact h6)) (fun b hb => (h.rel.rowF uu r b hr (by rw [← hv]; exact hb)).2)
            have hrun : Run m n w0 own0 g0 (s.killR uu) g a w' := ⟨hkeep, h.tmps, h.ga, h.F, h.F'⟩
            refine ⟨_, v', w', _, _, h1, hk, hrun.addR d _ v' h2 (fun b hb => ?_), fun _ => (upd_same _ _ _).symm⟩
            rcases h4 with h4 | h4
            · rw [h4] at hb
              exact ⟨(h.rel.rowF uu r b hr (by rw [← hv]; exact hb)).1, (h.rel.rowF uu r b hr (by rw [← hv]; exact hb)).2, fun t2 r2 _ h5 h6 => hne t2 r2 b h5 h6 hb,
                fun t2 c2 h5 h6 => h.rel.rv uu t2 r c2 hr h5 (by rw [← hv, hb, h6])⟩
            · rw [h4] at hb
              simp at hb; subst hb
              have := hkill.rel.fresh (Nat.le_refl w.heap.size)
              exact ⟨this.1, this.2.1, fun t2 r2 _ h5 => this.2.2.1 t2 r2 h5, this.2.2.2⟩
        · obtain ⟨hbig, hk⟩ := hk
          have hv : v = .slice none 0 0 := hx
          have hro' : rowOk g.F w v ⟨e, ie.size, []⟩ := by rw [hv]; exact ⟨[], ⟨by simp, .inl ⟨rfl, rfl⟩⟩, hsz, by simp⟩
          obtain ⟨v', w', h1, h2, h3, h4⟩ := append_run (ty := ty) TO ht hfs he hsz hby h.rel.lt hro' (fun b hb => by rw [hv] at hb; cases hb) hsrc (by simpa using hbig)
          have kk : Keeps w w' (fun _ => False) := ⟨h3.os, h3.tape, h3.output, h3.size, fun b hb _ => h3.heap b hb (fun e => by rw [hv] at e; cases e)⟩
          have hrun := h.grow kk
          refine ⟨_, v', w', _, _, h1, hk, hrun.addR d _ v' (by simpa using h2) (fun b hb => ?_), fun _ => (upd_same _ _ _).symm⟩
          rcases h4 with h4 | h4
          · rw [h4, hv] at hb; cases hb
          · rw [h4] at hb
            simp at hb; subst hb
            have := h.rel.fresh (Nat.le_refl w.heap.size)
            exact ⟨this.1, this.2.1, fun t2 r2 _ h5 => this.2.2.1 t2 r2 h5, this.2.2.2⟩
        · exact hk.elim
    · exact hk.elim
end
end GV

set_option linter.unusedSimpArgs false
set_option linter.unusedVariables false
namespace GV
open Go
section
variable {P : Program} {T : Tab} {m n : Nat} {w0 : World} {own0 : Nat → Prop} {g0 : Gh} {s : St} {g : Gh} {a : Act} {w : World}

/-- What is appended, when it is no slice: k elements that lie nowhere. -/
structure ASrc (P : Program) (w : World) (t t' ty e : TypeId) (f : TypeInfo) (z u : Value) (k : Nat) (news : List Value) : Prop where
  len : news.length = k * f.size
  one : ∀ x ∈ news, x.oneCell' = true
  room : ∀ (gb sLen sCap : Nat) (cur : Array Value), w.heap[gb]? = some (.cells cur e (0, 0)) → sLen + k ≤ sCap → sLen * f.size + news.length ≤ cur.size →
    (Builtin.append_ #[t, t'] ty #[.slice (some ⟨gb, 0, none⟩) sLen sCap, u]).run P w = .ok (.slice (some ⟨gb, 0, none⟩) (sLen + k) sCap) (w.setRow gb (cur.toList.take (sLen * f.size) ++ news ++ cur.toList.drop (sLen * f.size + news.length)).toArray)
  grow : ∀ (base : Option Addr) (sLen sCap : Nat) (olds : List Value), (Builtin.firstCells f.size sLen (.slice base sLen sCap)).run P w.drew = .ok olds.toArray w.drew → sCap < sLen + k → ((sLen + k : Nat) : Int) ≤ 9223372036854775807 →
    Builtin.nextslicecap (sLen + k) sCap * f.bytes ≤ 281474976710656 →
    (Builtin.append_ #[t, t'] ty #[.slice base sLen sCap, u]).run P w = .ok (.slice (some ⟨w.heap.size, 0, none⟩) (sLen + k) (grownCap w (sLen + k) sCap e))
        (w.drew.alloc (.cells ((olds ++ news).toArray ++ Builtin.zeroCells z.cells (grownCap w (sLen + k) sCap e - (sLen + k))) e))
  nil : k = 0 → (Builtin.append_ #[t, t'] ty #[.slice none 0 0, u]).run P w = .ok (.slice none 0 0) w

theorem ASrc.string {t t' ty e : TypeId} {f : TypeInfo} {z : Value} (ht : P.underlying t = some (.slice e)) (hi : P.info? e = some f) (hz : f.zero = some z) (hs : f.size = 1) (ht' : P.underlying t' = some .string) (b : ByteArray) :
    ASrc P w t t' ty e f z (.string b) b.size (byteCells b) := by
  have hlen : (byteCells b).length = b.size := byteCells_length b
  have hone : ∀ x ∈ byteCells b, x.oneCell' = true := fun x hx => by
    obtain ⟨_, _, rfl⟩ := List.mem_map.1 hx
    rfl
  refine ⟨by rw [hlen, hs, Nat.mul_one], hone, fun gb sLen sCap cur hg hroom hfit => ?_, fun base sLen sCap olds hold hg h63 hfit => ?_, fun h0 => ?_⟩
  · have hst := run_storeCells_at P gb (sLen * f.size) e (byteCells b) 0 cur w hg (by simpa using hfit) hone
    simp only [Nat.add_zero] at hst
    rw [hs, Nat.mul_one] at hst
    simp [Builtin.append_, run_underlying ht, run_underlying ht', Go.sizeOf, typeInfo, hi, Builtin.lenOf, hroom, hs, firstCells_string, Addr.add_lit]
    simp [hst]
  · have := run_append_grow_src w t t' ty e f z ht hi hz base sLen sCap olds hold (.string b) b.size (byteCells b) (by rw [hs]; exact Src.ofString w ht' b) hg h63 hfit
    exact this
  · have hb : byteCells b = [] := List.eq_nil_of_length_eq_zero (by rw [hlen, h0])
    simp [Builtin.append_, run_underlying ht, run_underlying ht', Go.sizeOf, typeInfo, hi, Builtin.lenOf, h0, hs, Builtin.firstCells]
theorem zeroCells_length (z : Array Value) (k : Nat) : (Builtin.zeroCells z k).toList.length = k * z.size := by rw [Array.length_toList, size_zeroCells]
theorem ASrc.zeros {t t' ty e : TypeId} {f : TypeInfo} {z : Value} (ht : P.underlying t = some (.slice e)) (hi : P.info? e = some f) (hz : f.zero = some z) (hs : z.cells.size = f.size) (ht' : P.underlying t' = some (.int .i64)) (k : Nat)
    (hk2 : 0 < k) (hk : k * f.bytes ≤ 140737488355328) (hk0 : 0 < f.size) (hk1 : 0 < f.bytes) (hone : ∀ x ∈ (Builtin.zeroCells z.cells k).toList, x.oneCell' = true) :
    ASrc P w t t' ty e f z (.int .i64 k) k (Builtin.zeroCells z.cells k).toList := by
  have hkb : k ≤ 140737488355328 := Nat.le_trans (Nat.le_mul_of_pos_right k hk1) hk
  have hw : IntKind.i64.wrap (k : Int) = k := by rw [IntKind.wrap_i64]; omega
  have h0 : ¬ ((k : Int) < 0) := by omega
  have h48 : ¬ (281474976710656 < (k : Int) * (f.bytes : Int)) := by
    have : ((k * f.bytes : Nat) : Int) ≤ 140737488355328 := by omega
    rw [Int.natCast_mul] at this; omega
  have hmax : max (k : Int) 0 = k := by omega
  have hne : k ≠ 0 := by omega
  have hmul : ¬ (k * f.size = 0) := by have := Nat.mul_pos hk2 hk0; omega
  refine ⟨by rw [zeroCells_length, hs], hone, fun gb sLen sCap cur hg hroom hfit => ?_, fun base sLen sCap olds hold hg h63 hfit => ?_, fun h0 => by omega⟩
  · have hst := run_storeCells_at P gb (sLen * f.size) e (Builtin.zeroCells z.cells k).toList 0 cur w hg (by simpa using hfit) hone
    simp only [Nat.add_zero] at hst
    simp [Builtin.append_, run_underlying ht, run_underlying ht', Go.sizeOf, typeInfo, hi, asInt, asIntOf, hw, h0, h48, hne, Nat.ne_of_gt hk0, zeroValue, hz, hroom, Addr.add_lit]
    rw [if_neg hmul]
    simpa using congrArg (fun r => r.andThen fun _ w' => Result.ok (Value.slice (some ⟨gb, 0, none⟩) (sLen + k) sCap) w') hst
  · have hn : ¬ (sLen + k ≤ sCap) := by omega
    have h63' : ¬ (9223372036854775807 < ((sLen : Int) + (k : Int))) := by omega
    have h48' : ¬ (281474976710656 < Builtin.nextslicecap (sLen + k) sCap * f.bytes) := by omega
    simp [Builtin.append_, run_underlying ht, run_underlying ht', Go.sizeOf, typeInfo, hi, asInt, asIntOf, hw, h0, h48, hne, hmax, Nat.ne_of_gt hk0, zeroValue, hz, hn, h63', h48', Question.forced, hold, newRow, grownCap]
    rw [if_neg hmul]
    congr 3
    apply Array.ext'
    simp [List.append_assoc]
/-- What an append of such a source leaves. -/
theorem appendX_run (TO : TabOk P T) {t t' e ty : Nat} {i ie : TI} (ht : T t = some i) (hi : i.td = .sl e) (he : T e = some ie) (hsz : 0 < ie.size) (hby : 0 < ie.bytes) {F : Nat → Prop} (hFlt : ∀ b, F b → b < w.heap.size)
    {v : Value} {els : List (List D)} (hown : rowOk F w v ⟨e, ie.size, els⟩) (hFn : ∀ b, v.ownBlock = some b → ¬ F b) {u : Value} {src : List (List D)} {news : List Value}
    (hsrc : ∀ f z, P.info? e = some f → f.zero = some z → f.size = ie.size → f.bytes = ie.bytes → z.cells.size = ie.size → relL (⟨fun _ => .c .no, fun _ => none, fun _ => none, fun _ => none⟩ : St) ⟨fun _ => False, fun _ => undef, fun _ => 0⟩ w ie.zc z.cells.toList → ∃ news, ASrc P w t t' ty e f z u src.length news ∧
      ∀ i, i < src.length → (src.getD i []).length = ie.size ∧ ∀ j, j < ie.size → RC F w ((src.getD i []).getD j dU) (news.getD (i * ie.size + j) undef))
    (hbig : (els.length + src.length) * ie.bytes ≤ 140737488355328) :
    ∃ v' w', (Builtin.append_ #[t, t'] ty #[v, u]).run P w = .ok v' w' ∧ rowOk F w' v' ⟨e, ie.size, els ++ src⟩ ∧ Keeps w w' (fun b => v.ownBlock = some b) ∧ (v'.ownBlock = v.ownBlock ∨ v'.ownBlock = some w.heap.size) := by
  obtain ⟨f, z, h1, h2, h3, h4, h5, h6, h7⟩ := zc_rel (s := ⟨fun _ => .c .no, fun _ => none, fun _ => none, fun _ => none⟩) (g := ⟨fun _ => False, fun _ => undef, fun _ => 0⟩) (w := w) TO he
  have hd := TO.desc t i ht
  rw [hi] at hd
  have hd' : P.underlying t = some (.slice e) := hd
  obtain ⟨vs, hA, hvs⟩ := hsrc f z h1 h2 h4 h5 h6 h3
  obtain ⟨xs, k1, k2, k3⟩ := hown
  simp only at k1 k2 k3
  have hvl : vs.length = src.length * ie.size := by rw [hA.len, h4]
  have hlen : els.length + src.length ≤ maxLen := by
    have := Nat.le_mul_of_pos_right (els.length + src.length) hby
    simp [maxLen]; omega
  have app : ∀ i, i < (els ++ src).length → ((els ++ src).getD i []).length = ie.size ∧ ∀ j, j < ie.size → RC F w (((els ++ src).getD i []).getD j dU) ((xs ++ vs).getD (i * ie.size + j) undef) := by
    intro i hi'
    have hx1 := k1.1
    by_cases hil : i < els.length
    · have hmul : (i + 1) * ie.size ≤ els.length * ie.size := Nat.mul_le_mul_right _ hil
      rw [Nat.add_mul, Nat.one_mul] at hmul
      have e1 : (els ++ src).getD i [] = els.getD i [] := by rw [List.getD_eq_getElem?_getD, List.getElem?_append_left hil, ← List.getD_eq_getElem?_getD]
      rw [e1]
      refine ⟨(k3 i hil).1, fun j hj => ?_⟩
      have e2 : (xs ++ vs).getD (i * ie.size + j) undef = xs.getD (i * ie.size + j) undef := by
        rw [List.getD_eq_getElem?_getD, List.getElem?_append_left (by omega), ← List.getD_eq_getElem?_getD]
      rw [e2]; exact (k3 i hil).2 j hj
    · have hil' : els.length ≤ i := by omega
      have hi2 : i - els.length < src.length := by simp at hi'; omega
      have e1 : (els ++ src).getD i [] = src.getD (i - els.length) [] := by rw [List.getD_eq_getElem?_getD, List.getElem?_append_right hil', ← List.getD_eq_getElem?_getD]
      rw [e1]
      refine ⟨(hvs _ hi2).1, fun j hj => ?_⟩
      have hmul : i * ie.size = els.length * ie.size + (i - els.length) * ie.size := by rw [← Nat.add_mul]; congr 1; omega
      have e2 : (xs ++ vs).getD (i * ie.size + j) undef = vs.getD ((i - els.length) * ie.size + j) undef := by
        rw [List.getD_eq_getElem?_getD, List.getElem?_append_right (by omega), ← List.getD_eq_getElem?_getD]
        congr 1; omega
      rw [e2]; exact (hvs _ hi2).2 j hj
  have fin : ∀ (w' : World) (v' : Value), w'.ownsRow 0 e ie.size v' (els.length + src.length) (xs ++ vs) → w.grownBy w' v.ownBlock → rowOk F w' v' ⟨e, ie.size, els ++ src⟩ ∧ Keeps w w' (fun b => v.ownBlock = some b) := by
    intro w' v' ho hg
    have kk := Keeps.grown hg
    have hFh : ∀ b, F b → w'.heap[b]? = w.heap[b]? := fun b hb => kk.heap b (hFlt b hb) (fun he => hFn b he hb)
    exact ⟨⟨xs ++ vs, by simpa using ho, hsz, fun i hi => ⟨(app i hi).1, fun j hj => ((app i hi).2 j hj).heap hFh⟩⟩, kk⟩
  have hll : (xs ++ vs).length = (els.length + src.length) * ie.size := by rw [List.length_append, k1.1, hvl, Nat.add_mul]
  have grown : ∀ (old : Nat), old < els.length + src.length → ∀ (row : Option Nat),
      (w.drew.alloc (.cells ((xs ++ vs).toArray ++ Builtin.zeroCells z.cells (grownCap w (els.length + src.length) old e - (els.length + src.length))) e)).ownsRow 0 e ie.size
        (.slice (some ⟨w.heap.size, 0, none⟩) (els.length + src.length) (grownCap w (els.length + src.length) old e)) (els.length + src.length) (xs ++ vs) ∧
      w.grownBy (w.drew.alloc (.cells ((xs ++ vs).toArray ++ Builtin.zeroCells z.cells (grownCap w (els.length + src.length) old e - (els.length + src.length))) e)) row := by
    intro old ho row
    have hge := grownCap_ge w (els.length + src.length) old e
    have hcm : grownCap w (els.length + src.length) old e ≤ maxLen := grownCap_le_maxLen w (els.length + src.length) old e hlen
    refine ⟨⟨hll, .inr ⟨w.heap.size, _, _, rfl, Nat.zero_le _, heap_alloc_new w.drew _, hge, hcm, ?_, ?_⟩⟩, ⟨rfl, rfl, rfl, by simp, fun k hk _ => heap_alloc_old w.drew _ hk⟩⟩
    · rw [Array.size_append, List.size_toArray, size_zeroCells, h6, hll, ← Nat.add_mul]
      congr 1
      omega
    · rw [Array.toList_append, ← hll]
      exact List.take_left
  have h63 : ((els.length + src.length : Nat) : Int) ≤ 9223372036854775807 := by simp only [maxLen] at hlen; omega
  rcases k1.2 with ⟨rfl, h0⟩ | ⟨gb, cap, cur, rfl, hbg, hg, hnc, hcm, hcs, htake⟩
  · have hx : xs = [] := List.eq_nil_of_length_eq_zero (by rw [k1.1, h0]; simp)
    by_cases hm : src.length = 0
    · refine ⟨.slice none 0 0, w, hA.nil hm, ?_⟩
      have hv0 : vs = [] := List.eq_nil_of_length_eq_zero (by rw [hvl, hm]; simp)
      have := fin w (.slice none 0 0) (by rw [hx, hv0, h0, hm]; exact World.ownsRow_nil w 0 e ie.size) ⟨rfl, rfl, rfl, Nat.le_refl _, fun _ _ _ => rfl⟩
      exact ⟨this.1, this.2, .inl rfl⟩
    · have hr := hA.grow none 0 0 [] (by simp [Builtin.firstCells]) (by omega) (by simp only [Nat.zero_add]; omega) (growslice_fits (by omega) (by rw [h5]; simp only [Nat.zero_add]; rw [h0, Nat.zero_add] at hbig; exact hbig))
      have hgr := grown 0 (by omega) (Value.ownBlock (.slice none 0 0))
      rw [h0] at hgr
      subst hx
      simp only [Nat.zero_add, List.nil_append] at hgr hr
      have := fin _ _ (by rw [h0, Nat.zero_add, List.nil_append]; exact hgr.1) hgr.2
      rw [h0] at *
      exact ⟨_, _, hr, this.1, this.2, .inr rfl⟩
  · by_cases hroom : els.length + src.length ≤ cap
    · have hfit : els.length * ie.size + vs.length ≤ cur.size := by rw [hvl, hcs, ← Nat.add_mul]; exact Nat.mul_le_mul_right _ hroom
      have hr := hA.room gb els.length cap cur hg hroom (by rw [h4]; exact hfit)
      rw [h4] at hr
      have hcur : ((List.take (els.length * ie.size) cur.toList ++ vs ++ List.drop (els.length * ie.size + vs.length) cur.toList).toArray).size = cap * ie.size := by
        simp only [List.size_toArray, List.length_append, List.length_take, List.length_drop, Array.length_toList]
        omega
      refine ⟨_, _, hr, ?_⟩
      have := fin (w.setRow gb (List.take (els.length * ie.size) cur.toList ++ vs ++ List.drop (els.length * ie.size + vs.length) cur.toList).toArray) (.slice (some ⟨gb, 0, none⟩) (els.length + src.length) cap)
        ⟨hll, .inr ⟨gb, cap, _, rfl, hbg, setRow_heap w gb cur _ e _ hg, hroom, hcm, hcur, by
          rw [htake, ← hll]
          exact List.take_left⟩⟩ ⟨rfl, rfl, rfl, by simp, fun k _ hk => setRow_other w gb k _ (fun e => hk (by simp [Value.ownBlock, e]))⟩
      exact ⟨this.1, this.2, .inl rfl⟩
    · have holds : ∀ j u, xs[j]? = some u → w.cell? ((⟨gb, 0, none⟩ : Addr).add j) = some u := World.ownsRow.cells (g := gb) k1 rfl
      have hfo := run_firstCells_some (P := P) w.drew f.size els.length ⟨gb, 0, none⟩ els.length cap xs (by rw [h4]; exact k1.1) (by simpa using holds)
      have hr := hA.grow (some ⟨gb, 0, none⟩) els.length cap xs hfo (by omega) h63 (growslice_fits (by omega) (by rw [h5]; exact hbig))
      have hgr := grown cap (by omega) (Value.ownBlock (.slice (some ⟨gb, 0, none⟩) els.length cap))
      have := fin _ _ hgr.1 hgr.2
      exact ⟨_, _, hr, this.1, this.2, .inr rfl⟩

def bytesE (b : ByteArray) : List (List D) := b.data.toList.map fun x => [.v (.int .u8 x.toNat)]
theorem bytesE_len (b : ByteArray) : (bytesE b).length = b.size := by simp [bytesE]
/-- The elements that a source that is no slice comes to. -/
def srcX (T : Tab) (t' : Nat) (ie : TI) (y : AV) (K : List (List D) → Prop) : Prop :=
  match T t' with
  | none => False
  | some i' => match i'.td, y with
    | .int .i64, .c (.d (.v (.int .i64 k))) => 0 < k ∧ k.toNat * ie.bytes ≤ 140737488355328 ∧ match zcD ie.zc with
      | some z => K (List.replicate k.toNat z)
      | none => False
    | .str, .c (.d (.v (.string b))) => ie.td = .int .u8 ∧ ie.size = 1 ∧ K (bytesE b)
    | _, _ => False
def vappendX (T : Tab) (t t' d : Nat) (x y : AV) (s : St) (K : AV → St → Prop) : Prop :=
  match T t with
  | none => False
  | some i => match i.td with
    | .sl e => match T e with
      | none => False
      | some ie => 0 < ie.size ∧ 0 < ie.bytes ∧ srcX T t' ie y fun src => match x with
        | .c (.own u) => match s.rows u with
          | some r => r.e = e ∧ r.sz = ie.size ∧ (r.els.length + src.length) * ie.bytes ≤ 140737488355328 ∧ K (.c (.own d)) ((s.killR u).addR d ⟨e, ie.size, r.els ++ src⟩)
          | none => False
        | .c (.nil _ _) => src.length * ie.bytes ≤ 140737488355328 ∧ K (.c (.own d)) (s.addR d ⟨e, ie.size, src⟩)
        | _ => False
    | _ => False
theorem srcX_sound (TO : TabOk P T) (h : Rel w0 own0 s g a w) {t t' e ty : Nat} {i ie : TI} (ht : T t = some i) (hi : i.td = .sl e) (he : T e = some ie) (hsz : 0 < ie.size) (hby : 0 < ie.bytes) {y : AV} {u : Value} {K : List (List D) → Prop} (hy : relAV s g w y u) (hk : srcX T t' ie y K) :
    ∃ src, K src ∧ ∀ f z, P.info? e = some f → f.zero = some z → f.size = ie.size → f.bytes = ie.bytes → z.cells.size = ie.size → relL (⟨fun _ => .c .no, fun _ => none, fun _ => none, fun _ => none⟩ : St) ⟨fun _ => False, fun _ => undef, fun _ => 0⟩ w ie.zc z.cells.toList → ∃ news, ASrc P w t t' ty e f z u src.length news ∧
      ∀ i, i < src.length → (src.getD i []).length = ie.size ∧ ∀ j, j < ie.size → RC g.F w ((src.getD i []).getD j dU) (news.getD (i * ie.size + j) undef) := by
  have hd := TO.desc t i ht
  rw [hi] at hd
  have hd' : P.underlying t = some (.slice e) := hd
  unfold srcX at hk
  cases ht' : T t' with
  | none => simp [ht'] at hk
  | some i' =>
    simp only [ht'] at hk
    have hd2 := TO.desc t' i' ht'
    split at hk
    · rename_i k e1
      rw [e1] at hd2
      have hd3 : P.underlying t' = some (.int .i64) := hd2
      obtain ⟨k0, kb, hk⟩ := hk
      have hu := relI hy
      subst hu
      split at hk
      · rename_i zs hzs
        refine ⟨_, hk, fun f z h1 h2 h4 h5 h6 h3 => ?_⟩
        have hrel := zcD_rel (F := g.F) hzs (g := ⟨fun _ => False, fun _ => undef, fun _ => 0⟩) (s := ⟨fun _ => .c .no, fun _ => none, fun _ => none, fun _ => none⟩) h3
        have hrel' : relDL g.F w zs z.cells.toList := relDL.mono (fun _ h => h.elim) hrel
        have hzl : zs.length = ie.size := by
          have := relDL.len hrel'
          rw [← this]; simpa using h6
        have hzz : ∀ j, j < k.toNat * ie.size → (Builtin.zeroCells z.cells k.toNat).toList.getD j undef = z.cells.toList.getD (j % ie.size) undef := by
          intro j hj
          have hsz' : z.cells.size = ie.size := h6
          have hlt : j < (Builtin.zeroCells z.cells k.toNat).toList.length := by rw [zeroCells_length, h6]; exact hj
          have hm : j % ie.size < z.cells.size := by rw [h6]; exact Nat.mod_lt _ hsz
          rw [List.getD_eq_getElem?_getD, List.getElem?_eq_getElem hlt, List.getD_eq_getElem?_getD, List.getElem?_eq_getElem (by simpa using hm)]
          have hm' : j % ie.size < ie.size := Nat.mod_lt _ hsz
          simp [Builtin.zeroCells, h6, hm, hm', getElem!_pos]
        have hone : ∀ x ∈ (Builtin.zeroCells z.cells k.toNat).toList, x.oneCell' = true := by
          intro x hx
          obtain ⟨j, hj, rfl⟩ := List.getElem_of_mem hx
          have hj' : j < k.toNat * ie.size := by rw [zeroCells_length, h6] at hj; exact hj
          have := hzz j hj'
          rw [List.getD_eq_getElem?_getD, List.getElem?_eq_getElem hj] at this
          simp only [Option.getD_some] at this
          rw [this]
          have hm : j % ie.size < zs.length := by rw [hzl]; exact Nat.mod_lt _ hsz
          exact (relDL.at hrel' (j % ie.size) hm).one
        have hA := ASrc.zeros (w := w) (ty := ty) hd' h1 h2 (by rw [h6, h4]) hd3 k.toNat (by omega) (by rw [h5]; exact kb) (by rw [h4]; exact hsz) (by rw [h5]; exact hby) hone
        have ek : ((k.toNat : Nat) : Int) = k := by omega
        rw [ek] at hA
        refine ⟨_, by rw [List.length_replicate]; exact hA, fun i hi' => ?_⟩
        rw [List.length_replicate] at hi'
        have e3 : (List.replicate k.toNat zs).getD i [] = zs := by rw [List.getD_eq_getElem?_getD, List.getElem?_replicate, if_pos hi']; rfl
        rw [e3]
        refine ⟨hzl, fun j hj => ?_⟩
        have hmul : (i + 1) * ie.size ≤ k.toNat * ie.size := Nat.mul_le_mul_right _ hi'
        rw [Nat.add_mul, Nat.one_mul] at hmul
        rw [hzz _ (by omega)]
        have : (i * ie.size + j) % ie.size = j := by rw [Nat.mul_comm, Nat.mul_add_mod]; exact Nat.mod_eq_of_lt hj
        rw [this]
        exact relDL.at hrel' j (by rw [hzl]; exact hj)
      · exact hk.elim
    · rename_i b e1
      rw [e1] at hd2
      have hd3 : P.underlying t' = some .string := hd2
      obtain ⟨k1, k2, hk⟩ := hk
      have hu := relS hy
      subst hu
      refine ⟨_, hk, fun f z h1 h2 h4 h5 h6 h3 => ?_⟩
      have hA := ASrc.string (w := w) (ty := ty) hd' h1 h2 (by rw [h4, k2]) hd3 b
      refine ⟨_, by rw [bytesE_len]; exact hA, fun i hi' => ?_⟩
      rw [bytesE_len] at hi'
      have hi2 : i < b.data.toList.length := by rw [Array.length_toList]; exact hi'
      have e3 : (bytesE b).getD i [] = [.v (.int .u8 (b.data.toList[i]).toNat)] := by
        simp only [bytesE, List.getD_eq_getElem?_getD, List.getElem?_map, List.getElem?_eq_getElem hi2]; rfl
      rw [e3, k2]
      refine ⟨rfl, fun j hj => ?_⟩
      have : j = 0 := by omega
      subst this
      have e4 : (byteCells b).getD (i * 1 + 0) undef = .int .u8 (b.data.toList[i]).toNat := by
        simp only [byteCells, List.getD_eq_getElem?_getD, List.getElem?_map, Nat.mul_one, Nat.add_zero, List.getElem?_eq_getElem hi2]; rfl
      rw [e4]
      exact RC.v _ rfl
    · exact hk.elim
theorem vappendX_sound (TO : TabOk P T) (h : Run m n w0 own0 g0 s g a w) {t t' d ty : Nat} {x y : AV} {v u : Value} {K : AV → St → Prop} (hx : relAV s g w x v) (hy : relAV s g w y u) (hk : vappendX T t t' d x y s K) :
    ∃ z v' w' s' g', (Builtin.append_ #[t, t'] ty #[v, u]).run P w = .ok v' w' ∧ K z s' ∧ Run m n w0 own0 g0 s' g' a w' ∧ relAV s' g' w' z v' := by
  unfold vappendX at hk
  cases ht : T t with
  | none => simp [ht] at hk
  | some i =>
    simp only [ht] at hk
    split at hk
    · rename_i e hfs
      cases he : T e with
      | none => simp [he] at hk
      | some ie =>
        simp only [he] at hk
        obtain ⟨hsz, hby, hk⟩ := hk
        obtain ⟨src, hk, hsrc⟩ := srcX_sound (ty := ty) TO h.rel ht hfs he hsz hby hy hk
        split at hk
        · rename_i uu _
          cases hr : s.rows uu with
          | none => simp [hr] at hk
          | some r =>
            simp only [hr] at hk
            obtain ⟨hre, hrs, hbig, hk⟩ := hk
            have hv : v = g.hv uu := hx (by rw [hr]; rfl)
            have hro := h.rel.rows uu r hr
            have hro' : rowOk g.F w v ⟨e, ie.size, r.els⟩ := by rw [hv, ← hre, ← hrs]; exact hro
            obtain ⟨v', w', h1, h2, h3, h4⟩ := appendX_run (ty := ty) (t' := t') (news := []) TO ht hfs he hsz hby h.rel.lt hro' (fun b hb => (h.rel.rowF uu r b hr (by rw [← hv]; exact hb)).1) hsrc hbig
            have hkill := h.killR uu
            have hne : ∀ t2 r2 b, (s.killR uu).rows t2 = some r2 → (g.hv t2).ownBlock = some b → ¬ v.ownBlock = some b := by
              intro t2 r2 b h5 h6 h7
              simp only [St.killR, upd] at h5
              split at h5
              · cases h5
              · rename_i hne
                exact h.rel.rr uu t2 r r2 b (Ne.symm hne) hr h5 (by rw [← hv]; exact h7) h6
            have hkeep : Rel w0 own0 (s.killR uu) g a w' := hkill.rel.keep h3 (fun b hb => (h.rel.rowF uu r b hr (by rw [← hv]; exact hb)).1) hne
              (fun t2 c2 h5 h6 => h.rel.rv uu t2 r c2 hr h5 (by rw [← hv]; exact h6)) (fun b hb => (h.rel.rowF uu r b hr (by rw [← hv]; exact hb)).2)
            have hrun : Run m n w0 own0 g0 (s.killR uu) g a w' := ⟨hkeep, h.tmps, h.ga, h.F, h.F'⟩
            refine ⟨_, v', w', _, _, h1, hk, hrun.addR d _ v' h2 (fun b hb => ?_), fun _ => (upd_same _ _ _).symm⟩
            rcases h4 with h4 | h4
            · rw [h4] at hb
              exact ⟨(h.rel.rowF uu r b hr (by rw [← hv]; exact hb)).1, (h.rel.rowF uu r b hr (by rw [← hv]; exact hb)).2, fun t2 r2 _ h5 h6 => hne t2 r2 b h5 h6 hb,
                fun t2 c2 h5 h6 => h.rel.rv uu t2 r c2 hr h5 (by rw [← hv, hb, h6])⟩
            · rw [h4] at hb
              simp at hb; subst hb
              have := hkill.rel.fresh (Nat.le_refl w.heap.size)
              exact ⟨this.1, this.2.1, fun t2 r2 _ h5 => this.2.2.1 t2 r2 h5, this.2.2.2⟩
        · obtain ⟨hbig, hk⟩ := hk
          have hv : v = .slice none 0 0 := hx
          have hro' : rowOk g.F w v ⟨e, ie.size, []⟩ := by rw [hv]; exact ⟨[], ⟨by simp, .inl ⟨rfl, rfl⟩⟩, hsz, by simp⟩
          obtain ⟨v', w', h1, h2, h3, h4⟩ := appendX_run (ty := ty) (t' := t') (news := []) TO ht hfs he hsz hby h.rel.lt hro' (fun b hb => by rw [hv] at hb; cases hb) hsrc (by simpa using hbig)
          have kk : Keeps w w' (fun _ => False) := ⟨h3.os, h3.tape, h3.output, h3.size, fun b hb _ => h3.heap b hb (fun e => by rw [hv] at e; cases e)⟩
          have hrun := h.grow kk
          refine ⟨_, v', w', _, _, h1, hk, hrun.addR d _ v' (by simpa using h2) (fun b hb => ?_), fun _ => (upd_same _ _ _).symm⟩
          rcases h4 with h4 | h4
          · rw [h4, hv] at hb; cases hb
          · rw [h4] at hb
            simp at hb; subst hb
            have := h.rel.fresh (Nat.le_refl w.heap.size)
            exact ⟨this.1, this.2.1, fun t2 r2 _ h5 => this.2.2.1 t2 r2 h5, this.2.2.2⟩
        · exact hk.elim
    · exact hk.elim
end
end GV

set_option linter.unusedSimpArgs false
set_option linter.unusedVariables false
namespace GV
open Go

/-! ### what a function is handed, and what it leaves -/
inductive IC where
  | d (x : D)
  | r (row : Row)
inductive In where
  | c (x : D)
  | ag (l : List D)
  | er (l : List D)
  | rv (l : List IC)
  | rr (r : Row)
  | ra (l : List IC)
structure Out where
  res : List In
  refs : List In
def icC : Nat → List IC → List C
  | _, [] => []
  | b, .d x :: l => .d x :: icC (b + 1) l
  | b, .r _ :: l => .own b :: icC (b + 1) l
def rowIn (l : List IC) (k : Nat) : Option Row :=
  match l[k]? with
  | some (.r row) => some row
  | _ => none
def tRow (f : Nat → Option In) (t : Nat) : Option Row :=
  if t < 1000 then match f t with
    | some (.rr r) => some r
    | _ => none
  else match f (t / 1000 - 1) with
    | some (.rv l) => rowIn l (t % 1000)
    | some (.ra l) => rowIn l (t % 1000)
    | _ => none
def tVar (f : Nat → Option In) (t : Nat) : Option (List C) :=
  match f t with
  | some (.rv l) => some (icC (1000 * (t + 1)) l)
  | _ => none
def inAV (j : Nat) : Option In → AV
  | some (.c x) => .c (.d x)
  | some (.ag l) => .ag (l.map .d)
  | some (.er l) => .c (.er l)
  | some (.rv _) => .c (.ptr j 0)
  | some (.rr _) => .c (.own j)
  | some (.ra l) => .ag (icC (1000 * (j + 1)) l)
  | none => .c .und
def tOf (ins : List In) : Nat → Option In := fun t => ins[t]?
def tOut (o : Out) : Nat → Option In := fun t => if t < 500 then o.refs[t]? else o.res[t - 500]?
def initSt (gl : Nat → Option (List D)) (ins : List In) : St := ⟨fun j => inAV j (tOf ins j), tRow (tOf ins), tVar (tOf ins), gl⟩
def finSt (gl : Nat → Option (List D)) (o : Out) : St := ⟨fun j => inAV (500 + j) (o.res[j]?), tRow (tOut o), tVar (tOut o), gl⟩
def retV (vals : Array Value) : Value := if h : vals.size = 1 then vals[0] else .tuple vals
/-- The contract of a function: whatever it leaves is one of Post. -/
def CallP (P : Program) (gl : Nat → Option (List D)) (f : FuncId) (ins : List In) (Post : Out → Prop) : Prop :=
  (∀ args w, (callFunc f args).run P w = .ok (.enter f args) w) ∧
  ∀ (w : World) (own0 : Nat → Prop) (g : Gh) (args : Array Value), args.size = ins.length → Rel w own0 (initSt gl ins) g ⟨args, []⟩ w →
    Calls P f args w fun e w' => ∃ o, Post o ∧ ∃ vals g', e = .returned (retV vals) ∧ vals.size = o.res.length ∧ Rel w own0 (finSt gl o) g' ⟨vals, []⟩ w' ∧
      (∀ j, j < ins.length → g'.ga j = g.ga j) ∧ (∀ b, g.F b → g'.F b) ∧ ∀ b, g'.F b → g.F b ∨ own0 b ∨ w.heap.size ≤ b
/-- The contract of a function that leaves o. -/
def CallOk (P : Program) (gl : Nat → Option (List D)) (f : FuncId) (ins : List In) (o : Out) : Prop := CallP P gl f ins (fun x => x = o)
theorem CallP.mono {P : Program} {gl : Nat → Option (List D)} {f : FuncId} {ins : List In} {A B : Out → Prop} (h : CallP P gl f ins A) (hab : ∀ o, A o → B o) : CallP P gl f ins B :=
  ⟨h.1, fun w own0 g args h1 h2 => (h.2 w own0 g args h1 h2).mono fun _ _ ⟨o, ho, r⟩ => ⟨o, hab o ho, r⟩⟩

/-! ### a part of what lives -/
section
variable {P : Program} {T : Tab} {m n : Nat} {w0 : World} {own0 : Nat → Prop} {g0 : Gh} {s s' : St} {g : Gh} {a a' : Act} {w : World}
theorem relC.sub {s s' : St} (hr : ∀ t, (s'.rows t).isSome = true → (s.rows t).isSome = true) (hv : ∀ t, (s'.vars t).isSome = true → (s.vars t).isSome = true) {c : C} {v : Value} (h : relC s g w c v) : relC s' g w c v :=
  h.move ⟨fun _ h => h, fun _ _ => rfl, fun t ht => ⟨hr t ht, rfl, fun _ _ => rfl⟩, fun t ht => ⟨hv t ht, rfl⟩⟩
theorem Rel.restrict (h : Rel w0 own0 s g a w) (hd : a'.defers = []) (hr : ∀ t r, s'.rows t = some r → s.rows t = some r) (hv : ∀ t c, s'.vars t = some c → s.vars t = some c)
    (hgl : ∀ k cs, s'.gl k = some cs → s.gl k = some cs) (he : ∀ j, relAV s' g w (s'.env j) (a'.tmps.getD j undef)) : Rel w0 own0 s' g a' w := by
  have hm : Moves s s' g g w w := ⟨fun _ h => h, fun _ _ => rfl, fun t ht => by
      obtain ⟨r, hr'⟩ := Option.isSome_iff_exists.1 ht
      exact ⟨by rw [hr t r hr']; rfl, rfl, fun _ _ => rfl⟩, fun t ht => by
      obtain ⟨c, hc⟩ := Option.isSome_iff_exists.1 ht
      exact ⟨by rw [hv t c hc]; rfl, rfl⟩⟩
  exact ⟨hd, h.os, h.tape, h.output, h.size, h.frame, h.lt, fun t r ht => h.rows t r (hr t r ht), fun t c ht => (h.vars t c (hv t c ht)).move hm rfl, fun t r b ht hb => h.rowF t r b (hr t r ht) hb, fun t c ht => h.varF t c (hv t c ht),
    fun t u rt ru b hne ht hu hb => h.rr t u rt ru b hne (hr t rt ht) (hr u ru hu) hb, fun t u ct cu hne ht hu => h.vv t u ct cu hne (hv t ct ht) (hv u cu hu), fun t u r c ht hu => h.rv t u r c (hr t r ht) (hv u c hu), he, fun k cs hk => h.glob k cs (hgl k cs hk)⟩
end

/-! ### names of the caller's and of the callee's -/
def rho (pv pr : List (Nat × Nat)) (t : Nat) : Option Nat :=
  match pr.lookup t with
  | some u => some u
  | none => if t < 1000 then none else (pv.lookup (t / 1000 - 1)).map fun j => 1000 * (j + 1) + t % 1000
def swap (l : List (Nat × Nat)) : List (Nat × Nat) := l.map fun p => (p.2, p.1)
structure NamesOk (pv pr : List (Nat × Nat)) : Prop where
  v1 : (pv.map (·.1)).Nodup
  v2 : (pv.map (·.2)).Nodup
  r1 : (pr.map (·.1)).Nodup
  r2 : (pr.map (·.2)).Nodup
  x : ∀ p ∈ pr, ∀ q ∈ pv, p.1 / 1000 ≠ q.1 + 1 ∧ p.2 / 1000 ≠ q.2 + 1
theorem lookup_mem {l : List (Nat × Nat)} {t u : Nat} (h : l.lookup t = some u) : (t, u) ∈ l := by
  induction l with
  | nil => cases h
  | cons p l ih =>
    obtain ⟨x, y⟩ := p
    rw [List.lookup_cons] at h
    by_cases e : t = x
    · subst e; simp at h; subst h; simp
    · have : (t == x) = false := by simpa using e
      simp [this] at h; exact List.mem_cons_of_mem _ (ih h)
theorem lookup_of_mem {l : List (Nat × Nat)} (hn : (l.map (·.1)).Nodup) {t u : Nat} (h : (t, u) ∈ l) : l.lookup t = some u := by
  induction l with
  | nil => cases h
  | cons p l ih =>
    obtain ⟨x, y⟩ := p
    simp only [List.map_cons, List.nodup_cons] at hn
    rw [List.lookup_cons]
    rcases List.mem_cons.1 h with h | h
    · cases h; simp
    · have e : t ≠ x := fun e => hn.1 (by rw [← e]; exact List.mem_map.2 ⟨_, h, rfl⟩)
      have : (t == x) = false := by simpa using e
      simp [this]; exact ih hn.2 h
theorem mem_swap {l : List (Nat × Nat)} {t u : Nat} : (u, t) ∈ swap l ↔ (t, u) ∈ l := by
  simp only [swap, List.mem_map, Prod.mk.injEq]
  exact ⟨fun ⟨p, hp, h1, h2⟩ => by obtain ⟨a, b⟩ := p; simp only at h1 h2; subst h1; subst h2; exact hp, fun h => ⟨(t, u), h, rfl, rfl⟩⟩
theorem NamesOk.swap {pv pr : List (Nat × Nat)} (h : NamesOk pv pr) : NamesOk (swap pv) (swap pr) := by
  have e1 : ∀ l : List (Nat × Nat), (GV.swap l).map (·.1) = l.map (·.2) := fun l => by simp [GV.swap]
  have e2 : ∀ l : List (Nat × Nat), (GV.swap l).map (·.2) = l.map (·.1) := fun l => by simp [GV.swap]
  refine ⟨by rw [e1]; exact h.v2, by rw [e2]; exact h.v1, by rw [e1]; exact h.r2, by rw [e2]; exact h.r1, fun p hp q hq => ?_⟩
  obtain ⟨p1, p2⟩ := p
  obtain ⟨q1, q2⟩ := q
  have := h.x _ (mem_swap.1 hp) _ (mem_swap.1 hq)
  exact ⟨this.2, this.1⟩
theorem NamesOk.inv {pv pr : List (Nat × Nat)} (h : NamesOk pv pr) {t u : Nat} (hr : rho pv pr t = some u) : rho (GV.swap pv) (GV.swap pr) u = some t := by
  have hs := h.swap
  unfold rho at hr ⊢
  cases hl : pr.lookup t with
  | some u' =>
    rw [hl] at hr; simp at hr; subst hr
    rw [lookup_of_mem hs.r1 (mem_swap.2 (lookup_mem hl))]
  | none =>
    rw [hl] at hr
    simp only at hr
    by_cases ht : t < 1000
    · simp [ht] at hr
    · simp only [if_neg ht] at hr
      cases hv : pv.lookup (t / 1000 - 1) with
      | none => simp [hv] at hr
      | some j =>
        simp only [hv, Option.map_some, Option.some.injEq] at hr
        subst hr
        have hm := lookup_mem hv
        have e1 : (1000 * (j + 1) + t % 1000) / 1000 = j + 1 := by omega
        have e2 : (1000 * (j + 1) + t % 1000) % 1000 = t % 1000 := by omega
        have hnone : (GV.swap pr).lookup (1000 * (j + 1) + t % 1000) = none := by
          cases hx : (GV.swap pr).lookup (1000 * (j + 1) + t % 1000) with
          | none => rfl
          | some x =>
            have := (h.x _ (mem_swap.1 (lookup_mem hx)) _ hm).2
            simp only at this
            omega
        rw [hnone]
        simp only
        rw [if_neg (by omega), e1, e2]
        have : j + 1 - 1 = j := by omega
        rw [this, lookup_of_mem hs.v1 (mem_swap.2 hm)]
        simp only [Option.map_some, Option.some.injEq]
        omega
theorem swap_swap (l : List (Nat × Nat)) : GV.swap (GV.swap l) = l := by
  rw [swap, swap, List.map_map]; exact (List.map_congr_left (fun _ _ => rfl)).trans (List.map_id l)
theorem NamesOk.inv' {pv pr : List (Nat × Nat)} (h : NamesOk pv pr) {t u : Nat} (hr : rho (GV.swap pv) (GV.swap pr) u = some t) : rho pv pr t = some u := by
  have := h.swap.inv hr
  rwa [swap_swap, swap_swap] at this
theorem lookup_swap {l : List (Nat × Nat)} (h1 : (l.map (·.1)).Nodup) (h2 : (l.map (·.2)).Nodup) {t u : Nat} : (swap l).lookup u = some t ↔ l.lookup t = some u := by
  have e1 : ∀ l : List (Nat × Nat), (GV.swap l).map (·.1) = l.map (·.2) := fun l => by simp [GV.swap]
  exact ⟨fun h => lookup_of_mem h1 (mem_swap.1 (lookup_mem h)), fun h => lookup_of_mem (by rw [e1]; exact h2) (mem_swap.2 (lookup_mem h))⟩
end GV

set_option linter.unusedSimpArgs false
set_option linter.unusedVariables false
namespace GV
open Go

def argC (s : St) (b : Bool) (pv pr : List (Nat × Nat)) (c : C) (y : D) : Prop :=
  match c with
  | .d x => x = y
  | .nil _ _ => match y with
    | .sl _ [] => True
    | _ => False
  | .own t => b = true ∧ rho pv pr t = none ∧ match s.rows t with
    | some r => D.sl r.sz r.els = y
    | none => False
  | .bw t x => b = true ∧ rho pv pr t = none ∧ s.alive t ∧ x = y
  | _ => False
def argL (s : St) (b : Bool) (pv pr : List (Nat × Nat)) : List C → List D → Prop
  | [], [] => True
  | c :: cs, y :: ys => argC s b pv pr c y ∧ argL s b pv pr cs ys
  | _, _ => False
def rowsOk (s : St) : Nat → List IC → Prop
  | _, [] => True
  | b, .d _ :: l => rowsOk s (b + 1) l
  | b, .r row :: l => s.rows b = some row ∧ rowsOk s (b + 1) l
def argOk (s : St) (b : Bool) (pv pr : List (Nat × Nat)) (j : Nat) (x : AV) (i : In) : Prop :=
  match i with
  | .c y => match x with
    | .c c => argC s b pv pr c y
    | _ => False
  | .ag l => match x with
    | .ag cs => argL s b pv pr cs l
    | _ => False
  | .er l => match x with
    | .c (.er l') => l' = l
    | .c (.eb t l') => b = true ∧ rho pv pr t = none ∧ s.alive t ∧ l' = l
    | .c (.ptr v j') => b = true ∧ pv.lookup v = none ∧ j' = 0 ∧ match s.vars v with
      | some cs => argL s b pv pr cs l
      | none => False
    | .c (.eo u sz k j') => b = true ∧ rho pv pr u = none ∧ j' = 0 ∧ match s.rows u with
      | some r => sz = r.sz ∧ k < r.els.length ∧ r.els.getD k [] = l
      | none => False
    | _ => False
  | .rv l => match x with
    | .c (.ptr v j') => j' = 0 ∧ pv.lookup v = some j ∧ l.length ≤ 1000 ∧ s.vars v = some (icC (1000 * (v + 1)) l) ∧ rowsOk s (1000 * (v + 1)) l
    | _ => False
  | .rr r => match x with
    | .c (.own t) => pr.lookup t = some j ∧ s.rows t = some r
    | _ => False
  | .ra _ => False
def argsOk (s : St) (b : Bool) (pv pr : List (Nat × Nat)) : Nat → List AV → List In → Prop
  | _, [], [] => True
  | j, x :: xs, i :: is => argOk s b pv pr j x i ∧ argsOk s b pv pr (j + 1) xs is
  | _, _, _ => False
def paV : Nat → List AV → List In → List (Nat × Nat)
  | j, .c (.ptr v _) :: xs, .rv _ :: is => (v, j) :: paV (j + 1) xs is
  | j, _ :: xs, _ :: is => paV (j + 1) xs is
  | _, _, _ => []
def paR : Nat → List AV → List In → List (Nat × Nat)
  | j, .c (.own t) :: xs, .rr _ :: is => (t, j) :: paR (j + 1) xs is
  | j, _ :: xs, _ :: is => paR (j + 1) xs is
  | _, _, _ => []
def ownOf (pv pr : List (Nat × Nat)) (s : St) (g : Gh) (b : Nat) : Prop :=
  (∃ v j c, pv.lookup v = some j ∧ s.vars v = some c ∧ g.ga v = b) ∨ ∃ t u r, rho pv pr t = some u ∧ s.rows t = some r ∧ (g.hv t).ownBlock = some b
def entG (bo : Bool) (pv pr : List (Nat × Nat)) (s : St) (g : Gh) : Gh where
  F := fun b => g.F b ∨ (bo = true ∧ ((∃ t r, rho pv pr t = none ∧ s.rows t = some r ∧ (g.hv t).ownBlock = some b) ∨ ∃ v c, pv.lookup v = none ∧ s.vars v = some c ∧ g.ga v = b))
  hv := fun u => match rho (swap pv) (swap pr) u with
    | some t => g.hv t
    | none => undef
  ga := fun j => match (swap pv).lookup j with
    | some v => g.ga v
    | none => 0

section
variable {P : Program} {T : Tab} {m n : Nat} {w0 : World} {own0 : Nat → Prop} {g0 : Gh} {s s' : St} {g : Gh} {a a' : Act} {w : World} {bo : Bool} {pv pr : List (Nat × Nat)}

theorem Rel.rlt (h : Rel w0 own0 s g a w) {t : Nat} {r : Row} {b : Nat} (ht : s.rows t = some r) (hb : (g.hv t).ownBlock = some b) : b < w.heap.size := by
  obtain ⟨xs, h1, _⟩ := h.rows t r ht
  exact (h1.lt b hb).2
theorem Rel.vlt (h : Rel w0 own0 s g a w) {t : Nat} {c : List C} (ht : s.vars t = some c) : g.ga t < w.heap.size := by
  obtain ⟨arr, T', h3, _⟩ := h.vars t c ht
  exact (Array.getElem?_eq_some_iff.1 h3).1

theorem argC_sound (h : Rel w0 own0 s g a w) {c : C} {y : D} {v : Value} (hc : relC s g w c v) (hk : argC s bo pv pr c y) : RC (entG bo pv pr s g).F w y v := by
  cases c with
  | no => exact hk.elim
  | und => exact hk.elim
  | ptr v j => exact hk.elim
  | eo u sz i j => exact hk.elim
  | er cs => exact hk.elim
  | eb t cs => exact hk.elim
  | d x => rw [← show x = y from hk]; exact RC.mono hc (fun b hb => .inl hb)
  | nil e sz =>
    have hv : v = .slice none 0 0 := hc
    subst hv
    unfold argC at hk
    simp only at hk
    split at hk
    · exact .nil _ _ _
    · exact hk.elim
  | own t =>
    obtain ⟨rfl, h1, h2⟩ := hk
    cases hr : s.rows t with
    | none => simp [hr] at h2
    | some r =>
      simp only [hr] at h2
      rw [← h2, hc (by rw [hr]; rfl)]
      exact (h.rows t r hr).reads (fun b hb => .inl hb) (fun b hb => .inr ⟨rfl, .inl ⟨t, r, h1, hr, hb⟩⟩)
  | bw t x =>
    obtain ⟨rfl, h1, h2, rfl⟩ := hk
    obtain ⟨r, hr⟩ := Option.isSome_iff_exists.1 h2
    exact (hc h2).mono fun b hb => hb.elim .inl (fun hb => .inr ⟨rfl, .inl ⟨t, r, h1, hr, hb⟩⟩)
theorem argL_sound (h : Rel w0 own0 s g a w) : ∀ {cs : List C} {ys : List D} {vs : List Value}, relL s g w cs vs → argL s bo pv pr cs ys → relDL (entG bo pv pr s g).F w ys vs
  | [], [], [], _, _ => trivial
  | c :: cs, y :: ys, v :: vs, hr, hk => ⟨argC_sound h hr.1 hk.1, argL_sound h hr.2 hk.2⟩
theorem readsAt.of {Φ : Nat → Prop} {b o : Nat} {vs : List Value} {cs : List D} (hb : Φ b) (hl : Lie w b o vs) (hr : relDL Φ w cs vs) : readsAt Φ w cs (.pointer (some ⟨b, o, none⟩)) := by
  refine ⟨b, o, rfl, hb, fun j hj => ⟨vs.getD j undef, hl j (by rw [hr.len]; exact hj), hr.at j hj⟩⟩

theorem rowsOk_at : ∀ {l : List IC} {b k : Nat} {row : Row}, rowsOk s b l → l[k]? = some (.r row) → s.rows (b + k) = some row
  | .d _ :: l, b, 0, row, h, hk => by simp at hk
  | .r r :: l, b, 0, row, h, hk => by simp at hk; subst hk; exact h.1
  | .d _ :: l, b, k + 1, row, h, hk => by have := rowsOk_at (b := b + 1) (k := k) h (by simpa using hk); rw [show b + (k + 1) = b + 1 + k by omega]; exact this
  | .r _ :: l, b, k + 1, row, h, hk => by have := rowsOk_at (b := b + 1) (k := k) h.2 (by simpa using hk); rw [show b + (k + 1) = b + 1 + k by omega]; exact this
theorem argsOk_at : ∀ {xs : List AV} {is : List In} {j : Nat}, argsOk s bo pv pr j xs is → xs.length = is.length ∧ ∀ k i, is[k]? = some i → ∃ x, xs[k]? = some x ∧ argOk s bo pv pr (j + k) x i
  | [], [], _, _ => ⟨rfl, fun k i h => by simp at h⟩
  | x :: xs, i :: is, j, h => by
    obtain ⟨h1, h2⟩ := argsOk_at (j := j + 1) h.2
    refine ⟨by simp [h1], fun k i' hk => ?_⟩
    cases k with
    | zero => simp at hk; subst hk; exact ⟨x, rfl, h.1⟩
    | succ k =>
      obtain ⟨x', h3, h4⟩ := h2 k i' (by simpa using hk)
      exact ⟨x', by simpa using h3, by rw [show j + (k + 1) = j + 1 + k by omega]; exact h4⟩
  | [], _ :: _, _, h => h.elim
  | _ :: _, [], _, h => by simp [argsOk] at h

theorem icC_len : ∀ (l : List IC) (b : Nat), (icC b l).length = l.length
  | [], _ => rfl
  | .d _ :: l, b => by simp [icC, icC_len]
  | .r _ :: l, b => by simp [icC, icC_len]
theorem icC_at : ∀ {l : List IC} {b k : Nat}, k < l.length → ((∃ x, l[k]? = some (.d x) ∧ (icC b l).getD k .no = .d x) ∨ ∃ r, l[k]? = some (.r r) ∧ (icC b l).getD k .no = .own (b + k))
  | .d x :: l, b, 0, _ => .inl ⟨x, rfl, rfl⟩
  | .r x :: l, b, 0, _ => .inr ⟨x, rfl, rfl⟩
  | .d x :: l, b, k + 1, h => by
    have := icC_at (l := l) (b := b + 1) (k := k) (by simpa using h)
    rw [show b + 1 + k = b + (k + 1) by omega] at this
    simpa [icC] using this
  | .r x :: l, b, k + 1, h => by
    have := icC_at (l := l) (b := b + 1) (k := k) (by simpa using h)
    rw [show b + 1 + k = b + (k + 1) by omega] at this
    simpa [icC] using this

theorem rho_block {pv pr : List (Nat × Nat)} (N : NamesOk pv pr) {v j k : Nat} (hv : pv.lookup v = some j) (hk : k < 1000) : rho pv pr (1000 * (v + 1) + k) = some (1000 * (j + 1) + k) := by
  unfold rho
  have hm := lookup_mem hv
  have hnone : pr.lookup (1000 * (v + 1) + k) = none := by
    cases hx : pr.lookup (1000 * (v + 1) + k) with
    | none => rfl
    | some x =>
      have := (N.x _ (lookup_mem hx) _ hm).1
      simp only at this
      omega
  rw [hnone]
  simp only
  have e1 : (1000 * (v + 1) + k) / 1000 - 1 = v := by omega
  have e2 : (1000 * (v + 1) + k) % 1000 = k := by omega
  rw [if_neg (by omega), e1, e2, hv]
  rfl

theorem enter_rel (h : Rel w0 own0 s g a w) (N : NamesOk pv pr) {ins : List In} {xs : List AV} {args : Array Value} (hlen : ins.length ≤ 500) (hsz : args.size = xs.length) (hargs : argsOk s bo pv pr 0 xs ins)
    (hx : ∀ k x, xs[k]? = some x → relAV s g w x (args.getD k undef)) : Rel w (ownOf pv pr s g) (initSt s.gl ins) (entG bo pv pr s g) ⟨args, []⟩ w := by
  obtain ⟨hl, hat⟩ := argsOk_at hargs
  simp only [Nat.zero_add] at hat
  have hR : ∀ u r, tRow (tOf ins) u = some r → ∃ t, rho pv pr t = some u ∧ s.rows t = some r := by
    intro u r hu
    unfold tRow tOf at hu
    split at hu
    · split at hu
      · rename_i hr
        cases hu
        obtain ⟨x, hxk, hok⟩ := hat u _ hr
        unfold argOk at hok
        simp only at hok
        split at hok
        · rename_i t
          exact ⟨t, by unfold rho; rw [hok.1], hok.2⟩
        · exact hok.elim
      · cases hu
    · rename_i hge
      split at hu
      · rename_i l hr
        obtain ⟨x, hxk, hok⟩ := hat _ _ hr
        unfold argOk at hok
        simp only at hok
        split at hok
        · rename_i v j'
          obtain ⟨_, h2, h3, h4, h5⟩ := hok
          unfold rowIn at hu
          split at hu
          · rename_i row hrow
            cases hu
            refine ⟨1000 * (v + 1) + u % 1000, ?_, rowsOk_at h5 hrow⟩
            rw [rho_block N h2 (Nat.mod_lt _ (by omega))]
            congr 1; omega
          · cases hu
        · exact hok.elim
      · rename_i l hr
        obtain ⟨x, hxk, hok⟩ := hat _ _ hr
        exact hok.elim
      · cases hu
  have hV : ∀ j cs, tVar (tOf ins) j = some cs → ∃ v l, pv.lookup v = some j ∧ l.length ≤ 1000 ∧ cs = icC (1000 * (j + 1)) l ∧ s.vars v = some (icC (1000 * (v + 1)) l) ∧ ins[j]? = some (.rv l) := by
    intro j cs hj
    unfold tVar tOf at hj
    split at hj
    · rename_i l hr
      cases hj
      obtain ⟨x, hxk, hok⟩ := hat _ _ hr
      unfold argOk at hok
      simp only at hok
      split at hok
      · rename_i v j'
        exact ⟨v, l, hok.2.1, hok.2.2.1, rfl, hok.2.2.2.1, hr⟩
      · exact hok.elim
    · cases hj
  have hhv : ∀ t u, rho pv pr t = some u → (entG bo pv pr s g).hv u = g.hv t := fun t u hu => by simp only [entG]; rw [N.inv hu]
  have hga : ∀ v j, pv.lookup v = some j → (entG bo pv pr s g).ga j = g.ga v := fun v j hj => by simp only [entG]; rw [(lookup_swap N.v1 N.v2).2 hj]
  have hinj : ∀ t t' u, rho pv pr t = some u → rho pv pr t' = some u → t = t' := fun t t' u h1 h2 => by have e1 := N.inv h1; have e2 := N.inv h2; rw [e1] at e2; simpa using e2
  have hvinj : ∀ v v' j, pv.lookup v = some j → pv.lookup v' = some j → v = v' := fun v v' j h1 h2 => by
    have e1 := (lookup_swap N.v1 N.v2).2 h1
    have e2 := (lookup_swap N.v1 N.v2).2 h2
    rw [e1] at e2; simpa using e2
  refine ⟨rfl, rfl, rfl, rfl, Nat.le_refl _, fun _ _ _ => rfl, ?_, ?_, ?_, ?_, ?_, ?_, ?_, ?_, ?_, ?_⟩
  · intro b hb
    rcases hb with hb | ⟨_, ⟨t, r, _, ht, hb⟩ | ⟨v, c, _, hv, hb⟩⟩
    · exact h.lt b hb
    · exact h.rlt ht hb
    · rw [← hb]; exact h.vlt hv
  · intro u r hu
    obtain ⟨t, h1, h2⟩ := hR u r hu
    rw [hhv t u h1]
    obtain ⟨xs, k1, k2, k3⟩ := h.rows t r h2
    exact ⟨xs, k1, k2, fun i hi => ⟨(k3 i hi).1, fun j hj => ((k3 i hi).2 j hj).mono fun b hb => .inl hb⟩⟩
  · intro j cs hj
    obtain ⟨v, l, h1, h2, rfl, h4, h5⟩ := hV j cs hj
    rw [hga v j h1]
    obtain ⟨arr, T', k1, k2⟩ := h.vars v _ h4
    refine ⟨arr, T', k1, by rw [icC_len, k2.1, icC_len], fun k hk => ?_⟩
    rw [icC_len] at hk
    have hkk := k2.2 k (by rw [icC_len]; exact hk)
    rcases icC_at (b := 1000 * (j + 1)) hk with ⟨x, h6, h7⟩ | ⟨r, h6, h7⟩
    · rcases icC_at (b := 1000 * (v + 1)) hk with ⟨x', h8, h9⟩ | ⟨r', h8, h9⟩
      · rw [h6] at h8; cases h8
        rw [h7]; rw [h9] at hkk
        exact RC.mono hkk fun b hb => .inl hb
      · rw [h6] at h8; cases h8
    · rcases icC_at (b := 1000 * (v + 1)) hk with ⟨x', h8, h9⟩ | ⟨r', h8, h9⟩
      · rw [h6] at h8; cases h8
      · rw [h7]; rw [h9] at hkk
        intro hal
        have hrho := rho_block N h1 (k := k) (by omega)
        obtain ⟨rr, hrr⟩ := Option.isSome_iff_exists.1 hal
        obtain ⟨t, e1, e2⟩ := hR _ _ hrr
        have := hinj _ _ _ e1 hrho
        subst this
        rw [hhv _ _ hrho]
        exact hkk (by rw [e2]; rfl)
  · intro u r b hu hb
    obtain ⟨t, h1, h2⟩ := hR u r hu
    rw [hhv t u h1] at hb
    refine ⟨fun hf => ?_, .inl (.inr ⟨t, u, r, h1, h2, hb⟩)⟩
    rcases hf with hf | ⟨_, ⟨t', r', e1, e2, e3⟩ | ⟨v, c, e1, e2, e3⟩⟩
    · exact (h.rowF t r b h2 hb).1 hf
    · have hne : t ≠ t' := fun e => by subst e; rw [e1] at h1; cases h1
      exact h.rr t t' r r' b hne h2 e2 hb e3
    · exact h.rv t v r c h2 e2 (by rw [hb, e3])
  · intro j c hj
    obtain ⟨v, l, h1, h2, h3, h4, h5⟩ := hV j c hj
    rw [hga v j h1]
    refine ⟨fun hf => ?_, .inl (.inl ⟨v, j, _, h1, h4, rfl⟩)⟩
    rcases hf with hf | ⟨_, ⟨t', r', e1, e2, e3⟩ | ⟨v', c', e1, e2, e3⟩⟩
    · exact (h.varF v _ h4).1 hf
    · exact h.rv t' v r' _ e2 h4 e3
    · have hne : v' ≠ v := fun e => by subst e; rw [e1] at h1; cases h1
      exact h.vv v' v c' _ hne e2 h4 e3
  · intro u u' ru ru' b hne hu hu' hb
    obtain ⟨t, h1, h2⟩ := hR u ru hu
    obtain ⟨t', h1', h2'⟩ := hR u' ru' hu'
    rw [hhv t u h1] at hb
    rw [hhv t' u' h1']
    have hne' : t ≠ t' := fun e => by subst e; rw [h1] at h1'; cases h1'; exact hne rfl
    exact h.rr t t' ru ru' b hne' h2 h2' hb
  · intro j j' c c' hne hj hj'
    obtain ⟨v, l, h1, h2, h3, h4, h5⟩ := hV j c hj
    obtain ⟨v', l', h1', h2', h3', h4', h5'⟩ := hV j' c' hj'
    rw [hga v j h1, hga v' j' h1']
    have hne' : v ≠ v' := fun e => by subst e; rw [h1] at h1'; cases h1'; exact hne rfl
    exact h.vv v v' _ _ hne' h4 h4'
  · intro u j r c hu hj
    obtain ⟨t, h1, h2⟩ := hR u r hu
    obtain ⟨v, l, h1', h2', h3', h4', h5'⟩ := hV j c hj
    rw [hhv t u h1, hga v j h1']
    exact h.rv t v r _ h2 h4'
  · intro j
    show relAV (initSt s.gl ins) (entG bo pv pr s g) w (inAV j (tOf ins j)) (args.getD j undef)
    cases hi : ins[j]? with
    | none =>
      have : ins.length ≤ j := List.getElem?_eq_none_iff.1 hi
      simp only [tOf, hi, inAV]
      show args.getD j undef = undef
      rw [Array.getD_eq_getD_getElem?, Array.getElem?_eq_none (by omega)]; rfl
    | some i =>
      obtain ⟨x, hxj, hok⟩ := hat j i hi
      have hrel := hx j x hxj
      simp only [tOf, hi]
      generalize args.getD j undef = v at hrel
      cases i with
      | c y =>
        unfold argOk at hok
        simp only at hok
        split at hok
        · exact argC_sound h hrel hok
        · exact hok.elim
      | ag l =>
        unfold argOk at hok
        simp only at hok
        split at hok
        · obtain ⟨arr, rfl, h1⟩ := hrel
          exact ⟨arr, rfl, by simpa using ((argL_sound h h1.toL hok).toL (s := initSt s.gl ins) (g := entG bo pv pr s g)).toCs⟩
        · exact hok.elim
      | er l =>
        show readsAt (entG bo pv pr s g).F w l v
        unfold argOk at hok
        simp only at hok
        split at hok
        · subst hok
          exact readsAt.mono hrel fun b hb => .inl hb
        · rename_i t l'
          obtain ⟨rfl, h1, h2, rfl⟩ := hok
          obtain ⟨r, hr⟩ := Option.isSome_iff_exists.1 h2
          exact (hrel h2).mono fun b hb => hb.elim .inl (fun hb => .inr ⟨rfl, .inl ⟨t, r, h1, hr, hb⟩⟩)
        · rename_i vv j'
          obtain ⟨rfl, h1, rfl, h2⟩ := hok
          cases hv : s.vars vv with
          | none => simp [hv] at h2
          | some cs =>
            simp only [hv] at h2
            rw [hrel (by rw [hv]; rfl)]
            obtain ⟨arr, T', k1, k2⟩ := h.vars vv cs hv
            exact readsAt.of (.inr ⟨rfl, .inr ⟨vv, cs, h1, hv, rfl⟩⟩) (by simpa using Lie.row (o := 0) k1) (argL_sound h k2.toL h2)
        · rename_i u sz k j'
          obtain ⟨rfl, h1, rfl, h2⟩ := hok
          cases hr : s.rows u with
          | none => simp [hr] at h2
          | some r =>
            simp only [hr] at h2
            obtain ⟨rfl, hk, rfl⟩ := h2
            obtain ⟨b, hb, hv⟩ := hrel (by rw [hr]; rfl)
            rw [hv]
            obtain ⟨xs', k1, k2, k3⟩ := h.rows u r hr
            have hmul : (k + 1) * r.sz ≤ r.els.length * r.sz := Nat.mul_le_mul_right _ hk
            rw [Nat.add_mul, Nat.one_mul] at hmul
            have hx1 := k1.1
            refine ⟨b, k * r.sz, rfl, .inr ⟨rfl, .inl ⟨u, r, h1, hr, hb⟩⟩, fun j' hj' => ?_⟩
            rw [(k3 k hk).1] at hj'
            refine ⟨xs'.getD (k * r.sz + j') undef, ?_, ((k3 k hk).2 j' hj').mono fun b hb => .inl hb⟩
            have := k1.cells hb (k * r.sz + j') (xs'.getD (k * r.sz + j') undef) (by rw [List.getD_eq_getElem?_getD, List.getElem?_eq_getElem (by omega)]; rfl)
            rwa [add_at, Nat.zero_add] at this
        · exact hok.elim
      | rv l =>
        unfold argOk at hok
        simp only at hok
        split at hok
        · rename_i vv j'
          obtain ⟨rfl, h1, h2, h3, h4⟩ := hok
          intro _
          rw [hrel (by rw [h3]; rfl), hga vv j h1]
        · exact hok.elim
      | rr r =>
        unfold argOk at hok
        simp only at hok
        split at hok
        · rename_i t
          intro _
          rw [hrel (by rw [hok.2]; rfl), hhv t j (by unfold rho; rw [hok.1])]
        · exact hok.elim
      | ra l => exact hok.elim
  · intro k cs hk
    exact (h.glob k cs hk).mono fun b hb => .inl hb
end
end GV

set_option linter.unusedSimpArgs false
set_option linter.unusedVariables false
namespace GV
open Go

def flatIC : List IC → Prop
  | [] => True
  | .d x :: l => D.flat x = true ∧ flatIC l
  | .r row :: l => flatE row.els ∧ flatIC l
def flatI : In → Prop
  | .c x => D.flat x = true
  | .ag l => ∀ x ∈ l, D.flat x = true
  | .er _ => True
  | .rv l => flatIC l
  | .ra l => flatIC l
  | .rr r => flatE r.els
theorem flatIC_d : ∀ {l : List IC} {k : Nat} {x : D}, flatIC l → l[k]? = some (.d x) → D.flat x = true
  | .d y :: l, 0, x, h, hk => by simp at hk; subst hk; exact h.1
  | .r y :: l, 0, x, h, hk => by simp at hk
  | .d y :: l, k + 1, x, h, hk => flatIC_d (k := k) h.2 (by simpa using hk)
  | .r y :: l, k + 1, x, h, hk => flatIC_d (k := k) h.2 (by simpa using hk)
theorem flatIC_r : ∀ {l : List IC} {k : Nat} {x : Row}, flatIC l → l[k]? = some (.r x) → flatE x.els
  | .d y :: l, 0, x, h, hk => by simp at hk
  | .r y :: l, 0, x, h, hk => by simp at hk; subst hk; exact h.1
  | .d y :: l, k + 1, x, h, hk => flatIC_r (k := k) h.2 (by simpa using hk)
  | .r y :: l, k + 1, x, h, hk => flatIC_r (k := k) h.2 (by simpa using hk)
def shortI : In → Prop
  | .rv l => l.length ≤ 1000
  | .ra l => l.length ≤ 1000
  | _ => True
def drp (pv pr : List (Nat × Nat)) : C → C
  | .bw u x => if (rho pv pr u).isSome then .no else .bw u x
  | .own u => if (rho pv pr u).isSome then .no else .own u
  | .eo u sz i j => if (rho pv pr u).isSome then .no else .eo u sz i j
  | .eb u cs => if (rho pv pr u).isSome then .no else .eb u cs
  | c => c
def leaveSt (s : St) (pv pr : List (Nat × Nat)) (o : Out) : St where
  env := fun j => (s.env j).map (drp pv pr)
  rows := fun t => match rho pv pr t with
    | some u => tRow (tOut o) u
    | none => s.rows t
  vars := fun v => match pv.lookup v with
    | some j => match o.refs[j]? with
      | some (.rv l) => some (icC (1000 * (v + 1)) l)
      | _ => none
    | none => (s.vars v).map (List.map (drp pv pr))
  gl := s.gl
def icP : Nat → Nat → List IC → List (Nat × Nat)
  | _, _, [] => []
  | b, b', .d _ :: l => icP (b + 1) (b' + 1) l
  | b, b', .r _ :: l => (b, b') :: icP (b + 1) (b' + 1) l
def resP1 (d : Nat) : In → List (Nat × Nat)
  | .rr _ => [(d, 500)]
  | .ra l => icP (1000 * (d + 1)) (1000 * 501) l
  | _ => []
def resAV1 (d : Nat) : In → AV
  | .c x => .c (.d x)
  | .ag l => .ag (l.map .d)
  | .rr _ => .c (.own d)
  | .ra l => .ag (icC (1000 * (d + 1)) l)
  | _ => .c .no
def resPs (d : Nat) : Nat → List In → List (Nat × Nat)
  | _, [] => []
  | i, .rr _ :: l => (1000 * (d + 1) + 900 + i, 500 + i) :: resPs d (i + 1) l
  | i, .ra c :: l => icP (1000 * (d + 1) + 50 * i) (1000 * (501 + i)) c ++ resPs d (i + 1) l
  | i, _ :: l => resPs d (i + 1) l
def resTu (d : Nat) : Nat → List In → List (Bool × List C)
  | _, [] => []
  | i, .c x :: l => (false, [.d x]) :: resTu d (i + 1) l
  | i, .ag x :: l => (true, x.map .d) :: resTu d (i + 1) l
  | i, .rr _ :: l => (false, [.own (1000 * (d + 1) + 900 + i)]) :: resTu d (i + 1) l
  | i, .ra c :: l => (true, icC (1000 * (d + 1) + 50 * i) c) :: resTu d (i + 1) l
  | i, _ :: l => (false, [.no]) :: resTu d (i + 1) l
def resP (d : Nat) : List In → List (Nat × Nat)
  | [i] => resP1 d i
  | l => resPs d 0 l
def resAV (d : Nat) : List In → AV
  | [i] => resAV1 d i
  | l => .tu (resTu d 0 l)
def allD : List IC → Option (List D)
  | [] => some []
  | .d x :: l => (allD l).map (x :: ·)
  | .r _ :: _ => none
def kback (m d : Nat) (s : St) (o : Out) (pv pr : List (Nat × Nat)) (K : AV → St → Prop) : Prop :=
  match o.res with
  | [.rv l] => match allD l with
    | some ds => m ≤ d ∧ K (.c (.ptr d 0)) ((leaveSt s pv pr o).addV d (ds.map .d))
    | none => False
  | r => K (resAV d r) (leaveSt s pv pr o)
/-- What a result o brings into the caller. -/
def vback (m : Nat) (q : Bool) (d : Nat) (xs : List AV) (s : St) (ins : List In) (o : Out) (bo : Bool) (K : AV → St → Prop) : Prop :=
  NamesOk (paV 0 xs ins) (paR 0 xs ins ++ resP d o.res) ∧ (bo = true → (∀ i ∈ o.res, flatI i) ∧ ∀ i ∈ o.refs, flatI i) ∧ (∀ i ∈ o.refs, shortI i) ∧ (∀ i ∈ o.res, shortI i) ∧ o.res.length ≤ 18 ∧ kback m d s o (paV 0 xs ins) (paR 0 xs ins ++ resP d o.res) K
def vcall (m : Nat) (P : Program) (f : FuncId) (q : Bool) (d : Nat) (xs : List AV) (s : St) (K : AV → St → Prop) : Prop := ∃ ins bo gl Post, CallP P gl f ins Post ∧ (∀ k, gl k = s.gl k ∨ gl k = none) ∧ ins.length ≤ 500 ∧ NamesOk (paV 0 xs ins) (paR 0 xs ins) ∧
  argsOk s bo (paV 0 xs ins) (paR 0 xs ins) 0 xs ins ∧ (q = true → paV 0 xs ins = [] ∧ paR 0 xs ins = []) ∧ ∀ o, Post o → vback m q d xs s ins o bo K

section
variable {P : Program} {T : Tab} {m n : Nat} {w0 : World} {own0 : Nat → Prop} {g0 : Gh} {s s' : St} {g : Gh} {a a' : Act} {w : World} {bo : Bool} {pv pr : List (Nat × Nat)}

theorem rho_append (pv p1 p2 : List (Nat × Nat)) {t u : Nat} (N : NamesOk pv (p1 ++ p2)) (h : rho pv p1 t = some u) : rho pv (p1 ++ p2) t = some u := by
  unfold rho at h ⊢
  cases hl : p1.lookup t with
  | some u' => rw [hl] at h; rw [lookup_of_mem N.r1 (List.mem_append_left _ (lookup_mem hl))]; exact h
  | none =>
    rw [hl] at h
    simp only at h
    have ht : ¬ t < 1000 := fun e => by simp [e] at h
    simp only [if_neg ht] at h
    cases hv : pv.lookup (t / 1000 - 1) with
    | none => simp [hv] at h
    | some j =>
      have hnone : (p1 ++ p2).lookup t = none := by
        cases hx : (p1 ++ p2).lookup t with
        | none => rfl
        | some x =>
          have := (N.x _ (lookup_mem hx) _ (lookup_mem hv)).1
          simp only at this
          omega
      rw [hnone]
      simp only [if_neg ht, hv]
      simpa [hv] using h

theorem icP_at : ∀ {l : List IC} {b b' k : Nat} {row : Row}, l[k]? = some (.r row) → (b + k, b' + k) ∈ icP b b' l
  | .d _ :: l, b, b', 0, row, h => by simp at h
  | .r r :: l, b, b', 0, row, h => by simp [icP]
  | .d _ :: l, b, b', k + 1, row, h => by
    have := icP_at (l := l) (b := b + 1) (b' := b' + 1) (k := k) (by simpa using h)
    rw [show b + 1 + k = b + (k + 1) by omega, show b' + 1 + k = b' + (k + 1) by omega] at this
    exact this
  | .r _ :: l, b, b', k + 1, row, h => by
    have := icP_at (l := l) (b := b + 1) (b' := b' + 1) (k := k) (by simpa using h)
    rw [show b + 1 + k = b + (k + 1) by omega, show b' + 1 + k = b' + (k + 1) by omega] at this
    exact List.mem_cons_of_mem _ this
theorem rho_mem {pv pr : List (Nat × Nat)} (N : NamesOk pv pr) {t u : Nat} (h : (t, u) ∈ pr) : rho pv pr t = some u := by
  unfold rho; rw [lookup_of_mem N.r1 h]

/-- What the caller has behind the call. -/
structure Left (bo : Bool) (w0 : World) (own0 : Nat → Prop) (s : St) (g : Gh) (a : Act) (w w' : World) (pv pr : List (Nat × Nat)) (o : Out) (gf : Gh) (g3 : Gh) : Prop where
  rel : Rel w0 own0 (leaveSt s pv pr o) g3 a w'
  F : g3.F = if bo = true then g.F else gf.F
  ga : g3.ga = g.ga
  hv : ∀ t u, rho pv pr t = some u → g3.hv t = gf.hv u
  F3 : ∀ b, g3.F b → gf.F b
  sep : ∀ l, o.res = [.rv l] → ¬ g3.F (gf.ga 500) ∧ (own0 (gf.ga 500) ∨ w0.heap.size ≤ gf.ga 500) ∧ (∀ t r, (leaveSt s pv pr o).rows t = some r → (g3.hv t).ownBlock ≠ some (gf.ga 500)) ∧ ∀ v c, (leaveSt s pv pr o).vars v = some c → g3.ga v ≠ gf.ga 500

theorem leave_rel {pr0 prr : List (Nat × Nat)} {gl : Nat → Option (List D)} {o : Out} {gf : Gh} {w' : World} {vals : Array Value} (h : Rel w0 own0 s g a w) (N : NamesOk pv (pr0 ++ prr)) (hpv : ∀ v j, pv.lookup v = some j → j < 500 ∧ (s.vars v).isSome = true)
    (hf : Rel w (ownOf pv pr0 s g) (finSt gl o) gf ⟨vals, []⟩ w') (hga : ∀ v j, pv.lookup v = some j → gf.ga j = g.ga v)
    (hF : ∀ b, (entG bo pv pr0 s g).F b → gf.F b) (hF' : ∀ b, gf.F b → (entG bo pv pr0 s g).F b ∨ ownOf pv pr0 s g b ∨ w.heap.size ≤ b)
    (hflat : bo = true → ∀ i ∈ o.res ++ o.refs, flatI i) (hshort : ∀ i ∈ o.refs, shortI i) : ∃ g3, Left bo w0 own0 s g a w w' pv (pr0 ++ prr) o gf g3 := by
  have own_ok : ∀ b, ownOf pv pr0 s g b → ¬ g.F b ∧ (own0 b ∨ w0.heap.size ≤ b) ∧ b < w.heap.size := by
    intro b hb
    rcases hb with ⟨v, j, c, h1, h2, rfl⟩ | ⟨t, u, r, h1, h2, h3⟩
    · exact ⟨(h.varF v c h2).1, (h.varF v c h2).2, h.vlt h2⟩
    · exact ⟨(h.rowF t r b h2 h3).1, (h.rowF t r b h2 h3).2, h.rlt h2 h3⟩
  have row_own : ∀ t r b, rho pv (pr0 ++ prr) t = none → s.rows t = some r → (g.hv t).ownBlock = some b → ¬ ownOf pv pr0 s g b := by
    intro t r b h1 h2 h3 hb
    rcases hb with ⟨v, j, c, e1, e2, e3⟩ | ⟨t', u, r', e1, e2, e3⟩
    · exact h.rv t v r c h2 e2 (by rw [h3, e3])
    · have := rho_append pv pr0 prr N e1
      have hne : t ≠ t' := fun e => by subst e; rw [h1] at this; cases this
      exact h.rr t t' r r' b hne h2 e2 h3 e3
  have var_own : ∀ v c, pv.lookup v = none → s.vars v = some c → ¬ ownOf pv pr0 s g (g.ga v) := by
    intro v c h1 h2 hb
    rcases hb with ⟨v', j, c', e1, e2, e3⟩ | ⟨t', u, r', e1, e2, e3⟩
    · have hne : v' ≠ v := fun e => by subst e; rw [h1] at e1; cases e1
      exact h.vv v' v c' c hne e2 h2 e3
    · exact h.rv t' v r' c e2 h2 e3
  have gF_heap : ∀ b, g.F b → w'.heap[b]? = w.heap[b]? := fun b hb => hf.frame b (h.lt b hb) (fun ho => (own_ok b ho).1 hb)
  have gF_gf : ∀ b, g.F b → gf.F b := fun b hb => hF b (.inl hb)
  let F3 : Nat → Prop := if bo = true then g.F else gf.F
  have F3_g : ∀ b, g.F b → F3 b := by
    intro b hb
    show (if bo = true then g.F else gf.F) b
    split
    · exact hb
    · exact gF_gf b hb
  have F3_gf : ∀ b, F3 b → gf.F b := by
    intro b hb
    have hb' : (if bo = true then g.F else gf.F) b := hb
    split at hb'
    · exact gF_gf b hb'
    · exact hb'
  have F3_row : ∀ t r b, rho pv (pr0 ++ prr) t = none → s.rows t = some r → (g.hv t).ownBlock = some b → ¬ F3 b := by
    intro t r b h1 h2 h3 hb
    have hb' : (if bo = true then g.F else gf.F) b := hb
    split at hb'
    · exact (h.rowF t r b h2 h3).1 hb'
    · rename_i hbo
      rcases hF' b hb' with (e | ⟨e, _⟩) | e | e
      · exact (h.rowF t r b h2 h3).1 e
      · exact hbo e
      · exact row_own t r b h1 h2 h3 e
      · have := h.rlt h2 h3; omega
  have F3_var : ∀ v c, pv.lookup v = none → s.vars v = some c → ¬ F3 (g.ga v) := by
    intro v c h1 h2 hb
    have hb' : (if bo = true then g.F else gf.F) (g.ga v) := hb
    split at hb'
    · exact (h.varF v c h2).1 hb'
    · rename_i hbo
      rcases hF' _ hb' with (e | ⟨e, _⟩) | e | e
      · exact (h.varF v c h2).1 e
      · exact hbo e
      · exact var_own v c h1 h2 e
      · have := h.vlt h2; omega
  have mem_out : ∀ (k : Nat) (i : In), tOut o k = some i → i ∈ o.res ++ o.refs := by
    intro k i hk
    unfold tOut at hk
    split at hk
    · exact List.mem_append_right _ (List.mem_of_getElem? hk)
    · exact List.mem_append_left _ (List.mem_of_getElem? hk)
  have row_flat : ∀ u r, bo = true → tRow (tOut o) u = some r → flatE r.els := by
    intro u r hb hu
    unfold tRow at hu
    split at hu
    · split at hu
      · rename_i hr
        cases hu
        exact hflat hb _ (mem_out _ _ hr)
      · cases hu
    · split at hu
      · rename_i l hr
        have : flatIC l := hflat hb _ (mem_out _ _ hr)
        unfold rowIn at hu
        split at hu
        · rename_i hk; cases hu; exact flatIC_r this hk
        · cases hu
      · rename_i l hr
        have : flatIC l := hflat hb _ (mem_out _ _ hr)
        unfold rowIn at hu
        split at hu
        · rename_i hk; cases hu; exact flatIC_r this hk
        · cases hu
      · cases hu
  have toF3 : ∀ (x : D) (v : Value), (bo = true → D.flat x = true) → RC gf.F w' x v → RC F3 w' x v := by
    intro x v hx hr
    by_cases hb : bo = true
    · exact flat_RC hr (hx hb)
    · have : F3 = gf.F := by show (if bo = true then g.F else gf.F) = gf.F; rw [if_neg hb]
      rw [this]; exact hr
  have hinj : ∀ t t' u, rho pv (pr0 ++ prr) t = some u → rho pv (pr0 ++ prr) t' = some u → t = t' := fun t t' u h1 h2 => by have e1 := N.inv h1; have e2 := N.inv h2; rw [e1] at e2; simpa using e2
  let g3 : Gh := ⟨F3, fun t => match rho pv (pr0 ++ prr) t with | some u => gf.hv u | none => g.hv t, g.ga⟩
  have hv1 : ∀ t u, rho pv (pr0 ++ prr) t = some u → g3.hv t = gf.hv u := fun t u hu => by simp only [g3, hu]
  have hv2 : ∀ t, rho pv (pr0 ++ prr) t = none → g3.hv t = g.hv t := fun t hu => by simp only [g3, hu]
  have rows1 : ∀ t u, rho pv (pr0 ++ prr) t = some u → (leaveSt s pv (pr0 ++ prr) o).rows t = tRow (tOut o) u := fun t u hu => by simp only [leaveSt, hu]
  have rows2 : ∀ t, rho pv (pr0 ++ prr) t = none → (leaveSt s pv (pr0 ++ prr) o).rows t = s.rows t := fun t hu => by simp only [leaveSt, hu]
  have rowsC : ∀ t r, (leaveSt s pv (pr0 ++ prr) o).rows t = some r → (∃ u, rho pv (pr0 ++ prr) t = some u ∧ tRow (tOut o) u = some r) ∨ (rho pv (pr0 ++ prr) t = none ∧ s.rows t = some r) := by
    intro t r ht
    cases hr : rho pv (pr0 ++ prr) t with
    | some u => rw [rows1 t u hr] at ht; exact .inl ⟨u, rfl, ht⟩
    | none => rw [rows2 t hr] at ht; exact .inr ⟨rfl, ht⟩
  have varsC : ∀ v c, (leaveSt s pv (pr0 ++ prr) o).vars v = some c → (∃ j l, pv.lookup v = some j ∧ o.refs[j]? = some (.rv l) ∧ c = icC (1000 * (v + 1)) l) ∨ (pv.lookup v = none ∧ ∃ c', s.vars v = some c' ∧ c = c'.map (drp pv (pr0 ++ prr))) := by
    intro v c hv
    cases hp : pv.lookup v with
    | some j =>
      simp only [leaveSt, hp] at hv
      split at hv
      · rename_i l hl; cases hv; exact .inl ⟨j, l, rfl, hl, rfl⟩
      · cases hv
    | none =>
      simp only [leaveSt, hp, Option.map_eq_some_iff] at hv
      obtain ⟨c', h1, h2⟩ := hv
      exact .inr ⟨rfl, c', h1, h2.symm⟩
  have tvar : ∀ v j l, pv.lookup v = some j → o.refs[j]? = some (.rv l) → (finSt gl o).vars j = some (icC (1000 * (j + 1)) l) := by
    intro v j l h1 h2
    have hj := (hpv v j h1).1
    simp only [finSt, tVar, tOut, if_pos hj, h2]
  have hsize := hf.size
  have view_ok : ∀ t, rho pv (pr0 ++ prr) t = none → (s.rows t).isSome = true → (∀ b, viewF g t b → viewF g3 t b) ∧ ∀ b, viewF g t b → w'.heap[b]? = w.heap[b]? := by
    intro t h1 h2
    obtain ⟨r, hr⟩ := Option.isSome_iff_exists.1 h2
    refine ⟨fun b hb => hb.elim (fun hb => .inl (F3_g b hb)) (fun hb => .inr (by rw [hv2 t h1]; exact hb)), fun b hb => ?_⟩
    rcases hb with hb | hb
    · exact gF_heap b hb
    · exact hf.frame b (h.rlt hr hb) (row_own t r b h1 hr hb)
  have mapc : ∀ c v, relC s g w c v → relC (leaveSt s pv (pr0 ++ prr) o) g3 w' (drp pv (pr0 ++ prr) c) v := by
    intro c v hc
    cases c with
    | no => trivial
    | und => exact hc
    | nil e sz => exact hc
    | d x => exact (RC.heap hc gF_heap).mono F3_g
    | er cs => exact (readsAt.heap hc gF_heap).mono F3_g
    | ptr t j =>
      intro ht
      refine hc ?_
      obtain ⟨c, hc'⟩ := Option.isSome_iff_exists.1 ht
      rcases varsC t c hc' with ⟨j', l, e1, _⟩ | ⟨_, c', e2, _⟩
      · exact (hpv t j' e1).2
      · rw [e2]; rfl
    | bw t x =>
      cases hr : rho pv (pr0 ++ prr) t with
      | some u => simp [drp, hr, relC]
      | none =>
        simp only [drp, hr, Option.isSome_none, Bool.false_eq_true, if_false]
        intro ht
        rw [rows2 t hr] at ht
        exact ((hc ht).heap (view_ok t hr ht).2).mono (view_ok t hr ht).1
    | own t =>
      cases hr : rho pv (pr0 ++ prr) t with
      | some u => simp [drp, hr, relC]
      | none =>
        simp only [drp, hr, Option.isSome_none, Bool.false_eq_true, if_false]
        intro ht
        rw [rows2 t hr] at ht
        rw [hv2 t hr]; exact hc ht
    | eo t sz i j =>
      cases hr : rho pv (pr0 ++ prr) t with
      | some u => simp [drp, hr, relC]
      | none =>
        simp only [drp, hr, Option.isSome_none, Bool.false_eq_true, if_false]
        intro ht
        rw [rows2 t hr] at ht
        rw [hv2 t hr]; exact hc ht
    | eb t cs =>
      cases hr : rho pv (pr0 ++ prr) t with
      | some u => simp [drp, hr, relC]
      | none =>
        simp only [drp, hr, Option.isSome_none, Bool.false_eq_true, if_false]
        intro ht
        rw [rows2 t hr] at ht
        exact ((hc ht).heap (view_ok t hr ht).2).mono (view_ok t hr ht).1
  refine ⟨g3, ⟨⟨h.defers, hf.os.trans h.os, hf.tape.trans h.tape, hf.output.trans h.output, Nat.le_trans h.size hf.size, fun b hb hn => ?_, fun b hb => hf.lt b (F3_gf b hb), fun t r ht => ?_, fun v c hv => ?_, fun t r b ht hb => ?_, fun v c hv => ?_,
    fun t t' r r' b hne ht ht' hb => ?_, fun v v' c c' hne hv hv' => ?_, fun t v r c ht hv => ?_, fun j => (h.env j).map mapc, fun k cs hk => ((h.glob k cs hk).heap gF_heap).mono F3_g⟩, rfl, rfl, hv1, F3_gf, fun l hl => ?_⟩⟩
  · refine (hf.frame b (Nat.lt_of_lt_of_le hb h.size) (fun ho => ?_)).trans (h.frame b hb hn)
    rcases (own_ok b ho).2.1 with e | e
    · exact hn e
    · omega
  · rcases rowsC t r ht with ⟨u, e1, e2⟩ | ⟨e1, e2⟩
    · rw [hv1 t u e1]
      obtain ⟨xs, k1, k2, k3⟩ := hf.rows u r e2
      refine ⟨xs, k1, k2, fun i hi => ⟨(k3 i hi).1, fun j hj => toF3 _ _ (fun hb => ?_) ((k3 i hi).2 j hj)⟩⟩
      have hfl := row_flat u r hb e2
      have hj' : j < (r.els.getD i []).length := by rw [(k3 i hi).1]; exact hj
      have hm : r.els.getD i [] ∈ r.els := by rw [List.getD_eq_getElem?_getD, List.getElem?_eq_getElem hi]; exact List.getElem_mem _
      refine hfl _ hm _ ?_
      generalize r.els.getD i [] = l at hj' ⊢
      rw [List.getD_eq_getElem?_getD, List.getElem?_eq_getElem hj']; exact List.getElem_mem _
    · rw [hv2 t e1]
      exact (h.rows t r e2).move F3_g gF_heap (fun b hb => hf.frame b (h.rlt e2 hb) (row_own t r b e1 e2 hb))
  · rcases varsC v c hv with ⟨j, l, e1, e2, rfl⟩ | ⟨e1, c', e2, rfl⟩
    · obtain ⟨arr, T', k1, k2⟩ := hf.vars j _ (tvar v j l e1 e2)
      rw [hga v j e1] at k1
      refine ⟨arr, T', k1, by rw [icC_len, k2.1, icC_len], fun k hk => ?_⟩
      rw [icC_len] at hk
      have hkk := k2.2 k (by rw [icC_len]; exact hk)
      have hfl : bo = true → flatI (.rv l) := fun hb => hflat hb _ (List.mem_append_right _ (List.mem_of_getElem? e2))
      rcases icC_at (b := 1000 * (v + 1)) hk with ⟨x, h6, h7⟩ | ⟨r, h6, h7⟩
      · rcases icC_at (b := 1000 * (j + 1)) hk with ⟨x', h8, h9⟩ | ⟨r', h8, h9⟩
        · rw [h6] at h8; cases h8
          rw [h7]; rw [h9] at hkk
          exact toF3 _ _ (fun hb => flatIC_d (show flatIC l from hfl hb) h6) hkk
        · rw [h6] at h8; cases h8
      · rcases icC_at (b := 1000 * (j + 1)) hk with ⟨x', h8, h9⟩ | ⟨r', h8, h9⟩
        · rw [h6] at h8; cases h8
        · rw [h7]; rw [h9] at hkk
          intro hal
          obtain ⟨rr, hrr⟩ := Option.isSome_iff_exists.1 hal
          have hk1 : k < 1000 := by have : l.length ≤ 1000 := hshort _ (List.mem_of_getElem? e2); omega
          have hrho := rho_block N e1 hk1
          rw [rows1 _ _ hrho] at hrr
          rw [hv1 _ _ hrho]
          exact hkk (by show (tRow (tOut o) _).isSome = true; rw [hrr]; rfl)
    · exact (h.vars v c' e2 |>.map mapc (hf.frame _ (h.vlt e2) (var_own v c' e1 e2)))
  · rcases rowsC t r ht with ⟨u, e1, e2⟩ | ⟨e1, e2⟩
    · rw [hv1 t u e1] at hb
      refine ⟨fun hF3 => (hf.rowF u r b e2 hb).1 (F3_gf b hF3), ?_⟩
      rcases (hf.rowF u r b e2 hb).2 with e | e
      · exact (own_ok b e).2.1
      · exact .inr (Nat.le_trans h.size e)
    · rw [hv2 t e1] at hb
      exact ⟨F3_row t r b e1 e2 hb, (h.rowF t r b e2 hb).2⟩
  · rcases varsC v c hv with ⟨j, l, e1, e2, rfl⟩ | ⟨e1, c', e2, rfl⟩
    · have := hf.varF j _ (tvar v j l e1 e2)
      rw [hga v j e1] at this
      refine ⟨fun hF3 => this.1 (F3_gf _ hF3), ?_⟩
      rcases this.2 with e | e
      · exact (own_ok _ e).2.1
      · exact .inr (Nat.le_trans h.size e)
    · exact ⟨F3_var v c' e1 e2, (h.varF v c' e2).2⟩
  · rcases rowsC t r ht with ⟨u, e1, e2⟩ | ⟨e1, e2⟩ <;> rcases rowsC t' r' ht' with ⟨u', e1', e2'⟩ | ⟨e1', e2'⟩
    · rw [hv1 t u e1] at hb
      rw [hv1 t' u' e1']
      have hne' : u ≠ u' := fun e => by subst e; exact hne (hinj _ _ _ e1 e1')
      exact hf.rr u u' r r' b hne' e2 e2' hb
    · rw [hv1 t u e1] at hb
      rw [hv2 t' e1']
      intro hb'
      rcases (hf.rowF u r b e2 hb).2 with e | e
      · exact row_own t' r' b e1' e2' hb' e
      · have := h.rlt e2' hb'; omega
    · rw [hv2 t e1] at hb
      rw [hv1 t' u' e1']
      intro hb'
      rcases (hf.rowF u' r' b e2' hb').2 with e | e
      · exact row_own t r b e1 e2 hb e
      · have := h.rlt e2 hb; omega
    · rw [hv2 t e1] at hb
      rw [hv2 t' e1']
      exact h.rr t t' r r' b hne e2 e2' hb
  · rcases varsC v c hv with ⟨j, l, e1, e2, rfl⟩ | ⟨e1, c1, e2, rfl⟩ <;> rcases varsC v' c' hv' with ⟨j', l', e1', e2', rfl⟩ | ⟨e1', c1', e2', rfl⟩
    · obtain ⟨_, k1⟩ := Option.isSome_iff_exists.1 (hpv v j e1).2
      obtain ⟨_, k2⟩ := Option.isSome_iff_exists.1 (hpv v' j' e1').2
      exact h.vv v v' _ _ hne k1 k2
    · obtain ⟨_, k1⟩ := Option.isSome_iff_exists.1 (hpv v j e1).2
      exact h.vv v v' _ _ hne k1 e2'
    · obtain ⟨_, k2⟩ := Option.isSome_iff_exists.1 (hpv v' j' e1').2
      exact h.vv v v' _ _ hne e2 k2
    · exact h.vv v v' _ _ hne e2 e2'
  · show (g3.hv t).ownBlock ≠ some (g.ga v)
    rcases rowsC t r ht with ⟨u, e1, e2⟩ | ⟨e1, e2⟩ <;> rcases varsC v c hv with ⟨j, l, e3, e4, rfl⟩ | ⟨e3, c1, e4, rfl⟩
    · rw [hv1 t u e1, ← hga v j e3]
      exact hf.rv u j r _ e2 (tvar v j l e3 e4)
    · rw [hv1 t u e1]
      intro hb
      rcases (hf.rowF u r _ e2 hb).2 with e | e
      · exact var_own v c1 e3 e4 e
      · have := h.vlt e4; omega
    · rw [hv2 t e1]
      obtain ⟨_, k1⟩ := Option.isSome_iff_exists.1 (hpv v j e3).2
      exact h.rv t v r _ e2 k1
    · rw [hv2 t e1]
      exact h.rv t v r c1 e2 e4
  · have hc : (finSt gl o).vars 500 = some (icC (1000 * (500 + 1)) l) := by simp [finSt, tVar, tOut, hl]
    have h0 := hf.varF 500 _ hc
    refine ⟨fun hF3 => h0.1 (F3_gf _ hF3), ?_, fun t r ht => ?_, fun v c hv => ?_⟩
    · rcases h0.2 with e | e
      · exact (own_ok _ e).2.1
      · exact .inr (Nat.le_trans h.size e)
    · rcases rowsC t r ht with ⟨u, e1, e2⟩ | ⟨e1, e2⟩
      · rw [hv1 t u e1]; exact hf.rv u 500 r _ e2 hc
      · rw [hv2 t e1]
        intro hb
        rcases h0.2 with e | e
        · exact row_own t r _ e1 e2 hb e
        · have := h.rlt e2 hb; omega
    · show g.ga v ≠ gf.ga 500
      rcases varsC v c hv with ⟨j, l', e1, e2, rfl⟩ | ⟨e1, c1, e2, rfl⟩
      · rw [← hga v j e1]
        exact hf.vv j 500 _ _ (by have := (hpv v j e1).1; omega) (tvar v j l' e1 e2) hc
      · intro hb
        rcases h0.2 with e | e
        · exact var_own v c1 e1 e2 (by rw [hb]; exact e)
        · have := h.vlt e2; omega
end
end GV

set_option linter.unusedSimpArgs false
set_option linter.unusedVariables false
namespace GV
open Go
section
variable {P : Program} {T : Tab} {m n : Nat} {w0 : World} {own0 : Nat → Prop} {g0 : Gh} {s s' : St} {g : Gh} {a a' : Act} {w : World} {bo : Bool} {pv pr : List (Nat × Nat)}

theorem NamesOk.left {p1 p2 : List (Nat × Nat)} (N : NamesOk pv (p1 ++ p2)) : NamesOk pv p1 := by
  have h1 := N.r1
  have h2 := N.r2
  rw [List.map_append] at h1 h2
  exact ⟨N.v1, N.v2, (List.nodup_append.1 h1).1, (List.nodup_append.1 h2).1, fun p hp => N.x p (List.mem_append_left _ hp)⟩
theorem paV_mem : ∀ {xs : List AV} {is : List In} {j v k : Nat}, (v, k) ∈ paV j xs is → ∃ i l j', k = j + i ∧ xs[i]? = some (.c (.ptr v j')) ∧ is[i]? = some (.rv l)
  | [], is, j, v, k, h => by cases is <;> simp [paV] at h
  | x :: xs, [], j, v, k, h => by simp [paV] at h
  | x :: xs, i :: is, j, v, k, h => by
    unfold paV at h
    split at h
    · rename_i v' j' xs' l is' e1 e2
      cases e1; cases e2
      rcases List.mem_cons.1 h with h | h
      · cases h; exact ⟨0, l, j', rfl, rfl, rfl⟩
      · obtain ⟨i', l', j2, h1, h2, h3⟩ := paV_mem h
        exact ⟨i' + 1, l', j2, by omega, by simpa using h2, by simpa using h3⟩
    · rename_i e1 e2
      cases e1; cases e2
      obtain ⟨i', l', j2, h1, h2, h3⟩ := paV_mem h
      exact ⟨i' + 1, l', j2, by omega, by simpa using h2, by simpa using h3⟩
    · rename_i h1 h2; cases h

theorem icC_move {s3 sf : St} {g3 gf : Gh} (hF : ∀ (x : D) (v : Value), RC gf.F w x v → (bo = true → D.flat x = true) → RC g3.F w x v) : ∀ {l : List IC} {b b' : Nat} {vs : List Value}, (bo = true → flatIC l) →
    (∀ k row, l[k]? = some (.r row) → (s3.rows (b + k)).isSome = true → (sf.rows (b' + k)).isSome = true ∧ g3.hv (b + k) = gf.hv (b' + k)) → relL sf gf w (icC b' l) vs → relL s3 g3 w (icC b l) vs
  | [], b, b', [], _, _, _ => trivial
  | .d x :: l, b, b', v :: vs, hfl, hr, h => ⟨hF x v h.1 (fun hb => (hfl hb).1), icC_move hF (fun hb => (hfl hb).2) (fun k row hk hs => by
      rw [show b + 1 + k = b + (k + 1) by omega] at hs ⊢
      rw [show b' + 1 + k = b' + (k + 1) by omega]
      exact hr (k + 1) row (by simpa using hk) hs) h.2⟩
  | .r x :: l, b, b', v :: vs, hfl, hr, h => ⟨fun hs => by
      have := hr 0 x rfl hs
      exact (h.1 this.1).trans this.2.symm, icC_move hF (fun hb => (hfl hb).2) (fun k row hk hs => by
      rw [show b + 1 + k = b + (k + 1) by omega] at hs ⊢
      rw [show b' + 1 + k = b' + (k + 1) by omega]
      exact hr (k + 1) row (by simpa using hk) hs) h.2⟩

theorem resPs_rr : ∀ {l : List In} {d i k : Nat} {r : Row}, l[k]? = some (.rr r) → (1000 * (d + 1) + 900 + (i + k), 500 + (i + k)) ∈ resPs d i l
  | x :: l, d, i, 0, r, h => by simp at h; subst h; simp [resPs]
  | x :: l, d, i, k + 1, r, h => by
    have := resPs_rr (l := l) (d := d) (i := i + 1) (k := k) (r := r) (by simpa using h)
    rw [show i + 1 + k = i + (k + 1) by omega] at this
    cases x <;> simp only [resPs] <;> first | exact this | exact List.mem_cons_of_mem _ this | exact List.mem_append_right _ this
theorem resPs_ra : ∀ {l : List In} {d i k q : Nat} {c : List IC} {row : Row}, l[k]? = some (.ra c) → c[q]? = some (.r row) → (1000 * (d + 1) + 50 * (i + k) + q, 1000 * (501 + (i + k)) + q) ∈ resPs d i l
  | x :: l, d, i, 0, q, c, row, h, hq => by simp at h; subst h; simp only [resPs]; exact List.mem_append_left _ (icP_at hq)
  | x :: l, d, i, k + 1, q, c, row, h, hq => by
    have := resPs_ra (l := l) (d := d) (i := i + 1) (k := k) (by simpa using h) hq
    rw [show i + 1 + k = i + (k + 1) by omega] at this
    cases x <;> simp only [resPs] <;> first | exact this | exact List.mem_cons_of_mem _ this | exact List.mem_append_right _ this
theorem resTu_len : ∀ (l : List In) (d i : Nat), (resTu d i l).length = l.length
  | [], _, _ => rfl
  | x :: l, d, i => by cases x <;> simp [resTu, resTu_len]
theorem resTu_at : ∀ {l : List In} {d i k : Nat} {x : In}, l[k]? = some x → (resTu d i l).getD k (false, []) = (match x with
    | .c y => (false, [.d y])
    | .ag y => (true, y.map .d)
    | .rr _ => (false, [.own (1000 * (d + 1) + 900 + (i + k))])
    | .ra c => (true, icC (1000 * (d + 1) + 50 * (i + k)) c)
    | _ => (false, [.no]))
  | y :: l, d, i, 0, x, h => by simp at h; subst h; cases y <;> rfl
  | y :: l, d, i, k + 1, x, h => by
    have := resTu_at (l := l) (d := d) (i := i + 1) (k := k) (by simpa using h)
    rw [show i + 1 + k = i + (k + 1) by omega] at this
    cases y <;> (simp only [resTu]; rw [← this]; rfl)

theorem allD_ic : ∀ {l : List IC} {ds : List D}, allD l = some ds → ∀ b, icC b l = ds.map .d
  | [], ds, h, b => by simp [allD] at h; subst h; rfl
  | .d x :: l, ds, h, b => by
    simp only [allD, Option.map_eq_some_iff] at h
    obtain ⟨ds', h1, rfl⟩ := h
    simp [icC, allD_ic h1]
  | .r x :: l, ds, h, b => by simp [allD] at h
theorem allD_flat : ∀ {l : List IC} {ds : List D}, allD l = some ds → flatIC l → ∀ {j : Nat}, j < ds.length → D.flat (ds.getD j dU) = true
  | [], ds, h, _, j, hj => by simp [allD] at h; subst h; simp at hj
  | .d x :: l, ds, h, hf, j, hj => by
    simp only [allD, Option.map_eq_some_iff] at h
    obtain ⟨ds', h1, rfl⟩ := h
    cases j with
    | zero => simpa using hf.1
    | succ j => simpa using allD_flat h1 hf.2 (by simpa using hj)
  | .r x :: l, ds, h, _, j, hj => by simp [allD] at h
theorem Rel.lessGl {gl gl' : Nat → Option (List D)} {ins : List In} (h : Rel w0 own0 (initSt gl' ins) g a w) (hg : ∀ k, gl k = gl' k ∨ gl k = none) : Rel w0 own0 (initSt gl ins) g a w := by
  refine h.restrict h.defers (fun _ _ h => h) (fun _ _ h => h) (fun k cs hk => ?_) (fun j => (h.env j).move ⟨fun _ h => h, fun _ _ => rfl, fun t ht => ⟨ht, rfl, fun _ _ => rfl⟩, fun t ht => ⟨ht, rfl⟩⟩)
  have hk' : gl k = some cs := hk
  rcases hg k with e | e
  · rw [e] at hk'; exact hk'
  · rw [e] at hk'; cases hk'
theorem vcall_sound {f : FuncId} {q : Bool} {d : Nat} {xs : List AV} {args : Array Value} {K : AV → St → Prop} (h : Run m n w0 own0 g0 s g a w) (hsz : args.size = xs.length)
    (hx : ∀ k x, xs[k]? = some x → relAV s g w x (args.getD k undef)) (hk : vcall m P f q d xs s K) :
    (callFunc f args).run P w = .ok (.enter f args) w ∧ Calls P f args w fun e w' => ∃ v y s' g', e = .returned v ∧ K y s' ∧ Run m n w0 own0 g0 s' g' a w' ∧ relAV s' g' w' y v ∧ (q = true → Keeps w w' (fun _ => False)) := by
  obtain ⟨ins, bo, gl, Post, hc, hgl, hlen, N0, hargs, hq, hall⟩ := hk
  refine ⟨hc.1 args w, ?_⟩
  have hl := (argsOk_at hargs).1
  have hat := (argsOk_at hargs).2
  have hent := (enter_rel h.rel N0 hlen hsz hargs hx).lessGl hgl
  refine (hc.2 w _ _ args (by omega) hent).mono fun e w' ⟨o, hpost, vals, gf, he, hv, hf, hga, hF, hF'⟩ => ?_
  obtain ⟨N, hflat, hshort, hshort2, hres, hK⟩ := hall o hpost
  have hpv : ∀ v j, (paV 0 xs ins).lookup v = some j → j < 500 ∧ (s.vars v).isSome = true ∧ j < ins.length := by
    intro v j hvj
    obtain ⟨i, l, j', e1, e2, e3⟩ := paV_mem (lookup_mem hvj)
    have hi : i < ins.length := (List.getElem?_eq_some_iff.1 e3).1
    obtain ⟨x, e4, e5⟩ := hat i _ e3
    rw [e2] at e4; cases e4
    refine ⟨by omega, ?_, by omega⟩
    unfold argOk at e5
    simp only at e5
    rw [e5.2.2.2.1]; rfl
  have hgav : ∀ v j, (paV 0 xs ins).lookup v = some j → gf.ga j = g.ga v := by
    intro v j hvj
    rw [hga j (hpv v j hvj).2.2]
    simp only [entG]
    rw [(lookup_swap N.v1 N.v2).2 hvj]
  obtain ⟨g3, L⟩ := leave_rel h.rel N (fun v j hvj => ⟨(hpv v j hvj).1, (hpv v j hvj).2.1⟩) hf hgav hF hF' (fun hb i hi => (List.mem_append.1 hi).elim ((hflat hb).1 i) ((hflat hb).2 i)) hshort
  have gF_gf : ∀ b, g.F b → gf.F b := fun b hb => hF b (.inl hb)
  have own_ok : ∀ b, ownOf (paV 0 xs ins) (paR 0 xs ins) s g b → (own0 b ∨ w0.heap.size ≤ b) := by
    intro b hb
    rcases hb with ⟨v, j, c, h1, h2, rfl⟩ | ⟨t, u, r, h1, h2, h3⟩
    · exact (h.rel.varF v c h2).2
    · exact (h.rel.rowF t r b h2 h3).2
  have hrun : Run m n w0 own0 g0 (leaveSt s (paV 0 xs ins) (paR 0 xs ins ++ resP d o.res) o) g3 a w' := by
    refine ⟨L.rel, h.tmps, fun v hv => by rw [L.ga]; exact h.ga v hv, fun b hb => ?_, fun b hb => ?_⟩
    · rw [L.F]
      split
      · exact h.F b hb
      · exact gF_gf b (h.F b hb)
    · rw [L.F] at hb
      split at hb
      · exact h.F' b hb
      · rename_i hbo
        rcases hF' b hb with (e | ⟨e, _⟩) | e | e
        · exact h.F' b e
        · exact absurd e hbo
        · exact .inr (own_ok b e)
        · exact .inr (.inr (Nat.le_trans h.rel.size e))
  have toF : ∀ (x : D) (v : Value), RC gf.F w' x v → (bo = true → D.flat x = true) → RC g3.F w' x v := by
    intro x v hr hx
    rw [L.F]
    split
    · rename_i hb; exact flat_RC hr (hx hb)
    · exact hr
  have flat_at : ∀ (i : Nat) (x : In), o.res[i]? = some x → bo = true → flatI x := fun i x hi hb => (hflat hb).1 x (List.mem_of_getElem? hi)
  have len_at : ∀ (i : Nat) (x : In), o.res[i]? = some x → shortI x := fun i x hi => hshort2 x (List.mem_of_getElem? hi)
  have envj : ∀ (i : Nat) (x : In), o.res[i]? = some x → relAV (finSt gl o) gf w' (inAV (500 + i) (some x)) (vals.getD i undef) := fun i x hi => by
    have := hf.env i
    simp only [finSt, hi] at this
    exact this
  have rr_rel : ∀ (i t : Nat) (r : Row) (v : Value), o.res[i]? = some (.rr r) → (t, 500 + i) ∈ resP d o.res → relC (finSt gl o) gf w' (.own (500 + i)) v → relC (leaveSt s (paV 0 xs ins) (paR 0 xs ins ++ resP d o.res) o) g3 w' (.own t) v := by
    intro i t r v hi hm hr _
    have hi' : i < o.res.length := (List.getElem?_eq_some_iff.1 hi).1
    have hrho := rho_mem N (List.mem_append_right _ hm)
    rw [L.hv _ _ hrho]
    refine hr ?_
    have e0 : ¬ (500 + i < 500) := by omega
    have e1 : 500 + i < 1000 := by omega
    have e2 : 500 + i - 500 = i := by omega
    simp only [finSt, tRow, tOut, if_pos e1, if_neg e0, e2, hi]
    rfl
  have ra_rel : ∀ (i b : Nat) (l : List IC) (vs : List Value), o.res[i]? = some (.ra l) → (∀ k row, l[k]? = some (.r row) → (b + k, 1000 * (501 + i) + k) ∈ resP d o.res) → relL (finSt gl o) gf w' (icC (1000 * (501 + i)) l) vs →
      relL (leaveSt s (paV 0 xs ins) (paR 0 xs ins ++ resP d o.res) o) g3 w' (icC b l) vs := by
    intro i b l vs hi hm hr
    have hi' : i < o.res.length := (List.getElem?_eq_some_iff.1 hi).1
    refine icC_move toF (fun hb => flat_at i _ hi hb) (fun k row hk _ => ?_) hr
    have hrho := rho_mem N (List.mem_append_right _ (hm k row hk))
    refine ⟨?_, L.hv _ _ hrho⟩
    have hkl : k < l.length := (List.getElem?_eq_some_iff.1 hk).1
    have hll : l.length ≤ 1000 := len_at i _ hi
    have e0 : ¬ (1000 * (501 + i) + k < 1000) := by omega
    have e1 : (1000 * (501 + i) + k) / 1000 - 1 = 500 + i := by omega
    have e2 : (1000 * (501 + i) + k) % 1000 = k := by omega
    have e3 : ¬ (500 + i < 500) := by omega
    have e4 : 500 + i - 500 = i := by omega
    simp only [finSt, tRow, tOut, if_neg e0, e1, e2, if_neg e3, e4, hi, rowIn, hk]
    rfl
  have hquiet : q = true → Keeps w w' (fun _ => False) := fun hqt => by
    obtain ⟨e1, e2⟩ := hq hqt
    refine ⟨hf.os, hf.tape, hf.output, hf.size, fun b hb _ => hf.frame b hb ?_⟩
    rintro (⟨v, j, c, h1, _⟩ | ⟨t, u, r, h1, _⟩)
    · rw [e1] at h1; cases h1
    · rw [e1, e2] at h1
      unfold rho at h1
      simp at h1
  by_cases hrv : ∃ l, o.res = [.rv l]
  · obtain ⟨l, hrv⟩ := hrv
    have hK' : match allD l with
      | some ds => m ≤ d ∧ K (.c (.ptr d 0)) ((leaveSt s (paV 0 xs ins) (paR 0 xs ins ++ resP d o.res) o).addV d (ds.map .d))
      | none => False := by
      unfold kback at hK
      rw [hrv] at hK ⊢
      exact hK
    cases hds : allD l with
    | none => rw [hds] at hK'; exact hK'.elim
    | some ds =>
      rw [hds] at hK'
      obtain ⟨hmd, hK'⟩ := hK'
      obtain ⟨s1, s2, s3, s4⟩ := L.sep l hrv
      have hc : (finSt gl o).vars 500 = some (icC (1000 * (500 + 1)) l) := by simp [finSt, tVar, tOut, hrv]
      have hic : icC (1000 * (500 + 1)) l = ds.map .d := allD_ic hds _
      obtain ⟨arr, T', k1, k2⟩ := hf.vars 500 _ hc
      rw [hic] at k2
      have hcs : relCs (leaveSt s (paV 0 xs ins) (paR 0 xs ins ++ resP d o.res) o) g3 w' (ds.map .d) arr := ⟨k2.1, fun j hj => by
        have := k2.2 j hj
        have hj' : j < ds.length := by simpa using hj
        rw [getD_map _ _ _ dU hj'] at this ⊢
        refine toF _ _ this (fun hb => ?_)
        have hfl : flatI (.rv l) := (hflat hb).1 _ (by rw [hrv]; exact List.mem_cons_self)
        exact allD_flat hds hfl hj'⟩
      have hA := L.rel.addV d (gf.ga 500) (ds.map .d) arr T' k1 hcs s1 s2 s3 (fun u c _ hu => s4 u c hu)
      refine ⟨_, _, _, _, he, hK', ⟨hA, h.tmps, fun v hv => ?_, fun b hb => ?_, fun b hb => ?_⟩, ?_, hquiet⟩
      · have : v ≠ d := by omega
        simp only [upd_ne _ _ _ _ this]; exact hrun.ga v hv
      · exact hrun.F b hb
      · exact hrun.F' b hb
      · have hv1 : vals.size = 1 := by rw [hv, hrv]; rfl
        have hret : retV vals = vals.getD 0 undef := by simp [retV, hv1, Array.getD_eq_getD_getElem?]
        rw [hret]
        have h0 := hf.env 0
        simp only [finSt, hrv] at h0
        have h1 : vals.getD 0 undef = .pointer (some ⟨gf.ga 500, 0, none⟩) := h0 (by
          show (tVar (tOut o) 500).isSome = true
          simp [tVar, tOut, hrv])
        intro _
        rw [h1]
        simp only [upd_same]
  have hK' : K (resAV d o.res) (leaveSt s (paV 0 xs ins) (paR 0 xs ins ++ resP d o.res) o) := by
    unfold kback at hK
    split at hK
    · rename_i l hl; exact absurd ⟨l, hl⟩ hrv
    · exact hK
  refine ⟨_, _, _, g3, he, hK', hrun, ?_, hquiet⟩
  · -- the results
    unfold resAV
    split
    · rename_i x hx1
      have hv1 : vals.size = 1 := by rw [hv, hx1]; rfl
      have hret : retV vals = vals.getD 0 undef := by simp [retV, hv1, Array.getD_eq_getD_getElem?]
      rw [hret]
      have hi : o.res[0]? = some x := by rw [hx1]; rfl
      have hrel := envj 0 x hi
      have hP : resP d o.res = resP1 d x := by rw [hx1]; rfl
      generalize vals.getD 0 undef = v at hrel
      cases x with
      | c y => exact toF y v hrel (fun hb => flat_at 0 _ hi hb)
      | ag l =>
        obtain ⟨arr, rfl, h1⟩ := hrel
        refine ⟨arr, rfl, ⟨h1.1, fun j hj => ?_⟩⟩
        have := h1.2 j hj
        have hj' : j < l.length := by simpa using hj
        rw [getD_map _ _ _ dU hj'] at this ⊢
        refine toF _ _ this (fun hb => flat_at 0 _ hi hb _ ?_)
        rw [List.getD_eq_getElem?_getD, List.getElem?_eq_getElem hj']; exact List.getElem_mem _
      | er l => trivial
      | rv l => exact absurd ⟨l, hx1⟩ hrv
      | rr r => exact rr_rel 0 d r v hi (by rw [hP]; simp [resP1]) hrel
      | ra l =>
        obtain ⟨arr, rfl, h1⟩ := hrel
        refine ⟨arr, rfl, ?_⟩
        have := ra_rel 0 (1000 * (d + 1)) l arr.toList hi (fun k row hk => by rw [hP]; exact icP_at hk) h1.toL
        simpa using this.toCs
    · rename_i hne
      have hne' : o.res.length ≠ 1 := fun e => by
        obtain ⟨x, hx⟩ := List.length_eq_one_iff.1 e
        exact hne x hx
      have hP : resP d o.res = resPs d 0 o.res := by
        unfold resP
        split
        · rename_i x hx; exact absurd hx (hne x)
        · rfl
      have hret : retV vals = .tuple vals := by
        unfold retV; rw [dif_neg (by rw [hv]; exact hne')]
      rw [hret]
      refine ⟨vals, rfl, by rw [resTu_len, hv], fun j hj => ?_⟩
      rw [resTu_len] at hj
      obtain ⟨x, hi⟩ : ∃ x, o.res[j]? = some x := ⟨_, List.getElem?_eq_getElem hj⟩
      have hrel := envj j x hi
      rw [resTu_at hi]
      generalize vals.getD j undef = v at hrel
      cases x with
      | c y => exact toF y v hrel (fun hb => flat_at j _ hi hb)
      | ag l =>
        obtain ⟨arr, rfl, h1⟩ := hrel
        refine ⟨arr, rfl, ⟨h1.1, fun k hk => ?_⟩⟩
        have := h1.2 k hk
        have hj' : k < l.length := by simpa using hk
        simp only at this ⊢
        rw [getD_map _ _ _ dU hj'] at this ⊢
        refine toF _ _ this (fun hb => flat_at j _ hi hb _ ?_)
        rw [List.getD_eq_getElem?_getD, List.getElem?_eq_getElem hj']; exact List.getElem_mem _
      | er l => trivial
      | rv l => trivial
      | rr r =>
        have hm := resPs_rr (d := d) (i := 0) hi
        rw [Nat.zero_add] at hm
        rw [Nat.zero_add]
        exact rr_rel j _ r v hi (by rw [hP]; exact hm) hrel
      | ra l =>
        obtain ⟨arr, rfl, h1⟩ := hrel
        refine ⟨arr, rfl, ?_⟩
        rw [Nat.zero_add]
        have := ra_rel j (1000 * (d + 1) + 50 * j) l arr.toList hi (fun k row hk => by
          have := resPs_ra (d := d) (i := 0) hi hk
          rw [Nat.zero_add] at this
          rw [hP]; exact this) (by
            have := h1.toL
            simpa [Nat.add_assoc, Nat.add_comm, Nat.add_left_comm] using this)
        simpa using this.toCs

/-- Some rows are frozen ahead of a call. -/
def freezeL : List Nat → List AV → St → (List AV → St → Prop) → Prop
  | [], xs, s, K => K xs s
  | t :: l, xs, s, K => match s.rows t with
    | some r => freezeL l (xs.map (AV.map (C.frR t (.sl r.sz r.els)))) (s.frR t r) K
    | none => False
def vcallF (m : Nat) (P : Program) (f : FuncId) (q : Bool) (d : Nat) (xs : List AV) (s : St) (K : AV → St → Prop) : Prop := ∃ fz, freezeL fz xs s fun xs s => vcall m P f q d xs s K
theorem freezeL_sound : ∀ (fz : List Nat) {xs : List AV} {s : St} {g : Gh} {args : Array Value} {K : List AV → St → Prop}, Run m n w0 own0 g0 s g a w → args.size = xs.length → (∀ k x, xs[k]? = some x → relAV s g w x (args.getD k undef)) → freezeL fz xs s K →
    ∃ xs' s' g', K xs' s' ∧ Run m n w0 own0 g0 s' g' a w ∧ args.size = xs'.length ∧ ∀ k x, xs'[k]? = some x → relAV s' g' w x (args.getD k undef)
  | [], xs, s, g, args, K, h, hsz, hx, hk => ⟨xs, s, g, hk, h, hsz, hx⟩
  | t :: fz, xs, s, g, args, K, h, hsz, hx, hk => by
    unfold freezeL at hk
    cases hr : s.rows t with
    | none => simp [hr] at hk
    | some r =>
      simp only [hr] at hk
      have hfr := relC.frR h.rel t r hr
      refine freezeL_sound fz (g := { g with F := fun b => g.F b ∨ (g.hv t).ownBlock = some b }) ⟨h.rel.frR t r hr, h.tmps, h.ga, fun b hb => .inl (h.F b hb), fun b hb => hb.elim (h.F' b) (fun hb => .inr (h.rel.rowF t r b hr hb).2)⟩ (by simpa using hsz) (fun k x hkx => ?_) hk
      simp only [List.getElem?_map, Option.map_eq_some_iff] at hkx
      obtain ⟨y, hy, rfl⟩ := hkx
      exact (hx k y hy).map hfr
theorem vcallF_sound {f : FuncId} {q : Bool} {d : Nat} {xs : List AV} {args : Array Value} {K : AV → St → Prop} (h : Run m n w0 own0 g0 s g a w) (hsz : args.size = xs.length)
    (hx : ∀ k x, xs[k]? = some x → relAV s g w x (args.getD k undef)) (hk : vcallF m P f q d xs s K) :
    (callFunc f args).run P w = .ok (.enter f args) w ∧ Calls P f args w fun e w' => ∃ v y s' g', e = .returned v ∧ K y s' ∧ Run m n w0 own0 g0 s' g' a w' ∧ relAV s' g' w' y v ∧ (q = true → Keeps w w' (fun _ => False)) := by
  obtain ⟨fz, hk⟩ := hk
  obtain ⟨xs', s', g', k1, k2, k3, k4⟩ := freezeL_sound fz h hsz hx hk
  exact vcall_sound k2 k3 k4 k1
end
end GV

