/- This text proves the frame, third part: code, loops, contracts, open orders. No condition but those that each theorem states. -/
import Derived.Test.YtpenfogoolkaeaaVb
import Derived.Laws.StructEq
import Derived.OrdersHeld
import Derived.Deep.RegionHeld3
set_option linter.unusedSimpArgs false
set_option linter.unusedVariables false
namespace GV
open Go

structure Cf where
  P : Program
  T : Tab
  m : Nat
  n : Nat
def kput (n : Nat) (dst : Option Tmp) (K : St → Prop) (x : AV) (s : St) : Prop :=
  match dst with
  | some d => d < n ∧ K (s.put d x)
  | none => K s
def kval (n : Nat) (dst : Option Tmp) (K : St → Prop) (s : St) (x : AV) : Prop := kput n dst K x s
def lenTy (T : Tab) (t : Nat) (x : AV) : Prop :=
  match T t with
  | some i => match x with
    | .c (.d (.v (.string _))) => i.td = .str
    | _ => match i.td with
      | .sl _ => True
      | _ => False
  | none => False
def vpick (x y z : AV) (n : Nat) (dst : Option Tmp) (K : St → Prop) (s : St) : Prop :=
  match x with
  | .c (.d (.v (.bool b))) => (b = true → kput n dst K y s) ∧ (b = false → kput n dst K z s)
  | _ => False
def vmm (big : Bool) (x y : AV) (K : AV → Prop) : Prop :=
  vint x fun k a => vint y fun k' b => k = k' ∧ K (vi k (if big then max a b else min a b))
def vcalls (c : Cf) (q : Bool) (cl : Call) (ty : Nat) (dst : Option Tmp) (K : St → Prop) (s : St) : Prop :=
  match cl.callee with
  | .builtin .len => match cl.args.toList, cl.argTypes.toList with
    | [x], [t] => lenTy c.T t (s.ev x) ∧ vlen (s.ev x) s (kval c.n dst K s)
    | _, _ => False
  | .builtin .append => q = false ∧ match cl.args.toList, cl.argTypes.toList, dst with
    | [x, y], [t, t'], some d => if t = t' then vappend c.T t d (s.ev x) (s.ev y) s (kput c.n dst K) else vappendX c.T t t' d (s.ev x) (s.ev y) s (kput c.n dst K)
    | _, _, _ => False
  | .value (.func f) => vcallF c.m c.P f q (dst.getD 499) (cl.args.toList.map s.ev) s (kput c.n dst K)
  | .builtin .max => match cl.args.toList with
    | [x, y] => vmm true (s.ev x) (s.ev y) (kval c.n dst K s)
    | _ => False
  | .builtin .min => match cl.args.toList with
    | [x, y] => vmm false (s.ev x) (s.ev y) (kval c.n dst K s)
    | _ => False
  | _ => False
def vop (c : Cf) (q : Bool) (o : Oper) (K : St → Prop) (s : St) : Prop :=
  match o.op with
  | .move x => kput c.n o.dst K (fixN c.T o.type (s.ev x)) s
  | .assign x => match o.dst with
    | some d => vassign d (fixN c.T o.type (s.ev x)) s (kput c.n o.dst K)
    | none => K s
  | .pick x y z => vpick (s.ev x) (s.ev y) (s.ev z) c.n o.dst K s
  | .alloc t => match o.dst with
    | some d => c.m ≤ d ∧ valloc c.T t d s (kput c.n o.dst K)
    | none => False
  | .box t x => match o.dst with
    | some d => c.m ≤ d ∧ vbox d (s.ev x) s (kput c.n o.dst K)
    | none => False
  | .build t ps => vbuild c.T t (ps.toList.map fun p => (p.1, s.ev p.2)) s (kval c.n o.dst K s)
  | .buildSlice t len ps => match o.dst with
    | some d => vbuildSlice c.T t len d (ps.toList.map fun p => (p.1, s.ev p.2)) s (kput c.n o.dst K)
    | none => False
  | .makeSlice t x y => match o.dst with
    | some d => vmakeSlice c.T t d (s.ev x) (s.ev y) s (kput c.n o.dst K)
    | none => False
  | .load t x => vload c.T t (s.ev x) s (kval c.n o.dst K s)
  | .store t x y => q = false ∧ o.dst = none ∧ vstore c.T t (s.ev x) (fixN c.T t (s.ev y)) s K
  | .nilCheck x => vnil (s.ev x) s (kval c.n o.dst K s)
  | .binOp op t x y _ => vbin c.T op t (s.ev x) (s.ev y) (kval c.n o.dst K s)
  | .unOp op _ x => vun op (s.ev x) (kval c.n o.dst K s)
  | .convert a b x => vconv c.T a b (s.ev x) s (kval c.n o.dst K s)
  | .slice t x lo hi mx => mx = none ∧ vslice c.T t (s.ev x) (lo.map s.ev) (hi.map s.ev) s (kval c.n o.dst K s)
  | .fieldAddr t x f => vfieldAddr c.T t (s.ev x) f s (kval c.n o.dst K s)
  | .field t x f => vfieldOf c.T t (s.ev x) f (kval c.n o.dst K s)
  | .indexAddr t x i => vindexAddr c.T t (s.ev x) (s.ev i) s (kval c.n o.dst K s)
  | .index t x i => vindex c.T t (s.ev x) (s.ev i) (kval c.n o.dst K s)
  | .extract x i => vextract (s.ev x) i (kval c.n o.dst K s)
  | .call cl => vcalls c q cl o.type o.dst K s
  | _ => False

section
variable {c : Cf} {w0 : World} {own0 : Nat → Prop} {g0 : Gh} {s : St} {g : Gh} {a : Act} {w : World}

/-- What an operation comes to. -/
def Goes (c : Cf) (w0 : World) (own0 : Nat → Prop) (g0 : Gh) (K : St → Prop) (a : Act) (w : World) : Prop := ∃ s g, K s ∧ Run c.m c.n w0 own0 g0 s g a w

theorem kput_goes {dst : Option Tmp} {x : AV} {v : Value} {K : St → Prop} (h : Run c.m c.n w0 own0 g0 s g a w) (hx : relAV s g w x v) (hk : kput c.n dst K x s) : Goes c w0 own0 g0 K (a.put dst v) w := by
  cases dst with
  | none => exact ⟨s, g, hk, h⟩
  | some d => exact ⟨_, g, hk.2, h.put hk.1 hx⟩

theorem lenTy_ok {T : Tab} {P : Program} (TO : TabOk P T) {t : Nat} {x : AV} (h : lenTy T t x) : (∀ b, x = .c (.d (.v (.string b))) → P.underlying t = some .string) ∧ ((∀ b, x ≠ .c (.d (.v (.string b)))) → ∃ e, P.underlying t = some (.slice e)) := by
  unfold lenTy at h
  cases ht : T t with
  | none => simp [ht] at h
  | some i =>
    simp only [ht] at h
    have hd := TO.desc t i ht
    refine ⟨fun b hb => ?_, fun hne => ?_⟩
    · subst hb
      simp only at h
      rw [h] at hd
      exact hd
    · split at h
      · exact absurd rfl (hne _)
      · split at h
        · rename_i e he
          rw [he] at hd
          exact ⟨e, hd⟩
        · exact h.elim

theorem parts_rel (h : Run c.m c.n w0 own0 g0 s g a w) (ps : Array (Nat × Operand)) : relParts s g w (ps.toList.map fun p => (p.1, s.ev p.2)) (ps.map fun (i, x) => (i, a.eval x)).toList := by
  rw [Array.toList_map]
  generalize ps.toList = l
  induction l with
  | nil => trivial
  | cons p l ih => exact ⟨rfl, h.rel.ev p.2, ih⟩

theorem vmm_sound {P : Program} {big : Bool} {x y : AV} {v u : Value} {K : AV → Prop} (hx : relAV s g w x v) (hy : relAV s g w y u) (hk : vmm big x y K) :
    ∃ z r, (∀ w', ((if big then Builtin.max2 v u else Builtin.min2 v u) : Sem Value).run P w' = .ok r w') ∧ K z ∧ relAV s g w z r := by
  unfold vmm at hk
  obtain ⟨k, a, rfl, hk⟩ := vint_sound hx hk
  obtain ⟨k', b, rfl, hk⟩ := vint_sound hy hk
  obtain ⟨rfl, hk⟩ := hk
  refine ⟨_, _, ?_, hk, rel_vi _ _⟩
  cases big
  · intro w'
    simp only [Bool.false_eq_true, if_false, Builtin.min2, Sem.run_pure]
    congr 2
    rw [Int.min_def]
    split <;> split <;> omega
  · intro w'
    simp only [if_true, Builtin.max2, Sem.run_pure]
    congr 2
    rw [Int.max_def]
    split <;> split <;> omega
theorem vop_sound (TO : TabOk c.P c.T) {q : Bool} {o : Oper} {K : St → Prop} {Q : Exit → Act → World → Prop} (h : Run c.m c.n w0 own0 g0 s g a w) (hk : vop c q o K s) :
    o.wp c.P a w (fun a' w' => (q = true → Keeps w w' (fun _ => False)) ∧ Goes c w0 own0 g0 K a' w') Q := by
  have KR := fun (_ : q = true) => Keeps.refl w (fun _ => False)
  obtain ⟨dst, op, ty, pos, after, guard⟩ := o
  unfold vop at hk
  unfold Oper.wp execOp
  cases op <;> simp only at hk ⊢ <;> try exact hk.elim
  case move x => exact ⟨KR, kput_goes h (fixN_rel (h.rel.ev x)) hk⟩
  case assign x =>
    cases dst with
    | none => exact ⟨KR, s, g, hk, h⟩
    | some d =>
      obtain ⟨y, s', g', h1, h2, h3⟩ := vassign_sound h (fixN_rel (h.rel.ev x)) hk
      exact ⟨KR, kput_goes h2 h3 h1⟩
  case pick x y z =>
    unfold vpick at hk
    split at hk
    · rename_i b hb
      have hx := h.rel.ev x
      rw [hb] at hx
      have := relB hx
      rw [this]
      cases b with
      | true => exact ⟨KR, kput_goes h (h.rel.ev y) (hk.1 rfl)⟩
      | false => exact ⟨KR, kput_goes h (h.rel.ev z) (hk.2 rfl)⟩
    · exact hk.elim
  case alloc t =>
    cases dst with
    | none => exact hk.elim
    | some d =>
      obtain ⟨y, v, w', s', g', h1, h2, h3, h4, h5⟩ := valloc_sound TO h hk.1 hk.2
      simp only [Sem.run_bind, h1, Result.andThen_ok]
      exact ⟨fun _ => h5, kput_goes h3 h4 h2⟩
  case box t x =>
    cases dst with
    | none => exact hk.elim
    | some d =>
      obtain ⟨y, v, w', s', g', h1, h2, h3, h4, h5⟩ := vbox_sound (P := c.P) (t := t) h (h.rel.ev x) hk.1 hk.2
      simp only [Sem.run_bind, h1, Result.andThen_ok]
      exact ⟨fun _ => h5, kput_goes h3 h4 h2⟩
  case build t ps =>
    obtain ⟨y, v, h1, h2, h3⟩ := vbuild_sound TO h.rel (parts_rel h ps) hk
    simp only [Sem.run_bind, h1, Result.andThen_ok]
    exact ⟨KR, kput_goes h h3 h2⟩
  case buildSlice t len ps =>
    cases dst with
    | none => exact hk.elim
    | some d =>
      obtain ⟨y, v, w', s', g', h1, h2, h3, h4, h5⟩ := vbuildSlice_sound TO h (parts_rel h ps) hk
      simp only [Sem.run_bind, h1, Result.andThen_ok]
      exact ⟨fun _ => h5, kput_goes h3 h4 h2⟩
  case makeSlice t x y =>
    cases dst with
    | none => exact hk.elim
    | some d =>
      obtain ⟨y, v, w', s', g', h1, h2, h3, h4, h5⟩ := vmakeSlice_sound TO h (h.rel.ev x) (h.rel.ev y) hk
      simp only [Sem.run_bind, h1, Result.andThen_ok]
      exact ⟨fun _ => h5, kput_goes h3 h4 h2⟩
  case load t x =>
    obtain ⟨y, u, h1, h2, h3⟩ := vload_sound TO h.rel (h.rel.ev x) hk
    simp only [Sem.run_bind, h1 w (fun _ _ => rfl), Result.andThen_ok]
    exact ⟨KR, kput_goes h h3 h2⟩
  case store t x y =>
    obtain ⟨hq, hd, hk⟩ := hk
    subst hd
    obtain ⟨w', s', g', h1, h2, h3⟩ := vstore_sound TO h (h.rel.ev x) (fixN_rel (h.rel.ev y)) hk
    simp only [Sem.run_bind, h1, Result.andThen_ok]
    exact ⟨fun e => (by rw [hq] at e; cases e), s', g', h2, h3⟩
  case nilCheck x =>
    obtain ⟨b, hb, y, h2, h3⟩ := vnil_sound (h.rel.ev x) hk
    rw [hb] at h3
    simp only [hb]
    exact ⟨KR, kput_goes h h3 h2⟩
  case binOp op t x y yt =>
    obtain ⟨z, r, h1, h2, h3⟩ := vbin_sound (xo := x) (yo := y) TO (h.rel.ev x) (h.rel.ev y) hk
    have := h1 w
    rw [Sem.run_bind, this]
    exact ⟨KR, kput_goes h h3 h2⟩
  case unOp op t x =>
    obtain ⟨z, r, h1, h2, h3⟩ := vun_sound (P := c.P) (h.rel.ev x) hk
    simp only [Sem.run_bind, h1, Result.andThen_ok]
    exact ⟨KR, kput_goes h h3 h2⟩
  case convert t t' x =>
    obtain ⟨z, r, h1, h2, h3⟩ := vconv_sound TO (h.rel.ev x) hk
    simp only [Sem.run_bind, h1, Result.andThen_ok]
    exact ⟨KR, kput_goes h h3 h2⟩
  case slice t x lo hi mx =>
    obtain ⟨rfl, hk⟩ := hk
    obtain ⟨z, r, h1, h2, h3⟩ := vslice_sound TO h.rel (lv := lo.map a.eval) (hv := hi.map a.eval) (h.rel.ev x) (by cases lo <;> simp [h.rel.ev]) (by cases hi <;> simp [h.rel.ev]) hk
    simp only [Sem.run_bind, Option.map_none, h1, Result.andThen_ok]
    exact ⟨KR, kput_goes h h3 h2⟩
  case fieldAddr t x f =>
    obtain ⟨z, r, h1, h2, h3⟩ := vfieldAddr_sound TO (h.rel.ev x) hk
    simp only [Sem.run_bind, h1, Result.andThen_ok]
    exact ⟨KR, kput_goes h h3 h2⟩
  case field t x f =>
    obtain ⟨z, r, h1, h2, h3⟩ := vfieldOf_sound TO (h.rel.ev x) hk
    simp only [Sem.run_bind, h1, Result.andThen_ok]
    exact ⟨KR, kput_goes h h3 h2⟩
  case indexAddr t x i =>
    obtain ⟨z, r, h1, h2, h3⟩ := vindexAddr_sound TO h.rel (h.rel.ev x) (h.rel.ev i) hk
    simp only [Sem.run_bind, h1, Result.andThen_ok]
    exact ⟨KR, kput_goes h h3 h2⟩
  case index t x i =>
    obtain ⟨z, r, h1, h2, h3⟩ := vindex_sound TO (h.rel.ev x) (h.rel.ev i) hk
    simp only [Sem.run_bind, h1, Result.andThen_ok]
    exact ⟨KR, kput_goes h h3 h2⟩
  case extract x i =>
    obtain ⟨z, r, h1, h2, h3⟩ := vextract_sound (P := c.P) (h.rel.ev x) hk
    simp only [Sem.run_bind, h1, Result.andThen_ok]
    exact ⟨KR, kput_goes h h3 h2⟩
  case call cl =>
    unfold vcalls at hk
    obtain ⟨callee, args, argTypes⟩ := cl
    simp only at hk
    split at hk
    · rename_i hcal
      split at hk
      · rename_i x t e1 e2
        obtain ⟨hlt, hk⟩ := hk
        have ea : args = #[x] := by apply Array.ext'; simpa using e1
        have et : argTypes = #[t] := by apply Array.ext'; simpa using e2
        subst ea; subst et
        obtain ⟨k1, k2⟩ := lenTy_ok TO hlt
        obtain ⟨z, r, h1, h2, h3⟩ := vlen_sound (ty := ty) TO h.rel (h.rel.ev x) k1 k2 hk
        simp only [resolve, invoke, builtin, Sem.run_bind, Sem.run_pure, Result.andThen_ok, List.map_toArray, List.map_cons, List.map_nil, h1]
        exact ⟨KR, kput_goes h h3 h2⟩
      · exact hk.elim
    · obtain ⟨hq, hk⟩ := hk
      split at hk
      · rename_i x y t t' d e1 e2
        have ea : args = #[x, y] := by apply Array.ext'; simpa using e1
        have et : argTypes = #[t, t'] := by apply Array.ext'; simpa using e2
        subst ea; subst et
        by_cases htt : t = t'
        · subst htt
          rw [if_pos rfl] at hk
          obtain ⟨z, v', w', s', g', h1, h2, h3, h4⟩ := vappend_sound (ty := ty) TO h (h.rel.ev x) (h.rel.ev y) hk
          simp only [resolve, invoke, builtin, Sem.run_bind, Sem.run_pure, Result.andThen_ok, List.map_toArray, List.map_cons, List.map_nil, h1]
          exact ⟨fun e => (by rw [hq] at e; cases e), kput_goes h3 h4 h2⟩
        · rw [if_neg htt] at hk
          obtain ⟨z, v', w', s', g', h1, h2, h3, h4⟩ := vappendX_sound (ty := ty) TO h (h.rel.ev x) (h.rel.ev y) hk
          simp only [resolve, invoke, builtin, Sem.run_bind, Sem.run_pure, Result.andThen_ok, List.map_toArray, List.map_cons, List.map_nil, h1]
          exact ⟨fun e => (by rw [hq] at e; cases e), kput_goes h3 h4 h2⟩
      · exact hk.elim
    · rename_i f
      obtain ⟨h1, h2⟩ := vcallF_sound (args := args.map a.eval) h (by simp) (fun k x hx => by
        simp only [List.getElem?_map, Option.map_eq_some_iff] at hx
        obtain ⟨y, e1, rfl⟩ := hx
        have : (args.map a.eval).getD k undef = a.eval y := by
          simp only [Array.getElem?_toList] at e1
          simp [Array.getD_eq_getD_getElem?, e1]
        rw [this]; exact h.rel.ev y) hk
      have e2 : a.eval (.func f) = .func (.func f) #[] #[] := rfl
      simp only [resolve, Deferred.ofValue, invoke, Sem.run_bind, Sem.run_pure, Result.andThen_ok, e2]
      have e3 : (#[] : Array Value) ++ Array.map a.eval args ++ #[] = Array.map a.eval args := by simp
      simp [h1, Oper.upon]
      refine h2.mono fun e w' ⟨v, y, s', g', he, hK, hr, hrel, hqq⟩ => ?_
      subst he
      exact ⟨hqq, kput_goes hr hrel hK⟩
    · split at hk
      · rename_i x y e1
        have ea : args = #[x, y] := by apply Array.ext'; simpa using e1
        subst ea
        obtain ⟨z, r, h1, h2, h3⟩ := vmm_sound (P := c.P) (h.rel.ev x) (h.rel.ev y) hk
        have h1 : ∀ w', (Builtin.max2 (a.eval x) (a.eval y)).run c.P w' = .ok r w' := h1
        simp [resolve, invoke, builtin, Builtin.max_, h1]
        exact ⟨KR, kput_goes h h3 h2⟩
      · exact hk.elim
    · split at hk
      · rename_i x y e1
        have ea : args = #[x, y] := by apply Array.ext'; simpa using e1
        subst ea
        obtain ⟨z, r, h1, h2, h3⟩ := vmm_sound (P := c.P) (h.rel.ev x) (h.rel.ev y) hk
        have h1 : ∀ w', (Builtin.min2 (a.eval x) (a.eval y)).run c.P w' = .ok r w' := h1
        simp [resolve, invoke, builtin, Builtin.min_, h1]
        exact ⟨KR, kput_goes h h3 h2⟩
      · exact hk.elim
    · exact hk.elim
end
end GV

set_option linter.unusedSimpArgs false
set_option linter.unusedVariables false
namespace GV
open Go

/-! ### a list of operations, a code -/
def vlist (c : Cf) (ops : Array Oper) : List Oper → (St → Prop) → St → Prop
  | [], K, s => K s
  | o :: r, K, s => match o.guard with
    | none => vop c false o (vlist c ops r K) s
    | some (j, want) => match (ops[j]?).bind (·.dst) with
      | none => False
      | some t => match s.env t with
        | .c (.d (.v (.bool b))) => (b = want → vop c false o (vlist c ops r K) s) ∧ ((b = want → False) → kput c.n o.dst (vlist c ops r K) (.c .und) s)
        | .c .und => kput c.n o.dst (vlist c ops r K) (.c .und) s
        | _ => False
def kq (e : Exit) (Q : Exit → St → Prop) (s : St) : Prop := Q e s
/-- What is true behind a code, however it is left. -/
def VC (c : Cf) (code : Code) (Q : Exit → St → Prop) (s : St) : Prop :=
  ∀ w0 own0 g0 g a w, Run c.m c.n w0 own0 g0 s g a w → code.wp c.P (fun e a' w' => Goes c w0 own0 g0 (Q e) a' w') a w
def VD (c : Cf) (ops : Array Oper) (K : St → Prop) (s : St) : Prop :=
  ∀ w0 own0 g0 g a w, Run c.m c.n w0 own0 g0 s g a w → ∀ id, (Code.region id ops true).wp c.P (fun e a' w' => e = .normal ∧ Goes c w0 own0 g0 K a' w') a w
def vcode (c : Cf) : Code → (Exit → St → Prop) → St → Prop
  | .skip, Q, s => Q .normal s
  | .region _ ops draw, Q, s => match draw with
    | true => VD c ops (kq .normal Q) s
    | false => vlist c ops ops.toList (kq .normal Q) s
  | .seq x y, Q, s => vcode c x (fun e s' => match e with | .normal => vcode c y Q s' | e => Q e s') s
  | .cond x y z, Q, s => match s.ev x with
    | .c (.d (.v (.bool b))) => (b = true → vcode c y Q s) ∧ (b = false → vcode c z Q s)
    | _ => False
  | .block id x, Q, s => vcode c x (fun e s' => match e with | .exit k => if k = id then Q .normal s' else Q (.exit k) s' | e => Q e s') s
  | .loop x, Q, s => VC c (.loop x) Q s
  | .exit k, Q, s => Q (.exit k) s
  | .ret, Q, s => Q .ret s
  | _, _, _ => False
/-- The same, with continuations that are no lambdas: for simp. -/
def kseq (c : Cf) (y : Code) (Q : Exit → St → Prop) (e : Exit) (s : St) : Prop := match e with | .normal => vcode c y Q s | e => Q e s
def kblk (id : Nat) (Q : Exit → St → Prop) (e : Exit) (s : St) : Prop := match e with | .exit k => if k = id then Q .normal s else Q (.exit k) s | e => Q e s

section
variable {c : Cf} {w0 : World} {own0 : Nat → Prop} {g0 : Gh} {s : St} {g : Gh} {a : Act} {w : World} {Q : Exit → St → Prop}
theorem vcode_skip : vcode c .skip Q s = Q .normal s := rfl
theorem vcode_region {id : Nat} {ops : Array Oper} : vcode c (.region id ops false) Q s = vlist c ops ops.toList (kq .normal Q) s := rfl
theorem vcode_drawn {id : Nat} {ops : Array Oper} : vcode c (.region id ops true) Q s = VD c ops (kq .normal Q) s := rfl
theorem vcode_seq {x y : Code} : vcode c (.seq x y) Q s = vcode c x (kseq c y Q) s := rfl
theorem vcode_block {id : Nat} {x : Code} : vcode c (.block id x) Q s = vcode c x (kblk id Q) s := rfl
theorem vcode_loop {x : Code} : vcode c (.loop x) Q s = VC c (.loop x) Q s := rfl
theorem vcode_exit {k : Nat} : vcode c (.exit k) Q s = Q (.exit k) s := rfl
theorem vcode_ret : vcode c .ret Q s = Q .ret s := rfl
theorem kq_eq {e : Exit} : kq e Q s = Q e s := rfl
theorem kseq_normal {y : Code} : kseq c y Q .normal s = vcode c y Q s := rfl
theorem kseq_exit {y : Code} {k : Nat} : kseq c y Q (.exit k) s = Q (.exit k) s := rfl
theorem kseq_ret {y : Code} : kseq c y Q .ret s = Q .ret s := rfl
theorem kblk_normal {id : Nat} : kblk id Q .normal s = Q .normal s := rfl
theorem kblk_exit {id k : Nat} : kblk id Q (.exit k) s = if k = id then Q .normal s else Q (.exit k) s := rfl
theorem kblk_ret {id : Nat} : kblk id Q .ret s = Q .ret s := rfl
theorem vlist_nil {ops : Array Oper} {K : St → Prop} : vlist c ops [] K s = K s := rfl
theorem vlist_op {ops : Array Oper} {K : St → Prop} {r : List Oper} {dst : Option Tmp} {op : Op} {ty : Nat} {pos : String} {after : Array Edge} :
    vlist c ops (⟨dst, op, ty, pos, after, none⟩ :: r) K s = vop c false ⟨dst, op, ty, pos, after, none⟩ (vlist c ops r K) s := rfl
theorem vlist_guard {ops : Array Oper} {K : St → Prop} {r : List Oper} {dst : Option Tmp} {op : Op} {ty : Nat} {pos : String} {after : Array Edge} {j : Nat} {want : Bool} :
    vlist c ops (⟨dst, op, ty, pos, after, some (j, want)⟩ :: r) K s = match (ops[j]?).bind (·.dst) with
      | none => False
      | some t => match s.env t with
        | .c (.d (.v (.bool b))) => (b = want → vop c false ⟨dst, op, ty, pos, after, some (j, want)⟩ (vlist c ops r K) s) ∧ ((b = want → False) → kput c.n dst (vlist c ops r K) (.c .und) s)
        | .c .und => kput c.n dst (vlist c ops r K) (.c .und) s
        | _ => False := rfl

theorem guard_yields (h : Run c.m c.n w0 own0 g0 s g a w) {ops : Array Oper} {j t : Nat} (ht : (ops[j]?).bind (·.dst) = some t) :
    (∀ b, s.env t = .c (.d (.v (.bool b))) → yielded ops a.tmps j = some b) ∧ (s.env t = .c .und → yielded ops a.tmps j = none) := by
  have he := h.rel.env t
  refine ⟨fun b hb => ?_, fun hb => ?_⟩
  · rw [hb] at he
    have := relB he
    unfold yielded
    rw [ht]
    simp only [Option.bind_some]
    rw [Array.getD_eq_getD_getElem?] at this
    cases hx : a.tmps[t]? with
    | none => rw [hx] at this; cases this
    | some v => rw [hx] at this; simp at this; rw [this]
  · rw [hb] at he
    have he' : a.tmps.getD t undef = undef := he
    unfold yielded
    rw [ht]
    simp only [Option.bind_some]
    rw [Array.getD_eq_getD_getElem?] at he'
    cases hx : a.tmps[t]? with
    | none => rfl
    | some v => rw [hx] at he'; simp at he'; rw [he']; rfl

theorem vlist_sound (TO : TabOk c.P c.T) {ops : Array Oper} {Q' : Exit → Act → World → Prop} {K : St → Prop} : ∀ {l : List Oper} {s : St} {g : Gh} {a : Act} {w : World}, Run c.m c.n w0 own0 g0 s g a w → vlist c ops l K s →
    (∀ a' w', Goes c w0 own0 g0 K a' w' → Q' .normal a' w') → wpList c.P ops Q' l a w
  | [], s, g, a, w, h, hk, hQ => hQ a w ⟨s, g, hk, h⟩
  | o :: r, s, g, a, w, h, hk, hQ => by
    have step : ∀ {o : Oper}, vop c false o (vlist c ops r K) s → Oper.wp c.P o a w (wpList c.P ops Q' r) Q' := fun hk =>
      Oper.wp_mono (fun a' w' hg => by
        obtain ⟨_, s', g', k1, k2⟩ := hg
        exact vlist_sound TO k2 k1 hQ) (vop_sound TO h hk)
    have skip : kput c.n o.dst (vlist c ops r K) (.c .und) s → wpList c.P ops Q' r (a.put o.dst undef) w := fun hk => by
      obtain ⟨s', g', k1, k2⟩ := kput_goes (v := undef) h (show relAV s g w (.c .und) undef from rfl) hk
      exact vlist_sound TO k2 k1 hQ
    refine wpList_step fun K' hK' => ?_
    unfold vlist at hk
    split at hk
    · rename_i hg
      have hw : Region.wanted o (yielded ops a.tmps) = true := by unfold Region.wanted; rw [hg]
      rw [if_pos hw]
      exact Oper.wp_mono (fun a' w' h => hK' a' w' h) (step hk)
    · rename_i j want hg
      split at hk
      · exact hk.elim
      · rename_i t ht
        obtain ⟨y1, y2⟩ := guard_yields h ht
        split at hk
        · rename_i b hb
          have hw : Region.wanted o (yielded ops a.tmps) = (some b == some want) := by unfold Region.wanted; rw [hg]; simp only; rw [y1 b hb]
          by_cases e : b = want
          · rw [if_pos (by rw [hw]; simp [e])]
            exact Oper.wp_mono (fun a' w' h => hK' a' w' h) (step (hk.1 e))
          · rw [if_neg (by rw [hw]; simpa using e)]
            exact hK' _ _ (skip (hk.2 e))
        · rename_i hb
          have hw : Region.wanted o (yielded ops a.tmps) = ((none : Option Bool) == some want) := by unfold Region.wanted; rw [hg]; simp only; rw [y2 hb]
          rw [if_neg (by rw [hw]; simp)]
          exact hK' _ _ (skip hk)
        · exact hk.elim

theorem Goes.mono {K K' : St → Prop} (h : Goes c w0 own0 g0 K a w) (hk : ∀ s, K s → K' s) : Goes c w0 own0 g0 K' a w := let ⟨s, g, h1, h2⟩ := h; ⟨s, g, hk s h1, h2⟩

theorem vcode_sound (TO : TabOk c.P c.T) : ∀ (code : Code) {Q : Exit → St → Prop} {s : St}, vcode c code Q s → VC c code Q s
  | .skip, Q, s, h => fun w0 own0 g0 g a w hr => wp_skip ⟨s, g, h, hr⟩
  | .region id ops draw, Q, s, h => fun w0 own0 g0 g a w hr => by
    cases draw with
    | false => exact wp_region_list (vlist_sound TO hr h fun a' w' hg => hg)
    | true =>
      exact Code.wp_mono (fun e a' w' hh => by obtain ⟨rfl, hh⟩ := hh; exact hh) (h w0 own0 g0 g a w hr id)
  | .seq x y, Q, s, h => fun w0 own0 g0 g a w hr => wp_seq (Code.wp_mono (fun e a' w' hg => by
      obtain ⟨s', g', k1, k2⟩ := hg
      cases e with
      | normal => exact vcode_sound TO y k1 w0 own0 g0 g' a' w' k2
      | _ => exact ⟨s', g', k1, k2⟩) (vcode_sound TO x h w0 own0 g0 g a w hr))
  | .cond x y z, Q, s, h => fun w0 own0 g0 g a w hr => by
    unfold vcode at h
    split at h
    · rename_i b hb
      have hx := hr.rel.ev x
      rw [hb] at hx
      exact wp_cond_split (relB hx) (fun e => vcode_sound TO y (h.1 e) w0 own0 g0 g a w hr) (fun e => vcode_sound TO z (h.2 e) w0 own0 g0 g a w hr)
    · exact h.elim
  | .block id x, Q, s, h => fun w0 own0 g0 g a w hr => wp_block (Code.wp_mono (fun e a' w' hg => by
      obtain ⟨s', g', k1, k2⟩ := hg
      cases e with
      | exit k =>
        by_cases e : k = id
        · subst e
          simp only [if_true] at k1
          simp only [Exit.inBlock, if_true]
          exact ⟨s', g', k1, k2⟩
        · simp only [if_neg e] at k1
          simp only [Exit.inBlock, if_neg e]
          exact ⟨s', g', k1, k2⟩
      | _ => exact ⟨s', g', k1, k2⟩) (vcode_sound TO x h w0 own0 g0 g a w hr))
  | .loop x, Q, s, h => h
  | .exit k, Q, s, h => fun w0 own0 g0 g a w hr => wp_exit ⟨s, g, h, hr⟩
  | .ret, Q, s, h => fun w0 own0 g0 g a w hr => wp_ret ⟨s, g, h, hr⟩
  | .rangeFunc _ _ _ _, _, _, h => h.elim
  | .scope _, _, _, h => h.elim
  | .label _, _, _, h => h.elim
  | .goto _, _, _, h => h.elim
  | .refuse _, _, _, h => h.elim

/-! ### to know less; a loop -/
structure St.le (s s1 : St) : Prop where
  env : ∀ j, s1.env j = s.env j ∨ s1.env j = .c .no
  rows : ∀ t, s1.rows t = s.rows t ∨ s1.rows t = none
  vars : ∀ t, s1.vars t = s.vars t ∨ s1.vars t = none
  gl : ∀ k, s1.gl k = s.gl k ∨ s1.gl k = none
theorem Run.le {s1 : St} (h : Run c.m c.n w0 own0 g0 s g a w) (hl : s.le s1) : Run c.m c.n w0 own0 g0 s1 g a w := by
  have hr : ∀ t r, s1.rows t = some r → s.rows t = some r := fun t r ht => by rcases hl.rows t with e | e <;> rw [e] at ht <;> first | exact ht | cases ht
  have hv : ∀ t r, s1.vars t = some r → s.vars t = some r := fun t r ht => by rcases hl.vars t with e | e <;> rw [e] at ht <;> first | exact ht | cases ht
  have hm : Moves s s1 g g w w := ⟨fun _ h => h, fun _ _ => rfl, fun t ht => by
      obtain ⟨r, hr'⟩ := Option.isSome_iff_exists.1 ht
      exact ⟨by rw [hr t r hr']; rfl, rfl, fun _ _ => rfl⟩, fun t ht => by
      obtain ⟨c, hc⟩ := Option.isSome_iff_exists.1 ht
      exact ⟨by rw [hv t c hc]; rfl, rfl⟩⟩
  refine ⟨h.rel.restrict h.rel.defers hr hv (fun k cs hk => by rcases hl.gl k with e | e <;> rw [e] at hk <;> first | exact hk | cases hk) (fun j => ?_), h.tmps, h.ga, h.F, h.F'⟩
  rcases hl.env j with e | e
  · rw [e]; exact (h.rel.env j).move hm
  · rw [e]; trivial
theorem VC.weaken {code : Code} {s1 : St} (hl : s.le s1) (h : VC c code Q s1) : VC c code Q s := fun w0 own0 g0 g a w hr => h w0 own0 g0 g a w (hr.le hl)
theorem VC.mono {code : Code} {Q' : Exit → St → Prop} (hQ : ∀ e s, Q e s → Q' e s) (h : VC c code Q s) : VC c code Q' s := fun w0 own0 g0 g a w hr => Code.wp_mono (fun e a' w' hg => hg.mono (hQ e)) (h w0 own0 g0 g a w hr)
/-- A loop, by a family of states and a measure. -/
theorem VC.loop {x : Code} {σ : Type} (st : σ → St) (μ : σ → Nat) (i : σ) (hi : s.le (st i))
    (h : ∀ i, VC c x (fun e s' => match e with | .normal => ∃ j, s'.le (st j) ∧ μ j < μ i | e => Q e s') (st i)) : VC c (.loop x) Q s := by
  intro w0 own0 g0 g a w hr
  classical
  let I : Act → World → Prop := fun a w => ∃ i g, Run c.m c.n w0 own0 g0 (st i) g a w
  let R : Act → World → Nat → Prop := fun a w k => ∃ i g, Run c.m c.n w0 own0 g0 (st i) g a w ∧ μ i = k
  have least : ∀ a w, I a w → ∃ k, R a w k ∧ ∀ k', R a w k' → k ≤ k' := by
    intro a w ⟨i, g, hi⟩
    have : ∀ n, (∃ k, R a w k ∧ k ≤ n) → ∃ k, R a w k ∧ ∀ k', R a w k' → k ≤ k' := by
      intro n
      induction n with
      | zero =>
        intro ⟨k, hk, h0⟩
        have : k = 0 := by omega
        subst this
        exact ⟨0, hk, fun _ _ => Nat.zero_le _⟩
      | succ n ih =>
        intro ⟨k, hk, hkn⟩
        by_cases hex : ∃ k', R a w k' ∧ k' < k
        · obtain ⟨k', h1, h2⟩ := hex
          exact ih ⟨k', h1, by omega⟩
        · exact ⟨k, hk, fun k' hk' => Nat.le_of_not_lt fun hlt => hex ⟨k', hk', hlt⟩⟩
    exact this (μ i) ⟨μ i, ⟨i, g, hi, rfl⟩, Nat.le_refl _⟩
  let M : Act → World → Nat := fun a w => if hI : I a w then Classical.choose (least a w hI) else 0
  refine wp_loop I M ⟨i, g, hr.le hi⟩ fun a1 w1 hI => ?_
  have hM : M a1 w1 = Classical.choose (least a1 w1 hI) := dif_pos hI
  obtain ⟨hR, _⟩ := Classical.choose_spec (least a1 w1 hI)
  obtain ⟨j, g1, hj, hμ⟩ := hR
  refine Code.wp_mono (fun e a' w' hg => ?_) (h j w0 own0 g0 g1 a1 w1 hj)
  obtain ⟨s', g', k1, k2⟩ := hg
  cases e with
  | normal =>
    obtain ⟨j', h1, h2⟩ := k1
    have hI' : I a' w' := ⟨j', g', k2.le h1⟩
    refine ⟨hI', ?_⟩
    have hM' : M a' w' = Classical.choose (least a' w' hI') := dif_pos hI'
    obtain ⟨_, hmin⟩ := Classical.choose_spec (least a' w' hI')
    have := hmin (μ j') ⟨j', g', k2.le h1, rfl⟩
    rw [hM, hM', ← hμ]
    omega
  | _ => exact ⟨s', g', k1, k2⟩
end
end GV

set_option linter.unusedSimpArgs false
set_option linter.unusedVariables false
namespace GV
open Go

def vres (j : Nat) (x : AV) (i : In) (s : St) (K : AV → (C → C) → St → Prop) : Prop :=
  match i with
  | .c _ => match x with
    | .c c => frz c s fun d f s' => K (.c (.d d)) f s'
    | _ => False
  | .ag _ => match x with
    | .ag cs => frzL cs id s fun ds f s' => K (.ag (ds.map .d)) f s'
    | _ => False
  | .rr _ => match x with
    | .c c => norm (500 + j) c s fun c' f s' => K (.c c') f s'
    | _ => False
  | .ra _ => match x with
    | .ag cs => normL (1000 * (501 + j)) cs id s fun cs' f s' => K (.ag cs') f s'
    | _ => False
  | _ => False
def vfins : Nat → List AV → List In → List AV → St → (List AV → St → Prop) → Prop
  | _, [], [], done, s, K => K done s
  | j, x :: xs, i :: is, done, s, K => vres j x i s fun y f s' => vfins (j + 1) (xs.map (AV.map f)) is (done.map (AV.map f) ++ [y]) s' K
  | _, _, _, _, _, _ => False
def resEq (s : St) (j : Nat) (y : AV) : In → Prop
  | .c d => y = .c (.d d)
  | .ag l => y = .ag (l.map .d)
  | .rr r => y = .c (.own (500 + j)) ∧ s.rows (500 + j) = some r
  | .ra l => y = .ag (icC (1000 * (501 + j)) l) ∧ rowsOk s (1000 * (501 + j)) l
  | _ => False
def resEqs (s : St) : Nat → List AV → List In → Prop
  | _, [], [] => True
  | j, y :: ys, i :: is => resEq s j y i ∧ resEqs s (j + 1) ys is
  | _, _, _ => False
def refOk (s : St) (j : Nat) : In → Prop
  | .rv l => s.vars j = some (icC (1000 * (j + 1)) l) ∧ rowsOk s (1000 * (j + 1)) l
  | .rr r => s.rows j = some r
  | .ra _ => False
  | _ => True
def refsOk (s : St) : Nat → List In → Prop
  | _, [] => True
  | j, i :: is => refOk s j i ∧ refsOk s (j + 1) is
/-- The results, read off the temporaries and the variables that bear them. -/
def rvs (T : Tab) (s : St) : List ResultVar → (List AV → Prop) → Prop
  | [], K => K []
  | .tmp t :: r, K => rvs T s r fun l => K (s.env t :: l)
  | .cell a ty :: r, K => vload T ty (s.env a) s fun x => rvs T s r fun l => K (x :: l)
/-- At the end of a body: the results lie in rs. -/
def vfin (T : Tab) (gl : Nat → Option (List D)) (rs : List ResultVar) (o : Out) (s : St) : Prop :=
  rvs T s rs fun xs => vfins 0 xs o.res [] s fun ys s' => resEqs s' 0 ys o.res ∧ refsOk s' 0 o.refs ∧ s'.gl = gl
def vpost (T : Tab) (gl : Nat → Option (List D)) (rs : List ResultVar) (o : Out) (e : Exit) (s : St) : Prop :=
  match e with
  | .normal => vfin T gl rs o s
  | .ret => vfin T gl rs o s
  | _ => False
/-- At the end of a body: the results are one of Post. -/
def vfinP (T : Tab) (gl : Nat → Option (List D)) (rs : List ResultVar) (Post : Out → Prop) (s : St) : Prop := ∃ o, Post o ∧ vfin T gl rs o s
def vpostP (T : Tab) (gl : Nat → Option (List D)) (rs : List ResultVar) (Post : Out → Prop) (e : Exit) (s : St) : Prop :=
  match e with
  | .normal => vfinP T gl rs Post s
  | .ret => vfinP T gl rs Post s
  | _ => False
theorem vpostP_normal {T : Tab} {gl : Nat → Option (List D)} {rs : List ResultVar} {Post : Out → Prop} {s : St} : vpostP T gl rs Post .normal s = vfinP T gl rs Post s := rfl
theorem vpostP_ret {T : Tab} {gl : Nat → Option (List D)} {rs : List ResultVar} {Post : Out → Prop} {s : St} : vpostP T gl rs Post .ret s = vfinP T gl rs Post s := rfl
theorem vfinP_by {T : Tab} {gl : Nat → Option (List D)} {rs : List ResultVar} {Post : Out → Prop} {s : St} (o : Out) (h : Post o) (hk : vfin T gl rs o s) : vfinP T gl rs Post s := ⟨o, h, hk⟩
theorem vpost_normal {T : Tab} {gl : Nat → Option (List D)} {rs : List ResultVar} {o : Out} {s : St} : vpost T gl rs o .normal s = vfin T gl rs o s := rfl
theorem vpost_ret {T : Tab} {gl : Nat → Option (List D)} {rs : List ResultVar} {o : Out} {s : St} : vpost T gl rs o .ret s = vfin T gl rs o s := rfl

section
variable {P : Program} {T : Tab} {m n : Nat} {w0 : World} {own0 : Nat → Prop} {g0 : Gh} {s : St} {g : Gh} {a : Act} {w : World}

def relAVs (s : St) (g : Gh) (w : World) : List AV → List Value → Prop
  | [], [] => True
  | x :: xs, v :: vs => relAV s g w x v ∧ relAVs s g w xs vs
  | _, _ => False
theorem relAVs.map {s s' : St} {g g' : Gh} {f : C → C} (hf : ∀ c v, relC s g w c v → relC s' g' w (f c) v) : ∀ {xs : List AV} {vs : List Value}, relAVs s g w xs vs → relAVs s' g' w (xs.map (AV.map f)) vs
  | [], [], _ => trivial
  | _ :: _, _ :: _, h => ⟨h.1.map hf, relAVs.map hf h.2⟩
theorem relAVs.append : ∀ {xs ys : List AV} {vs us : List Value}, relAVs s g w xs vs → relAVs s g w ys us → relAVs s g w (xs ++ ys) (vs ++ us)
  | [], _, [], _, _, h => h
  | _ :: _, _, _ :: _, _, h, k => ⟨h.1, relAVs.append h.2 k⟩
theorem relAVs.len : ∀ {xs : List AV} {vs : List Value}, relAVs s g w xs vs → vs.length = xs.length
  | [], [], _ => rfl
  | _ :: _, _ :: _, h => by simp [relAVs.len h.2]
theorem relAVs.at : ∀ {xs : List AV} {vs : List Value} {k : Nat} {x : AV}, relAVs s g w xs vs → xs[k]? = some x → relAV s g w x (vs.getD k undef)
  | _ :: _, _ :: _, 0, x, h, hk => by simp at hk; subst hk; exact h.1
  | _ :: xs, _ :: vs, k + 1, x, h, hk => by have := relAVs.at (k := k) h.2 (by simpa using hk); simpa using this

theorem vres_sound {j : Nat} {x : AV} {v : Value} {i : In} {K : AV → (C → C) → St → Prop} (h : Rel w0 own0 s g a w) (hx : relAV s g w x v) (hk : vres j x i s K) :
    ∃ y f s' g', K y f s' ∧ Ghost w0 own0 s s' g g' a w f ∧ relAV s' g' w y v := by
  unfold vres at hk
  split at hk
  · split at hk
    · obtain ⟨d, f, s', g', h1, h2, h3, _⟩ := frz_sound h (by exact hx) hk
      exact ⟨_, f, s', g', h1, h2, h3⟩
    · exact hk.elim
  · split at hk
    · obtain ⟨arr, rfl, h0⟩ := hx
      obtain ⟨d, f, s', g', h1, h2, h3, _⟩ := frzL_sound _ (f := id) h (by simpa using h0.toL) hk
      exact ⟨_, f, s', g', h1, h2, ⟨arr, rfl, by simpa using (h3.toL (s := s')).toCs⟩⟩
    · exact hk.elim
  · split at hk
    · obtain ⟨d, f, s', g', h1, h2, h3, _⟩ := norm_sound h (by exact hx) hk
      exact ⟨_, f, s', g', h1, h2, h3⟩
    · exact hk.elim
  · split at hk
    · obtain ⟨arr, rfl, h0⟩ := hx
      obtain ⟨d, f, s', g', h1, h2, h3, _⟩ := normL_sound _ (f := id) h (by simpa using h0.toL) hk
      exact ⟨_, f, s', g', h1, h2, ⟨arr, rfl, by simpa using h3.toCs⟩⟩
    · exact hk.elim
  · exact hk.elim

theorem vfins_sound : ∀ {xs : List AV} {is : List In} {j : Nat} {done : List AV} {s : St} {g : Gh} {vs us : List Value} {K : List AV → St → Prop}, Run m n w0 own0 g0 s g a w → relAVs s g w xs vs → relAVs s g w done us → vfins j xs is done s K →
    ∃ ys s' g', K ys s' ∧ Run m n w0 own0 g0 s' g' a w ∧ relAVs s' g' w ys (us ++ vs)
  | [], [], j, done, s, g, [], us, K, h, _, hd, hk => ⟨_, _, g, hk, h, by simpa using hd⟩
  | x :: xs, i :: is, j, done, s, g, v :: vs, us, K, h, hx, hd, hk => by
    obtain ⟨y, f, s', g', h1, h2, h3⟩ := vres_sound h.rel hx.1 hk
    obtain ⟨ys, s2, g2, k1, k2, k3⟩ := vfins_sound (us := us ++ [v]) (h.ghost h2) (hx.2.map h2.map) ((hd.map h2.map).append (ys := [y]) (us := [v]) ⟨h3, trivial⟩) h1
    exact ⟨ys, s2, g2, k1, k2, by simpa using k3⟩

theorem resEqs_at : ∀ {ys : List AV} {is : List In} {j : Nat}, resEqs s j ys is → ys.length = is.length ∧ ∀ k i, is[k]? = some i → ∃ y, ys[k]? = some y ∧ resEq s (j + k) y i
  | [], [], _, _ => ⟨rfl, fun k i h => by simp at h⟩
  | x :: xs, i :: is, j, h => by
    obtain ⟨h1, h2⟩ := resEqs_at (j := j + 1) h.2
    refine ⟨by simp [h1], fun k i' hk => ?_⟩
    cases k with
    | zero => simp at hk; subst hk; exact ⟨x, rfl, h.1⟩
    | succ k =>
      obtain ⟨x', h3, h4⟩ := h2 k i' (by simpa using hk)
      exact ⟨x', by simpa using h3, by rw [show j + (k + 1) = j + 1 + k by omega]; exact h4⟩
  | [], _ :: _, _, h => h.elim
  | _ :: _, [], _, h => by simp [resEqs] at h
theorem refsOk_at : ∀ {is : List In} {j : Nat}, refsOk s j is → ∀ k i, is[k]? = some i → refOk s (j + k) i
  | i :: is, j, h, 0, i', hk => by simp at hk; subst hk; exact h.1
  | i :: is, j, h, k + 1, i', hk => by have := refsOk_at h.2 k i' (by simpa using hk); rw [show j + (k + 1) = j + 1 + k by omega]; exact this

theorem fin_rel {o : Out} {gl : Nat → Option (List D)} {ys : List AV} {vs : List Value} (h : Rel w0 own0 s g a w) (hy : relAVs s g w ys vs) (h1 : resEqs s 0 ys o.res) (h2 : refsOk s 0 o.refs) (h3 : s.gl = gl) : Rel w0 own0 (finSt gl o) g ⟨vs.toArray, []⟩ w := by
  obtain ⟨hl, hat⟩ := resEqs_at h1
  have hrf := refsOk_at h2
  simp only [Nat.zero_add] at hat hrf
  have hr : ∀ t r, (finSt gl o).rows t = some r → s.rows t = some r := by
    intro t r ht
    simp only [finSt, tRow, tOut] at ht
    split at ht
    · split at ht
      · rename_i hlt r' hr
        cases ht
        split at hr
        · exact hrf t _ hr
        · obtain ⟨y, _, hok⟩ := hat _ _ hr
          have := hok.2
          rwa [show 500 + (t - 500) = t by omega] at this
      · cases ht
    · rename_i hge
      split at ht
      · rename_i l hr
        split at hr
        · have := (hrf _ _ hr).2
          unfold rowIn at ht
          split at ht
          · rename_i row hrow
            cases ht
            have := rowsOk_at this hrow
            rwa [show 1000 * (t / 1000 - 1 + 1) + t % 1000 = t by omega] at this
          · cases ht
        · obtain ⟨y, _, hok⟩ := hat _ _ hr
          exact hok.elim
      · rename_i l hr
        split at hr
        · exact (hrf _ _ hr).elim
        · obtain ⟨y, _, hok⟩ := hat _ _ hr
          unfold rowIn at ht
          split at ht
          · rename_i row hrow
            cases ht
            have := rowsOk_at hok.2 hrow
            rwa [show 1000 * (501 + (t / 1000 - 1 - 500)) + t % 1000 = t by omega] at this
          · cases ht
      · cases ht
  have hv : ∀ t c, (finSt gl o).vars t = some c → s.vars t = some c := by
    intro t c ht
    simp only [finSt, tVar, tOut] at ht
    split at ht
    · rename_i l hr
      cases ht
      split at hr
      · exact (hrf t _ hr).1
      · obtain ⟨y, _, hok⟩ := hat _ _ hr
        exact hok.elim
    · cases ht
  refine h.restrict rfl hr hv (fun k cs hk => by rw [h3]; exact hk) (fun j => ?_)
  show relAV (finSt gl o) g w (inAV (500 + j) (o.res[j]?)) (vs.toArray.getD j undef)
  have hgd : vs.toArray.getD j undef = vs.getD j undef := by simp [Array.getD_eq_getD_getElem?, List.getD_eq_getElem?_getD]
  rw [hgd]
  have hm : Moves s (finSt gl o) g g w w := ⟨fun _ h => h, fun _ _ => rfl, fun t ht => by
      obtain ⟨r, hr'⟩ := Option.isSome_iff_exists.1 ht
      exact ⟨by rw [hr t r hr']; rfl, rfl, fun _ _ => rfl⟩, fun t ht => by
      obtain ⟨c, hc⟩ := Option.isSome_iff_exists.1 ht
      exact ⟨by rw [hv t c hc]; rfl, rfl⟩⟩
  cases hi : o.res[j]? with
  | none =>
    have : o.res.length ≤ j := List.getElem?_eq_none_iff.1 hi
    have hl2 := hy.len
    show vs.getD j undef = undef
    rw [List.getD_eq_getElem?_getD, List.getElem?_eq_none (by omega)]; rfl
  | some i =>
    obtain ⟨y, hyj, hok⟩ := hat j i hi
    have hrel := (hy.at hyj).move hm
    cases i with
    | c d => rw [show y = _ from hok] at hrel; exact hrel
    | ag l => rw [show y = _ from hok] at hrel; exact hrel
    | er l => exact hok.elim
    | rv l => exact hok.elim
    | rr r => rw [hok.1] at hrel; exact hrel
    | ra l => rw [hok.1] at hrel; simpa [inAV, Nat.add_comm, Nat.add_left_comm, Nat.add_assoc] using hrel

def rvRun (tmps : Array Value) : ResultVar → Sem Value
  | .tmp t => pure (tmps.getD t undef)
  | .cell a t => do loadVar t (← asAddr (tmps.getD a undef))
def rvsRun (P : Program) (tmps : Array Value) (w : World) : List ResultVar → List Value → Prop
  | [], [] => True
  | r :: rs, v :: vs => (rvRun tmps r).run P w = .ok v w ∧ rvsRun P tmps w rs vs
  | _, _ => False
theorem results_run {fn : Func} {rs : List ResultVar} (hr : fn.results = rs.toArray) (hl : rs.length ≤ 4) (tmps : Array Value) (w : World) {vs : List Value} (h : rvsRun P tmps w rs vs) :
    (results fn tmps).run P w = .ok (retV vs.toArray) w := by
  have e : results fn tmps = (do let vs ← fn.results.mapM (rvRun tmps); pure (if h : vs.size = 1 then vs[0] else .tuple vs)) := by
    unfold results
    first | rfl | (congr 1; done) | (congr 1; congr 1; done) | (congr 1; congr 1; funext r; cases r <;> rfl)
  rw [e, hr]
  match rs, vs, hl, h with
  | [], [], _, _ => simp [retV]
  | [a], [v], _, h => obtain ⟨h1, _⟩ := h; simp [retV, h1]
  | [a, b], [v, u], _, h => obtain ⟨h1, h2, _⟩ := h; simp [retV, h1, h2]
  | [a, b, c], [v, u, x], _, h => obtain ⟨h1, h2, h3, _⟩ := h; simp [retV, h1, h2, h3]
  | [a, b, c, d], [v, u, x, y], _, h => obtain ⟨h1, h2, h3, h4, _⟩ := h; simp [retV, h1, h2, h3, h4]
theorem rvs_sound (TO : TabOk P T) (h : Rel w0 own0 s g a w) : ∀ {rs : List ResultVar} {K : List AV → Prop}, rvs T s rs K → ∃ xs vs, K xs ∧ relAVs s g w xs vs ∧ rvsRun P a.tmps w rs vs
  | [], K, hk => ⟨[], [], hk, trivial, trivial⟩
  | .tmp t :: r, K, hk => by
    have hk' : rvs T s r fun l => K (s.env t :: l) := hk
    obtain ⟨xs, vs, h1, h2, h3⟩ := rvs_sound TO h hk'
    exact ⟨_, a.tmps.getD t undef :: vs, h1, ⟨h.env t, h2⟩, rfl, h3⟩
  | .cell b ty :: r, K, hk => by
    have hk' : vload T ty (s.env b) s fun x => rvs T s r fun l => K (x :: l) := hk
    obtain ⟨y, u, h1, h2, h3⟩ := vload_sound TO h (h.env b) hk'
    obtain ⟨xs, vs, k1, k2, k3⟩ := rvs_sound TO h h2
    refine ⟨_, u :: vs, k1, ⟨h3, k2⟩, ?_, k3⟩
    have := h1 w (fun _ _ => rfl)
    show (do loadVar ty (← asAddr (a.tmps.getD b undef)) : Sem Value).run P w = _
    revert this
    generalize a.tmps.getD b undef = v
    intro this
    cases v with
    | pointer x =>
      cases x with
      | some x => simpa [asAddr, Instr.loadAt, Instr.sureAddr] using this
      | none => simp [Instr.loadAt, Instr.sureAddr] at this
    | _ => simp [Instr.loadAt, Instr.sureAddr] at this

/-- A FUNCTION MEETS ITS CONTRACT. -/
theorem callP_of {f : FuncId} {fn : Func} {code : Code} {gl : Nat → Option (List D)} {ins : List In} {Post : Out → Prop} (rs : List ResultVar) (TO : TabOk P T) (hf : P.funcs[f]? = some fn) (hname : (fn.name == "runtime.NumGoroutine") = false) (hb : fn.body = some code)
    (hr : fn.results = rs.toArray) (hl : rs.length ≤ 4) (hn : ins.length ≤ fn.ntmps)
    (h : VC ⟨P, T, ins.length, fn.ntmps⟩ code (vpostP T gl rs Post) (initSt gl ins)) : CallP P gl f ins Post := by
  refine ⟨fun args w => ?_, fun w own0 g args hsz hrel => ?_⟩
  · have h1 : fn.name ≠ "runtime.NumGoroutine" := by simpa using hname
    simp [callFunc, hf, h1, hb]
  · refine calls_of_wp hf hb ?_
    have hget : ∀ j, (args ++ Array.replicate (fn.ntmps - args.size) undef).getD j undef = args.getD j undef := by
      intro j
      rw [Array.getD_eq_getD_getElem?, Array.getD_eq_getD_getElem?, Array.getElem?_append]
      split
      · rfl
      · rename_i hj
        rw [Array.getElem?_eq_none (xs := args) (by omega), Array.getElem?_replicate]
        split <;> rfl
    have hrun : Run ins.length fn.ntmps w own0 g (initSt gl ins) g ⟨args ++ Array.replicate (fn.ntmps - args.size) undef, []⟩ w := by
      refine ⟨⟨rfl, hrel.os, hrel.tape, hrel.output, hrel.size, hrel.frame, hrel.lt, hrel.rows, hrel.vars, hrel.rowF, hrel.varF, hrel.rr, hrel.vv, hrel.rv, fun j => ?_, hrel.glob⟩, by simp; omega, fun _ _ => rfl, fun _ h => h, fun _ h => .inl h⟩
      show relAV _ _ _ _ ((args ++ Array.replicate (fn.ntmps - args.size) undef).getD j undef)
      rw [hget j]; exact hrel.env j
    have fin : ∀ (s : St) (g' : Gh) (a' : Act) (w' : World), vfinP T gl rs Post s → Run ins.length fn.ntmps w own0 g s g' a' w' → a'.defers = [] ∧ ∃ v, (results fn a'.tmps).run P w' = .ok v w' ∧ ∃ o, Post o ∧ ∃ vals g', Ending.returned v = .returned (retV vals) ∧ vals.size = o.res.length ∧ Rel w own0 (finSt gl o) g' ⟨vals, []⟩ w' ∧
      (∀ j, j < ins.length → g'.ga j = g.ga j) ∧ (∀ b, g.F b → g'.F b) ∧ ∀ b, g'.F b → g.F b ∨ own0 b ∨ w.heap.size ≤ b := by
      intro s g' a' w' ⟨o, hpost, hv⟩ hrn
      obtain ⟨xs, vs, hv, hx, hrr⟩ := rvs_sound TO hrn.rel hv
      refine ⟨hrn.rel.defers, _, results_run hr hl a'.tmps w' hrr, ?_⟩
      obtain ⟨ys, s2, g2, k1, k2, k3⟩ := vfins_sound (us := []) hrn hx (show relAVs s g' w' [] [] from trivial) hv
      obtain ⟨e1, e2, e3⟩ := k1
      rw [List.nil_append] at k3
      refine ⟨o, hpost, _, g2, rfl, ?_, fin_rel k2.rel k3 e1 e2 e3, k2.ga, k2.F, k2.F'⟩
      have := (resEqs_at e1).1
      have hl3 := k3.len
      simp at hl3 ⊢
      omega
    refine Code.wp_mono (fun e a' w' hg => ?_) (h w own0 g g _ w hrun)
    obtain ⟨s, g', k1, k2⟩ := hg
    cases e with
    | normal => exact fin s g' a' w' k1 k2
    | ret => exact fin s g' a' w' k1 k2
    | _ => exact k1.elim
theorem callOk_of {f : FuncId} {fn : Func} {code : Code} {gl : Nat → Option (List D)} {ins : List In} {o : Out} (rs : List ResultVar) (TO : TabOk P T) (hf : P.funcs[f]? = some fn) (hname : (fn.name == "runtime.NumGoroutine") = false) (hb : fn.body = some code)
    (hr : fn.results = rs.toArray) (hl : rs.length ≤ 4) (hn : ins.length ≤ fn.ntmps)
    (h : VC ⟨P, T, ins.length, fn.ntmps⟩ code (vpost T gl rs o) (initSt gl ins)) : CallOk P gl f ins o :=
  callP_of rs TO hf hname hb hr hl hn (h.mono fun e s hk => by cases e <;> first | exact ⟨o, rfl, hk⟩ | exact hk.elim)
end
end GV

set_option linter.unusedSimpArgs false
set_option linter.unusedVariables false
namespace GV
open Go

def zB : C → Value → Bool
  | .d (.v (.int k n)), .int k' n' => k == k' && n == n'
  | .d (.v (.bool b)), .bool b' => b == b'
  | .d (.v (.string b)), .string b' => b.data.toList == b'.data.toList
  | .nil _ _, .slice none 0 0 => true
  | _, _ => false
def zsB : List C → List Value → Bool
  | [], [] => true
  | c :: cs, v :: vs => zB c v && zsB cs vs
  | _, _ => false
def fldB (P : Program) : List (Nat × Nat × Bool) → List Field → Bool
  | [], [] => true
  | p :: ps, f :: fs => f.offset == p.1 && (match P.info? f.type, P.underlying f.type with
      | some i, some d => i.size == p.2.1 && Nat.blt 0 p.2.1 && aggD d == p.2.2
      | _, _ => false) && fldB P ps fs
  | _, _ => false
def tdB (P : Program) (t : Nat) : TD → Bool
  | .int k => match P.underlying t with | some (.int k') => k == k' | _ => false
  | .bool => match P.underlying t with | some .bool => true | _ => false
  | .str => match P.underlying t with | some .string => true | _ => false
  | .sl e => match P.underlying t with | some (.slice e') => e == e' | _ => false
  | .st fs => match P.underlying t with | some (.struct fields) => fldB P fs fields.toList | _ => false
  | .arr n e => match P.underlying t with | some (.array n' e') => n == n' && e == e' | _ => false
  | .oth => match P.underlying t with | some d => !aggD d | _ => false
def eqFB (P : Program) : Nat → List Field → List IntKind → Bool
  | _, [], [] => true
  | o, f :: fs, _ :: ks => f.name != "_" && f.offset == o && (match P.underlying f.type with | some (.int _) => true | _ => false) && eqFB P (o + 1) fs ks
  | _, _, _ => false
def eqB (P : Program) (t : Nat) : Option (List IntKind) → Bool
  | none => true
  | some ks => (match P.underlying t with | some (.struct fields) => eqFB P 0 fields.toList ks | _ => false) && !P.stoodInHeld t && !P.eqGuardType P.depth t
def okB (P : Program) (p : Nat × TI) : Bool :=
  (match P.info? p.1 with
    | some f => f.size == p.2.size && f.bytes == p.2.bytes && (match f.zero with
      | some z => z.cells.size == p.2.size && p.2.zc.length == p.2.size && zsB p.2.zc z.cells.toList
      | none => false)
    | none => false) && tdB P p.1 p.2.td && eqB P p.1 p.2.eq

section
variable {P : Program}
theorem zB_ok {c : C} {v : Value} (h : zB c v = true) : zOk c v := by
  unfold zB at h
  split at h
  · simp at h; obtain ⟨rfl, rfl⟩ := h; exact ⟨rfl, rfl⟩
  · simp at h; subst h; exact ⟨rfl, rfl⟩
  · simp at h
    rename_i b b'
    have : b = b' := by
      cases b; cases b'; simp at h; simp [h]
    subst this; exact ⟨rfl, rfl⟩
  · exact rfl
  · cases h
theorem zsB_ok : ∀ {cs : List C} {vs : List Value}, zsB cs vs = true → ∀ j, j < cs.length → zOk (cs.getD j .no) (vs.getD j undef)
  | c :: cs, v :: vs, h, 0, _ => by simp [zsB] at h; exact zB_ok h.1
  | c :: cs, v :: vs, h, j + 1, hj => by simp [zsB] at h; simpa using zsB_ok h.2 j (by simpa using hj)
theorem fldB_ok : ∀ {ps : List (Nat × Nat × Bool)} {fs : List Field}, fldB P ps fs = true → fs.length = ps.length ∧ ∀ (k : Nat) (p : Nat × Nat × Bool), ps[k]? = some p → ∃ (f : Field) (i : TypeInfo) (d : TypeDesc), fs[k]? = some f ∧ f.offset = p.1 ∧ P.info? f.type = some i ∧ i.size = p.2.1 ∧ 0 < p.2.1 ∧ P.underlying f.type = some d ∧ aggD d = p.2.2
  | [], [], _ => ⟨rfl, fun k p h => by simp at h⟩
  | [], _ :: _, h => by simp [fldB] at h
  | _ :: _, [], h => by simp [fldB] at h
  | p :: ps, f :: fs, h => by
    simp only [fldB, Bool.and_eq_true] at h
    obtain ⟨⟨h1, h2⟩, h3⟩ := h
    obtain ⟨h4, h5⟩ := fldB_ok h3
    refine ⟨by simp [h4], fun k q hq => ?_⟩
    cases k with
    | zero =>
      simp at hq; subst hq
      split at h2
      · rename_i i d hi hd
        simp only [Bool.and_eq_true, beq_iff_eq] at h2
        exact ⟨f, i, d, rfl, by simpa using h1, hi, h2.1.1, by have := h2.1.2; simpa [Nat.blt_eq] using this, hd, h2.2⟩
      · cases h2
    | succ k =>
      obtain ⟨f', i, d, e⟩ := h5 k q (by simpa using hq)
      exact ⟨f', i, d, by simpa using e⟩
theorem tdB_ok {t : Nat} {td : TD} (h : tdB P t td = true) : TDok P t td := by
  cases td <;> simp only [tdB] at h <;> split at h <;> try (cases h; done)
  · rename_i hu; simp at h; subst h; exact hu
  · rename_i hu; exact hu
  · rename_i hu; exact hu
  · rename_i hu; simp at h; subst h; exact hu
  · rename_i fields hu
    obtain ⟨h1, h2⟩ := fldB_ok h
    refine ⟨fields, hu, by simpa using h1, fun k p hp => ?_⟩
    obtain ⟨f, i, d, e1, e2⟩ := h2 k p hp
    exact ⟨f, i, d, by simpa using e1, e2⟩
  · rename_i hu; simp at h; obtain ⟨rfl, rfl⟩ := h; exact hu
  · rename_i d hu; exact ⟨d, hu, by simpa using h⟩

theorem eqFB_ok (d : Nat) (xs0 ys0 : Array Value) (w : World) : ∀ {fs : List Field} {ks : List IntKind} {o : Nat} {xs ys : List Int}, eqFB P o fs ks = true → xs.length = ks.length → ys.length = ks.length →
    (∀ j, j < ks.length → xs0[o + j]? = (intsOf ks xs)[j]? ∧ ys0[o + j]? = (intsOf ks ys)[j]?) → (Op.eqFields (d + 1) xs0 ys0 fs).run P w = .ok (decide (xs = ys)) w
  | [], [], o, [], [], _, _, _, _ => by simp [Op.eqFields]
  | [], [], o, _ :: _, _, _, h, _, _ => by simp at h
  | [], [], o, [], _ :: _, _, _, h, _ => by simp at h
  | [], _ :: _, o, _, _, h, _, _, _ => by simp [eqFB] at h
  | _ :: _, [], o, _, _, h, _, _, _ => by simp [eqFB] at h
  | f :: fs, k :: ks, o, [], _, _, h, _, _ => by simp at h
  | f :: fs, k :: ks, o, _ :: _, [], _, _, h, _ => by simp at h
  | f :: fs, k :: ks, o, x :: xs, y :: ys, h, h1, h2, hc => by
    simp only [eqFB, Bool.and_eq_true] at h
    obtain ⟨⟨⟨e1, e2⟩, e3⟩, e4⟩ := h
    split at e3
    · rename_i k' hu
      have e1' : f.name ≠ "_" := by simpa using e1
      have e2' : f.offset = o := by simpa using e2
      have hagg : ∀ w', (isAgg f.type).run P w' = .ok false w' := fun w' => by simp [Go.isAgg, run_underlying hu]
      have c0 := hc 0 (by simp)
      simp [intsOf] at c0
      have p1 : (part f.type xs0 f.offset).run P w = .ok (.int k x) w := by simp [part, hagg, e2', c0.1]
      have p2 : (part f.type ys0 f.offset).run P w = .ok (.int k y) w := by simp [part, hagg, e2', c0.2]
      have ih := eqFB_ok d xs0 ys0 w (fs := fs) (ks := ks) (o := o + 1) (xs := xs) (ys := ys) e4 (by simpa using h1) (by simpa using h2) (fun j hj => by
        have := hc (j + 1) (by simpa using hj)
        simpa [intsOf, Nat.add_assoc, Nat.add_comm 1 j] using this)
      simp only [Op.eqFields, if_pos e1', Sem.run_bind, p1, p2, Result.andThen_ok, run_equalIn_int w d f.type k k' x y hu]
      by_cases hxy : x = y
      · subst hxy; simp [ih]
      · have : (x == y) = false := by simpa using hxy
        simp [this, hxy]
    · cases e3

theorem intsOf_len : ∀ (ks : List IntKind) (xs : List Int), xs.length = ks.length → (intsOf ks xs).length = ks.length
  | [], [], _ => rfl
  | [], _ :: _, h => by simp at h
  | _ :: _, [], h => by simp at h
  | k :: ks, x :: xs, h => by simp [intsOf, intsOf_len ks xs (by simpa using h)]

theorem eqB_ok {t : Nat} {ks : List IntKind} (h : eqB P t (some ks) = true) : EqLaw P t ks := by
  intro w xs ys hx hy
  simp only [eqB, Bool.and_eq_true] at h
  obtain ⟨⟨h1, h2⟩, h3⟩ := h
  split at h1
  · rename_i fields hu
    have hf : P.fieldsOf t = fields := by simp [Program.fieldsOf, hu]
    refine ⟨?_, by simpa using h3⟩
    have := run_equalIn_struct (P := P) w 9999 t (intsOf ks xs).toArray (intsOf ks ys).toArray (by rw [hf]; exact hu) (by simpa using h2)
    rw [hf] at this
    unfold Op.equal
    show (Op.equalIn (9999 + 1) t _ _).run P w = _
    rw [this]
    exact eqFB_ok 9998 _ _ w h1 hx hy (fun j hj => by simp)
  · cases h1

theorem tabOk_of {l : List (Nat × TI)} (h : l.all (okB P) = true) : TabOk P (fun t => l.lookup t) := by
  have key : ∀ t i, l.lookup t = some i → okB P (t, i) = true := by
    intro t i hl
    have : (t, i) ∈ l := by
      clear h
      induction l with
      | nil => cases hl
      | cons p l ih =>
        obtain ⟨x, y⟩ := p
        rw [List.lookup_cons] at hl
        by_cases e : t = x
        · subst e; simp at hl; subst hl; simp
        · have : (t == x) = false := by simpa using e
          simp [this] at hl; exact List.mem_cons_of_mem _ (ih hl)
    exact List.all_eq_true.1 h _ this
  refine ⟨fun t i ks ht he => ?_, fun t i ht => ?_, fun t i ht => ?_⟩
  · have := key t i ht
    simp only [okB, Bool.and_eq_true] at this
    rw [he] at this
    exact eqB_ok this.2
  · have := key t i ht
    simp only [okB, Bool.and_eq_true] at this
    obtain ⟨⟨h1, _⟩, _⟩ := this
    split at h1
    · rename_i f hf
      simp only [Bool.and_eq_true, beq_iff_eq] at h1
      obtain ⟨⟨h2, h3⟩, h4⟩ := h1
      split at h4
      · rename_i z hz
        simp only [Bool.and_eq_true, beq_iff_eq] at h4
        refine ⟨f, z, hf, h2, h3, hz, h4.1.1, h4.1.2, fun j hj => ?_⟩
        have := zsB_ok h4.2 j (by omega)
        simpa [Array.getD_eq_getD_getElem?, List.getD_eq_getElem?_getD] using this
      · cases h4
    · cases h1
  · have := key t i ht
    simp only [okB, Bool.and_eq_true] at this
    exact tdB_ok this.1.2
end
end GV

set_option linter.unusedSimpArgs false
set_option linter.unusedVariables false
namespace GV
open Go
theorem chunk_zero (sz : Nat) (l : List D) : chunk sz 0 l = [] := rfl
theorem chunk_succ (sz n : Nat) (l : List D) : chunk sz (n + 1) l = l.take sz :: chunk sz n (l.drop sz) := by
  unfold chunk
  rw [List.range_succ_eq_map, List.map_cons, List.map_map]
  simp only [Nat.zero_mul, List.drop_zero, List.cons.injEq, true_and]
  refine List.map_congr_left fun k _ => ?_
  simp only [Function.comp, List.drop_drop, Nat.succ_eq_add_one, Nat.add_mul, Nat.one_mul]
  rw [Nat.add_comm]
section
variable {c : Cf} {q : Bool} {K : St → Prop} {s : St} {dst : Option Tmp} {ty : Nat} {pos : String} {after : Array Edge} {g : Option (Nat × Bool)} {n : Nat}

attribute [push_cast] vcode_skip vcode_region vcode_seq vcode_block vcode_loop vcode_exit vcode_ret kq_eq kseq_normal kseq_exit kseq_ret kblk_normal kblk_exit kblk_ret vlist_nil vlist_op vpost_normal vpost_ret vpostP_normal vpostP_ret

theorem two_ways (b : Bool) (X Y : Prop) : ((b = true → X) ∧ (b = false → Y)) = if b = true then X else Y := by cases b <;> simp
theorem two_wants (b w : Bool) (X Y : Prop) : ((b = w → X) ∧ ((b = w → False) → Y)) = if b = w then X else Y := by
  by_cases h : b = w <;> simp [h]
@[push_cast] theorem ite_conj (p : Prop) [Decidable p] (X Y : Prop) : (if p then X else Y) = ((p → X) ∧ (¬ p → Y)) := by
  by_cases h : p <;> simp [h]
@[push_cast] theorem vcode_cond {x : Operand} {y z : Code} {Q : Exit → St → Prop} : vcode c (.cond x y z) Q s = match s.ev x with
    | .c (.d (.v (.bool b))) => if b = true then vcode c y Q s else vcode c z Q s
    | _ => False := by
  show (match s.ev x with
    | .c (.d (.v (.bool b))) => (b = true → vcode c y Q s) ∧ (b = false → vcode c z Q s)
    | _ => False) = _
  generalize s.ev x = v
  rcases v with u | _ | _
  · rcases u with _ | _ | d | _ | _ | _ | _ | _ | _ | _ <;> try rfl
    rcases d with v | _ <;> try rfl
    cases v <;> first | rfl | exact two_ways _ _ _
  · rfl
  · rfl
@[push_cast] theorem vlist_guard' {ops : Array Oper} {K : St → Prop} {r : List Oper} {dst : Option Tmp} {op : Op} {ty : Nat} {pos : String} {after : Array Edge} {j : Nat} {want : Bool} :
    vlist c ops (⟨dst, op, ty, pos, after, some (j, want)⟩ :: r) K s = match (ops[j]?).bind (·.dst) with
      | none => False
      | some t => match s.env t with
        | .c (.d (.v (.bool b))) => if b = want then vop c false ⟨dst, op, ty, pos, after, some (j, want)⟩ (vlist c ops r K) s else kput c.n dst (vlist c ops r K) (.c .und) s
        | .c .und => kput c.n dst (vlist c ops r K) (.c .und) s
        | _ => False := by
  rw [vlist_guard]
  generalize (ops[j]?).bind (·.dst) = o
  cases o with
  | none => rfl
  | some t =>
    simp only
    generalize s.env t = v
    rcases v with u | _ | _
    · rcases u with _ | _ | d | _ | _ | _ | _ | _ | _ | _ <;> try rfl
      rcases d with v | _ <;> try rfl
      cases v <;> first | rfl | exact two_wants _ _ _ _
    · rfl
    · rfl
@[push_cast] theorem vpick_eq {x y z : AV} {K : St → Prop} : vpick x y z n dst K s = match x with
    | .c (.d (.v (.bool b))) => if b = true then kput n dst K y s else kput n dst K z s
    | _ => False := by
  unfold vpick
  rcases x with u | _ | _
  · rcases u with _ | _ | d | _ | _ | _ | _ | _ | _ | _ <;> try rfl
    rcases d with v | _ <;> try rfl
    cases v <;> first | rfl | exact two_ways _ _ _
  · rfl
  · rfl
@[push_cast] theorem kput_some {d : Nat} {x : AV} : kput n (some d) K x s = (d < n ∧ K (s.put d x)) := rfl
@[push_cast] theorem kput_none {x : AV} : kput n none K x s = K s := rfl
@[push_cast] theorem kval_eq {x : AV} : kval n dst K s x = kput n dst K x s := rfl
@[push_cast] theorem vop_move {x : Operand} : vop c q ⟨dst, .move x, ty, pos, after, g⟩ K s = kput c.n dst K (fixN c.T ty (s.ev x)) s := rfl
@[push_cast] theorem vop_assign {d : Nat} {x : Operand} : vop c q ⟨some d, .assign x, ty, pos, after, g⟩ K s = vassign d (fixN c.T ty (s.ev x)) s (kput c.n (some d) K) := rfl
@[push_cast] theorem vop_pick {x y z : Operand} : vop c q ⟨dst, .pick x y z, ty, pos, after, g⟩ K s = vpick (s.ev x) (s.ev y) (s.ev z) c.n dst K s := rfl
@[push_cast] theorem vop_alloc {d t : Nat} : vop c q ⟨some d, .alloc t, ty, pos, after, g⟩ K s = (c.m ≤ d ∧ valloc c.T t d s (kput c.n (some d) K)) := rfl
@[push_cast] theorem vop_box {d t : Nat} {x : Operand} : vop c q ⟨some d, .box t x, ty, pos, after, g⟩ K s = (c.m ≤ d ∧ vbox d (s.ev x) s (kput c.n (some d) K)) := rfl
@[push_cast] theorem vop_build {t : Nat} {ps : Array (Nat × Operand)} : vop c q ⟨dst, .build t ps, ty, pos, after, g⟩ K s = vbuild c.T t (ps.toList.map fun p => (p.1, s.ev p.2)) s (kval c.n dst K s) := rfl
@[push_cast] theorem vop_buildSlice {d t len : Nat} {ps : Array (Nat × Operand)} : vop c q ⟨some d, .buildSlice t len ps, ty, pos, after, g⟩ K s = vbuildSlice c.T t len d (ps.toList.map fun p => (p.1, s.ev p.2)) s (kput c.n (some d) K) := rfl
@[push_cast] theorem vop_makeSlice {d t : Nat} {x y : Operand} : vop c q ⟨some d, .makeSlice t x y, ty, pos, after, g⟩ K s = vmakeSlice c.T t d (s.ev x) (s.ev y) s (kput c.n (some d) K) := rfl
@[push_cast] theorem vop_load {t : Nat} {x : Operand} : vop c q ⟨dst, .load t x, ty, pos, after, g⟩ K s = vload c.T t (s.ev x) s (kval c.n dst K s) := rfl
@[push_cast] theorem vop_store {t : Nat} {x y : Operand} : vop c q ⟨dst, .store t x y, ty, pos, after, g⟩ K s = (q = false ∧ dst = none ∧ vstore c.T t (s.ev x) (fixN c.T t (s.ev y)) s K) := rfl
@[push_cast] theorem vop_nilCheck {x : Operand} : vop c q ⟨dst, .nilCheck x, ty, pos, after, g⟩ K s = vnil (s.ev x) s (kval c.n dst K s) := rfl
@[push_cast] theorem vop_binOp {op : BinOp} {t t' : Nat} {x y : Operand} : vop c q ⟨dst, .binOp op t x y t', ty, pos, after, g⟩ K s = vbin c.T op t (s.ev x) (s.ev y) (kval c.n dst K s) := rfl
@[push_cast] theorem vop_unOp {op : UnOp} {t : Nat} {x : Operand} : vop c q ⟨dst, .unOp op t x, ty, pos, after, g⟩ K s = vun op (s.ev x) (kval c.n dst K s) := rfl
@[push_cast] theorem vop_convert {a b : Nat} {x : Operand} : vop c q ⟨dst, .convert a b x, ty, pos, after, g⟩ K s = vconv c.T a b (s.ev x) s (kval c.n dst K s) := rfl
@[push_cast] theorem vop_slice {t : Nat} {x : Operand} {lo hi mx : Option Operand} : vop c q ⟨dst, .slice t x lo hi mx, ty, pos, after, g⟩ K s = (mx = none ∧ vslice c.T t (s.ev x) (lo.map s.ev) (hi.map s.ev) s (kval c.n dst K s)) := rfl
@[push_cast] theorem vop_fieldAddr {t f : Nat} {x : Operand} : vop c q ⟨dst, .fieldAddr t x f, ty, pos, after, g⟩ K s = vfieldAddr c.T t (s.ev x) f s (kval c.n dst K s) := rfl
@[push_cast] theorem vop_field {t f : Nat} {x : Operand} : vop c q ⟨dst, .field t x f, ty, pos, after, g⟩ K s = vfieldOf c.T t (s.ev x) f (kval c.n dst K s) := rfl
@[push_cast] theorem vop_indexAddr {t : Nat} {x i : Operand} : vop c q ⟨dst, .indexAddr t x i, ty, pos, after, g⟩ K s = vindexAddr c.T t (s.ev x) (s.ev i) s (kval c.n dst K s) := rfl
@[push_cast] theorem vop_index {t : Nat} {x i : Operand} : vop c q ⟨dst, .index t x i, ty, pos, after, g⟩ K s = vindex c.T t (s.ev x) (s.ev i) (kval c.n dst K s) := rfl
@[push_cast] theorem vop_extract {x : Operand} {i : Nat} : vop c q ⟨dst, .extract x i, ty, pos, after, g⟩ K s = vextract (s.ev x) i (kval c.n dst K s) := rfl
@[push_cast] theorem vop_len {x : Operand} {t : Nat} : vop c q ⟨dst, .call ⟨.builtin .len, #[x], #[t]⟩, ty, pos, after, g⟩ K s = (lenTy c.T t (s.ev x) ∧ vlen (s.ev x) s (kval c.n dst K s)) := rfl
@[push_cast] theorem vop_append {x y : Operand} {d t t' : Nat} : vop c q ⟨some d, .call ⟨.builtin .append, #[x, y], #[t, t']⟩, ty, pos, after, g⟩ K s = (q = false ∧ if t = t' then vappend c.T t d (s.ev x) (s.ev y) s (kput c.n (some d) K) else vappendX c.T t t' d (s.ev x) (s.ev y) s (kput c.n (some d) K)) := rfl
@[push_cast] theorem vop_max {x y : Operand} {ts : Array TypeId} : vop c q ⟨dst, .call ⟨.builtin .max, #[x, y], ts⟩, ty, pos, after, g⟩ K s = vmm true (s.ev x) (s.ev y) (kval c.n dst K s) := rfl
@[push_cast] theorem vop_min {x y : Operand} {ts : Array TypeId} : vop c q ⟨dst, .call ⟨.builtin .min, #[x, y], ts⟩, ty, pos, after, g⟩ K s = vmm false (s.ev x) (s.ev y) (kval c.n dst K s) := rfl
@[push_cast] theorem vop_call {f : FuncId} {args : Array Operand} {ts : Array TypeId} : vop c q ⟨dst, .call ⟨.value (.func f), args, ts⟩, ty, pos, after, g⟩ K s = vcallF c.m c.P f q (dst.getD 499) (args.toList.map s.ev) s (kput c.n dst K) := rfl

@[push_cast] theorem ev_tmp {t : Nat} : s.ev (.tmp t) = s.env t := rfl
@[push_cast] theorem ev_int {k : IntKind} {i : Int} : s.ev (.const (.int k i)) = .c (.d (.v (.int k i))) := rfl
@[push_cast] theorem ev_bool {b : Bool} : s.ev (.const (.bool b)) = .c (.d (.v (.bool b))) := rfl
@[push_cast] theorem ev_str {b : ByteArray} : s.ev (.const (.string b)) = .c (.d (.v (.string b))) := rfl
@[push_cast] theorem ev_nil : s.ev (.const (.slice none 0 0)) = .c (.nil 0 0) := rfl
@[push_cast] theorem ev_glob {k : Nat} : s.ev (.global k) = match s.gl k with | some cs => .c (.er cs) | none => .c .no := rfl
@[push_cast] theorem put_env (d : Nat) (x : AV) (j : Nat) : (s.put d x).env j = if j = d then x else s.env j := rfl
@[push_cast] theorem put_rows (d : Nat) (x : AV) : (s.put d x).rows = s.rows := rfl
@[push_cast] theorem put_vars (d : Nat) (x : AV) : (s.put d x).vars = s.vars := rfl
@[push_cast] theorem put_gl (d : Nat) (x : AV) : (s.put d x).gl = s.gl := rfl
@[push_cast] theorem addR_env (t : Nat) (r : Row) (j : Nat) : (s.addR t r).env j = (s.env j).map (C.rmR t) := rfl
@[push_cast] theorem addR_rows (t : Nat) (r : Row) (j : Nat) : (s.addR t r).rows j = if j = t then some r else s.rows j := rfl
@[push_cast] theorem addR_vars (t : Nat) (r : Row) (j : Nat) : (s.addR t r).vars j = (s.vars j).map (List.map (C.rmR t)) := rfl
@[push_cast] theorem addR_gl (t : Nat) (r : Row) : (s.addR t r).gl = s.gl := rfl
@[push_cast] theorem addV_env (t : Nat) (l : List C) (j : Nat) : (s.addV t l).env j = (s.env j).map (C.rmV t) := rfl
@[push_cast] theorem addV_rows (t : Nat) (l : List C) : (s.addV t l).rows = s.rows := rfl
@[push_cast] theorem addV_vars (t : Nat) (l : List C) (j : Nat) : (s.addV t l).vars j = if j = t then some (l.map (C.rmV t)) else (s.vars j).map (List.map (C.rmV t)) := rfl
@[push_cast] theorem addV_gl (t : Nat) (l : List C) : (s.addV t l).gl = s.gl := rfl
@[push_cast] theorem setV_env (t : Nat) (l : List C) : (s.setV t l).env = s.env := rfl
@[push_cast] theorem setV_rows (t : Nat) (l : List C) : (s.setV t l).rows = s.rows := rfl
@[push_cast] theorem setV_vars (t : Nat) (l : List C) (j : Nat) : (s.setV t l).vars j = if j = t then some l else s.vars j := rfl
@[push_cast] theorem setV_gl (t : Nat) (l : List C) : (s.setV t l).gl = s.gl := rfl
@[push_cast] theorem setR_env (t : Nat) (r : Row) (j : Nat) : (s.setR t r).env j = (s.env j).map (C.rmB t) := rfl
@[push_cast] theorem setR_rows (t : Nat) (r : Row) (j : Nat) : (s.setR t r).rows j = if j = t then some r else s.rows j := rfl
@[push_cast] theorem setR_vars (t : Nat) (r : Row) (j : Nat) : (s.setR t r).vars j = (s.vars j).map (List.map (C.rmB t)) := rfl
@[push_cast] theorem setR_gl (t : Nat) (r : Row) : (s.setR t r).gl = s.gl := rfl
@[push_cast] theorem killR_env (t : Nat) : (s.killR t).env = s.env := rfl
@[push_cast] theorem killR_rows (t j : Nat) : (s.killR t).rows j = if j = t then none else s.rows j := rfl
@[push_cast] theorem killR_vars (t : Nat) : (s.killR t).vars = s.vars := rfl
@[push_cast] theorem killR_gl (t : Nat) : (s.killR t).gl = s.gl := rfl
@[push_cast] theorem frR_env (t : Nat) (r : Row) (j : Nat) : (s.frR t r).env j = (s.env j).map (C.frR t (.sl r.sz r.els)) := rfl
@[push_cast] theorem frR_rows (t : Nat) (r : Row) (j : Nat) : (s.frR t r).rows j = if j = t then none else s.rows j := rfl
@[push_cast] theorem frR_vars (t : Nat) (r : Row) (j : Nat) : (s.frR t r).vars j = (s.vars j).map (List.map (C.frR t (.sl r.sz r.els))) := rfl
@[push_cast] theorem frR_gl (t : Nat) (r : Row) : (s.frR t r).gl = s.gl := rfl
@[push_cast] theorem reR_env (t u : Nat) (j : Nat) : (s.reR t u).env j = (s.env j).map (reF t u) := rfl
@[push_cast] theorem reR_rows (t u : Nat) (j : Nat) : (s.reR t u).rows j = if j = u then s.rows t else if j = t then none else s.rows j := rfl
@[push_cast] theorem reR_vars (t u : Nat) (j : Nat) : (s.reR t u).vars j = (s.vars j).map (List.map (reF t u)) := rfl
@[push_cast] theorem reR_gl (t u : Nat) : (s.reR t u).gl = s.gl := rfl
@[push_cast] theorem init_env (gl : Nat → Option (List D)) (ins : List In) (j : Nat) : (initSt gl ins).env j = inAV j (ins[j]?) := rfl
@[push_cast] theorem init_rows (gl : Nat → Option (List D)) (ins : List In) (j : Nat) : (initSt gl ins).rows j = tRow (tOf ins) j := rfl
@[push_cast] theorem init_vars (gl : Nat → Option (List D)) (ins : List In) (j : Nat) : (initSt gl ins).vars j = tVar (tOf ins) j := rfl
@[push_cast] theorem init_gl (gl : Nat → Option (List D)) (ins : List In) : (initSt gl ins).gl = gl := rfl
@[push_cast] theorem tOf_eq (ins : List In) (j : Nat) : tOf ins j = ins[j]? := rfl
@[push_cast] theorem map_c (f : C → C) (x : C) : AV.map f (.c x) = .c (f x) := rfl
@[push_cast] theorem map_ag (f : C → C) (l : List C) : AV.map f (.ag l) = .ag (l.map f) := rfl
@[push_cast] theorem map_tu (f : C → C) (l : List (Bool × List C)) : AV.map f (.tu l) = .tu (l.map fun p => (p.1, p.2.map f)) := rfl
attribute [push_cast] or_true true_or List.getElem?_cons_zero List.getElem?_cons_succ List.getElem?_nil true_and and_true List.map_cons List.map_nil Option.map_some Option.map_none Option.bind_some Option.bind_none List.take_succ_cons List.drop_succ_cons List.take_zero List.drop_zero List.take_nil List.drop_nil List.cons_append List.nil_append List.append_nil List.length_cons List.length_nil List.getD_cons_zero List.getD_cons_succ Option.isSome_some Option.isSome_none List.replicate_succ List.replicate_zero List.flatten_cons List.flatten_nil id Function.comp_apply Option.getD_some Option.getD_none St.alive
attribute [push_cast] C.rmR C.rmV C.rmB C.reR C.frR reF inAV tRow tVar rowIn icC vfield vint vb vi vstr vbinInt intsC vbounds lp fixN cellsOf norm normL frz frzL known fitN partOk vfill zcD srcOf srcX lenTy TI.agg chunk_zero chunk_succ vfin rvs vfins vres resEqs resEq refsOk refOk rowsOk
attribute [push_cast] vload.eq_def vfieldAddr.eq_def vfieldOf.eq_def vindexAddr.eq_def vindex.eq_def vnil.eq_def vbin.eq_def vun.eq_def vconv.eq_def vextract.eq_def vslice.eq_def vlen.eq_def vassign.eq_def valloc.eq_def vbox.eq_def vstore.eq_def vbuild.eq_def vbuildSlice.eq_def vmakeSlice.eq_def vappend.eq_def vappendX.eq_def vmm.eq_def
end
end GV

set_option linter.unusedSimpArgs false
set_option linter.unusedVariables false
namespace GV
open Go
def nodupB : List Nat → Bool
  | [] => true
  | x :: l => (l.all fun y => !(y == x)) && nodupB l
def namesB (pv pr : List (Nat × Nat)) : Bool := nodupB (pv.map (·.1)) && nodupB (pv.map (·.2)) && nodupB (pr.map (·.1)) && nodupB (pr.map (·.2)) &&
  pr.all fun p => pv.all fun q => !(p.1 / 1000 == q.1 + 1) && !(p.2 / 1000 == q.2 + 1)
theorem nodupB_ok : ∀ {l : List Nat}, nodupB l = true → l.Nodup
  | [], _ => List.nodup_nil
  | x :: l, h => by
    simp only [nodupB, Bool.and_eq_true, List.all_eq_true] at h
    refine List.nodup_cons.2 ⟨fun hm => ?_, nodupB_ok h.2⟩
    have := h.1 x hm
    simp at this
theorem namesB_ok {pv pr : List (Nat × Nat)} (h : namesB pv pr = true) : NamesOk pv pr := by
  simp only [namesB, Bool.and_eq_true, List.all_eq_true] at h
  obtain ⟨⟨⟨⟨h1, h2⟩, h3⟩, h4⟩, h5⟩ := h
  refine ⟨nodupB_ok h1, nodupB_ok h2, nodupB_ok h3, nodupB_ok h4, fun p hp q hq => ?_⟩
  have := h5 p hp q hq
  exact ⟨fun e => by rw [e] at this; simp at this, fun e => by rw [e] at this; simp at this⟩
def flatIs : List In → Prop
  | [] => True
  | i :: l => flatI i ∧ flatIs l
def shortIs : List In → Prop
  | [] => True
  | i :: l => shortI i ∧ shortIs l
theorem flatIs_ok : ∀ {l : List In}, flatIs l → ∀ i ∈ l, flatI i
  | i :: l, h, j, hj => by
    rcases List.mem_cons.1 hj with rfl | hj
    · exact h.1
    · exact flatIs_ok h.2 j hj
theorem shortIs_ok : ∀ {l : List In}, shortIs l → ∀ i ∈ l, shortI i
  | i :: l, h, j, hj => by
    rcases List.mem_cons.1 hj with rfl | hj
    · exact h.1
    · exact shortIs_ok h.2 j hj
def flatB (bo : Bool) (o : Out) : Prop := match bo with
  | true => flatIs o.res ∧ flatIs o.refs
  | false => True
def quietB (q : Bool) (pv pr : List (Nat × Nat)) : Prop := match q with
  | true => pv = [] ∧ pr = []
  | false => True
/-- What is to be shown of the arguments. -/
def vgive (bo : Bool) (q : Bool) (xs : List AV) (s : St) (ins : List In) (pv pr : List (Nat × Nat)) : Prop :=
  namesB pv pr = true ∧ quietB q pv pr ∧ argsOk s bo pv pr 0 xs ins ∧ ins.length ≤ 500
/-- What is to be shown of a result. -/
def vtake (m : Nat) (bo : Bool) (d : Nat) (s : St) (o : Out) (pv pr : List (Nat × Nat)) (K : AV → St → Prop) : Prop :=
  namesB pv (pr ++ resP d o.res) = true ∧ flatB bo o ∧ shortIs o.res ∧ shortIs o.refs ∧ o.res.length ≤ 18 ∧ kback m d s o pv (pr ++ resP d o.res) K
def vcalled (m : Nat) (bo : Bool) (q : Bool) (d : Nat) (xs : List AV) (s : St) (ins : List In) (o : Out) (pv pr : List (Nat × Nat)) (K : AV → St → Prop) : Prop :=
  namesB pv (pr ++ resP d o.res) = true ∧ quietB q pv pr ∧ argsOk s bo pv pr 0 xs ins ∧ flatB bo o ∧ shortIs o.res ∧ shortIs o.refs ∧ o.res.length ≤ 18 ∧ ins.length ≤ 500 ∧ kback m d s o pv (pr ++ resP d o.res) K
theorem vback_of {m : Nat} {q : Bool} {d : Nat} {xs : List AV} {s : St} {ins : List In} {o : Out} {bo : Bool} {K : AV → St → Prop} (h : vtake m bo d s o (paV 0 xs ins) (paR 0 xs ins) K) : vback m q d xs s ins o bo K := by
  obtain ⟨h1, h4, h5, h6, h7, h9⟩ := h
  exact ⟨namesB_ok h1, fun hb => by subst hb; exact ⟨flatIs_ok h4.1, flatIs_ok h4.2⟩, shortIs_ok h6, shortIs_ok h5, h7, h9⟩
/-- A call, by a contract over another or no table of globals. -/
theorem vcall_gl {m : Nat} {P : Program} {f : FuncId} {q : Bool} {d : Nat} {xs : List AV} {s : St} {K : AV → St → Prop} (bo : Bool) {gl : Nat → Option (List D)} {ins : List In} {Post : Out → Prop} (hc : CallP P gl f ins Post) (hg : ∀ k, gl k = s.gl k ∨ gl k = none)
    (h : vgive bo q xs s ins (paV 0 xs ins) (paR 0 xs ins)) (hk : ∀ o, Post o → vtake m bo d s o (paV 0 xs ins) (paR 0 xs ins) K) : vcallF m P f q d xs s K := by
  obtain ⟨h1, h2, h3, h8⟩ := h
  exact ⟨[], ins, bo, gl, Post, hc, hg, h8, namesB_ok h1, h3, fun hq => by subst hq; exact h2, fun o ho => vback_of (hk o ho)⟩
/-- The same, after rows were frozen. -/
theorem vcall_fz {m : Nat} {P : Program} {f : FuncId} {q : Bool} {d : Nat} {xs : List AV} {s : St} {K : AV → St → Prop} (fz : List Nat) (h : freezeL fz xs s fun xs s => vcallF m P f q d xs s K) : vcallF m P f q d xs s K := by
  suffices ∀ (fz : List Nat) (xs : List AV) (s : St), (freezeL fz xs s fun xs s => vcallF m P f q d xs s K) → ∃ fz', freezeL fz' xs s fun xs s => vcall m P f q d xs s K from this fz xs s h
  intro fz
  induction fz with
  | nil => exact fun xs s h => h
  | cons t fz ih =>
    intro xs s h
    unfold freezeL at h
    cases hr : s.rows t with
    | none => simp [hr] at h
    | some r =>
      simp only [hr] at h
      obtain ⟨fz', h'⟩ := ih _ _ h
      refine ⟨t :: fz', ?_⟩
      unfold freezeL
      simp only [hr]
      exact h'
theorem vcall_p {m : Nat} {P : Program} {f : FuncId} {q : Bool} {d : Nat} {xs : List AV} {s : St} {K : AV → St → Prop} (bo : Bool) {ins : List In} {Post : Out → Prop} (hc : CallP P s.gl f ins Post)
    (h : vgive bo q xs s ins (paV 0 xs ins) (paR 0 xs ins)) (hk : ∀ o, Post o → vtake m bo d s o (paV 0 xs ins) (paR 0 xs ins) K) : vcallF m P f q d xs s K :=
  vcall_gl bo hc (fun _ => .inl rfl) h hk
theorem vcall_by {m : Nat} {P : Program} {f : FuncId} {q : Bool} {d : Nat} {xs : List AV} {s : St} {K : AV → St → Prop} (bo : Bool) {ins : List In} {o : Out} (hc : CallOk P s.gl f ins o)
    (h : vcalled m bo q d xs s ins o (paV 0 xs ins) (paR 0 xs ins) K) : vcallF m P f q d xs s K := by
  obtain ⟨h1, h2, h3, h4, h5, h6, h7, h8, h9⟩ := h
  exact ⟨[], ins, bo, s.gl, _, hc, fun _ => .inl rfl, h8, (namesB_ok h1).left, h3, fun hq => by subst hq; exact h2, fun o' ho => by subst ho; exact vback_of ⟨h1, h4, h5, h6, h7, h9⟩⟩
section
variable {s : St} {pv pr : List (Nat × Nat)} {o : Out}
@[push_cast] theorem leave_env (j : Nat) : (leaveSt s pv pr o).env j = (s.env j).map (drp pv pr) := rfl
@[push_cast] theorem leave_rows (t : Nat) : (leaveSt s pv pr o).rows t = match rho pv pr t with
    | some u => tRow (tOut o) u
    | none => s.rows t := rfl
@[push_cast] theorem leave_vars (v : Nat) : (leaveSt s pv pr o).vars v = match pv.lookup v with
    | some j => match o.refs[j]? with
      | some (.rv l) => some (icC (1000 * (v + 1)) l)
      | _ => none
    | none => (s.vars v).map (List.map (drp pv pr)) := rfl
@[push_cast] theorem leave_gl : (leaveSt s pv pr o).gl = s.gl := rfl
@[push_cast] theorem lookup_nil (t : Nat) : List.lookup t ([] : List (Nat × Nat)) = none := rfl
@[push_cast] theorem lookup_cons (t x y : Nat) (l : List (Nat × Nat)) : List.lookup t ((x, y) :: l) = if t = x then some y else l.lookup t := by
  rw [List.lookup_cons]
  by_cases h : t = x
  · simp [h]
  · have : (t == x) = false := by simpa using h
    simp [this, h]
attribute [push_cast] freezeL namesB nodupB List.all_cons List.all_nil Bool.not_false Bool.not_true Bool.and_true Bool.true_and Bool.and_self vcalled vgive vtake kback allD quietB flatB flatIs shortIs flatI flatIC shortI argsOk argOk argC argL paV paR resP resP1 resPs resAV resAV1 resTu icP rho drp tOut D.flat
theorem names_rfl {pv pr : List (Nat × Nat)} (h : namesB pv pr = true) : namesB pv pr = true := h
end
end GV

set_option linter.unusedSimpArgs false
set_option linter.unusedVariables false
namespace GV
open Go
section
variable {P : Program} {ops : Array Oper} {Q : Exit → Act → World → Prop} {md : Region.Mode} {S : World → Prop} {ds : List Nat}

/-- Operation d waits for operation i, by a chain of at most 'fuel' edges. -/
def Region.reachB (md : Region.Mode) (ops : Array Oper) (i : Nat) : Nat → Nat → Bool
  | 0, _ => false
  | fuel + 1, d => match ops[d]? with
    | some o => o.after.any fun e => Region.binds md e && (e.on == i || Region.reachB md ops i fuel e.on)
    | none => false

/-- What is listed is closed under the edges. -/
def Region.closedB (md : Region.Mode) (ops : Array Oper) (listed : Array Bool) : Bool :=
  (List.range ops.size).all fun j => !listed.getD j false || match ops[j]? with
    | some o => o.after.all fun e => !Region.binds md e || listed.getD e.on false
    | none => true

/-- Each of ds that has not come up yet waits for number i. -/
def Region.lastB (md : Region.Mode) (ops : Array Oper) (listed : Array Bool) (ds : List Nat) (i : Nat) : Bool :=
  ds.all fun d => listed.getD d true || Region.reachB md ops i ops.size d

def ListedClosed (md : Region.Mode) (ops : Array Oper) (listed : Array Bool) : Prop :=
  ∀ j oj, ops[j]? = some oj → listed.getD j false = true → ∀ e ∈ oj.after, Region.binds md e = true → listed.getD e.on false = true

theorem Region.closedB_spec {listed : Array Bool} (h : Region.closedB md ops listed = true) : ListedClosed md ops listed := by
  intro j oj hj hl e he hb
  have hlt : j < ops.size := (Array.getElem?_eq_some_iff.1 hj).1
  have h1 := List.all_eq_true.1 h j (List.mem_range.2 hlt)
  simp only [hl, hj, Bool.not_true, Bool.false_or] at h1
  have h2 := Array.all_eq_true_iff_forall_mem.1 h1 e he
  simpa [hb] using h2

theorem ListedClosed.set {listed : Array Bool} {i : Nat} (h : ListedClosed md ops listed) (hi : i ∈ Region.ready md ops listed) : ListedClosed md ops (listed.setIfInBounds i true) := by
  obtain ⟨_, oi, hoi, hall⟩ := mem_ready.1 hi
  intro j oj hj hl e he hb
  by_cases hij : i = j
  · subst hij
    have : oj = oi := Option.some.inj (hj.symm.trans hoi)
    subst this
    exact getD_set_true (hall e he hb)
  · rw [getD_set_ne false hij] at hl
    exact getD_set_true (h j oj hj hl e he hb)

theorem Region.reach_listed {listed : Array Bool} {i : Nat} (hc : ListedClosed md ops listed) : ∀ (fuel d : Nat), Region.reachB md ops i fuel d = true → listed.getD d false = true → listed.getD i false = true
  | 0, _, h, _ => by simp [Region.reachB] at h
  | fuel + 1, d, h, hl => by
    unfold Region.reachB at h
    cases ho : ops[d]? with
    | none => rw [ho] at h; simp at h
    | some o =>
      rw [ho] at h
      obtain ⟨e, he, h1⟩ := Array.any_eq_true'.1 h
      simp only [Bool.and_eq_true, Bool.or_eq_true, beq_iff_eq] at h1
      have hle := hc d o ho hl e he h1.1
      rcases h1.2 with h2 | h2
      · rw [← h2]; exact hle
      · exact Region.reach_listed hc fuel e.on h2 hle

/-- What waits for i cannot come up before i is listed. -/
theorem Region.reach_not_ready {listed : Array Bool} {i d fuel : Nat} (hc : ListedClosed md ops listed) (hr : Region.reachB md ops i fuel d = true) (hun : listed.getD i true = false) : d ∉ Region.ready md ops listed := by
  intro hd
  obtain ⟨_, o, ho, hall⟩ := mem_ready.1 hd
  have hi : listed.getD i false = true := by
    cases fuel with
    | zero => simp [Region.reachB] at hr
    | succ n =>
      unfold Region.reachB at hr
      rw [ho] at hr
      obtain ⟨e, he, h1⟩ := Array.any_eq_true'.1 hr
      simp only [Bool.and_eq_true, Bool.or_eq_true, beq_iff_eq] at h1
      have hle := hall e he h1.1
      rcases h1.2 with h2 | h2
      · rw [← h2]; exact hle
      · exact Region.reach_listed hc n e.on h2 hle
  rcases Nat.lt_or_ge i listed.size with h' | h'
  · simp [h'] at hun hi
    rw [hun] at hi
    cases hi
  · simp [Array.getElem?_eq_none h'] at hun

/-- Whatever order is picked from here on, AND 'S' HOLDS BEHIND EVERY OPERATION THAT IS CARRIED OUT, those of ds apart. -/
def wpAnyLast (P : Program) (md : Region.Mode) (ops : Array Oper) (Q : Exit → Act → World → Prop) (S : World → Prop) (ds : List Nat) : Nat → Array Bool → Act → World → Prop
  | 0, listed, a, w => Region.ready md ops listed = [] ∧ Q .normal a w
  | fuel + 1, listed, a, w =>
    (Region.ready md ops listed = [] → Q .normal a w) ∧
    ∀ i ∈ Region.ready md ops listed, wpOp P ops Q i (fun a' w' => (i ∉ ds → S w → S w') ∧ wpAnyLast P md ops Q S ds fuel (listed.setIfInBounds i true) a' w') a w

theorem wpAny_of_last : ∀ (fuel : Nat) (listed : Array Bool) (a : Act) (w : World), wpAnyLast P md ops Q S ds fuel listed a w → wpAny P md ops Q fuel listed a w
  | 0, _, _, _, h => h
  | fuel + 1, _, _, _, h => ⟨h.1, fun i hi => wpOp_mono (fun a' w' h' => wpAny_of_last fuel _ a' w' h'.2) (h.2 i hi)⟩

theorem wpAnyLast_first {i : Nat} {oi : Oper} {v : Value} (hi : ops[i]? = some oi) (hsel : ∀ (j : Nat) (o : Oper) cs b, ops[j]? = some o → o.op ≠ .select cs b)
    (hQ : ∀ c a w, Q (.panic c) (a.put oi.dst v) w → Q (.panic c) a w) (n : Nat) :
    ∀ (fuel : Nat) (listed : Array Bool) (a : Act) (w : World),
      (∀ j oj, ops[j]? = some oj → j ≠ i → listed.getD j true = false → (∀ e ∈ oj.after, Region.binds md e = true → e.on ≠ i) → oi.apart ops oj = true) →
      ListedClosed md ops listed → (∀ d ∈ ds, listed.getD d true = false → Region.reachB md ops i n d = true) →
      i ∈ Region.ready md ops listed → YieldsIf P ops S oi v a → S w →
      wpAnyLast P md ops Q S ds fuel (listed.setIfInBounds i true) (a.put oi.dst v) w → wpAnyLast P md ops Q S ds (fuel + 1) listed a w := by
  intro fuel
  induction fuel with
  | zero =>
    intro listed a w _ _ _ hr hy hS H
    refine ⟨fun h => (by rw [h] at hr; cases hr), fun j hj => ?_⟩
    by_cases hji : j = i
    · subst hji; exact hy.wpOp hi hS ⟨fun _ h => h, H⟩
    · have := ready_mono hj hji
      rw [H.1] at this
      cases this
  | succ fuel ih =>
    intro listed a w hfree hc hd hr hy hS H
    refine ⟨fun h => (by rw [h] at hr; cases hr), fun j hj => ?_⟩
    by_cases hji : j = i
    · subst hji; exact hy.wpOp hi hS ⟨fun _ h => h, H⟩
    · have h1 := H.2 j (ready_mono hj hji)
      obtain ⟨hjun, oj, hoj, hall⟩ := mem_ready.1 hj
      have hiun := (mem_ready.1 hr).1
      have hnot : ∀ e ∈ oj.after, Region.binds md e = true → e.on ≠ i := fun e he hb heq => by
        have h1 := hall e he hb
        rw [heq] at h1
        rcases Nat.lt_or_ge i listed.size with h' | h'
        · simp [h'] at hiun h1; rw [hiun] at h1; cases h1
        · simp [Array.getElem?_eq_none h'] at h1
      have hjd : j ∉ ds := fun hm => Region.reach_not_ready hc (hd j hm hjun) hiun hj
      have h2 := wpOp_putIf hoj (hfree j oj hoj hji hjun hnot) (fun cs b => hsel i oi cs b hi) (fun cs b => hsel j oj cs b hoj) hQ hy h1
      have hfree' : ∀ k ok, ops[k]? = some ok → k ≠ i → (listed.setIfInBounds j true).getD k true = false →
          (∀ e ∈ ok.after, Region.binds md e = true → e.on ≠ i) → oi.apart ops ok = true := fun k ok hk hki hun hno => by
        refine hfree k ok hk hki ?_ hno
        by_cases hjk : j = k
        · subst hjk; exact hjun
        · rw [getD_set_ne true hjk] at hun; exact hun
      have hd' : ∀ d ∈ ds, (listed.setIfInBounds j true).getD d true = false → Region.reachB md ops i n d = true := fun d hm hun => by
        refine hd d hm ?_
        by_cases hjk : j = d
        · subst hjk; exact hjun
        · rw [getD_set_ne true hjk] at hun; exact hun
      refine wpOp_mono (fun a' w' h3 => ⟨h3.2.1, ih (listed.setIfInBounds j true) a' w' hfree' (hc.set hj) hd' (ready_mono hr (Ne.symm hji)) h3.1 (h3.2.1 hjd hS) ?_⟩) h2
      rw [Array.setIfInBounds_comm _ _ hji]
      exact h3.2.2

/-- Take number 'i' first, which yields whatever the world: no S is asked for, nor that anything waits for it. -/
theorem wpAnyLast_any {i : Nat} {oi : Oper} {v : Value} (hi : ops[i]? = some oi) (hsel : ∀ (j : Nat) (o : Oper) cs b, ops[j]? = some o → o.op ≠ .select cs b)
    (hQ : ∀ c a w, Q (.panic c) (a.put oi.dst v) w → Q (.panic c) a w) :
    ∀ (fuel : Nat) (listed : Array Bool) (a : Act) (w : World),
      (∀ j oj, ops[j]? = some oj → j ≠ i → listed.getD j true = false → (∀ e ∈ oj.after, Region.binds md e = true → e.on ≠ i) → oi.apart ops oj = true) →
      i ∈ Region.ready md ops listed → Yields P ops oi v a →
      wpAnyLast P md ops Q S ds fuel (listed.setIfInBounds i true) (a.put oi.dst v) w → wpAnyLast P md ops Q S ds (fuel + 1) listed a w := by
  intro fuel
  induction fuel with
  | zero =>
    intro listed a w _ hr hy H
    refine ⟨fun h => (by rw [h] at hr; cases hr), fun j hj => ?_⟩
    by_cases hji : j = i
    · subst hji; exact (hy.yieldsIf (S := fun _ => True)).wpOp hi trivial ⟨fun _ h => h, H⟩
    · have := ready_mono hj hji
      rw [H.1] at this
      cases this
  | succ fuel ih =>
    intro listed a w hfree hr hy H
    refine ⟨fun h => (by rw [h] at hr; cases hr), fun j hj => ?_⟩
    by_cases hji : j = i
    · subst hji; exact (hy.yieldsIf (S := fun _ => True)).wpOp hi trivial ⟨fun _ h => h, H⟩
    · have h1 := H.2 j (ready_mono hj hji)
      obtain ⟨hjun, oj, hoj, hall⟩ := mem_ready.1 hj
      have hiun := (mem_ready.1 hr).1
      have hnot : ∀ e ∈ oj.after, Region.binds md e = true → e.on ≠ i := fun e he hb heq => by
        have h1 := hall e he hb
        rw [heq] at h1
        rcases Nat.lt_or_ge i listed.size with h' | h'
        · simp [h'] at hiun h1; rw [hiun] at h1; cases h1
        · simp [Array.getElem?_eq_none h'] at h1
      have h2 := wpOp_put hoj (hfree j oj hoj hji hjun hnot) (fun cs b => hsel i oi cs b hi) (fun cs b => hsel j oj cs b hoj) hQ hy h1
      have hfree' : ∀ k ok, ops[k]? = some ok → k ≠ i → (listed.setIfInBounds j true).getD k true = false →
          (∀ e ∈ ok.after, Region.binds md e = true → e.on ≠ i) → oi.apart ops ok = true := fun k ok hk hki hun hno => by
        refine hfree k ok hk hki ?_ hno
        by_cases hjk : j = k
        · subst hjk; exact hjun
        · rw [getD_set_ne true hjk] at hun; exact hun
      refine wpOp_mono (fun a' w' h3 => ⟨h3.2.1, ih (listed.setIfInBounds j true) a' w' hfree' (ready_mono hr (Ne.symm hji)) h3.1 ?_⟩) h2
      rw [Array.setIfInBounds_comm _ _ hji]
      exact h3.2.2

/-- Take number 'i' first. -/
theorem wpAnyLast_take {i : Nat} {oi : Oper} {v : Value} {fuel : Nat} {listed : Array Bool} {a : Act} {w : World} (hi : ops[i]? = some oi)
    (hs : Region.noSelect ops = true) (hf : Region.free md ops listed i = true) (hr : (Region.ready md ops listed).contains i = true)
    (hc : Region.closedB md ops listed = true) (hl : Region.lastB md ops listed ds i = true)
    (hQ : ∀ c a w, Q (.panic c) (a.put oi.dst v) w → Q (.panic c) a w) (hy : YieldsIf P ops S oi v a) (hS : S w)
    (h : wpAnyLast P md ops Q S ds fuel (listed.setIfInBounds i true) (a.put oi.dst v) w) : wpAnyLast P md ops Q S ds (fuel + 1) listed a w :=
  wpAnyLast_first hi (Region.noSelect_spec hs) hQ ops.size fuel listed a w (Region.free_spec hi hf) (Region.closedB_spec hc)
    (fun d hm hun => by have := List.all_eq_true.1 hl d hm; rw [hun] at this; simpa using this) (by simpa using hr) hy hS h

theorem wpAnyLast_all {rs : List Nat} {fuel : Nat} {listed : Array Bool} {a : Act} {w : World} (hr : Region.ready md ops listed = rs) (hne : rs ≠ [])
    (h : ∀ i ∈ rs, wpOp P ops Q i (fun a' w' => (i ∉ ds → S w → S w') ∧ wpAnyLast P md ops Q S ds fuel (listed.setIfInBounds i true) a' w') a w) : wpAnyLast P md ops Q S ds (fuel + 1) listed a w :=
  ⟨fun h0 => absurd (hr ▸ h0) hne, hr ▸ h⟩

theorem wpAnyLast_done {listed : Array Bool} {a : Act} {w : World} (hr : Region.ready md ops listed = []) (h : Q .normal a w) :
    ∀ fuel, wpAnyLast P md ops Q S ds fuel listed a w
  | 0 => ⟨hr, h⟩
  | _ + 1 => ⟨fun _ => h, by rw [hr]; simp⟩
end

/-! ### a plan for a region that draws its order -/
inductive Plan where
  | done
  | take (i : Nat) (p : Plan)
  | one (i : Nat) (p : Plan)
  | two (i : Nat) (p : Plan) (j : Nat) (q : Plan)
  | three (i : Nat) (p : Plan) (j : Nat) (q : Plan) (k : Nat) (r : Plan)
def Plan.takes : List Nat → Plan → Plan
  | [], p => p
  | i :: l, p => .take i (Plan.takes l p)
def pureOp (o : Oper) : Bool :=
  match o.op with
  | .move _ => true
  | .assign _ => true
  | .pick _ _ _ => true
  | .build _ _ => true
  | .nilCheck _ => true
  | .binOp _ _ _ _ _ => true
  | .unOp _ _ _ => true
  | .convert _ _ _ => true
  | .slice _ _ _ _ _ => true
  | .fieldAddr _ _ _ => true
  | .field _ _ _ => true
  | .indexAddr _ _ _ => true
  | .index _ _ _ => true
  | .extract _ _ => true
  | .call c => match c.callee with
    | .builtin .len => true
    | .builtin .max => true
    | .builtin .min => true
    | _ => false
  | _ => false
def loadOp (o : Oper) : Bool :=
  match o.op with
  | .load _ _ => true
  | _ => false
def planB (ops : Array Oper) (ds : List Nat) : Bool → Plan → Nat → Array Bool → Bool
  | _, .done, _, l => (Region.ready .any ops l) == []
  | e, .take i p, n + 1, l => (match ops[i]? with
      | some o => pureOp o || (loadOp o && e && Region.closedB .any ops l && Region.lastB .any ops l ds i)
      | none => false) && Region.free .any ops l i && (Region.ready .any ops l).contains i && planB ops ds e p n (l.setIfInBounds i true)
  | _, .one i p, n + 1, l => (Region.ready .any ops l) == [i] && planB ops ds false p n (l.setIfInBounds i true)
  | _, .two i p j q, n + 1, l => (Region.ready .any ops l) == [i, j] && planB ops ds false p n (l.setIfInBounds i true) && planB ops ds false q n (l.setIfInBounds j true)
  | _, .three i p j q k r, n + 1, l => (Region.ready .any ops l) == [i, j, k] && planB ops ds false p n (l.setIfInBounds i true) && planB ops ds false q n (l.setIfInBounds j true) && planB ops ds false r n (l.setIfInBounds k true)
  | _, _, 0, _ => false
def planOk (ops : Array Oper) (ds : List Nat) (p : Plan) : Bool := Region.noSelect ops && planB ops ds true p ops.size (Array.replicate ops.size false)
def vstep (c : Cf) (ops : Array Oper) (ds : List Nat) (i : Nat) (K : St → Prop) (s : St) : Prop :=
  match ops[i]? with
  | none => False
  | some o => match o.guard with
    | none => vop c (!ds.contains i) o K s
    | some (j, want) => match (ops[j]?).bind (·.dst) with
      | none => False
      | some t => match s.env t with
        | .c (.d (.v (.bool b))) => (b = want → vop c (!ds.contains i) o K s) ∧ ((b = want → False) → kput c.n o.dst K (.c .und) s)
        | .c .und => kput c.n o.dst K (.c .und) s
        | _ => False
def vplan (c : Cf) (ops : Array Oper) (ds : List Nat) : Plan → (St → Prop) → St → Prop
  | .done, K, s => K s
  | .take i p, K, s => vstep c ops ds i (vplan c ops ds p K) s
  | .one i p, K, s => vstep c ops ds i (vplan c ops ds p K) s
  | .two i p j q, K, s => vstep c ops ds i (vplan c ops ds p K) s ∧ vstep c ops ds j (vplan c ops ds q K) s
  | .three i p j q k r, K, s => vstep c ops ds i (vplan c ops ds p K) s ∧ vstep c ops ds j (vplan c ops ds q K) s ∧ vstep c ops ds k (vplan c ops ds r K) s

section
variable {c : Cf} {w0 : World} {own0 : Nat → Prop} {g0 : Gh} {s : St} {g : Gh} {a : Act} {w : World}

theorem vtake_sound (TO : TabOk c.P c.T) {q : Bool} {o : Oper} {K : St → Prop} (h : Run c.m c.n w0 own0 g0 s g a w) (hp : pureOp o = true) (hk : vop c q o K s) :
    ∃ v, (∀ w', (execOp a.eval o).run c.P w' = .ok (.value v) w') ∧ Goes c w0 own0 g0 K (a.put o.dst v) w := by
  obtain ⟨dst, op, ty, pos, after, guard⟩ := o
  unfold vop at hk
  unfold execOp
  cases op <;> simp only [pureOp] at hp hk ⊢ <;> try (cases hp; done)
  case move x => exact ⟨_, fun w' => rfl, kput_goes h (fixN_rel (h.rel.ev x)) hk⟩
  case assign x =>
    cases dst with
    | none => exact ⟨_, fun w' => rfl, s, g, hk, h⟩
    | some d =>
      obtain ⟨y, s', g', h1, h2, h3⟩ := vassign_sound h (fixN_rel (h.rel.ev x)) hk
      exact ⟨_, fun w' => rfl, kput_goes h2 h3 h1⟩
  case pick x y z =>
    unfold vpick at hk
    split at hk
    · rename_i b hb
      have hx := h.rel.ev x
      rw [hb] at hx
      have := relB hx
      rw [this]
      cases b with
      | true => exact ⟨_, fun w' => rfl, kput_goes h (h.rel.ev y) (hk.1 rfl)⟩
      | false => exact ⟨_, fun w' => rfl, kput_goes h (h.rel.ev z) (hk.2 rfl)⟩
    · exact hk.elim
  case build t ps =>
    obtain ⟨y, v, h1, h2, h3⟩ := vbuild_sound TO h.rel (parts_rel h ps) hk
    exact ⟨v, fun w' => by simp only [Sem.run_bind, h1, Result.andThen_ok]; rfl, kput_goes h h3 h2⟩
  case nilCheck x =>
    obtain ⟨b, hb, y, h2, h3⟩ := vnil_sound (h.rel.ev x) hk
    rw [hb] at h3
    exact ⟨_, fun w' => by simp only [hb]; rfl, kput_goes h h3 h2⟩
  case binOp op t x y yt =>
    obtain ⟨z, r, h1, h2, h3⟩ := vbin_sound (xo := x) (yo := y) TO (h.rel.ev x) (h.rel.ev y) hk
    exact ⟨r, fun w' => by rw [Sem.run_bind, h1]; rfl, kput_goes h h3 h2⟩
  case unOp op t x =>
    obtain ⟨z, r, h1, h2, h3⟩ := vun_sound (P := c.P) (h.rel.ev x) hk
    exact ⟨r, fun w' => by simp only [Sem.run_bind, h1, Result.andThen_ok]; rfl, kput_goes h h3 h2⟩
  case convert t t' x =>
    obtain ⟨z, r, h1, h2, h3⟩ := vconv_sound TO (h.rel.ev x) hk
    exact ⟨r, fun w' => by simp only [Sem.run_bind, h1, Result.andThen_ok]; rfl, kput_goes h h3 h2⟩
  case slice t x lo hi mx =>
    obtain ⟨rfl, hk⟩ := hk
    obtain ⟨z, r, h1, h2, h3⟩ := vslice_sound TO h.rel (lv := lo.map a.eval) (hv := hi.map a.eval) (h.rel.ev x) (by cases lo <;> simp [h.rel.ev]) (by cases hi <;> simp [h.rel.ev]) hk
    exact ⟨r, fun w' => by simp only [Sem.run_bind, Option.map_none, h1, Result.andThen_ok]; rfl, kput_goes h h3 h2⟩
  case fieldAddr t x f =>
    obtain ⟨z, r, h1, h2, h3⟩ := vfieldAddr_sound TO (h.rel.ev x) hk
    exact ⟨r, fun w' => by simp only [Sem.run_bind, h1, Result.andThen_ok]; rfl, kput_goes h h3 h2⟩
  case field t x f =>
    obtain ⟨z, r, h1, h2, h3⟩ := vfieldOf_sound TO (h.rel.ev x) hk
    exact ⟨r, fun w' => by simp only [Sem.run_bind, h1, Result.andThen_ok]; rfl, kput_goes h h3 h2⟩
  case indexAddr t x i =>
    obtain ⟨z, r, h1, h2, h3⟩ := vindexAddr_sound TO h.rel (h.rel.ev x) (h.rel.ev i) hk
    exact ⟨r, fun w' => by simp only [Sem.run_bind, h1, Result.andThen_ok]; rfl, kput_goes h h3 h2⟩
  case index t x i =>
    obtain ⟨z, r, h1, h2, h3⟩ := vindex_sound TO (h.rel.ev x) (h.rel.ev i) hk
    exact ⟨r, fun w' => by simp only [Sem.run_bind, h1, Result.andThen_ok]; rfl, kput_goes h h3 h2⟩
  case extract x i =>
    obtain ⟨z, r, h1, h2, h3⟩ := vextract_sound (P := c.P) (h.rel.ev x) hk
    exact ⟨r, fun w' => by simp only [Sem.run_bind, h1, Result.andThen_ok]; rfl, kput_goes h h3 h2⟩
  case call cl =>
    unfold vcalls at hk
    obtain ⟨callee, args, argTypes⟩ := cl
    simp only at hk hp
    split at hk
    · rename_i hcal
      split at hk
      · rename_i x t e1 e2
        obtain ⟨hlt, hk⟩ := hk
        have ea : args = #[x] := by apply Array.ext'; simpa using e1
        have et : argTypes = #[t] := by apply Array.ext'; simpa using e2
        subst ea; subst et
        obtain ⟨k1, k2⟩ := lenTy_ok TO hlt
        obtain ⟨z, r, h1, h2, h3⟩ := vlen_sound (ty := ty) TO h.rel (h.rel.ev x) k1 k2 hk
        exact ⟨r, fun w' => by simp only [resolve, invoke, builtin, Sem.run_bind, Sem.run_pure, Result.andThen_ok, List.map_toArray, List.map_cons, List.map_nil, h1], kput_goes h h3 h2⟩
      · exact hk.elim
    · simp at hp
    · simp at hp
    · split at hk
      · rename_i x y e1
        have ea : args = #[x, y] := by apply Array.ext'; simpa using e1
        subst ea
        obtain ⟨z, r, h1, h2, h3⟩ := vmm_sound (P := c.P) (h.rel.ev x) (h.rel.ev y) hk
        have h1 : ∀ w', (Builtin.max2 (a.eval x) (a.eval y)).run c.P w' = .ok r w' := h1
        exact ⟨r, fun w' => by simp [resolve, invoke, builtin, Builtin.max_, h1], kput_goes h h3 h2⟩
      · exact hk.elim
    · split at hk
      · rename_i x y e1
        have ea : args = #[x, y] := by apply Array.ext'; simpa using e1
        subst ea
        obtain ⟨z, r, h1, h2, h3⟩ := vmm_sound (P := c.P) (h.rel.ev x) (h.rel.ev y) hk
        have h1 : ∀ w', (Builtin.min2 (a.eval x) (a.eval y)).run c.P w' = .ok r w' := h1
        exact ⟨r, fun w' => by simp [resolve, invoke, builtin, Builtin.min_, h1], kput_goes h h3 h2⟩
      · exact hk.elim
    · exact hk.elim

theorem rdB_lt {T : Tab} (h : Rel w0 own0 s g a w) {t : Nat} {x : AV} {K : AV → Prop} (hk : vload T t x s K) : ∀ b, rdB g x b → b < w.heap.size := by
  intro b hb
  unfold vload at hk
  cases ht : T t with
  | none => simp [ht] at hk
  | some i =>
    simp only [ht] at hk
    split at hk
    · rename_i v j
      cases hv : s.vars v with
      | none => simp [hv] at hk
      | some cs => rw [show b = g.ga v from hb]; exact h.vlt hv
    · exact h.lt b hb
    · rename_i u cs
      obtain ⟨r, hr⟩ := Option.isSome_iff_exists.1 hk.1
      rcases hb with hb | hb
      · exact h.lt b hb
      · exact h.rlt hr hb
    · rename_i u sz k j
      cases hr : s.rows u with
      | none => simp [hr] at hk
      | some r => exact h.rlt hr hb
    · exact hk.elim

theorem vplan_sound (TO : TabOk c.P c.T) {ops : Array Oper} {ds : List Nat} {K : St → Prop} {ws : World} (hs : Region.noSelect ops = true) : ∀ (p : Plan) (n : Nat) (l : Array Bool) (e : Bool) {s : St} {g : Gh} {a : Act} {w : World}, planB ops ds e p n l = true → (e = true → w = ws) →
    Run c.m c.n w0 own0 g0 s g a w → vplan c ops ds p K s →
    wpAnyLast c.P .any ops (fun e a' w' => e = .normal ∧ Goes c w0 own0 g0 K a' w') (fun w' => ∀ b, b < ws.heap.size → w'.heap[b]? = ws.heap[b]?) ds n l a w := by
  intro p
  have step : ∀ {s : St} {g : Gh} {a : Act} {w : World} {i : Nat} {K1 : St → Prop} {R : Act → World → Prop}, Run c.m c.n w0 own0 g0 s g a w → vstep c ops ds i K1 s → (∀ a' w', Goes c w0 own0 g0 K1 a' w' → R a' w') →
      wpOp c.P ops (fun e a' w' => e = .normal ∧ Goes c w0 own0 g0 K a' w') i (fun a' w' => (i ∉ ds → (∀ b, b < ws.heap.size → w.heap[b]? = ws.heap[b]?) → ∀ b, b < ws.heap.size → w'.heap[b]? = ws.heap[b]?) ∧ R a' w') a w := by
    intro s g a w i K1 R hr hk hR
    unfold vstep at hk
    unfold wpOp
    split at hk
    · exact hk.elim
    · rename_i o ho
      rw [ho]
      simp only
      have go : vop c (!ds.contains i) o K1 s → Oper.wp c.P o a w (fun a' w' => (i ∉ ds → (∀ b, b < ws.heap.size → w.heap[b]? = ws.heap[b]?) → ∀ b, b < ws.heap.size → w'.heap[b]? = ws.heap[b]?) ∧ R a' w') (fun e a' w' => e = .normal ∧ Goes c w0 own0 g0 K a' w') := fun hk =>
        Oper.wp_mono (fun a' w' hg => ⟨fun hi hS b hb => by
          have hq : (!ds.contains i) = true := by simpa using hi
          have hw := hS b hb
          have hlt : b < w.heap.size := by
            rw [Array.getElem?_eq_getElem hb] at hw
            exact (Array.getElem?_eq_some_iff.1 hw).1
          rw [(hg.1 hq).heap b hlt (fun h => h)]; exact hw, hR a' w' hg.2⟩) (vop_sound TO hr hk)
      have skip : kput c.n o.dst K1 (.c .und) s → (i ∉ ds → (∀ b, b < ws.heap.size → w.heap[b]? = ws.heap[b]?) → ∀ b, b < ws.heap.size → w.heap[b]? = ws.heap[b]?) ∧ R (a.put o.dst undef) w := fun hk =>
        ⟨fun _ hS => hS, hR _ _ (kput_goes (v := undef) hr (show relAV s g w (.c .und) undef from rfl) hk)⟩
      split at hk
      · rename_i hg
        have hw : Region.wanted o (yielded ops a.tmps) = true := by unfold Region.wanted; rw [hg]
        rw [if_pos hw]; exact .inl (go hk)
      · rename_i j want hg
        split at hk
        · exact hk.elim
        · rename_i t ht
          obtain ⟨y1, y2⟩ := guard_yields hr ht
          split at hk
          · rename_i b hb
            have hw : Region.wanted o (yielded ops a.tmps) = (some b == some want) := by unfold Region.wanted; rw [hg]; simp only; rw [y1 b hb]
            by_cases e : b = want
            · rw [if_pos (by rw [hw]; simp [e])]; exact .inl (go (hk.1 e))
            · rw [if_neg (by rw [hw]; simpa using e)]; exact skip (hk.2 e)
          · rename_i hb
            have hw : Region.wanted o (yielded ops a.tmps) = ((none : Option Bool) == some want) := by unfold Region.wanted; rw [hg]; simp only; rw [y2 hb]
            rw [if_neg (by rw [hw]; simp)]; exact skip hk
          · exact hk.elim
  induction p with
  | done =>
    intro n l e s g a w hB he hr hk
    refine wpAnyLast_done ?_ ⟨rfl, s, g, hk, hr⟩ n
    cases n <;> simpa [planB] using hB
  | take i p ih =>
    intro n l e s g a w hB he hr hk
    cases n with
    | zero => simp [planB] at hB
    | succ n =>
      simp only [planB, Bool.and_eq_true] at hB
      obtain ⟨⟨⟨h1, h2⟩, h3⟩, h4⟩ := hB
      cases ho : ops[i]? with
      | none => rw [ho] at h1; cases h1
      | some o =>
        rw [ho] at h1
        simp only at h1
        have hk' : vstep c ops ds i (vplan c ops ds p K) s := hk
        unfold vstep at hk'
        rw [ho] at hk'
        simp only at hk'
        have skip : ∀ {R : Prop}, kput c.n o.dst (vplan c ops ds p K) (.c .und) s → Goes c w0 own0 g0 (vplan c ops ds p K) (a.put o.dst undef) w := fun hk => kput_goes (v := undef) hr (show relAV s g w (.c .und) undef from rfl) hk
        -- the value that comes of it, in every world that is like the first
        have key : ∃ v, (pureOp o = true → Yields c.P ops o v a) ∧ (pureOp o = true ∨ YieldsIf c.P ops (fun w' => ∀ b, b < ws.heap.size → w'.heap[b]? = ws.heap[b]?) o v a) ∧ Goes c w0 own0 g0 (vplan c ops ds p K) (a.put o.dst v) w := by
          have run : vop c (!ds.contains i) o (vplan c ops ds p K) s → ∃ v, (pureOp o = true → ∀ w', (execOp a.eval o).run c.P w' = .ok (.value v) w') ∧ (pureOp o = true ∨ ∀ w', (∀ b, b < ws.heap.size → w'.heap[b]? = ws.heap[b]?) → (execOp a.eval o).run c.P w' = .ok (.value v) w') ∧ Goes c w0 own0 g0 (vplan c ops ds p K) (a.put o.dst v) w := by
            intro hv
            by_cases hp : pureOp o = true
            · obtain ⟨v, e1, e2⟩ := vtake_sound TO hr hp hv
              exact ⟨v, fun _ => e1, .inl hp, e2⟩
            · simp only [hp, Bool.false_or, Bool.and_eq_true] at h1
              have hw := he h1.1.1.2
              obtain ⟨dst, op, ty, pos, after, guard⟩ := o
              have hl : ∃ t x, op = .load t x := by
                have hld := h1.1.1.1
                cases op <;> first | exact ⟨_, _, rfl⟩ | cases hld
              obtain ⟨t, x, rfl⟩ := hl
              have hv' : vload c.T t (s.ev x) s (kval c.n dst (vplan c ops ds p K) s) := hv
              obtain ⟨y, u, k1, k2, k3⟩ := vload_sound TO hr.rel (hr.rel.ev x) hv'
              refine ⟨u, fun h => absurd h hp, .inr fun w' hS => ?_, kput_goes hr k3 k2⟩
              have : (Instr.loadAt t (a.eval x)).run c.P w' = .ok u w' := k1 w' (fun b hb => by
                have := rdB_lt hr.rel hv' b hb
                rw [hw] at this
                rw [hw]; exact hS b this)
              unfold execOp
              simp only [Sem.run_bind, this, Result.andThen_ok]; rfl
          split at hk'
          · rename_i hg
            have hw : Region.wanted o (yielded ops a.tmps) = true := by unfold Region.wanted; rw [hg]
            obtain ⟨v, e1, e2, e3⟩ := run hk'
            exact ⟨v, fun hp => .inl ⟨hw, e1 hp⟩, e2.imp id fun e2 => .inl ⟨hw, e2⟩, e3⟩
          · rename_i j want hg
            split at hk'
            · exact hk'.elim
            · rename_i t ht
              obtain ⟨y1, y2⟩ := guard_yields hr ht
              split at hk'
              · rename_i b hb
                have hw : Region.wanted o (yielded ops a.tmps) = (some b == some want) := by unfold Region.wanted; rw [hg]; simp only; rw [y1 b hb]
                by_cases e : b = want
                · have hw' : Region.wanted o (yielded ops a.tmps) = true := by rw [hw]; simp [e]
                  obtain ⟨v, e1, e2, e3⟩ := run (hk'.1 e)
                  exact ⟨v, fun hp => .inl ⟨hw', e1 hp⟩, e2.imp id fun e2 => .inl ⟨hw', e2⟩, e3⟩
                · have hw' : Region.wanted o (yielded ops a.tmps) = false := by rw [hw]; simpa using e
                  exact ⟨undef, fun _ => .inr ⟨hw', rfl⟩, .inr (.inr ⟨hw', rfl⟩), skip (R := True) (hk'.2 e)⟩
              · rename_i hb
                have hw : Region.wanted o (yielded ops a.tmps) = ((none : Option Bool) == some want) := by unfold Region.wanted; rw [hg]; simp only; rw [y2 hb]
                have hw' : Region.wanted o (yielded ops a.tmps) = false := by rw [hw]; simp
                exact ⟨undef, fun _ => .inr ⟨hw', rfl⟩, .inr (.inr ⟨hw', rfl⟩), skip (R := True) hk'⟩
              · exact hk'.elim
        obtain ⟨v, e1, e2, s', g', e3, e4⟩ := key
        have next := ih n (l.setIfInBounds i true) e h4 he e4 e3
        have hr' : i ∈ Region.ready .any ops l := by simpa using h3
        by_cases hp : pureOp o = true
        · exact wpAnyLast_any ho (Region.noSelect_spec hs) (fun c a w h => by cases h.1) n l a w (Region.free_spec ho h2) hr' (e1 hp) next
        · simp only [hp, Bool.false_or, Bool.and_eq_true] at h1
          have hw := he h1.1.1.2
          exact wpAnyLast_take ho hs h2 h3 h1.1.2 h1.2 (fun c a w h => by cases h.1) (e2.resolve_left hp) (by rw [hw]; exact fun _ _ => rfl) next
  | one i p ih =>
    intro n l e s g a w hB he hr hk
    cases n with
    | zero => simp [planB] at hB
    | succ n =>
      simp only [planB, Bool.and_eq_true, beq_iff_eq] at hB
      refine wpAnyLast_all hB.1 (by simp) fun j hj => ?_
      simp only [List.mem_singleton] at hj; subst hj
      exact step hr hk fun a' w' ⟨s', g', k1, k2⟩ => ih n _ false hB.2 (fun h => by cases h) k2 k1
  | two i p j q ih1 ih2 =>
    intro n l e s g a w hB he hr hk
    cases n with
    | zero => simp [planB] at hB
    | succ n =>
      simp only [planB, Bool.and_eq_true, beq_iff_eq] at hB
      obtain ⟨⟨hB1, hB2⟩, hB3⟩ := hB
      refine wpAnyLast_all hB1 (by simp) fun k hk' => ?_
      simp only [List.mem_cons, List.not_mem_nil, or_false] at hk'
      rcases hk' with rfl | rfl
      · exact step hr hk.1 fun a' w' ⟨s', g', k1, k2⟩ => ih1 n _ false hB2 (fun h => by cases h) k2 k1
      · exact step hr hk.2 fun a' w' ⟨s', g', k1, k2⟩ => ih2 n _ false hB3 (fun h => by cases h) k2 k1
  | three i p j q k r ih1 ih2 ih3 =>
    intro n l e s g a w hB he hr hk
    cases n with
    | zero => simp [planB] at hB
    | succ n =>
      simp only [planB, Bool.and_eq_true, beq_iff_eq] at hB
      obtain ⟨⟨⟨hB1, hB2⟩, hB3⟩, hB4⟩ := hB
      refine wpAnyLast_all hB1 (by simp) fun x hk' => ?_
      simp only [List.mem_cons, List.not_mem_nil, or_false] at hk'
      rcases hk' with rfl | rfl | rfl
      · exact step hr hk.1 fun a' w' ⟨s', g', k1, k2⟩ => ih1 n _ false hB2 (fun h => by cases h) k2 k1
      · exact step hr hk.2.1 fun a' w' ⟨s', g', k1, k2⟩ => ih2 n _ false hB3 (fun h => by cases h) k2 k1
      · exact step hr hk.2.2 fun a' w' ⟨s', g', k1, k2⟩ => ih3 n _ false hB4 (fun h => by cases h) k2 k1

/-- A REGION THAT DRAWS ITS ORDER, BY A PLAN. -/
theorem VD.plan (TO : TabOk c.P c.T) (hm : c.P.follows .mixedOrders = true) {ops : Array Oper} {K : St → Prop} (ds : List Nat) (p : Plan) (hB : planOk ops ds p = true) (h : vplan c ops ds p K s) : VD c ops K s := by
  intro w0 own0 g0 g a w hr id
  simp only [planOk, Bool.and_eq_true] at hB
  refine wp_region_any hm (wpAny_of_last _ _ _ _ (vplan_sound (ws := { w with drawn := w.drawn + 1 }) (ds := ds) TO hB.1 p _ _ true hB.2 (fun _ => rfl) (hr.grow ⟨rfl, rfl, rfl, Nat.le_refl _, fun _ _ _ => rfl⟩) h))
end
end GV
namespace GV
open Go
section
variable {c : Cf} {ops : Array Oper} {ds : List Nat} {K : St → Prop} {s : St} {i j k : Nat} {p q r : Plan} {l : List Nat}
@[push_cast] theorem vplan_done : vplan c ops ds .done K s = K s := rfl
@[push_cast] theorem vplan_take : vplan c ops ds (.take i p) K s = vstep c ops ds i (vplan c ops ds p K) s := rfl
@[push_cast] theorem vplan_one : vplan c ops ds (.one i p) K s = vstep c ops ds i (vplan c ops ds p K) s := rfl
@[push_cast] theorem vplan_two : vplan c ops ds (.two i p j q) K s = (vstep c ops ds i (vplan c ops ds p K) s ∧ vstep c ops ds j (vplan c ops ds q K) s) := rfl
@[push_cast] theorem vplan_three : vplan c ops ds (.three i p j q k r) K s = (vstep c ops ds i (vplan c ops ds p K) s ∧ vstep c ops ds j (vplan c ops ds q K) s ∧ vstep c ops ds k (vplan c ops ds r K) s) := rfl
@[push_cast] theorem vplan_nil : vplan c ops ds (.takes [] p) K s = vplan c ops ds p K s := rfl
@[push_cast] theorem vplan_cons : vplan c ops ds (.takes (i :: l) p) K s = vstep c ops ds i (vplan c ops ds (.takes l p) K) s := rfl
end
theorem vstep_eq {c : Cf} {ops : Array Oper} {ds : List Nat} {i : Nat} {K : St → Prop} {s : St} : vstep c ops ds i K s = match ops[i]? with
  | none => False
  | some o => match o.guard with
    | none => vop c (!ds.contains i) o K s
    | some (j, want) => match (ops[j]?).bind (·.dst) with
      | none => False
      | some t => match s.env t with
        | .c (.d (.v (.bool b))) => if b = want then vop c (!ds.contains i) o K s else kput c.n o.dst K (.c .und) s
        | .c .und => kput c.n o.dst K (.c .und) s
        | _ => False := by
  unfold vstep
  cases ops[i]? with
  | none => rfl
  | some o =>
    simp only
    cases o.guard with
    | none => rfl
    | some p =>
      obtain ⟨j, want⟩ := p
      simp only
      generalize (ops[j]?).bind (·.dst) = q
      cases q with
      | none => rfl
      | some t =>
        simp only
        generalize s.env t = v
        rcases v with u | _ | _
        · rcases u with _ | _ | d | _ | _ | _ | _ | _ | _ | _ <;> try rfl
          rcases d with v | _ <;> try rfl
          cases v <;> first | rfl | exact two_wants _ _ _ _
        · rfl
        · rfl
attribute [push_cast] vstep_eq Bool.not_eq_true Bool.not_eq_false vcode_drawn List.getElem?_toArray List.contains_cons List.contains_nil Bool.or_false Bool.false_or Bool.true_or Bool.or_true
end GV

set_option linter.unusedSimpArgs false
set_option linter.unusedVariables false
namespace GV
open Go
def lkE : List (Nat × AV) → Nat → AV
  | [], _ => .c .no
  | (i, x) :: l, j => if j = i then x else lkE l j
def lkR : List (Nat × Row) → Nat → Option Row
  | [], _ => none
  | (i, x) :: l, j => if j = i then some x else lkR l j
def lkV : List (Nat × List C) → Nat → Option (List C)
  | [], _ => none
  | (i, x) :: l, j => if j = i then some x else lkV l j
/-- A state, told by lists. -/
def St.of (gl : Nat → Option (List D)) (env : List (Nat × AV)) (rows : List (Nat × Row)) (vars : List (Nat × List C)) : St := ⟨lkE env, lkR rows, lkV vars, gl⟩
def eqE (s : St) : List (Nat × AV) → Prop
  | [] => True
  | (i, x) :: l => s.env i = x ∧ eqE s l
def eqR (s : St) : List (Nat × Row) → Prop
  | [] => True
  | (i, x) :: l => s.rows i = some x ∧ eqR s l
def eqV (s : St) : List (Nat × List C) → Prop
  | [] => True
  | (i, x) :: l => s.vars i = some x ∧ eqV s l
theorem St.le_of {s : St} {gl : Nat → Option (List D)} {env : List (Nat × AV)} {rows : List (Nat × Row)} {vars : List (Nat × List C)} (h : s.gl = gl ∧ eqE s env ∧ eqR s rows ∧ eqV s vars) : s.le (St.of gl env rows vars) := by
  obtain ⟨h1, h2, h3, h4⟩ := h
  refine ⟨fun j => ?_, fun j => ?_, fun j => ?_, fun k => .inl (by rw [← h1]; rfl)⟩
  · show lkE env j = s.env j ∨ lkE env j = .c .no
    induction env with
    | nil => exact .inr rfl
    | cons p l ih =>
      obtain ⟨i, x⟩ := p
      unfold lkE
      by_cases e : j = i
      · rw [if_pos e, e]; exact .inl h2.1.symm
      · rw [if_neg e]; exact ih h2.2
  · show lkR rows j = s.rows j ∨ lkR rows j = none
    induction rows with
    | nil => exact .inr rfl
    | cons p l ih =>
      obtain ⟨i, x⟩ := p
      unfold lkR
      by_cases e : j = i
      · rw [if_pos e, e]; exact .inl h3.1.symm
      · rw [if_neg e]; exact ih h3.2
  · show lkV vars j = s.vars j ∨ lkV vars j = none
    induction vars with
    | nil => exact .inr rfl
    | cons p l ih =>
      obtain ⟨i, x⟩ := p
      unfold lkV
      by_cases e : j = i
      · rw [if_pos e, e]; exact .inl h4.1.symm
      · rw [if_neg e]; exact ih h4.2
def kloop {σ : Type} (st : σ → St) (μ : σ → Nat) (i : σ) (Q : Exit → St → Prop) (e : Exit) (s : St) : Prop := match e with | .normal => ∃ j, s.le (st j) ∧ μ j < μ i | e => Q e s
section
variable {c : Cf} {s : St} {Q : Exit → St → Prop} {σ : Type} {st : σ → St} {μ : σ → Nat} {i : σ}
@[push_cast] theorem kloop_exit {k : Nat} : kloop st μ i Q (.exit k) s = Q (.exit k) s := rfl
@[push_cast] theorem kloop_ret : kloop st μ i Q .ret s = Q .ret s := rfl
theorem kloop_next (j : σ) (h : s.le (st j)) (hm : μ j < μ i) : kloop st μ i Q .normal s := ⟨j, h, hm⟩
theorem VC.loop' (TO : TabOk c.P c.T) {x : Code} (st : σ → St) (μ : σ → Nat) (i : σ) (hi : s.le (st i)) (h : ∀ i, vcode c x (kloop st μ i Q) (st i)) : VC c (.loop x) Q s :=
  VC.loop st μ i hi fun i => (vcode_sound TO x (h i)).mono fun e s' hk => by cases e <;> exact hk
@[push_cast] theorem of_env (gl : Nat → Option (List D)) (env : List (Nat × AV)) (rows : List (Nat × Row)) (vars : List (Nat × List C)) (j : Nat) : (St.of gl env rows vars).env j = lkE env j := rfl
@[push_cast] theorem of_rows (gl : Nat → Option (List D)) (env : List (Nat × AV)) (rows : List (Nat × Row)) (vars : List (Nat × List C)) (j : Nat) : (St.of gl env rows vars).rows j = lkR rows j := rfl
@[push_cast] theorem of_vars (gl : Nat → Option (List D)) (env : List (Nat × AV)) (rows : List (Nat × Row)) (vars : List (Nat × List C)) (j : Nat) : (St.of gl env rows vars).vars j = lkV vars j := rfl
@[push_cast] theorem of_gl (gl : Nat → Option (List D)) (env : List (Nat × AV)) (rows : List (Nat × Row)) (vars : List (Nat × List C)) : (St.of gl env rows vars).gl = gl := rfl
attribute [push_cast] lkE lkR lkV eqE eqR eqV decide_eq_true_eq decide_eq_false_iff_not Int.natCast_nonneg Int.ofNat_lt Int.toNat_natCast beq_iff_eq
theorem w64 (n : Int) (h1 : -9223372036854775808 ≤ n) (h2 : n ≤ 9223372036854775807) : IntKind.i64.wrap n = n := by rw [IntKind.wrap_i64]; omega
end
end GV

set_option linter.unusedSimpArgs false
set_option linter.unusedVariables false
namespace GV
open Go
/-- At the end of a body that hands back a pointer to a variable of its own. -/
def vfinN (T : Tab) (gl : Nat → Option (List D)) (rs : List ResultVar) (l : List D) (s : St) : Prop :=
  rvs T s rs fun xs => ∃ t, xs = [.c (.ptr t 0)] ∧ s.vars t = some (l.map .d) ∧ s.gl = gl
def vpostN (T : Tab) (gl : Nat → Option (List D)) (rs : List ResultVar) (l : List D) (e : Exit) (s : St) : Prop :=
  match e with
  | .normal => vfinN T gl rs l s
  | .ret => vfinN T gl rs l s
  | _ => False
@[push_cast] theorem vpostN_normal {T : Tab} {gl : Nat → Option (List D)} {rs : List ResultVar} {l : List D} {s : St} : vpostN T gl rs l .normal s = vfinN T gl rs l s := rfl
@[push_cast] theorem vpostN_ret {T : Tab} {gl : Nat → Option (List D)} {rs : List ResultVar} {l : List D} {s : St} : vpostN T gl rs l .ret s = vfinN T gl rs l s := rfl
theorem allD_map : ∀ (l : List D), allD (l.map .d) = some l
  | [] => rfl
  | x :: l => by simp [allD, allD_map l]
section
variable {P : Program} {T : Tab} {m n : Nat} {w0 : World} {own0 : Nat → Prop} {g0 : Gh} {s : St} {g : Gh} {a : Act} {w : World}
theorem callNew_of {f : FuncId} {fn : Func} {code : Code} {gl : Nat → Option (List D)} {ins : List In} {l : List D} (rs : List ResultVar) (TO : TabOk P T) (hf : P.funcs[f]? = some fn) (hname : (fn.name == "runtime.NumGoroutine") = false) (hb : fn.body = some code)
    (hr : fn.results = rs.toArray) (hl : rs.length ≤ 4) (hn : ins.length ≤ fn.ntmps) (hn5 : ins.length ≤ 500)
    (h : VC ⟨P, T, ins.length, fn.ntmps⟩ code (vpostN T gl rs l) (initSt gl ins)) : CallOk P gl f ins ⟨[.rv (l.map .d)], []⟩ := by
  refine ⟨fun args w => ?_, fun w own0 g args hsz hrel => ?_⟩
  · have h1 : fn.name ≠ "runtime.NumGoroutine" := by simpa using hname
    simp [callFunc, hf, h1, hb]
  · refine calls_of_wp hf hb ?_
    have hget : ∀ j, (args ++ Array.replicate (fn.ntmps - args.size) undef).getD j undef = args.getD j undef := by
      intro j
      rw [Array.getD_eq_getD_getElem?, Array.getD_eq_getD_getElem?, Array.getElem?_append]
      split
      · rfl
      · rename_i hj
        rw [Array.getElem?_eq_none (xs := args) (by omega), Array.getElem?_replicate]
        split <;> rfl
    have hrun : Run ins.length fn.ntmps w own0 g (initSt gl ins) g ⟨args ++ Array.replicate (fn.ntmps - args.size) undef, []⟩ w := by
      refine ⟨⟨rfl, hrel.os, hrel.tape, hrel.output, hrel.size, hrel.frame, hrel.lt, hrel.rows, hrel.vars, hrel.rowF, hrel.varF, hrel.rr, hrel.vv, hrel.rv, fun j => ?_, hrel.glob⟩, by simp; omega, fun _ _ => rfl, fun _ h => h, fun _ h => .inl h⟩
      show relAV _ _ _ _ ((args ++ Array.replicate (fn.ntmps - args.size) undef).getD j undef)
      rw [hget j]; exact hrel.env j
    have fin : ∀ (s : St) (g' : Gh) (a' : Act) (w' : World), vfinN T gl rs l s → Run ins.length fn.ntmps w own0 g s g' a' w' → a'.defers = [] ∧ ∃ v, (results fn a'.tmps).run P w' = .ok v w' ∧ ∃ o, o = (⟨[.rv (l.map .d)], []⟩ : Out) ∧ ∃ vals g', Ending.returned v = .returned (retV vals) ∧ vals.size = o.res.length ∧ Rel w own0 (finSt gl o) g' ⟨vals, []⟩ w' ∧
      (∀ j, j < ins.length → g'.ga j = g.ga j) ∧ (∀ b, g.F b → g'.F b) ∧ ∀ b, g'.F b → g.F b ∨ own0 b ∨ w.heap.size ≤ b := by
      intro s g' a' w' hv hrn
      obtain ⟨xs, vs, ⟨t, rfl, hvt, hgl⟩, hx, hrr⟩ := rvs_sound TO hrn.rel hv
      match vs, hx with
      | [v], hx =>
        have hptr : v = .pointer (some ⟨g'.ga t, 0, none⟩) := hx.1 (by rw [hvt]; rfl)
        refine ⟨hrn.rel.defers, _, results_run hr hl a'.tmps w' hrr, ⟨[.rv (l.map .d)], []⟩, rfl, #[v], { g' with ga := upd g'.ga 500 (g'.ga t) }, rfl, rfl, ?_, fun j hj => ?_, hrn.F, hrn.F'⟩
        · obtain ⟨arr, T', k1, k2⟩ := hrn.rel.vars t _ hvt
          have hk := hrn.rel.killV t
          have hm : Moves s (s.killV t) g' g' w' w' := ⟨fun _ h => h, fun _ _ => rfl, fun u hu => ⟨hu, rfl, fun _ _ => rfl⟩, fun u hu => ⟨by
            simp only [St.killV, upd] at hu
            split at hu
            · cases hu
            · exact hu, rfl⟩⟩
          have hvF := hrn.rel.varF t _ hvt
          have hA := hk.addV 500 (g'.ga t) (l.map .d) arr T' k1 (k2.move hm) hvF.1 hvF.2 (fun u r hu => hrn.rel.rv u t r _ hu hvt) (fun u c _ hu => by
            simp only [St.killV, upd] at hu
            split at hu
            · cases hu
            · rename_i hne
              exact hrn.rel.vv u t c _ hne hu hvt)
          have hrows : ∀ t' r, (finSt gl ⟨[.rv (l.map .d)], []⟩).rows t' = some r → ((s.killV t).addV 500 (l.map .d)).rows t' = some r := by
            intro t' r ht
            exfalso
            have ht : tRow (tOut ⟨[.rv (l.map .d)], []⟩) t' = some r := ht
            unfold tRow at ht
            split at ht
            · unfold tOut at ht
              split at ht
              · rename_i hr'
                split at hr'
                · simp at hr'
                · simp only [List.getElem?_cons] at hr'
                  split at hr' <;> simp at hr'
              · cases ht
            · unfold tOut at ht
              split at ht
              · rename_i l' hr'
                split at hr'
                · simp at hr'
                · simp only [List.getElem?_cons] at hr'
                  split at hr'
                  · simp at hr'
                    subst hr'
                    unfold rowIn at ht
                    split at ht
                    · rename_i hk'
                      simp only [List.getElem?_map, Option.map_eq_some_iff] at hk'
                      obtain ⟨_, _, hk'⟩ := hk'
                      cases hk'
                    · cases ht
                  · simp at hr'
              · rename_i l' hr'
                split at hr'
                · simp at hr'
                · simp only [List.getElem?_cons] at hr'
                  split at hr' <;> simp at hr'
              · cases ht
          have hvars : ∀ t' c, (finSt gl ⟨[.rv (l.map .d)], []⟩).vars t' = some c → ((s.killV t).addV 500 (l.map .d)).vars t' = some c := by
            intro t' c ht
            have ht : tVar (tOut ⟨[.rv (l.map .d)], []⟩) t' = some c := ht
            unfold tVar tOut at ht
            split at ht
            · rename_i l' hr'
              split at hr'
              · simp at hr'
              · rename_i hge
                simp only [List.getElem?_cons] at hr'
                split at hr'
                · rename_i h0
                  have e5 : t' = 500 := by omega
                  subst e5
                  simp at hr'
                  subst hr'
                  cases ht
                  rw [allD_ic (allD_map l)]
                  simp only [St.addV, upd_same, List.map_map]
                  rfl
                · simp at hr'
            · cases ht
          refine hA.restrict rfl hrows hvars (fun k cs hk' => ?_) (fun j => ?_)
          · show s.gl k = some cs
            rw [hgl]; exact hk'
          · show relAV (finSt gl ⟨[.rv (l.map .d)], []⟩) _ w' (inAV (500 + j) ((([.rv (l.map .d)] : List In))[j]?)) ((#[v] : Array Value).getD j undef)
            cases j with
            | zero =>
              intro _
              show v = _
              rw [hptr]; simp only [upd_same]
            | succ j => exact (show (#[v] : Array Value).getD (j + 1) undef = undef by simp [Array.getD])
        · have : j ≠ 500 := by omega
          simp only [upd_ne _ _ _ _ this]
          exact hrn.ga j hj
    refine Code.wp_mono (fun e a' w' hg => ?_) (h w own0 g g _ w hrun)
    obtain ⟨s, g', k1, k2⟩ := hg
    cases e with
    | normal => exact fin s g' a' w' k1 k2
    | ret => exact fin s g' a' w' k1 k2
    | _ => exact k1.elim
end
end GV

set_option linter.unusedSimpArgs false
set_option linter.unusedVariables false
namespace GV
open Go
/-- A nil slice in cell k of variable v is, from now on, an empty slice of the call's own, called t. -/
def St.ownV (s : St) (v k t : Nat) : St :=
  match s.vars v with
  | some cs => match cs.getD k .no with
    | .nil e sz => if 0 < sz then (s.addR t ⟨e, sz, []⟩).setV v ((cs.map (C.rmR t)).set k (.own t)) else s
    | _ => s
  | none => s
section
variable {c : Cf} {w0 : World} {own0 : Nat → Prop} {g0 : Gh} {m n : Nat} {s : St} {g : Gh} {a : Act} {w : World} {Q : Exit → St → Prop}
theorem Run.ownV (h : Run m n w0 own0 g0 s g a w) (v k t : Nat) : ∃ g', Run m n w0 own0 g0 (s.ownV v k t) g' a w := by
  unfold St.ownV
  cases hv : s.vars v with
  | none => exact ⟨g, h⟩
  | some cs =>
    simp only
    split
    · rename_i e sz hk
      split
      · rename_i h0
        have hr := h.rel.addR t ⟨e, sz, []⟩ (.slice none 0 0) ⟨[], ⟨by simp, .inl ⟨rfl, rfl⟩⟩, h0, by simp⟩ (fun b hb => by simp [Value.ownBlock] at hb)
        have hv' : (s.addR t ⟨e, sz, []⟩).vars v = some (cs.map (C.rmR t)) := by simp [St.addR, St.map, hv]
        obtain ⟨arr, T', k1, k2⟩ := h.rel.vars v cs hv
        obtain ⟨arr', T'', k3, k4⟩ := hr.vars v _ hv'
        have ea : arr' = arr := by
          have : w.heap[g.ga v]? = some (.cells arr' T'' (0, 0)) := k3
          rw [k1] at this
          simp at this
          exact this.1.symm
        subst ea
        have hkl : k < cs.length := by
          rcases Nat.lt_or_ge k cs.length with h | h
          · exact h
          · rw [List.getD_eq_getElem?_getD, List.getElem?_eq_none h] at hk; cases hk
        have hval : arr'.getD k undef = .slice none 0 0 := by
          have := k2.2 k hkl
          rw [hk] at this; exact this
        have hset := hr.setV v _ ((cs.map (C.rmR t)).set k (.own t)) hv' (Keeps.refl w _) ⟨arr', T'', k3, by rw [List.length_set]; exact k4.1, fun j hj => by
          rw [List.length_set] at hj
          by_cases e : j = k
          · subst e
            have : ((cs.map (C.rmR t)).set j (.own t)).getD j .no = .own t := by
              rw [List.getD_eq_getElem?_getD, List.getElem?_set, if_pos rfl, if_pos hj]; rfl
            rw [this, hval]
            exact fun _ => (upd_same _ _ _).symm
          · have : ((cs.map (C.rmR t)).set k (.own t)).getD j .no = (cs.map (C.rmR t)).getD j .no := by
              rw [List.getD_eq_getElem?_getD, List.getElem?_set, if_neg (Ne.symm e), ← List.getD_eq_getElem?_getD]
            rw [this]; exact k4.2 j hj⟩
        exact ⟨_, hset, h.tmps, h.ga, h.F, h.F'⟩
      · exact ⟨g, h⟩
    · exact ⟨g, h⟩
theorem VC.ownV {code : Code} (v k t : Nat) (h : VC c code Q (s.ownV v k t)) : VC c code Q s := fun w0 own0 g0 g a w hr => by
  obtain ⟨g', hr'⟩ := hr.ownV v k t
  exact h w0 own0 g0 g' a w hr'
/-- The same for a temporary. -/
def St.ownE (s : St) (j t : Nat) : St :=
  match s.env j with
  | .c (.nil e sz) => if 0 < sz then (s.addR t ⟨e, sz, []⟩).put j (.c (.own t)) else s
  | _ => s
theorem Run.ownE (h : Run m n w0 own0 g0 s g a w) (j t : Nat) : ∃ g', Run m n w0 own0 g0 (s.ownE j t) g' a w := by
  unfold St.ownE
  split
  · rename_i e sz hk
    split
    · rename_i h0
      have hr := h.rel.addR t ⟨e, sz, []⟩ (.slice none 0 0) ⟨[], ⟨by simp, .inl ⟨rfl, rfl⟩⟩, h0, by simp⟩ (fun b hb => by simp [Value.ownBlock] at hb)
      have hval : a.tmps.getD j undef = .slice none 0 0 := by
        have := h.rel.env j
        rw [hk] at this; exact this
      refine ⟨_, ⟨hr.defers, hr.os, hr.tape, hr.output, hr.size, hr.frame, hr.lt, hr.rows, hr.vars, hr.rowF, hr.varF, hr.rr, hr.vv, hr.rv, fun i => ?_, hr.glob⟩, h.tmps, h.ga, h.F, h.F'⟩
      show relAV _ _ w (upd (s.addR t ⟨e, sz, []⟩).env j (.c (.own t)) i) (a.tmps.getD i undef)
      by_cases e : i = j
      · subst e
        rw [upd_same, hval]
        exact fun _ => (upd_same _ _ _).symm
      · rw [upd_ne _ _ _ _ e]
        exact hr.env i
    · exact ⟨g, h⟩
  · exact ⟨g, h⟩
theorem VC.ownE {code : Code} (j t : Nat) (h : VC c code Q (s.ownE j t)) : VC c code Q s := fun w0 own0 g0 g a w hr => by
  obtain ⟨g', hr'⟩ := hr.ownE j t
  exact h w0 own0 g0 g' a w hr'
end
attribute [push_cast] St.ownV St.ownE List.set_cons_zero List.set_cons_succ
end GV

set_option linter.unusedSimpArgs false
set_option linter.unusedVariables false
namespace GV
open Go
/-! ### cells that are all data -/
def allDC : List C → Bool
  | [] => true
  | .d _ :: l => allDC l
  | _ :: _ => false
def unDC : List C → List D
  | [] => []
  | .d x :: l => x :: unDC l
  | _ :: l => dU :: unDC l
theorem normL_data : ∀ {l : List C} {st : Nat} {s : St} {K : List C → (C → C) → St → Prop}, allDC l = true → normL st l id s K = K l id s
  | [], _, _, _, _ => rfl
  | .d x :: l, st, s, K, h => by
    show normL (st + 1) l id s (fun l h s'' => K (h (.d x) :: l) (h ∘ id) s'') = _
    rw [normL_data (l := l) h]
    rfl
theorem frzL_data : ∀ {l : List C} {s : St} {K : List D → (C → C) → St → Prop}, allDC l = true → frzL l id s K = K (unDC l) id s
  | [], _, _, _ => rfl
  | .d x :: l, s, K, h => by
    show frzL l id s (fun l h s'' => K (x :: l) (h ∘ id) s'') = _
    rw [frzL_data (l := l) h]
    rfl
attribute [push_cast] allDC unDC
end GV

