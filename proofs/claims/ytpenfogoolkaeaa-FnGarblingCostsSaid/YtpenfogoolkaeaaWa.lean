/- This text proves the seat's types; contracts of the spec's emitters. No condition but those that each theorem states. -/
import Derived.Test.YtpenfogoolkaeaaVc
import Derived.Test.YtpenfogoolkaeaaProg
set_option linter.unusedSimpArgs false
set_option linter.unusedVariables false
namespace GV
open Go
def tabL : List (Nat × TI) := 
[
  (2, ⟨.int .i64, 1, 8, [.d (.v (.int .i64 0))], none⟩),
  (3, ⟨.int .i64, 1, 8, [.d (.v (.int .i64 0))], none⟩),
  (4, ⟨.bool, 1, 1, [.d (.v (.bool false))], none⟩),
  (5, ⟨.int .u8, 1, 1, [.d (.v (.int .u8 0))], none⟩),
  (6, ⟨.int .u8, 1, 1, [.d (.v (.int .u8 0))], none⟩),
  (7, ⟨.st [(0, 1, false), (1, 1, false), (2, 1, false), (3, 1, false)], 4, 24, [.d (.v (.int .i64 0)), .d (.v (.int .i64 0)), .d (.v (.bool false)), .d (.v (.int .u8 0))], none⟩),
  (8, ⟨.st [(0, 1, false), (1, 1, false), (2, 1, false), (3, 1, false)], 4, 24, [.d (.v (.int .i64 0)), .d (.v (.int .i64 0)), .d (.v (.bool false)), .d (.v (.int .u8 0))], none⟩),
  (9, ⟨.str, 1, 16, [.d (.v (.string ByteArray.empty))], none⟩),
  (10, ⟨.str, 1, 16, [.d (.v (.string ByteArray.empty))], none⟩),
  (11, ⟨.str, 1, 16, [.d (.v (.string ByteArray.empty))], none⟩),
  (12, ⟨.int .u64, 1, 8, [.d (.v (.int .u64 0))], none⟩),
  (13, ⟨.st [(0, 1, false), (1, 1, false)], 2, 24, [.d (.v (.string ByteArray.empty)), .d (.v (.int .u64 0))], none⟩),
  (14, ⟨.st [(0, 1, false), (1, 1, false)], 2, 24, [.d (.v (.string ByteArray.empty)), .d (.v (.int .u64 0))], none⟩),
  (21, ⟨.int .i32, 1, 4, [.d (.v (.int .i32 0))], none⟩),
  (22, ⟨.sl 5, 1, 24, [.nil 5 1], none⟩),
  (24, ⟨.sl 70, 1, 24, [.nil 70 3], none⟩),
  (25, ⟨.sl 3, 1, 24, [.nil 3 1], none⟩),
  (26, ⟨.st [(0, 1, false), (1, 1, false)], 2, 48, [.nil 70 3, .nil 3 1], none⟩),
  (27, ⟨.st [(0, 1, false), (1, 1, false)], 2, 48, [.nil 70 3, .nil 3 1], none⟩),
  (28, ⟨.st [(0, 1, false), (1, 1, false)], 2, 16, [.d (.v (.int .i64 0)), .d (.v (.int .i64 0))], some [.i64, .i64]⟩),
  (29, ⟨.st [(0, 1, false), (1, 1, false)], 2, 16, [.d (.v (.int .i64 0)), .d (.v (.int .i64 0))], some [.i64, .i64]⟩),
  (32, ⟨.st [(0, 1, false), (1, 1, false), (2, 1, false), (3, 1, false)], 4, 32, [.d (.v (.int .i64 0)), .d (.v (.int .i64 0)), .d (.v (.int .i64 0)), .d (.v (.int .i64 0))], some [.i64, .i64, .i64, .i64]⟩),
  (33, ⟨.st [(0, 1, false), (1, 1, false), (2, 1, false), (3, 1, false)], 4, 32, [.d (.v (.int .i64 0)), .d (.v (.int .i64 0)), .d (.v (.int .i64 0)), .d (.v (.int .i64 0))], some [.i64, .i64, .i64, .i64]⟩),
  (35, ⟨.st [(0, 1, false), (1, 1, false), (2, 1, false)], 3, 56, [.d (.v (.int .i64 0)), .nil 3 1, .nil 3 1], none⟩),
  (36, ⟨.st [(0, 1, false), (1, 1, false), (2, 1, false)], 3, 56, [.d (.v (.int .i64 0)), .nil 3 1, .nil 3 1], none⟩),
  (39, ⟨.sl 45, 1, 24, [.nil 45 6], none⟩),
  (44, ⟨.st [(0, 1, false), (1, 1, false), (2, 1, false), (3, 1, false), (4, 1, false), (5, 1, false)], 6, 48, [.d (.v (.int .i64 0)), .d (.v (.int .i64 0)), .d (.v (.int .i64 0)), .d (.v (.int .i64 0)), .d (.v (.int .i64 0)), .d (.v (.int .i64 0))], some [.i64, .i64, .i64, .i64, .i64, .i64]⟩),
  (45, ⟨.st [(0, 1, false), (1, 1, false), (2, 1, false), (3, 1, false), (4, 1, false), (5, 1, false)], 6, 48, [.d (.v (.int .i64 0)), .d (.v (.int .i64 0)), .d (.v (.int .i64 0)), .d (.v (.int .i64 0)), .d (.v (.int .i64 0)), .d (.v (.int .i64 0))], some [.i64, .i64, .i64, .i64, .i64, .i64]⟩),
  (51, ⟨.sl 25, 1, 24, [.nil 25 1], none⟩),
  (55, ⟨.sl 84, 1, 24, [.nil 84 6], none⟩),
  (69, ⟨.st [(0, 1, false), (1, 1, false), (2, 1, false)], 3, 24, [.d (.v (.int .i64 0)), .d (.v (.int .i64 0)), .d (.v (.int .i64 0))], some [.i64, .i64, .i64]⟩),
  (70, ⟨.st [(0, 1, false), (1, 1, false), (2, 1, false)], 3, 24, [.d (.v (.int .i64 0)), .d (.v (.int .i64 0)), .d (.v (.int .i64 0))], some [.i64, .i64, .i64]⟩),
  (84, ⟨.st [(0, 1, false), (1, 1, false), (2, 1, false), (3, 1, false), (4, 1, false), (5, 1, false)], 6, 48, [.d (.v (.int .i64 0)), .d (.v (.int .i64 0)), .d (.v (.int .i64 0)), .d (.v (.int .i64 0)), .d (.v (.int .i64 0)), .d (.v (.int .i64 0))], some [.i64, .i64, .i64, .i64, .i64, .i64]⟩),
  (86, ⟨.st [(0, 1, false), (1, 1, false), (2, 1, false)], 3, 40, [.nil 5 1, .d (.v (.int .i64 0)), .d (.v (.int .i64 0))], none⟩),
  (87, ⟨.st [(0, 1, false), (1, 1, false), (2, 1, false)], 3, 40, [.nil 5 1, .d (.v (.int .i64 0)), .d (.v (.int .i64 0))], none⟩),
  (102, ⟨.int .u64, 1, 8, [.d (.v (.int .u64 0))], none⟩),
  (108, ⟨.sl 4, 1, 24, [.nil 4 1], none⟩),
  (124, ⟨.st [(0, 2, true)], 2, 48, [.nil 70 3, .nil 3 1], none⟩),
  (125, ⟨.st [(0, 2, true)], 2, 48, [.nil 70 3, .nil 3 1], none⟩),
  (140, ⟨.arr 2 3, 2, 16, [.d (.v (.int .i64 0)), .d (.v (.int .i64 0))], none⟩),
  (141, ⟨.sl 140, 1, 24, [.nil 140 2], none⟩),
  (150, ⟨.int .u32, 1, 4, [.d (.v (.int .u32 0))], none⟩),
  (151, ⟨.int .u8, 1, 1, [.d (.v (.int .u8 0))], none⟩),
  (152, ⟨.int .u8, 1, 1, [.d (.v (.int .u8 0))], none⟩),
  (155, ⟨.int .i32, 1, 4, [.d (.v (.int .i32 0))], none⟩),
  (156, ⟨.int .i32, 1, 4, [.d (.v (.int .i32 0))], none⟩)]
def tab : Tab := fun t => tabL.lookup t
theorem tab_ok : TabOk Go.Proofs.Try.prog tab := tabOk_of (by kernel_rfl)
@[push_cast] theorem tb2 : tab 2 = some ⟨.int .i64, 1, 8, [.d (.v (.int .i64 0))], none⟩ := rfl
@[push_cast] theorem tb3 : tab 3 = some ⟨.int .i64, 1, 8, [.d (.v (.int .i64 0))], none⟩ := rfl
@[push_cast] theorem tb4 : tab 4 = some ⟨.bool, 1, 1, [.d (.v (.bool false))], none⟩ := rfl
@[push_cast] theorem tb5 : tab 5 = some ⟨.int .u8, 1, 1, [.d (.v (.int .u8 0))], none⟩ := rfl
@[push_cast] theorem tb6 : tab 6 = some ⟨.int .u8, 1, 1, [.d (.v (.int .u8 0))], none⟩ := rfl
@[push_cast] theorem tb7 : tab 7 = some ⟨.st [(0, 1, false), (1, 1, false), (2, 1, false), (3, 1, false)], 4, 24, [.d (.v (.int .i64 0)), .d (.v (.int .i64 0)), .d (.v (.bool false)), .d (.v (.int .u8 0))], none⟩ := rfl
@[push_cast] theorem tb8 : tab 8 = some ⟨.st [(0, 1, false), (1, 1, false), (2, 1, false), (3, 1, false)], 4, 24, [.d (.v (.int .i64 0)), .d (.v (.int .i64 0)), .d (.v (.bool false)), .d (.v (.int .u8 0))], none⟩ := rfl
@[push_cast] theorem tb9 : tab 9 = some ⟨.str, 1, 16, [.d (.v (.string ByteArray.empty))], none⟩ := rfl
@[push_cast] theorem tb10 : tab 10 = some ⟨.str, 1, 16, [.d (.v (.string ByteArray.empty))], none⟩ := rfl
@[push_cast] theorem tb11 : tab 11 = some ⟨.str, 1, 16, [.d (.v (.string ByteArray.empty))], none⟩ := rfl
@[push_cast] theorem tb12 : tab 12 = some ⟨.int .u64, 1, 8, [.d (.v (.int .u64 0))], none⟩ := rfl
@[push_cast] theorem tb13 : tab 13 = some ⟨.st [(0, 1, false), (1, 1, false)], 2, 24, [.d (.v (.string ByteArray.empty)), .d (.v (.int .u64 0))], none⟩ := rfl
@[push_cast] theorem tb14 : tab 14 = some ⟨.st [(0, 1, false), (1, 1, false)], 2, 24, [.d (.v (.string ByteArray.empty)), .d (.v (.int .u64 0))], none⟩ := rfl
@[push_cast] theorem tb21 : tab 21 = some ⟨.int .i32, 1, 4, [.d (.v (.int .i32 0))], none⟩ := rfl
@[push_cast] theorem tb22 : tab 22 = some ⟨.sl 5, 1, 24, [.nil 5 1], none⟩ := rfl
@[push_cast] theorem tb24 : tab 24 = some ⟨.sl 70, 1, 24, [.nil 70 3], none⟩ := rfl
@[push_cast] theorem tb25 : tab 25 = some ⟨.sl 3, 1, 24, [.nil 3 1], none⟩ := rfl
@[push_cast] theorem tb26 : tab 26 = some ⟨.st [(0, 1, false), (1, 1, false)], 2, 48, [.nil 70 3, .nil 3 1], none⟩ := rfl
@[push_cast] theorem tb27 : tab 27 = some ⟨.st [(0, 1, false), (1, 1, false)], 2, 48, [.nil 70 3, .nil 3 1], none⟩ := rfl
@[push_cast] theorem tb28 : tab 28 = some ⟨.st [(0, 1, false), (1, 1, false)], 2, 16, [.d (.v (.int .i64 0)), .d (.v (.int .i64 0))], some [.i64, .i64]⟩ := rfl
@[push_cast] theorem tb29 : tab 29 = some ⟨.st [(0, 1, false), (1, 1, false)], 2, 16, [.d (.v (.int .i64 0)), .d (.v (.int .i64 0))], some [.i64, .i64]⟩ := rfl
@[push_cast] theorem tb32 : tab 32 = some ⟨.st [(0, 1, false), (1, 1, false), (2, 1, false), (3, 1, false)], 4, 32, [.d (.v (.int .i64 0)), .d (.v (.int .i64 0)), .d (.v (.int .i64 0)), .d (.v (.int .i64 0))], some [.i64, .i64, .i64, .i64]⟩ := rfl
@[push_cast] theorem tb33 : tab 33 = some ⟨.st [(0, 1, false), (1, 1, false), (2, 1, false), (3, 1, false)], 4, 32, [.d (.v (.int .i64 0)), .d (.v (.int .i64 0)), .d (.v (.int .i64 0)), .d (.v (.int .i64 0))], some [.i64, .i64, .i64, .i64]⟩ := rfl
@[push_cast] theorem tb35 : tab 35 = some ⟨.st [(0, 1, false), (1, 1, false), (2, 1, false)], 3, 56, [.d (.v (.int .i64 0)), .nil 3 1, .nil 3 1], none⟩ := rfl
@[push_cast] theorem tb36 : tab 36 = some ⟨.st [(0, 1, false), (1, 1, false), (2, 1, false)], 3, 56, [.d (.v (.int .i64 0)), .nil 3 1, .nil 3 1], none⟩ := rfl
@[push_cast] theorem tb39 : tab 39 = some ⟨.sl 45, 1, 24, [.nil 45 6], none⟩ := rfl
@[push_cast] theorem tb44 : tab 44 = some ⟨.st [(0, 1, false), (1, 1, false), (2, 1, false), (3, 1, false), (4, 1, false), (5, 1, false)], 6, 48, [.d (.v (.int .i64 0)), .d (.v (.int .i64 0)), .d (.v (.int .i64 0)), .d (.v (.int .i64 0)), .d (.v (.int .i64 0)), .d (.v (.int .i64 0))], some [.i64, .i64, .i64, .i64, .i64, .i64]⟩ := rfl
@[push_cast] theorem tb45 : tab 45 = some ⟨.st [(0, 1, false), (1, 1, false), (2, 1, false), (3, 1, false), (4, 1, false), (5, 1, false)], 6, 48, [.d (.v (.int .i64 0)), .d (.v (.int .i64 0)), .d (.v (.int .i64 0)), .d (.v (.int .i64 0)), .d (.v (.int .i64 0)), .d (.v (.int .i64 0))], some [.i64, .i64, .i64, .i64, .i64, .i64]⟩ := rfl
@[push_cast] theorem tb51 : tab 51 = some ⟨.sl 25, 1, 24, [.nil 25 1], none⟩ := rfl
@[push_cast] theorem tb55 : tab 55 = some ⟨.sl 84, 1, 24, [.nil 84 6], none⟩ := rfl
@[push_cast] theorem tb69 : tab 69 = some ⟨.st [(0, 1, false), (1, 1, false), (2, 1, false)], 3, 24, [.d (.v (.int .i64 0)), .d (.v (.int .i64 0)), .d (.v (.int .i64 0))], some [.i64, .i64, .i64]⟩ := rfl
@[push_cast] theorem tb70 : tab 70 = some ⟨.st [(0, 1, false), (1, 1, false), (2, 1, false)], 3, 24, [.d (.v (.int .i64 0)), .d (.v (.int .i64 0)), .d (.v (.int .i64 0))], some [.i64, .i64, .i64]⟩ := rfl
@[push_cast] theorem tb84 : tab 84 = some ⟨.st [(0, 1, false), (1, 1, false), (2, 1, false), (3, 1, false), (4, 1, false), (5, 1, false)], 6, 48, [.d (.v (.int .i64 0)), .d (.v (.int .i64 0)), .d (.v (.int .i64 0)), .d (.v (.int .i64 0)), .d (.v (.int .i64 0)), .d (.v (.int .i64 0))], some [.i64, .i64, .i64, .i64, .i64, .i64]⟩ := rfl
@[push_cast] theorem tb86 : tab 86 = some ⟨.st [(0, 1, false), (1, 1, false), (2, 1, false)], 3, 40, [.nil 5 1, .d (.v (.int .i64 0)), .d (.v (.int .i64 0))], none⟩ := rfl
@[push_cast] theorem tb87 : tab 87 = some ⟨.st [(0, 1, false), (1, 1, false), (2, 1, false)], 3, 40, [.nil 5 1, .d (.v (.int .i64 0)), .d (.v (.int .i64 0))], none⟩ := rfl
@[push_cast] theorem tb102 : tab 102 = some ⟨.int .u64, 1, 8, [.d (.v (.int .u64 0))], none⟩ := rfl
@[push_cast] theorem tb108 : tab 108 = some ⟨.sl 4, 1, 24, [.nil 4 1], none⟩ := rfl
@[push_cast] theorem tb124 : tab 124 = some ⟨.st [(0, 2, true)], 2, 48, [.nil 70 3, .nil 3 1], none⟩ := rfl
@[push_cast] theorem tb125 : tab 125 = some ⟨.st [(0, 2, true)], 2, 48, [.nil 70 3, .nil 3 1], none⟩ := rfl
@[push_cast] theorem tb140 : tab 140 = some ⟨.arr 2 3, 2, 16, [.d (.v (.int .i64 0)), .d (.v (.int .i64 0))], none⟩ := rfl
@[push_cast] theorem tb141 : tab 141 = some ⟨.sl 140, 1, 24, [.nil 140 2], none⟩ := rfl
@[push_cast] theorem tb150 : tab 150 = some ⟨.int .u32, 1, 4, [.d (.v (.int .u32 0))], none⟩ := rfl
@[push_cast] theorem tb151 : tab 151 = some ⟨.int .u8, 1, 1, [.d (.v (.int .u8 0))], none⟩ := rfl
@[push_cast] theorem tb152 : tab 152 = some ⟨.int .u8, 1, 1, [.d (.v (.int .u8 0))], none⟩ := rfl
@[push_cast] theorem tb155 : tab 155 = some ⟨.int .i32, 1, 4, [.d (.v (.int .i32 0))], none⟩ := rfl
@[push_cast] theorem tb156 : tab 156 = some ⟨.int .i32, 1, 4, [.d (.v (.int .i32 0))], none⟩ := rfl
noncomputable def cf (m n : Nat) : Cf := ⟨Go.Proofs.Try.prog, tab, m, n⟩
@[push_cast] theorem cf_T (m n : Nat) : (cf m n).T = tab := rfl
@[push_cast] theorem cf_P (m n : Nat) : (cf m n).P = Go.Proofs.Try.prog := rfl
@[push_cast] theorem cf_m (m n : Nat) : (cf m n).m = m := rfl
@[push_cast] theorem cf_n (m n : Nat) : (cf m n).n = n := rfl
attribute [irreducible] tab
theorem okFn {f : FuncId} {fn : Func} {code : Code} {gl : Nat → Option (List D)} {ins : List In} {o : Out} (rs : List ResultVar) (m n : Nat) (hf : Go.Proofs.Try.prog.funcs[f]? = some fn) (hname : (fn.name == "runtime.NumGoroutine") = false) (hb : fn.body = some code)
    (hr : fn.results = rs.toArray) (hl : rs.length ≤ 4) (hm : ins.length = m) (hn' : fn.ntmps = n) (hn : Nat.ble m n = true) (h : vcode (cf m n) code (vpost tab gl rs o) (initSt gl ins)) : CallOk Go.Proofs.Try.prog gl f ins o := by
  subst hm; subst hn'
  exact callOk_of rs tab_ok hf hname hb hr hl (Nat.le_of_ble_eq_true hn) (vcode_sound (c := cf _ _) tab_ok _ h)
theorem okFnP {f : FuncId} {fn : Func} {code : Code} {gl : Nat → Option (List D)} {ins : List In} {Post : Out → Prop} (rs : List ResultVar) (m n : Nat) (hf : Go.Proofs.Try.prog.funcs[f]? = some fn) (hname : (fn.name == "runtime.NumGoroutine") = false) (hb : fn.body = some code)
    (hr : fn.results = rs.toArray) (hl : rs.length ≤ 4) (hm : ins.length = m) (hn' : fn.ntmps = n) (hn : Nat.ble m n = true) (h : vcode (cf m n) code (vpostP tab gl rs Post) (initSt gl ins)) : CallP Go.Proofs.Try.prog gl f ins Post := by
  subst hm; subst hn'
  exact callP_of rs tab_ok hf hname hb hr hl (Nat.le_of_ble_eq_true hn) (vcode_sound (c := cf _ _) tab_ok _ h)
theorem okFnN {f : FuncId} {fn : Func} {code : Code} {gl : Nat → Option (List D)} {ins : List In} {l : List D} (rs : List ResultVar) (m n : Nat) (hf : Go.Proofs.Try.prog.funcs[f]? = some fn) (hname : (fn.name == "runtime.NumGoroutine") = false) (hb : fn.body = some code)
    (hr : fn.results = rs.toArray) (hl : rs.length ≤ 4) (hm : ins.length = m) (hn' : fn.ntmps = n) (hn : Nat.ble m n = true) (hn5 : Nat.ble m 500 = true) (h : vcode (cf m n) code (vpostN tab gl rs l) (initSt gl ins)) : CallOk Go.Proofs.Try.prog gl f ins ⟨[.rv (l.map .d)], []⟩ := by
  subst hm; subst hn'
  exact callNew_of rs tab_ok hf hname hb hr hl (Nat.le_of_ble_eq_true hn) (Nat.le_of_ble_eq_true hn5) (vcode_sound (c := cf _ _) tab_ok _ h)
end GV

set_option linter.unusedSimpArgs false
set_option linter.unusedVariables false
namespace GV
open Go
abbrev iD (n : Int) : D := .v (.int .i64 n)
def gE (g : GC.Gt) : List D := [iD g.k, iD g.a, iD g.b]
def gsE (gs : List GC.Gt) : List (List D) := gs.map gE
def gsR (gs : List GC.Gt) : Row := ⟨70, 3, gsE gs⟩
def iE (l : List Int) : List (List D) := l.map fun n => [iD n]
def iR (l : List Int) : Row := ⟨3, 1, iE l⟩
@[push_cast] theorem iR_e (l : List Int) : (iR l).e = 3 := rfl
@[push_cast] theorem iR_sz (l : List Int) : (iR l).sz = 1 := rfl
@[push_cast] theorem iR_els (l : List Int) : (iR l).els = iE l := rfl
@[push_cast] theorem iR_mk (l : List Int) : Row.mk 3 1 (iE l) = iR l := rfl
@[push_cast] theorem iR_nil : Row.mk 3 1 [] = iR [] := rfl
@[push_cast] theorem gsR_e (l : List GC.Gt) : (gsR l).e = 70 := rfl
@[push_cast] theorem gsR_sz (l : List GC.Gt) : (gsR l).sz = 3 := rfl
@[push_cast] theorem gsR_els (l : List GC.Gt) : (gsR l).els = gsE l := rfl
@[push_cast] theorem gsR_mk (l : List GC.Gt) : Row.mk 70 3 (gsE l) = gsR l := rfl
@[push_cast] theorem gsR_nil : Row.mk 70 3 [] = gsR [] := rfl
@[push_cast] theorem iE_len (l : List Int) : (iE l).length = l.length := by simp [iE]
theorem iE_get (l : List Int) (k : Nat) (h : k < l.length) : (iE l).getD k [] = [iD (l.getD k 0)] := by
  simp [iE, List.getD_eq_getElem?_getD, h]
@[push_cast] theorem iE_app (l r : List Int) : iE l ++ iE r = iE (l ++ r) := by simp [iE]
@[push_cast] theorem iE_one (x : Int) : ([[iD x]] : List (List D)) = iE [x] := by simp [iE]
@[push_cast] theorem gsE_len (l : List GC.Gt) : (gsE l).length = l.length := by simp [gsE]
theorem gsE_get (l : List GC.Gt) (k : Nat) (h : k < l.length) : (gsE l).getD k [] = gE (l.getD k ⟨0, 0, 0⟩) := by
  simp [gsE, List.getD_eq_getElem?_getD, h]
@[push_cast] theorem gsE_app (l r : List GC.Gt) : gsE l ++ gsE r = gsE (l ++ r) := by simp [gsE]
@[push_cast] theorem gsE_one (k a b : Int) : ([[iD k, iD a, iD b]] : List (List D)) = gsE [⟨k, a, b⟩] := by simp [gsE, gE]
def gl0 : Nat → Option (List D) := fun _ => none

theorem flat_gs (gs : List GC.Gt) : flatE (gsE gs) = True := by
  simp [flatE, gsE, gE, D.flat]
theorem flat_is (l : List Int) : flatE (iE l) = True := by
  simp [flatE, iE, D.flat]
attribute [push_cast] flat_gs flat_is
theorem dropc (l : List Int) (i : Nat) (h : i < l.length) : l.drop i = l.getD i 0 :: l.drop (i + 1) := by
  rw [List.drop_eq_getElem_cons h, List.getD_eq_getElem?_getD, List.getElem?_eq_getElem h]; rfl
@[push_cast] theorem iE_take (l : List Int) (n : Nat) : (iE l).take n = iE (l.take n) := by simp [iE]
@[push_cast] theorem iE_drop (l : List Int) (n : Nat) : (iE l).drop n = iE (l.drop n) := by simp [iE]
def bR (gs : List GC.Gt) (outs : List Int) : In := .rv [.r (gsR gs), .r (iR outs)]
attribute [push_cast] bR
theorem put_ok (gs : List GC.Gt) (outs : List Int) (k a b : Int) (h : gs.length ≤ 100000) :
    CallOk Go.Proofs.Try.prog gl0 68 [bR gs outs, .c (iD k), .c (iD a), .c (iD b)] ⟨[.c (iD (GC.put gs k a b).1)], [bR (GC.put gs k a b).2 outs]⟩ := by
  refine okFn (fn := Go.Proofs.Try.f68) [.tmp 8] 4 28 (by kernel_rfl) (by kernel_rfl) rfl (by kernel_rfl) (by decide) rfl rfl rfl ?_
  simp (config := { maxSteps := 1000000 }) only [push_cast, ↓reduceIte, ↓normL_data, ↓frzL_data, Nat.reduceEqDiff, Nat.reduceLT, reduceCtorEq, Nat.reduceAdd, Nat.reduceMul, Nat.reduceDiv, Nat.reduceMod, Nat.reduceSub, Nat.reduceLeDiff, Nat.reduceBEq, Int.reduceLE, Int.reduceLT, Int.reduceToNat, Int.reduceAdd, Int.reduceSub, Int.reduceMul, Int.reduceEq, Int.reduceBEq, Int.reduceNeg, Int.reduceGT, Int.natCast_pos]
  have e : IntKind.i64.wrap ((gs ++ [⟨k, a, b⟩] : List GC.Gt).length - 1 : Int) = gs.length := by
    rw [IntKind.wrap_i64]; simp; omega
  refine ⟨by omega, ?_, rfl⟩
  rw [e, GC.put]
theorem put_len (gs : List GC.Gt) (k a b : Int) : (GC.put gs k a b).2.length = gs.length + 1 := by simp [GC.put]
theorem full_ok (gs : List GC.Gt) (outs : List Int) (a b c : Int) (h : gs.length ≤ 90000) :
    CallOk Go.Proofs.Try.prog gl0 97 [bR gs outs, .c (iD a), .c (iD b), .c (iD c)] ⟨[.c (iD (GC.full gs a b c).1.1), .c (iD (GC.full gs a b c).1.2)], [bR (GC.full gs a b c).2 outs]⟩ := by
  refine okFn (fn := Go.Proofs.Try.f97) [.tmp 8, .tmp 9] 4 37 (by kernel_rfl) (by kernel_rfl) rfl (by kernel_rfl) (by decide) rfl rfl rfl ?_
  unfold GC.full
  generalize h1 : GC.put gs 3 a c = x1
  have l1 : x1.2.length = gs.length + 1 := by rw [← h1, put_len]
  generalize h2 : GC.put x1.2 3 b c = x2
  have l2 : x2.2.length = gs.length + 2 := by rw [← h2, put_len, l1]
  generalize h3 : GC.put x2.2 3 a x2.1 = x3
  have l3 : x3.2.length = gs.length + 3 := by rw [← h3, put_len, l2]
  generalize h4 : GC.put x3.2 4 x1.1 x2.1 = x4
  have l4 : x4.2.length = gs.length + 4 := by rw [← h4, put_len, l3]
  generalize h5 : GC.put x4.2 3 x4.1 c = x5
  simp (config := { maxSteps := 1000000 }) only [push_cast, ↓reduceIte, ↓normL_data, ↓frzL_data, Nat.reduceEqDiff, Nat.reduceLT, reduceCtorEq, Nat.reduceAdd, Nat.reduceMul, Nat.reduceDiv, Nat.reduceMod, Nat.reduceSub, Nat.reduceLeDiff, Nat.reduceBEq, Int.reduceLE, Int.reduceLT, Int.reduceToNat, Int.reduceAdd, Int.reduceSub, Int.reduceMul, Int.reduceEq, Int.reduceBEq, Int.reduceNeg, Int.reduceGT, Int.natCast_pos]
  refine vcall_by true (h1 ▸ put_ok gs outs 3 a c (by omega)) ?_
  simp (config := { maxSteps := 1000000 }) only [push_cast, ↓reduceIte, ↓normL_data, ↓frzL_data, Nat.reduceEqDiff, Nat.reduceLT, reduceCtorEq, Nat.reduceAdd, Nat.reduceMul, Nat.reduceDiv, Nat.reduceMod, Nat.reduceSub, Nat.reduceLeDiff, Nat.reduceBEq, Int.reduceLE, Int.reduceLT, Int.reduceToNat, Int.reduceAdd, Int.reduceSub, Int.reduceMul, Int.reduceEq, Int.reduceBEq, Int.reduceNeg, Int.reduceGT, Int.natCast_pos]
  refine vcall_by true (h2 ▸ put_ok x1.2 outs 3 b c (by omega)) ?_
  simp (config := { maxSteps := 1000000 }) only [push_cast, ↓reduceIte, ↓normL_data, ↓frzL_data, Nat.reduceEqDiff, Nat.reduceLT, reduceCtorEq, Nat.reduceAdd, Nat.reduceMul, Nat.reduceDiv, Nat.reduceMod, Nat.reduceSub, Nat.reduceLeDiff, Nat.reduceBEq, Int.reduceLE, Int.reduceLT, Int.reduceToNat, Int.reduceAdd, Int.reduceSub, Int.reduceMul, Int.reduceEq, Int.reduceBEq, Int.reduceNeg, Int.reduceGT, Int.natCast_pos]
  refine vcall_by true (h3 ▸ put_ok x2.2 outs 3 a x2.1 (by omega)) ?_
  simp (config := { maxSteps := 1000000 }) only [push_cast, ↓reduceIte, ↓normL_data, ↓frzL_data, Nat.reduceEqDiff, Nat.reduceLT, reduceCtorEq, Nat.reduceAdd, Nat.reduceMul, Nat.reduceDiv, Nat.reduceMod, Nat.reduceSub, Nat.reduceLeDiff, Nat.reduceBEq, Int.reduceLE, Int.reduceLT, Int.reduceToNat, Int.reduceAdd, Int.reduceSub, Int.reduceMul, Int.reduceEq, Int.reduceBEq, Int.reduceNeg, Int.reduceGT, Int.natCast_pos]
  refine vcall_by true (h4 ▸ put_ok x3.2 outs 4 x1.1 x2.1 (by omega)) ?_
  simp (config := { maxSteps := 1000000 }) only [push_cast, ↓reduceIte, ↓normL_data, ↓frzL_data, Nat.reduceEqDiff, Nat.reduceLT, reduceCtorEq, Nat.reduceAdd, Nat.reduceMul, Nat.reduceDiv, Nat.reduceMod, Nat.reduceSub, Nat.reduceLeDiff, Nat.reduceBEq, Int.reduceLE, Int.reduceLT, Int.reduceToNat, Int.reduceAdd, Int.reduceSub, Int.reduceMul, Int.reduceEq, Int.reduceBEq, Int.reduceNeg, Int.reduceGT, Int.natCast_pos]
  refine vcall_by true (h5 ▸ put_ok x4.2 outs 3 x4.1 c (by omega)) ?_
  simp (config := { maxSteps := 1000000 }) only [push_cast, ↓reduceIte, ↓normL_data, ↓frzL_data, Nat.reduceEqDiff, Nat.reduceLT, reduceCtorEq, Nat.reduceAdd, Nat.reduceMul, Nat.reduceDiv, Nat.reduceMod, Nat.reduceSub, Nat.reduceLeDiff, Nat.reduceBEq, Int.reduceLE, Int.reduceLT, Int.reduceToNat, Int.reduceAdd, Int.reduceSub, Int.reduceMul, Int.reduceEq, Int.reduceBEq, Int.reduceNeg, Int.reduceGT, Int.natCast_pos]
  simp only [h2, h3, h4, h5, and_self]
end GV

set_option linter.unusedSimpArgs false
set_option linter.unusedVariables false
namespace GV
open Go
def iS (l : List Int) : D := .sl 1 (iE l)
attribute [push_cast] iS
structure SumI (gs : List GC.Gt) (xs ys : List Int) (first : Int) where
  i : Nat
  gi : List GC.Gt
  ci : Int
  oi : List Int
  h1 : i + 1 ≤ xs.length
  h2 : gi.length = gs.length + 1 + 5 * i
  h3 : oi.length = i
  h4 : oi ++ (GC.addL gi ci (xs.drop i) (ys.drop i)).1 = (GC.addL (GC.put gs 2 first 0).2 (GC.put gs 2 first 0).1 xs ys).1
  h5 : (GC.addL gi ci (xs.drop i) (ys.drop i)).2 = (GC.addL (GC.put gs 2 first 0).2 (GC.put gs 2 first 0).1 xs ys).2
theorem sum_ok (gs : List GC.Gt) (outs xs ys : List Int) (first : Int) (h : gs.length ≤ 80000) (hl : xs.length = ys.length) (h0 : 0 < xs.length) (h4 : xs.length ≤ 100) :
    CallOk Go.Proofs.Try.prog gl0 69 [bR gs outs, .c (iS xs), .c (iS ys), .c (iD first)] ⟨[.rr (iR (GC.addL (GC.put gs 2 first 0).2 (GC.put gs 2 first 0).1 xs ys).1)], [bR (GC.addL (GC.put gs 2 first 0).2 (GC.put gs 2 first 0).1 xs ys).2 outs]⟩ := by
  refine okFn (fn := Go.Proofs.Try.f69) [.tmp 8] 4 64 (by kernel_rfl) (by kernel_rfl) rfl (by kernel_rfl) (by decide) rfl rfl rfl ?_
  simp (config := { maxSteps := 1000000 }) only [push_cast, ↓reduceIte, ↓normL_data, ↓frzL_data, Nat.reduceEqDiff, Nat.reduceLT, reduceCtorEq, Nat.reduceAdd, Nat.reduceMul, Nat.reduceDiv, Nat.reduceMod, Nat.reduceSub, Nat.reduceLeDiff, Nat.reduceBEq, Int.reduceLE, Int.reduceLT, Int.reduceToNat, Int.reduceAdd, Int.reduceSub, Int.reduceMul, Int.reduceEq, Int.reduceBEq, Int.reduceNeg, Int.reduceGT, Int.natCast_pos]
  refine vcall_by true (put_ok gs outs 2 first 0 (by omega)) ?_
  simp (config := { maxSteps := 1000000 }) only [push_cast, ↓reduceIte, ↓normL_data, ↓frzL_data, Nat.reduceEqDiff, Nat.reduceLT, reduceCtorEq, Nat.reduceAdd, Nat.reduceMul, Nat.reduceDiv, Nat.reduceMod, Nat.reduceSub, Nat.reduceLeDiff, Nat.reduceBEq, Int.reduceLE, Int.reduceLT, Int.reduceToNat, Int.reduceAdd, Int.reduceSub, Int.reduceMul, Int.reduceEq, Int.reduceBEq, Int.reduceNeg, Int.reduceGT, Int.natCast_pos]
  refine VC.loop' tab_ok (σ := SumI gs xs ys first) (fun x => St.of gl0 [(0, .c (.ptr 0 0)), (1, .c (.d (iS xs))), (2, .c (.d (iS ys))), (9, .c (.own 9)), (10, .c (.d (iD x.ci))), (11, .c (.d (iD ((xs.length : Int) - 1)))), (12, .c (.d (iD x.i)))]
    [(9, iR x.oi), (1000, gsR x.gi), (1001, iR outs)] [(0, [.own 1000, .own 1001])]) (fun x => xs.length - x.i) ⟨0, (GC.put gs 2 first 0).2, (GC.put gs 2 first 0).1, [], by omega, by rw [put_len], rfl, rfl, rfl⟩ (St.le_of ?_) ?_
  · simp (config := { maxSteps := 1000000 }) only [push_cast, ↓reduceIte, ↓normL_data, ↓frzL_data, Nat.reduceEqDiff, Nat.reduceLT, reduceCtorEq, Nat.reduceAdd, Nat.reduceMul, Nat.reduceDiv, Nat.reduceMod, Nat.reduceSub, Nat.reduceLeDiff, Nat.reduceBEq, Int.reduceLE, Int.reduceLT, Int.reduceToNat, Int.reduceAdd, Int.reduceSub, Int.reduceMul, Int.reduceEq, Int.reduceBEq, Int.reduceNeg, Int.reduceGT, Int.natCast_pos]
    rw [w64 _ (by omega) (by omega)]
  · intro x
    simp (config := { maxSteps := 1000000 }) only [push_cast, ↓reduceIte, ↓normL_data, ↓frzL_data, Nat.reduceEqDiff, Nat.reduceLT, reduceCtorEq, Nat.reduceAdd, Nat.reduceMul, Nat.reduceDiv, Nat.reduceMod, Nat.reduceSub, Nat.reduceLeDiff, Nat.reduceBEq, Int.reduceLE, Int.reduceLT, Int.reduceToNat, Int.reduceAdd, Int.reduceSub, Int.reduceMul, Int.reduceEq, Int.reduceBEq, Int.reduceNeg, Int.reduceGT, Int.natCast_pos]
    obtain ⟨i, gi, ci, oi, h1, h2, h3, h4', h5⟩ := x
    simp only
    refine ⟨fun hi => ?_, fun hi => ?_⟩
    · refine VD.plan tab_ok (by kernel_rfl) [10] (.takes [0, 1, 2, 3, 4, 5, 6, 7, 8, 9] (.one 10 (.takes [11, 12, 13, 14, 15] (.done)))) (by kernel_rfl) ?_
      have e1 : i < xs.length := by omega
      have e2 : i < ys.length := by omega
      simp (config := { maxSteps := 1000000 }) only [push_cast, ↓reduceIte, ↓normL_data, ↓frzL_data, Nat.reduceEqDiff, Nat.reduceLT, reduceCtorEq, Nat.reduceAdd, Nat.reduceMul, Nat.reduceDiv, Nat.reduceMod, Nat.reduceSub, Nat.reduceLeDiff, Nat.reduceBEq, Int.reduceLE, Int.reduceLT, Int.reduceToNat, Int.reduceAdd, Int.reduceSub, Int.reduceMul, Int.reduceEq, Int.reduceBEq, Int.reduceNeg, Int.reduceGT, Int.natCast_pos, iE_get _ _ e1, iE_get _ _ e2, e1, e2]
      refine vcall_by true (full_ok gi outs (xs.getD i 0) (ys.getD i 0) ci (by omega)) ?_
      simp (config := { maxSteps := 1000000 }) only [push_cast, ↓reduceIte, ↓normL_data, ↓frzL_data, Nat.reduceEqDiff, Nat.reduceLT, reduceCtorEq, Nat.reduceAdd, Nat.reduceMul, Nat.reduceDiv, Nat.reduceMod, Nat.reduceSub, Nat.reduceLeDiff, Nat.reduceBEq, Int.reduceLE, Int.reduceLT, Int.reduceToNat, Int.reduceAdd, Int.reduceSub, Int.reduceMul, Int.reduceEq, Int.reduceBEq, Int.reduceNeg, Int.reduceGT, Int.natCast_pos]
      have l1 : (GC.full gi (xs.getD i 0) (ys.getD i 0) ci).2.length = gi.length + 5 := by simp [GC.full, GC.put]
      have d1 : xs.drop i = xs.getD i 0 :: xs.drop (i + 1) := by rw [List.drop_eq_getElem_cons e1, List.getD_eq_getElem?_getD, List.getElem?_eq_getElem e1]; rfl
      have d2 : ys.drop i = ys.getD i 0 :: ys.drop (i + 1) := by rw [List.drop_eq_getElem_cons e2, List.getD_eq_getElem?_getD, List.getElem?_eq_getElem e2]; rfl
      have d3 : xs.drop (i + 1) ≠ [] := by intro e; have := congrArg List.length e; simp at this; omega
      have d4 : GC.addL gi ci (xs.drop i) (ys.drop i) = ((GC.full gi (xs.getD i 0) (ys.getD i 0) ci).1.1 :: (GC.addL (GC.full gi (xs.getD i 0) (ys.getD i 0) ci).2 (GC.full gi (xs.getD i 0) (ys.getD i 0) ci).1.2 (xs.drop (i + 1)) (ys.drop (i + 1))).1, (GC.addL (GC.full gi (xs.getD i 0) (ys.getD i 0) ci).2 (GC.full gi (xs.getD i 0) (ys.getD i 0) ci).1.2 (xs.drop (i + 1)) (ys.drop (i + 1))).2) := by rw [d1, d2]; simp only [GC.addL]; rw [if_neg d3]
      refine ⟨by omega, kloop_next ⟨i + 1, (GC.full gi (xs.getD i 0) (ys.getD i 0) ci).2, (GC.full gi (xs.getD i 0) (ys.getD i 0) ci).1.2, oi ++ [(GC.full gi (xs.getD i 0) (ys.getD i 0) ci).1.1], by omega, by omega, by simp [h3], by rw [← h4', d4]; simp, by rw [← h5, d4]⟩ (St.le_of ?_) (by simp only; omega)⟩
      simp (config := { maxSteps := 1000000 }) only [push_cast, ↓reduceIte, ↓normL_data, ↓frzL_data, Nat.reduceEqDiff, Nat.reduceLT, reduceCtorEq, Nat.reduceAdd, Nat.reduceMul, Nat.reduceDiv, Nat.reduceMod, Nat.reduceSub, Nat.reduceLeDiff, Nat.reduceBEq, Int.reduceLE, Int.reduceLT, Int.reduceToNat, Int.reduceAdd, Int.reduceSub, Int.reduceMul, Int.reduceEq, Int.reduceBEq, Int.reduceNeg, Int.reduceGT, Int.natCast_pos]
      rw [w64 _ (by omega) (by omega)]
    · refine VD.plan tab_ok (by kernel_rfl) [9] (.takes [0, 1, 2, 3, 4, 5, 6, 7, 8] (.one 9 (.takes [10] (.done)))) (by kernel_rfl) ?_
      have e0 : i + 1 = xs.length := by omega
      have e1 : xs.length - 1 = i := by omega
      have e2 : ((xs.length : Int) - 1) = (i : Int) := by omega
      have e3 : i < xs.length := by omega
      have e4 : i < ys.length := by omega
      simp (config := { maxSteps := 1000000 }) only [push_cast, ↓reduceIte, ↓normL_data, ↓frzL_data, Nat.reduceEqDiff, Nat.reduceLT, reduceCtorEq, Nat.reduceAdd, Nat.reduceMul, Nat.reduceDiv, Nat.reduceMod, Nat.reduceSub, Nat.reduceLeDiff, Nat.reduceBEq, Int.reduceLE, Int.reduceLT, Int.reduceToNat, Int.reduceAdd, Int.reduceSub, Int.reduceMul, Int.reduceEq, Int.reduceBEq, Int.reduceNeg, Int.reduceGT, Int.natCast_pos, e2, iE_get _ _ e3, iE_get _ _ e4, e3, e4]
      refine vcall_by true (put_ok gi outs 3 (xs.getD i 0) (ys.getD i 0) (by omega)) ?_
      simp (config := { maxSteps := 1000000 }) only [push_cast, ↓reduceIte, ↓normL_data, ↓frzL_data, Nat.reduceEqDiff, Nat.reduceLT, reduceCtorEq, Nat.reduceAdd, Nat.reduceMul, Nat.reduceDiv, Nat.reduceMod, Nat.reduceSub, Nat.reduceLeDiff, Nat.reduceBEq, Int.reduceLE, Int.reduceLT, Int.reduceToNat, Int.reduceAdd, Int.reduceSub, Int.reduceMul, Int.reduceEq, Int.reduceBEq, Int.reduceNeg, Int.reduceGT, Int.natCast_pos]
      refine vcall_by true (put_ok (GC.put gi 3 (xs.getD i 0) (ys.getD i 0)).2 outs 3 (GC.put gi 3 (xs.getD i 0) (ys.getD i 0)).1 ci (by rw [put_len]; omega)) ?_
      simp (config := { maxSteps := 1000000 }) only [push_cast, ↓reduceIte, ↓normL_data, ↓frzL_data, Nat.reduceEqDiff, Nat.reduceLT, reduceCtorEq, Nat.reduceAdd, Nat.reduceMul, Nat.reduceDiv, Nat.reduceMod, Nat.reduceSub, Nat.reduceLeDiff, Nat.reduceBEq, Int.reduceLE, Int.reduceLT, Int.reduceToNat, Int.reduceAdd, Int.reduceSub, Int.reduceMul, Int.reduceEq, Int.reduceBEq, Int.reduceNeg, Int.reduceGT, Int.natCast_pos]
      have d1 : xs.drop i = [xs.getD i 0] := by rw [List.drop_eq_getElem_cons e3, List.getD_eq_getElem?_getD, List.getElem?_eq_getElem e3, List.drop_of_length_le (by omega)]; rfl
      have d2 : ys.drop i = [ys.getD i 0] := by rw [List.drop_eq_getElem_cons e4, List.getD_eq_getElem?_getD, List.getElem?_eq_getElem e4, List.drop_of_length_le (by omega)]; rfl
      rw [← h4', ← h5, d1, d2]
      simp only [GC.addL, if_true, and_self, and_true]
      omega
end GV

set_option linter.unusedSimpArgs false
set_option linter.unusedVariables false
namespace GV
open Go
structure NotsI (gs : List GC.Gt) (xs : List Int) where
  i : Nat
  gi : List GC.Gt
  oi : List Int
  h1 : i ≤ xs.length
  h2 : gi.length = gs.length + i
  h3 : oi.length = i
  h4 : oi ++ (GC.notsM gi (xs.drop i)).1 = (GC.notsM gs xs).1
  h5 : (GC.notsM gi (xs.drop i)).2 = (GC.notsM gs xs).2
theorem nots_ok (gs : List GC.Gt) (outs xs : List Int) (h : gs.length ≤ 80000) (h4 : xs.length ≤ 100) :
    CallOk Go.Proofs.Try.prog gl0 70 [bR gs outs, .c (iS xs)] ⟨[.rr (iR (GC.notsM gs xs).1)], [bR (GC.notsM gs xs).2 outs]⟩ := by
  refine okFn (fn := Go.Proofs.Try.f70) [.tmp 4] 2 24 (by kernel_rfl) (by kernel_rfl) rfl (by kernel_rfl) (by decide) rfl rfl rfl ?_
  simp (config := { maxSteps := 1000000 }) only [push_cast, ↓reduceIte, ↓normL_data, ↓frzL_data, Nat.reduceEqDiff, Nat.reduceLT, reduceCtorEq, Nat.reduceAdd, Nat.reduceMul, Nat.reduceDiv, Nat.reduceMod, Nat.reduceSub, Nat.reduceLeDiff, Nat.reduceBEq, Int.reduceLE, Int.reduceLT, Int.reduceToNat, Int.reduceAdd, Int.reduceSub, Int.reduceMul, Int.reduceEq, Int.reduceBEq, Int.reduceNeg, Int.reduceGT, Int.natCast_pos]
  refine VC.loop' tab_ok (σ := NotsI gs xs) (fun x => St.of gl0 [(0, .c (.ptr 0 0)), (1, .c (.d (iS xs))), (5, .c (.own 5)), (6, .c (.d (iD x.i)))]
    [(5, iR x.oi), (1000, gsR x.gi), (1001, iR outs)] [(0, [.own 1000, .own 1001])]) (fun x => xs.length - x.i) ⟨0, gs, [], by omega, rfl, rfl, rfl, rfl⟩ (St.le_of ?_) ?_
  · simp (config := { maxSteps := 1000000 }) only [push_cast, ↓reduceIte, ↓normL_data, ↓frzL_data, Nat.reduceEqDiff, Nat.reduceLT, reduceCtorEq, Nat.reduceAdd, Nat.reduceMul, Nat.reduceDiv, Nat.reduceMod, Nat.reduceSub, Nat.reduceLeDiff, Nat.reduceBEq, Int.reduceLE, Int.reduceLT, Int.reduceToNat, Int.reduceAdd, Int.reduceSub, Int.reduceMul, Int.reduceEq, Int.reduceBEq, Int.reduceNeg, Int.reduceGT, Int.natCast_pos]
  · intro x
    simp (config := { maxSteps := 1000000 }) only [push_cast, ↓reduceIte, ↓normL_data, ↓frzL_data, Nat.reduceEqDiff, Nat.reduceLT, reduceCtorEq, Nat.reduceAdd, Nat.reduceMul, Nat.reduceDiv, Nat.reduceMod, Nat.reduceSub, Nat.reduceLeDiff, Nat.reduceBEq, Int.reduceLE, Int.reduceLT, Int.reduceToNat, Int.reduceAdd, Int.reduceSub, Int.reduceMul, Int.reduceEq, Int.reduceBEq, Int.reduceNeg, Int.reduceGT, Int.natCast_pos]
    obtain ⟨i, gi, oi, h1, h2, h3, h4', h5⟩ := x
    simp only
    refine ⟨fun hi => ?_, fun hi => ?_⟩
    · simp (config := { maxSteps := 1000000 }) only [push_cast, ↓reduceIte, ↓normL_data, ↓frzL_data, Nat.reduceEqDiff, Nat.reduceLT, reduceCtorEq, Nat.reduceAdd, Nat.reduceMul, Nat.reduceDiv, Nat.reduceMod, Nat.reduceSub, Nat.reduceLeDiff, Nat.reduceBEq, Int.reduceLE, Int.reduceLT, Int.reduceToNat, Int.reduceAdd, Int.reduceSub, Int.reduceMul, Int.reduceEq, Int.reduceBEq, Int.reduceNeg, Int.reduceGT, Int.natCast_pos, iE_get _ _ hi, hi]
      refine vcall_by true (put_ok gi outs 5 (xs.getD i 0) 0 (by omega)) ?_
      simp (config := { maxSteps := 1000000 }) only [push_cast, ↓reduceIte, ↓normL_data, ↓frzL_data, Nat.reduceEqDiff, Nat.reduceLT, reduceCtorEq, Nat.reduceAdd, Nat.reduceMul, Nat.reduceDiv, Nat.reduceMod, Nat.reduceSub, Nat.reduceLeDiff, Nat.reduceBEq, Int.reduceLE, Int.reduceLT, Int.reduceToNat, Int.reduceAdd, Int.reduceSub, Int.reduceMul, Int.reduceEq, Int.reduceBEq, Int.reduceNeg, Int.reduceGT, Int.natCast_pos]
      have d4 : GC.notsM gi (xs.drop i) = ((GC.put gi 5 (xs.getD i 0) 0).1 :: (GC.notsM (GC.put gi 5 (xs.getD i 0) 0).2 (xs.drop (i + 1))).1, (GC.notsM (GC.put gi 5 (xs.getD i 0) 0).2 (xs.drop (i + 1))).2) := by rw [dropc xs i hi]; rfl
      refine ⟨by omega, kloop_next ⟨i + 1, (GC.put gi 5 (xs.getD i 0) 0).2, oi ++ [(GC.put gi 5 (xs.getD i 0) 0).1], by omega, by rw [put_len]; omega, by simp [h3], by rw [← h4', d4]; simp, by rw [← h5, d4]⟩ (St.le_of ?_) (by simp only; omega)⟩
      simp (config := { maxSteps := 1000000 }) only [push_cast, ↓reduceIte, ↓normL_data, ↓frzL_data, Nat.reduceEqDiff, Nat.reduceLT, reduceCtorEq, Nat.reduceAdd, Nat.reduceMul, Nat.reduceDiv, Nat.reduceMod, Nat.reduceSub, Nat.reduceLeDiff, Nat.reduceBEq, Int.reduceLE, Int.reduceLT, Int.reduceToNat, Int.reduceAdd, Int.reduceSub, Int.reduceMul, Int.reduceEq, Int.reduceBEq, Int.reduceNeg, Int.reduceGT, Int.natCast_pos]
      rw [w64 _ (by omega) (by omega)]
    · have e : i = xs.length := by omega
      subst e
      rw [← h4', ← h5, List.drop_length]
      simp (config := { maxSteps := 1000000 }) only [push_cast, ↓reduceIte, ↓normL_data, ↓frzL_data, Nat.reduceEqDiff, Nat.reduceLT, reduceCtorEq, Nat.reduceAdd, Nat.reduceMul, Nat.reduceDiv, Nat.reduceMod, Nat.reduceSub, Nat.reduceLeDiff, Nat.reduceBEq, Int.reduceLE, Int.reduceLT, Int.reduceToNat, Int.reduceAdd, Int.reduceSub, Int.reduceMul, Int.reduceEq, Int.reduceBEq, Int.reduceNeg, Int.reduceGT, Int.natCast_pos, GC.notsM]
theorem nots_len : ∀ (xs : List Int) (gs : List GC.Gt), (GC.notsM gs xs).1.length = xs.length ∧ (GC.notsM gs xs).2.length = gs.length + xs.length
  | [], gs => ⟨rfl, rfl⟩
  | x :: xs, gs => by
    obtain ⟨h1, h2⟩ := nots_len xs (GC.put gs 5 x 0).2
    rw [put_len] at h2
    exact ⟨by simp [GC.notsM, h1], by simp [GC.notsM, h2]; omega⟩
structure LessI (gs : List GC.Gt) (xs ys : List Int) where
  i : Nat
  gi : List GC.Gt
  ci : Int
  h1 : i ≤ 4
  h2 : gi.length = gs.length + 5 + 5 * i
  h4 : GC.carryL gi ci (xs.drop i) ((GC.notsM gs ys).1.drop i) = GC.carryL (GC.put (GC.notsM gs ys).2 2 1 0).2 (GC.put (GC.notsM gs ys).2 2 1 0).1 xs (GC.notsM gs ys).1
theorem less_ok (gs : List GC.Gt) (outs xs ys : List Int) (h : gs.length ≤ 80000) (hx : xs.length = 4) (hy : ys.length = 4) :
    CallOk Go.Proofs.Try.prog gl0 73 [bR gs outs, .c (iS xs), .c (iS ys)] ⟨[.c (iD (GC.lessM gs xs ys).1)], [bR (GC.lessM gs xs ys).2 outs]⟩ := by
  obtain ⟨l1, l2⟩ := nots_len ys gs
  refine okFn (fn := Go.Proofs.Try.f73) [.tmp 6] 3 39 (by kernel_rfl) (by kernel_rfl) rfl (by kernel_rfl) (by decide) rfl rfl rfl ?_
  simp (config := { maxSteps := 1000000 }) only [push_cast, ↓reduceIte, ↓normL_data, ↓frzL_data, Nat.reduceEqDiff, Nat.reduceLT, reduceCtorEq, Nat.reduceAdd, Nat.reduceMul, Nat.reduceDiv, Nat.reduceMod, Nat.reduceSub, Nat.reduceLeDiff, Nat.reduceBEq, Int.reduceLE, Int.reduceLT, Int.reduceToNat, Int.reduceAdd, Int.reduceSub, Int.reduceMul, Int.reduceEq, Int.reduceBEq, Int.reduceNeg, Int.reduceGT, Int.natCast_pos]
  refine vcall_by true (nots_ok gs outs ys h (by omega)) ?_
  simp (config := { maxSteps := 1000000 }) only [push_cast, ↓reduceIte, ↓normL_data, ↓frzL_data, Nat.reduceEqDiff, Nat.reduceLT, reduceCtorEq, Nat.reduceAdd, Nat.reduceMul, Nat.reduceDiv, Nat.reduceMod, Nat.reduceSub, Nat.reduceLeDiff, Nat.reduceBEq, Int.reduceLE, Int.reduceLT, Int.reduceToNat, Int.reduceAdd, Int.reduceSub, Int.reduceMul, Int.reduceEq, Int.reduceBEq, Int.reduceNeg, Int.reduceGT, Int.natCast_pos]
  refine vcall_by true (put_ok (GC.notsM gs ys).2 outs 2 1 0 (by omega)) ?_
  simp (config := { maxSteps := 1000000 }) only [push_cast, ↓reduceIte, ↓normL_data, ↓frzL_data, Nat.reduceEqDiff, Nat.reduceLT, reduceCtorEq, Nat.reduceAdd, Nat.reduceMul, Nat.reduceDiv, Nat.reduceMod, Nat.reduceSub, Nat.reduceLeDiff, Nat.reduceBEq, Int.reduceLE, Int.reduceLT, Int.reduceToNat, Int.reduceAdd, Int.reduceSub, Int.reduceMul, Int.reduceEq, Int.reduceBEq, Int.reduceNeg, Int.reduceGT, Int.natCast_pos]
  refine VC.loop' tab_ok (σ := LessI gs xs ys) (fun x => St.of gl0 [(0, .c (.ptr 0 0)), (1, .c (.d (iS xs))), (7, .c (.own 7)), (8, .c (.d (iD x.ci))), (9, .c (.d (iD x.i)))]
    [(7, iR (GC.notsM gs ys).1), (1000, gsR x.gi), (1001, iR outs)] [(0, [.own 1000, .own 1001])]) (fun x => 4 - x.i) ⟨0, (GC.put (GC.notsM gs ys).2 2 1 0).2, (GC.put (GC.notsM gs ys).2 2 1 0).1, by omega, by rw [put_len]; omega, rfl⟩ (St.le_of ?_) ?_
  · simp (config := { maxSteps := 1000000 }) only [push_cast, ↓reduceIte, ↓normL_data, ↓frzL_data, Nat.reduceEqDiff, Nat.reduceLT, reduceCtorEq, Nat.reduceAdd, Nat.reduceMul, Nat.reduceDiv, Nat.reduceMod, Nat.reduceSub, Nat.reduceLeDiff, Nat.reduceBEq, Int.reduceLE, Int.reduceLT, Int.reduceToNat, Int.reduceAdd, Int.reduceSub, Int.reduceMul, Int.reduceEq, Int.reduceBEq, Int.reduceNeg, Int.reduceGT, Int.natCast_pos]
  · intro x
    simp (config := { maxSteps := 1000000 }) only [push_cast, ↓reduceIte, ↓normL_data, ↓frzL_data, Nat.reduceEqDiff, Nat.reduceLT, reduceCtorEq, Nat.reduceAdd, Nat.reduceMul, Nat.reduceDiv, Nat.reduceMod, Nat.reduceSub, Nat.reduceLeDiff, Nat.reduceBEq, Int.reduceLE, Int.reduceLT, Int.reduceToNat, Int.reduceAdd, Int.reduceSub, Int.reduceMul, Int.reduceEq, Int.reduceBEq, Int.reduceNeg, Int.reduceGT, Int.natCast_pos]
    obtain ⟨i, gi, ci, h1, h2, h4'⟩ := x
    simp only
    refine ⟨fun hi => ?_, fun hi => ?_⟩
    · refine VD.plan tab_ok (by kernel_rfl) [10] (.takes [0, 1, 2, 3, 4, 5, 6, 7, 8, 9] (.one 10 (.takes [11, 12, 13, 14, 15] (.done)))) (by kernel_rfl) ?_
      have e1 : i < xs.length := by omega
      have e2 : i < (GC.notsM gs ys).1.length := by omega
      simp (config := { maxSteps := 1000000 }) only [push_cast, ↓reduceIte, ↓normL_data, ↓frzL_data, Nat.reduceEqDiff, Nat.reduceLT, reduceCtorEq, Nat.reduceAdd, Nat.reduceMul, Nat.reduceDiv, Nat.reduceMod, Nat.reduceSub, Nat.reduceLeDiff, Nat.reduceBEq, Int.reduceLE, Int.reduceLT, Int.reduceToNat, Int.reduceAdd, Int.reduceSub, Int.reduceMul, Int.reduceEq, Int.reduceBEq, Int.reduceNeg, Int.reduceGT, Int.natCast_pos, iE_get _ _ e1, iE_get _ _ e2, e1, e2]
      refine vcall_by true (full_ok gi outs (xs.getD i 0) ((GC.notsM gs ys).1.getD i 0) ci (by omega)) ?_
      simp (config := { maxSteps := 1000000 }) only [push_cast, ↓reduceIte, ↓normL_data, ↓frzL_data, Nat.reduceEqDiff, Nat.reduceLT, reduceCtorEq, Nat.reduceAdd, Nat.reduceMul, Nat.reduceDiv, Nat.reduceMod, Nat.reduceSub, Nat.reduceLeDiff, Nat.reduceBEq, Int.reduceLE, Int.reduceLT, Int.reduceToNat, Int.reduceAdd, Int.reduceSub, Int.reduceMul, Int.reduceEq, Int.reduceBEq, Int.reduceNeg, Int.reduceGT, Int.natCast_pos]
      have d4 : GC.carryL gi ci (xs.drop i) ((GC.notsM gs ys).1.drop i) = GC.carryL (GC.full gi (xs.getD i 0) ((GC.notsM gs ys).1.getD i 0) ci).2 (GC.full gi (xs.getD i 0) ((GC.notsM gs ys).1.getD i 0) ci).1.2 (xs.drop (i + 1)) ((GC.notsM gs ys).1.drop (i + 1)) := by rw [dropc xs i e1, dropc _ i e2]; rfl
      refine kloop_next ⟨i + 1, (GC.full gi (xs.getD i 0) ((GC.notsM gs ys).1.getD i 0) ci).2, (GC.full gi (xs.getD i 0) ((GC.notsM gs ys).1.getD i 0) ci).1.2, by omega, by simp [GC.full, GC.put]; omega, by rw [← h4', d4]⟩ (St.le_of ?_) (by simp only; omega)
      simp (config := { maxSteps := 1000000 }) only [push_cast, ↓reduceIte, ↓normL_data, ↓frzL_data, Nat.reduceEqDiff, Nat.reduceLT, reduceCtorEq, Nat.reduceAdd, Nat.reduceMul, Nat.reduceDiv, Nat.reduceMod, Nat.reduceSub, Nat.reduceLeDiff, Nat.reduceBEq, Int.reduceLE, Int.reduceLT, Int.reduceToNat, Int.reduceAdd, Int.reduceSub, Int.reduceMul, Int.reduceEq, Int.reduceBEq, Int.reduceNeg, Int.reduceGT, Int.natCast_pos]
      rw [w64 _ (by omega) (by omega)]
    · have e : i = 4 := by omega
      subst e
      rw [List.drop_of_length_le (by omega)] at h4'
      have d : (gi, ci) = ((GC.carryL (GC.put (GC.notsM gs ys).2 2 1 0).2 (GC.put (GC.notsM gs ys).2 2 1 0).1 xs (GC.notsM gs ys).1).2, (GC.carryL (GC.put (GC.notsM gs ys).2 2 1 0).2 (GC.put (GC.notsM gs ys).2 2 1 0).1 xs (GC.notsM gs ys).1).1) := by rw [← h4']; rfl
      refine vcall_by true (put_ok gi outs 5 ci 0 (by omega)) ?_
      simp (config := { maxSteps := 1000000 }) only [push_cast, ↓reduceIte, ↓normL_data, ↓frzL_data, Nat.reduceEqDiff, Nat.reduceLT, reduceCtorEq, Nat.reduceAdd, Nat.reduceMul, Nat.reduceDiv, Nat.reduceMod, Nat.reduceSub, Nat.reduceLeDiff, Nat.reduceBEq, Int.reduceLE, Int.reduceLT, Int.reduceToNat, Int.reduceAdd, Int.reduceSub, Int.reduceMul, Int.reduceEq, Int.reduceBEq, Int.reduceNeg, Int.reduceGT, Int.natCast_pos]
      simp only [Prod.mk.injEq] at d
      rw [d.1, d.2]
      exact ⟨rfl, rfl⟩
end GV

set_option linter.unusedSimpArgs false
set_option linter.unusedVariables false
namespace GV
open Go
structure BitsI (gs : List GC.Gt) (k : Int) (xs ys : List Int) where
  i : Nat
  gi : List GC.Gt
  oi : List Int
  h1 : i ≤ 4
  h2 : gi.length = gs.length + i
  h3 : oi.length = i
  h4 : oi ++ (GC.bitsM k gi (xs.drop i) (ys.drop i)).1 = (GC.bitsM k gs xs ys).1
  h5 : (GC.bitsM k gi (xs.drop i) (ys.drop i)).2 = (GC.bitsM k gs xs ys).2
theorem bits_ok (gs : List GC.Gt) (outs xs ys : List Int) (k : Int) (h : gs.length ≤ 80000) (hx : xs.length = 4) (hy : ys.length = 4) :
    CallOk Go.Proofs.Try.prog gl0 72 [bR gs outs, .c (iD k), .c (iS xs), .c (iS ys)] ⟨[.rr (iR (GC.bitsM k gs xs ys).1)], [bR (GC.bitsM k gs xs ys).2 outs]⟩ := by
  refine okFn (fn := Go.Proofs.Try.f72) [.tmp 8] 4 31 (by kernel_rfl) (by kernel_rfl) rfl (by kernel_rfl) (by decide) rfl rfl rfl ?_
  simp (config := { maxSteps := 1000000 }) only [push_cast, ↓reduceIte, ↓normL_data, ↓frzL_data, Nat.reduceEqDiff, Nat.reduceLT, reduceCtorEq, Nat.reduceAdd, Nat.reduceMul, Nat.reduceDiv, Nat.reduceMod, Nat.reduceSub, Nat.reduceLeDiff, Nat.reduceBEq, Int.reduceLE, Int.reduceLT, Int.reduceToNat, Int.reduceAdd, Int.reduceSub, Int.reduceMul, Int.reduceEq, Int.reduceBEq, Int.reduceNeg, Int.reduceGT, Int.natCast_pos]
  refine VC.loop' tab_ok (σ := BitsI gs k xs ys) (fun x => St.of gl0 [(0, .c (.ptr 0 0)), (1, .c (.d (iD k))), (2, .c (.d (iS xs))), (3, .c (.d (iS ys))), (9, .c (.own 9)), (10, .c (.d (iD x.i)))]
    [(9, iR x.oi), (1000, gsR x.gi), (1001, iR outs)] [(0, [.own 1000, .own 1001])]) (fun x => 4 - x.i) ⟨0, gs, [], by omega, rfl, rfl, rfl, rfl⟩ (St.le_of ?_) ?_
  · simp (config := { maxSteps := 1000000 }) only [push_cast, ↓reduceIte, ↓normL_data, ↓frzL_data, Nat.reduceEqDiff, Nat.reduceLT, reduceCtorEq, Nat.reduceAdd, Nat.reduceMul, Nat.reduceDiv, Nat.reduceMod, Nat.reduceSub, Nat.reduceLeDiff, Nat.reduceBEq, Int.reduceLE, Int.reduceLT, Int.reduceToNat, Int.reduceAdd, Int.reduceSub, Int.reduceMul, Int.reduceEq, Int.reduceBEq, Int.reduceNeg, Int.reduceGT, Int.natCast_pos]
  · intro x
    simp (config := { maxSteps := 1000000 }) only [push_cast, ↓reduceIte, ↓normL_data, ↓frzL_data, Nat.reduceEqDiff, Nat.reduceLT, reduceCtorEq, Nat.reduceAdd, Nat.reduceMul, Nat.reduceDiv, Nat.reduceMod, Nat.reduceSub, Nat.reduceLeDiff, Nat.reduceBEq, Int.reduceLE, Int.reduceLT, Int.reduceToNat, Int.reduceAdd, Int.reduceSub, Int.reduceMul, Int.reduceEq, Int.reduceBEq, Int.reduceNeg, Int.reduceGT, Int.natCast_pos]
    obtain ⟨i, gi, oi, h1, h2, h3, h4', h5⟩ := x
    simp only
    refine ⟨fun hi => ?_, fun hi => ?_⟩
    · refine VD.plan tab_ok (by kernel_rfl) [11, 13] (.takes [0, 1, 2, 3, 4, 5, 6, 7, 8, 9, 10] (.one 11 (.one 12 (.one 13 (.takes [14] (.done)))))) (by kernel_rfl) ?_
      have e1 : i < xs.length := by omega
      have e2 : i < ys.length := by omega
      simp (config := { maxSteps := 1000000 }) only [push_cast, ↓reduceIte, ↓normL_data, ↓frzL_data, Nat.reduceEqDiff, Nat.reduceLT, reduceCtorEq, Nat.reduceAdd, Nat.reduceMul, Nat.reduceDiv, Nat.reduceMod, Nat.reduceSub, Nat.reduceLeDiff, Nat.reduceBEq, Int.reduceLE, Int.reduceLT, Int.reduceToNat, Int.reduceAdd, Int.reduceSub, Int.reduceMul, Int.reduceEq, Int.reduceBEq, Int.reduceNeg, Int.reduceGT, Int.natCast_pos, iE_get _ _ e1, iE_get _ _ e2, e1, e2]
      refine vcall_by true (put_ok gi outs k (xs.getD i 0) (ys.getD i 0) (by omega)) ?_
      simp (config := { maxSteps := 1000000 }) only [push_cast, ↓reduceIte, ↓normL_data, ↓frzL_data, Nat.reduceEqDiff, Nat.reduceLT, reduceCtorEq, Nat.reduceAdd, Nat.reduceMul, Nat.reduceDiv, Nat.reduceMod, Nat.reduceSub, Nat.reduceLeDiff, Nat.reduceBEq, Int.reduceLE, Int.reduceLT, Int.reduceToNat, Int.reduceAdd, Int.reduceSub, Int.reduceMul, Int.reduceEq, Int.reduceBEq, Int.reduceNeg, Int.reduceGT, Int.natCast_pos]
      have d4 : GC.bitsM k gi (xs.drop i) (ys.drop i) = ((GC.put gi k (xs.getD i 0) (ys.getD i 0)).1 :: (GC.bitsM k (GC.put gi k (xs.getD i 0) (ys.getD i 0)).2 (xs.drop (i + 1)) (ys.drop (i + 1))).1, (GC.bitsM k (GC.put gi k (xs.getD i 0) (ys.getD i 0)).2 (xs.drop (i + 1)) (ys.drop (i + 1))).2) := by rw [dropc xs i e1, dropc ys i e2]; rfl
      refine ⟨by omega, kloop_next ⟨i + 1, (GC.put gi k (xs.getD i 0) (ys.getD i 0)).2, oi ++ [(GC.put gi k (xs.getD i 0) (ys.getD i 0)).1], by omega, by rw [put_len]; omega, by simp [h3], by rw [← h4', d4]; simp, by rw [← h5, d4]⟩ (St.le_of ?_) (by simp only; omega)⟩
      simp (config := { maxSteps := 1000000 }) only [push_cast, ↓reduceIte, ↓normL_data, ↓frzL_data, Nat.reduceEqDiff, Nat.reduceLT, reduceCtorEq, Nat.reduceAdd, Nat.reduceMul, Nat.reduceDiv, Nat.reduceMod, Nat.reduceSub, Nat.reduceLeDiff, Nat.reduceBEq, Int.reduceLE, Int.reduceLT, Int.reduceToNat, Int.reduceAdd, Int.reduceSub, Int.reduceMul, Int.reduceEq, Int.reduceBEq, Int.reduceNeg, Int.reduceGT, Int.natCast_pos]
      rw [w64 _ (by omega) (by omega)]
    · have e : i = 4 := by omega
      subst e
      rw [← h4', ← h5, List.drop_of_length_le (by omega)]
      simp (config := { maxSteps := 1000000 }) only [push_cast, ↓reduceIte, ↓normL_data, ↓frzL_data, Nat.reduceEqDiff, Nat.reduceLT, reduceCtorEq, Nat.reduceAdd, Nat.reduceMul, Nat.reduceDiv, Nat.reduceMod, Nat.reduceSub, Nat.reduceLeDiff, Nat.reduceBEq, Int.reduceLE, Int.reduceLT, Int.reduceToNat, Int.reduceAdd, Int.reduceSub, Int.reduceMul, Int.reduceEq, Int.reduceBEq, Int.reduceNeg, Int.reduceGT, Int.natCast_pos, GC.bitsM]
structure MuxI (gs : List GC.Gt) (s : Int) (xs ys : List Int) where
  i : Nat
  gi : List GC.Gt
  oi : List Int
  h1 : i ≤ 4
  h2 : gi.length = gs.length + 3 * i
  h3 : oi.length = i
  h4 : oi ++ (GC.muxM gi s (xs.drop i) (ys.drop i)).1 = (GC.muxM gs s xs ys).1
  h5 : (GC.muxM gi s (xs.drop i) (ys.drop i)).2 = (GC.muxM gs s xs ys).2
theorem mux_ok (gs : List GC.Gt) (outs xs ys : List Int) (s : Int) (h : gs.length ≤ 80000) (hx : xs.length = 4) (hy : ys.length = 4) :
    CallOk Go.Proofs.Try.prog gl0 75 [bR gs outs, .c (iD s), .c (iS xs), .c (iS ys)] ⟨[.rr (iR (GC.muxM gs s xs ys).1)], [bR (GC.muxM gs s xs ys).2 outs]⟩ := by
  refine okFn (fn := Go.Proofs.Try.f75) [.tmp 8] 4 43 (by kernel_rfl) (by kernel_rfl) rfl (by kernel_rfl) (by decide) rfl rfl rfl ?_
  simp (config := { maxSteps := 1000000 }) only [push_cast, ↓reduceIte, ↓normL_data, ↓frzL_data, Nat.reduceEqDiff, Nat.reduceLT, reduceCtorEq, Nat.reduceAdd, Nat.reduceMul, Nat.reduceDiv, Nat.reduceMod, Nat.reduceSub, Nat.reduceLeDiff, Nat.reduceBEq, Int.reduceLE, Int.reduceLT, Int.reduceToNat, Int.reduceAdd, Int.reduceSub, Int.reduceMul, Int.reduceEq, Int.reduceBEq, Int.reduceNeg, Int.reduceGT, Int.natCast_pos]
  refine VC.loop' tab_ok (σ := MuxI gs s xs ys) (fun x => St.of gl0 [(0, .c (.ptr 0 0)), (1, .c (.d (iD s))), (2, .c (.d (iS xs))), (3, .c (.d (iS ys))), (9, .c (.own 9)), (10, .c (.d (iD x.i)))]
    [(9, iR x.oi), (1000, gsR x.gi), (1001, iR outs)] [(0, [.own 1000, .own 1001])]) (fun x => 4 - x.i) ⟨0, gs, [], by omega, rfl, rfl, rfl, rfl⟩ (St.le_of ?_) ?_
  · simp (config := { maxSteps := 1000000 }) only [push_cast, ↓reduceIte, ↓normL_data, ↓frzL_data, Nat.reduceEqDiff, Nat.reduceLT, reduceCtorEq, Nat.reduceAdd, Nat.reduceMul, Nat.reduceDiv, Nat.reduceMod, Nat.reduceSub, Nat.reduceLeDiff, Nat.reduceBEq, Int.reduceLE, Int.reduceLT, Int.reduceToNat, Int.reduceAdd, Int.reduceSub, Int.reduceMul, Int.reduceEq, Int.reduceBEq, Int.reduceNeg, Int.reduceGT, Int.natCast_pos]
  · intro x
    simp (config := { maxSteps := 1000000 }) only [push_cast, ↓reduceIte, ↓normL_data, ↓frzL_data, Nat.reduceEqDiff, Nat.reduceLT, reduceCtorEq, Nat.reduceAdd, Nat.reduceMul, Nat.reduceDiv, Nat.reduceMod, Nat.reduceSub, Nat.reduceLeDiff, Nat.reduceBEq, Int.reduceLE, Int.reduceLT, Int.reduceToNat, Int.reduceAdd, Int.reduceSub, Int.reduceMul, Int.reduceEq, Int.reduceBEq, Int.reduceNeg, Int.reduceGT, Int.natCast_pos]
    obtain ⟨i, gi, oi, h1, h2, h3, h4', h5⟩ := x
    simp only
    refine ⟨fun hi => ?_, fun hi => ?_⟩
    · refine VD.plan tab_ok (by kernel_rfl) [9] (.takes [0, 1, 2, 3, 4, 5, 6, 7, 8] (.one 9 (.takes [10] (.done)))) (by kernel_rfl) ?_
      have e1 : i < xs.length := by omega
      have e2 : i < ys.length := by omega
      generalize hp : GC.put gi 3 (xs.getD i 0) (ys.getD i 0) = p
      have lp : p.2.length = gi.length + 1 := by rw [← hp, put_len]
      generalize hq : GC.put p.2 4 s p.1 = q
      have lq : q.2.length = gi.length + 2 := by rw [← hq, put_len, lp]
      generalize hr : GC.put q.2 3 q.1 (ys.getD i 0) = r
      have lr : r.2.length = gi.length + 3 := by rw [← hr, put_len, lq]
      simp (config := { maxSteps := 1000000 }) only [push_cast, ↓reduceIte, ↓normL_data, ↓frzL_data, Nat.reduceEqDiff, Nat.reduceLT, reduceCtorEq, Nat.reduceAdd, Nat.reduceMul, Nat.reduceDiv, Nat.reduceMod, Nat.reduceSub, Nat.reduceLeDiff, Nat.reduceBEq, Int.reduceLE, Int.reduceLT, Int.reduceToNat, Int.reduceAdd, Int.reduceSub, Int.reduceMul, Int.reduceEq, Int.reduceBEq, Int.reduceNeg, Int.reduceGT, Int.natCast_pos, iE_get _ _ e1, iE_get _ _ e2, e1, e2]
      refine vcall_by true (hp ▸ put_ok gi outs 3 (xs.getD i 0) (ys.getD i 0) (by omega)) ?_
      simp (config := { maxSteps := 1000000 }) only [push_cast, ↓reduceIte, ↓normL_data, ↓frzL_data, Nat.reduceEqDiff, Nat.reduceLT, reduceCtorEq, Nat.reduceAdd, Nat.reduceMul, Nat.reduceDiv, Nat.reduceMod, Nat.reduceSub, Nat.reduceLeDiff, Nat.reduceBEq, Int.reduceLE, Int.reduceLT, Int.reduceToNat, Int.reduceAdd, Int.reduceSub, Int.reduceMul, Int.reduceEq, Int.reduceBEq, Int.reduceNeg, Int.reduceGT, Int.natCast_pos]
      refine vcall_by true (hq ▸ put_ok p.2 outs 4 s p.1 (by omega)) ?_
      simp (config := { maxSteps := 1000000 }) only [push_cast, ↓reduceIte, ↓normL_data, ↓frzL_data, Nat.reduceEqDiff, Nat.reduceLT, reduceCtorEq, Nat.reduceAdd, Nat.reduceMul, Nat.reduceDiv, Nat.reduceMod, Nat.reduceSub, Nat.reduceLeDiff, Nat.reduceBEq, Int.reduceLE, Int.reduceLT, Int.reduceToNat, Int.reduceAdd, Int.reduceSub, Int.reduceMul, Int.reduceEq, Int.reduceBEq, Int.reduceNeg, Int.reduceGT, Int.natCast_pos, iE_get _ _ e1, iE_get _ _ e2, e1, e2]
      refine vcall_by true (hr ▸ put_ok q.2 outs 3 q.1 (ys.getD i 0) (by omega)) ?_
      simp (config := { maxSteps := 1000000 }) only [push_cast, ↓reduceIte, ↓normL_data, ↓frzL_data, Nat.reduceEqDiff, Nat.reduceLT, reduceCtorEq, Nat.reduceAdd, Nat.reduceMul, Nat.reduceDiv, Nat.reduceMod, Nat.reduceSub, Nat.reduceLeDiff, Nat.reduceBEq, Int.reduceLE, Int.reduceLT, Int.reduceToNat, Int.reduceAdd, Int.reduceSub, Int.reduceMul, Int.reduceEq, Int.reduceBEq, Int.reduceNeg, Int.reduceGT, Int.natCast_pos]
      have d4 : GC.muxM gi s (xs.drop i) (ys.drop i) = (r.1 :: (GC.muxM r.2 s (xs.drop (i + 1)) (ys.drop (i + 1))).1, (GC.muxM r.2 s (xs.drop (i + 1)) (ys.drop (i + 1))).2) := by rw [dropc xs i e1, dropc ys i e2]; simp only [GC.muxM]; rw [hp, hq, hr]
      refine ⟨by omega, kloop_next ⟨i + 1, r.2, oi ++ [r.1], by omega, by omega, by simp [h3], by rw [← h4', d4]; simp, by rw [← h5, d4]⟩ (St.le_of ?_) (by simp only; omega)⟩
      simp (config := { maxSteps := 1000000 }) only [push_cast, ↓reduceIte, ↓normL_data, ↓frzL_data, Nat.reduceEqDiff, Nat.reduceLT, reduceCtorEq, Nat.reduceAdd, Nat.reduceMul, Nat.reduceDiv, Nat.reduceMod, Nat.reduceSub, Nat.reduceLeDiff, Nat.reduceBEq, Int.reduceLE, Int.reduceLT, Int.reduceToNat, Int.reduceAdd, Int.reduceSub, Int.reduceMul, Int.reduceEq, Int.reduceBEq, Int.reduceNeg, Int.reduceGT, Int.natCast_pos]
      rw [w64 _ (by omega) (by omega)]
    · have e : i = 4 := by omega
      subst e
      rw [← h4', ← h5, List.drop_of_length_le (by omega)]
      simp (config := { maxSteps := 1000000 }) only [push_cast, ↓reduceIte, ↓normL_data, ↓frzL_data, Nat.reduceEqDiff, Nat.reduceLT, reduceCtorEq, Nat.reduceAdd, Nat.reduceMul, Nat.reduceDiv, Nat.reduceMod, Nat.reduceSub, Nat.reduceLeDiff, Nat.reduceBEq, Int.reduceLE, Int.reduceLT, Int.reduceToNat, Int.reduceAdd, Int.reduceSub, Int.reduceMul, Int.reduceEq, Int.reduceBEq, Int.reduceNeg, Int.reduceGT, Int.natCast_pos, GC.muxM]
end GV

set_option linter.unusedSimpArgs false
set_option linter.unusedVariables false
namespace GV
open Go
structure EqI (gs : List GC.Gt) (xs ys : List Int) where
  i : Nat
  gi : List GC.Gt
  oi : List Int
  h1 : i ≤ 4
  h2 : gi.length = gs.length + 2 * i
  h3 : oi.length = i
  h4 : oi ++ (GC.eqL gi (xs.drop i) (ys.drop i)).1 = (GC.eqL gs xs ys).1
  h5 : (GC.eqL gi (xs.drop i) (ys.drop i)).2 = (GC.eqL gs xs ys).2
structure AndI (gs : List GC.Gt) (xs : List Int) where
  i : Nat
  gi : List GC.Gt
  wi : Int
  h0 : 1 ≤ i
  h1 : i ≤ 4
  h2 : gi.length + 1 = gs.length + i
  h4 : GC.andL gi wi (xs.drop i) = GC.andL gs (xs.getD 0 0) (xs.drop 1)
theorem eqL_len : ∀ (xs ys : List Int) (gs : List GC.Gt), xs.length = ys.length → (GC.eqL gs xs ys).1.length = xs.length ∧ (GC.eqL gs xs ys).2.length = gs.length + 2 * xs.length
  | [], [], gs, _ => ⟨rfl, rfl⟩
  | x :: xs, y :: ys, gs, h => by
    obtain ⟨h1, h2⟩ := eqL_len xs ys (GC.put (GC.put gs 3 x y).2 5 (GC.put gs 3 x y).1 0).2 (by simpa using h)
    rw [put_len, put_len] at h2
    exact ⟨by simp [GC.eqL, h1], by simp [GC.eqL, h2]; omega⟩
theorem equal_ok (gs : List GC.Gt) (outs xs ys : List Int) (h : gs.length ≤ 80000) (hx : xs.length = 4) (hy : ys.length = 4) :
    CallOk Go.Proofs.Try.prog gl0 74 [bR gs outs, .c (iS xs), .c (iS ys)] ⟨[.c (iD (GC.equalM gs xs ys).1)], [bR (GC.equalM gs xs ys).2 outs]⟩ := by
  obtain ⟨l1, l2⟩ := eqL_len xs ys gs (by omega)
  refine okFn (fn := Go.Proofs.Try.f74) [.tmp 6] 3 48 (by kernel_rfl) (by kernel_rfl) rfl (by kernel_rfl) (by decide) rfl rfl rfl ?_
  simp (config := { maxSteps := 1000000 }) only [push_cast, ↓reduceIte, ↓normL_data, ↓frzL_data, Nat.reduceEqDiff, Nat.reduceLT, reduceCtorEq, Nat.reduceAdd, Nat.reduceMul, Nat.reduceDiv, Nat.reduceMod, Nat.reduceSub, Nat.reduceLeDiff, Nat.reduceBEq, Int.reduceLE, Int.reduceLT, Int.reduceToNat, Int.reduceAdd, Int.reduceSub, Int.reduceMul, Int.reduceEq, Int.reduceBEq, Int.reduceNeg, Int.reduceGT, Int.natCast_pos]
  refine VC.loop' tab_ok (σ := EqI gs xs ys) (fun x => St.of gl0 [(0, .c (.ptr 0 0)), (1, .c (.d (iS xs))), (2, .c (.d (iS ys))), (7, .c (.own 7)), (8, .c (.d (iD x.i)))]
    [(7, iR x.oi), (1000, gsR x.gi), (1001, iR outs)] [(0, [.own 1000, .own 1001])]) (fun x => 4 - x.i) ⟨0, gs, [], by omega, rfl, rfl, rfl, rfl⟩ (St.le_of ?_) ?_
  · simp (config := { maxSteps := 1000000 }) only [push_cast, ↓reduceIte, ↓normL_data, ↓frzL_data, Nat.reduceEqDiff, Nat.reduceLT, reduceCtorEq, Nat.reduceAdd, Nat.reduceMul, Nat.reduceDiv, Nat.reduceMod, Nat.reduceSub, Nat.reduceLeDiff, Nat.reduceBEq, Int.reduceLE, Int.reduceLT, Int.reduceToNat, Int.reduceAdd, Int.reduceSub, Int.reduceMul, Int.reduceEq, Int.reduceBEq, Int.reduceNeg, Int.reduceGT, Int.natCast_pos]
  · intro x
    simp (config := { maxSteps := 1000000 }) only [push_cast, ↓reduceIte, ↓normL_data, ↓frzL_data, Nat.reduceEqDiff, Nat.reduceLT, reduceCtorEq, Nat.reduceAdd, Nat.reduceMul, Nat.reduceDiv, Nat.reduceMod, Nat.reduceSub, Nat.reduceLeDiff, Nat.reduceBEq, Int.reduceLE, Int.reduceLT, Int.reduceToNat, Int.reduceAdd, Int.reduceSub, Int.reduceMul, Int.reduceEq, Int.reduceBEq, Int.reduceNeg, Int.reduceGT, Int.natCast_pos]
    obtain ⟨i, gi, oi, h1, h2, h3, h4', h5⟩ := x
    simp only
    refine ⟨fun hi => ?_, fun hi => ?_⟩
    · refine VD.plan tab_ok (by kernel_rfl) [9] (.takes [0, 1, 2, 3, 4, 5, 6, 7, 8] (.one 9 (.takes [10] (.done)))) (by kernel_rfl) ?_
      have e1 : i < xs.length := by omega
      have e2 : i < ys.length := by omega
      generalize hp : GC.put gi 3 (xs.getD i 0) (ys.getD i 0) = p
      have lp : p.2.length = gi.length + 1 := by rw [← hp, put_len]
      generalize hq : GC.put p.2 5 p.1 0 = q
      have lq : q.2.length = gi.length + 2 := by rw [← hq, put_len, lp]
      simp (config := { maxSteps := 1000000 }) only [push_cast, ↓reduceIte, ↓normL_data, ↓frzL_data, Nat.reduceEqDiff, Nat.reduceLT, reduceCtorEq, Nat.reduceAdd, Nat.reduceMul, Nat.reduceDiv, Nat.reduceMod, Nat.reduceSub, Nat.reduceLeDiff, Nat.reduceBEq, Int.reduceLE, Int.reduceLT, Int.reduceToNat, Int.reduceAdd, Int.reduceSub, Int.reduceMul, Int.reduceEq, Int.reduceBEq, Int.reduceNeg, Int.reduceGT, Int.natCast_pos, iE_get _ _ e1, iE_get _ _ e2, e1, e2]
      refine vcall_by true (hp ▸ put_ok gi outs 3 (xs.getD i 0) (ys.getD i 0) (by omega)) ?_
      simp (config := { maxSteps := 1000000 }) only [push_cast, ↓reduceIte, ↓normL_data, ↓frzL_data, Nat.reduceEqDiff, Nat.reduceLT, reduceCtorEq, Nat.reduceAdd, Nat.reduceMul, Nat.reduceDiv, Nat.reduceMod, Nat.reduceSub, Nat.reduceLeDiff, Nat.reduceBEq, Int.reduceLE, Int.reduceLT, Int.reduceToNat, Int.reduceAdd, Int.reduceSub, Int.reduceMul, Int.reduceEq, Int.reduceBEq, Int.reduceNeg, Int.reduceGT, Int.natCast_pos]
      refine vcall_by true (hq ▸ put_ok p.2 outs 5 p.1 0 (by omega)) ?_
      simp (config := { maxSteps := 1000000 }) only [push_cast, ↓reduceIte, ↓normL_data, ↓frzL_data, Nat.reduceEqDiff, Nat.reduceLT, reduceCtorEq, Nat.reduceAdd, Nat.reduceMul, Nat.reduceDiv, Nat.reduceMod, Nat.reduceSub, Nat.reduceLeDiff, Nat.reduceBEq, Int.reduceLE, Int.reduceLT, Int.reduceToNat, Int.reduceAdd, Int.reduceSub, Int.reduceMul, Int.reduceEq, Int.reduceBEq, Int.reduceNeg, Int.reduceGT, Int.natCast_pos]
      have d4 : GC.eqL gi (xs.drop i) (ys.drop i) = (q.1 :: (GC.eqL q.2 (xs.drop (i + 1)) (ys.drop (i + 1))).1, (GC.eqL q.2 (xs.drop (i + 1)) (ys.drop (i + 1))).2) := by rw [dropc xs i e1, dropc ys i e2]; simp only [GC.eqL]; rw [hp, hq]
      refine ⟨by omega, kloop_next ⟨i + 1, q.2, oi ++ [q.1], by omega, by omega, by simp [h3], by rw [← h4', d4]; simp, by rw [← h5, d4]⟩ (St.le_of ?_) (by simp only; omega)⟩
      simp (config := { maxSteps := 1000000 }) only [push_cast, ↓reduceIte, ↓normL_data, ↓frzL_data, Nat.reduceEqDiff, Nat.reduceLT, reduceCtorEq, Nat.reduceAdd, Nat.reduceMul, Nat.reduceDiv, Nat.reduceMod, Nat.reduceSub, Nat.reduceLeDiff, Nat.reduceBEq, Int.reduceLE, Int.reduceLT, Int.reduceToNat, Int.reduceAdd, Int.reduceSub, Int.reduceMul, Int.reduceEq, Int.reduceBEq, Int.reduceNeg, Int.reduceGT, Int.natCast_pos]
      rw [w64 _ (by omega) (by omega)]
    · have e : i = 4 := by omega
      subst e
      rw [List.drop_of_length_le (by omega)] at h4' h5
      simp only [GC.eqL, List.append_nil] at h4' h5
      have k0 : 0 < oi.length := by omega
      simp (config := { maxSteps := 1000000 }) only [push_cast, ↓reduceIte, ↓normL_data, ↓frzL_data, Nat.reduceEqDiff, Nat.reduceLT, reduceCtorEq, Nat.reduceAdd, Nat.reduceMul, Nat.reduceDiv, Nat.reduceMod, Nat.reduceSub, Nat.reduceLeDiff, Nat.reduceBEq, Int.reduceLE, Int.reduceLT, Int.reduceToNat, Int.reduceAdd, Int.reduceSub, Int.reduceMul, Int.reduceEq, Int.reduceBEq, Int.reduceNeg, Int.reduceGT, Int.natCast_pos, k0, iE_get _ _ k0]
      refine VC.loop' tab_ok (σ := AndI (GC.eqL gs xs ys).2 (GC.eqL gs xs ys).1) (fun x => St.of gl0 [(0, .c (.ptr 0 0)), (7, .c (.own 7)), (10, .c (.d (iD x.wi))), (11, .c (.d (iD x.i)))]
        [(7, iR (GC.eqL gs xs ys).1), (1000, gsR x.gi), (1001, iR outs)] [(0, [.own 1000, .own 1001])]) (fun x => 4 - x.i) ⟨1, (GC.eqL gs xs ys).2, (GC.eqL gs xs ys).1.getD 0 0, by omega, by omega, by omega, rfl⟩ (St.le_of ?_) ?_
      · simp (config := { maxSteps := 1000000 }) only [push_cast, ↓reduceIte, ↓normL_data, ↓frzL_data, Nat.reduceEqDiff, Nat.reduceLT, reduceCtorEq, Nat.reduceAdd, Nat.reduceMul, Nat.reduceDiv, Nat.reduceMod, Nat.reduceSub, Nat.reduceLeDiff, Nat.reduceBEq, Int.reduceLE, Int.reduceLT, Int.reduceToNat, Int.reduceAdd, Int.reduceSub, Int.reduceMul, Int.reduceEq, Int.reduceBEq, Int.reduceNeg, Int.reduceGT, Int.natCast_pos]
        rw [← h4', ← h5]
        simp
      · intro x
        simp (config := { maxSteps := 1000000 }) only [push_cast, ↓reduceIte, ↓normL_data, ↓frzL_data, Nat.reduceEqDiff, Nat.reduceLT, reduceCtorEq, Nat.reduceAdd, Nat.reduceMul, Nat.reduceDiv, Nat.reduceMod, Nat.reduceSub, Nat.reduceLeDiff, Nat.reduceBEq, Int.reduceLE, Int.reduceLT, Int.reduceToNat, Int.reduceAdd, Int.reduceSub, Int.reduceMul, Int.reduceEq, Int.reduceBEq, Int.reduceNeg, Int.reduceGT, Int.natCast_pos]
        obtain ⟨i, gi', wi, k0, k1, k2, k4⟩ := x
        simp only
        refine ⟨fun hi => ?_, fun hi => ?_⟩
        · have e1 : i < (GC.eqL gs xs ys).1.length := by omega
          simp (config := { maxSteps := 1000000 }) only [push_cast, ↓reduceIte, ↓normL_data, ↓frzL_data, Nat.reduceEqDiff, Nat.reduceLT, reduceCtorEq, Nat.reduceAdd, Nat.reduceMul, Nat.reduceDiv, Nat.reduceMod, Nat.reduceSub, Nat.reduceLeDiff, Nat.reduceBEq, Int.reduceLE, Int.reduceLT, Int.reduceToNat, Int.reduceAdd, Int.reduceSub, Int.reduceMul, Int.reduceEq, Int.reduceBEq, Int.reduceNeg, Int.reduceGT, Int.natCast_pos, iE_get _ _ e1, e1]
          refine vcall_by true (put_ok gi' outs 4 wi ((GC.eqL gs xs ys).1.getD i 0) (by omega)) ?_
          simp (config := { maxSteps := 1000000 }) only [push_cast, ↓reduceIte, ↓normL_data, ↓frzL_data, Nat.reduceEqDiff, Nat.reduceLT, reduceCtorEq, Nat.reduceAdd, Nat.reduceMul, Nat.reduceDiv, Nat.reduceMod, Nat.reduceSub, Nat.reduceLeDiff, Nat.reduceBEq, Int.reduceLE, Int.reduceLT, Int.reduceToNat, Int.reduceAdd, Int.reduceSub, Int.reduceMul, Int.reduceEq, Int.reduceBEq, Int.reduceNeg, Int.reduceGT, Int.natCast_pos]
          refine kloop_next ⟨i + 1, (GC.put gi' 4 wi ((GC.eqL gs xs ys).1.getD i 0)).2, (GC.put gi' 4 wi ((GC.eqL gs xs ys).1.getD i 0)).1, by omega, by omega, by rw [put_len]; omega, by rw [← k4, dropc _ i e1]; rfl⟩ (St.le_of ?_) (by simp only; omega)
          simp (config := { maxSteps := 1000000 }) only [push_cast, ↓reduceIte, ↓normL_data, ↓frzL_data, Nat.reduceEqDiff, Nat.reduceLT, reduceCtorEq, Nat.reduceAdd, Nat.reduceMul, Nat.reduceDiv, Nat.reduceMod, Nat.reduceSub, Nat.reduceLeDiff, Nat.reduceBEq, Int.reduceLE, Int.reduceLT, Int.reduceToNat, Int.reduceAdd, Int.reduceSub, Int.reduceMul, Int.reduceEq, Int.reduceBEq, Int.reduceNeg, Int.reduceGT, Int.natCast_pos]
          rw [w64 _ (by omega) (by omega)]
        · have e : i = 4 := by omega
          subst e
          rw [List.drop_of_length_le (by omega)] at k4
          simp only [GC.andL] at k4
          simp (config := { maxSteps := 1000000 }) only [push_cast, ↓reduceIte, ↓normL_data, ↓frzL_data, Nat.reduceEqDiff, Nat.reduceLT, reduceCtorEq, Nat.reduceAdd, Nat.reduceMul, Nat.reduceDiv, Nat.reduceMod, Nat.reduceSub, Nat.reduceLeDiff, Nat.reduceBEq, Int.reduceLE, Int.reduceLT, Int.reduceToNat, Int.reduceAdd, Int.reduceSub, Int.reduceMul, Int.reduceEq, Int.reduceBEq, Int.reduceNeg, Int.reduceGT, Int.natCast_pos, GC.equalM]
          rw [← k4]
          exact ⟨rfl, rfl⟩
end GV

set_option linter.unusedSimpArgs false
set_option linter.unusedVariables false
namespace GV
open Go
theorem nib_bit : ∀ n, n < 16 → ∀ i, i < 4 → (n / 2 ^ i) &&& 1 = GC.bo ((GC.b4 n).getD i false) := by decide
theorem shr_and (n i : Nat) (hn : n < 16) (hi : i < 4) : bits .and .i64 ((n : Int) / 2 ^ i) 1 = GC.bo ((GC.b4 n).getD i false) := by
  have e : ((n : Int) / 2 ^ i) = ((n / 2 ^ i : Nat) : Int) := by simp
  have hlt : n / 2 ^ i ≤ n := Nat.div_le_self _ _
  have key : ∀ m : Nat, m ≤ 15 → bits .and .i64 (m : Int) 1 = ((m &&& 1 : Nat) : Int) := fun m hm => by
    rw [GC.bits_and_i64 _ _ (by omega) (by omega) (by omega) (by omega)]; rfl
  rw [e, key _ (by omega), nib_bit n hn i hi]
structure ConstI (gs : List GC.Gt) (n : Nat) where
  i : Nat
  gi : List GC.Gt
  oi : List Int
  h1 : i ≤ 4
  h2 : gi.length = gs.length + i
  h3 : oi.length = i
  h4 : oi ++ (GC.constL gi ((GC.b4 n).drop i)).1 = (GC.constL gs (GC.b4 n)).1
  h5 : (GC.constL gi ((GC.b4 n).drop i)).2 = (GC.constL gs (GC.b4 n)).2
theorem b4_drop (n i : Nat) (hi : i < 4) : (GC.b4 n).drop i = (GC.b4 n).getD i false :: (GC.b4 n).drop (i + 1) := by
  have : i < (GC.b4 n).length := by simpa [GC.b4] using hi
  rw [List.drop_eq_getElem_cons this, List.getD_eq_getElem?_getD, List.getElem?_eq_getElem this]; rfl
theorem const_ok (gs : List GC.Gt) (outs : List Int) (n : Nat) (h : gs.length ≤ 80000) (hn : n < 16) :
    CallOk Go.Proofs.Try.prog gl0 40 [bR gs outs, .c (iD n)] ⟨[.rr (iR (GC.constL gs (GC.b4 n)).1)], [bR (GC.constL gs (GC.b4 n)).2 outs]⟩ := by
  refine okFn (fn := Go.Proofs.Try.f40) [.tmp 4] 2 23 (by kernel_rfl) (by kernel_rfl) rfl (by kernel_rfl) (by decide) rfl rfl rfl ?_
  simp (config := { maxSteps := 1000000 }) only [push_cast, ↓reduceIte, ↓normL_data, ↓frzL_data, Nat.reduceEqDiff, Nat.reduceLT, reduceCtorEq, Nat.reduceAdd, Nat.reduceMul, Nat.reduceDiv, Nat.reduceMod, Nat.reduceSub, Nat.reduceLeDiff, Nat.reduceBEq, Int.reduceLE, Int.reduceLT, Int.reduceToNat, Int.reduceAdd, Int.reduceSub, Int.reduceMul, Int.reduceEq, Int.reduceBEq, Int.reduceNeg, Int.reduceGT, Int.natCast_pos]
  refine VC.loop' tab_ok (σ := ConstI gs n) (fun x => St.of gl0 [(0, .c (.ptr 0 0)), (1, .c (.d (iD n))), (5, .c (.own 5)), (6, .c (.d (iD x.i)))]
    [(5, iR x.oi), (1000, gsR x.gi), (1001, iR outs)] [(0, [.own 1000, .own 1001])]) (fun x => 4 - x.i) ⟨0, gs, [], by omega, rfl, rfl, rfl, rfl⟩ (St.le_of ?_) ?_
  · simp (config := { maxSteps := 1000000 }) only [push_cast, ↓reduceIte, ↓normL_data, ↓frzL_data, Nat.reduceEqDiff, Nat.reduceLT, reduceCtorEq, Nat.reduceAdd, Nat.reduceMul, Nat.reduceDiv, Nat.reduceMod, Nat.reduceSub, Nat.reduceLeDiff, Nat.reduceBEq, Int.reduceLE, Int.reduceLT, Int.reduceToNat, Int.reduceAdd, Int.reduceSub, Int.reduceMul, Int.reduceEq, Int.reduceBEq, Int.reduceNeg, Int.reduceGT, Int.natCast_pos]
  · intro x
    simp (config := { maxSteps := 1000000 }) only [push_cast, ↓reduceIte, ↓normL_data, ↓frzL_data, Nat.reduceEqDiff, Nat.reduceLT, reduceCtorEq, Nat.reduceAdd, Nat.reduceMul, Nat.reduceDiv, Nat.reduceMod, Nat.reduceSub, Nat.reduceLeDiff, Nat.reduceBEq, Int.reduceLE, Int.reduceLT, Int.reduceToNat, Int.reduceAdd, Int.reduceSub, Int.reduceMul, Int.reduceEq, Int.reduceBEq, Int.reduceNeg, Int.reduceGT, Int.natCast_pos]
    obtain ⟨i, gi, oi, h1, h2, h3, h4', h5⟩ := x
    simp only
    refine ⟨fun hi => ?_, fun hi => ?_⟩
    · have hi' : i < 4 := by omega
      have ew : IntKind.u64.wrap (i : Int) = i := by rw [IntKind.wrap_u64]; omega
      have eb : (i : Int) ≤ (IntKind.i64.bits : Int) := by have : IntKind.i64.bits = 64 := rfl; omega
      simp (config := { maxSteps := 1000000 }) only [push_cast, ↓reduceIte, ↓normL_data, ↓frzL_data, Nat.reduceEqDiff, Nat.reduceLT, reduceCtorEq, Nat.reduceAdd, Nat.reduceMul, Nat.reduceDiv, Nat.reduceMod, Nat.reduceSub, Nat.reduceLeDiff, Nat.reduceBEq, Int.reduceLE, Int.reduceLT, Int.reduceToNat, Int.reduceAdd, Int.reduceSub, Int.reduceMul, Int.reduceEq, Int.reduceBEq, Int.reduceNeg, Int.reduceGT, Int.natCast_pos, ew, eb, shr_and n i hn hi']
      refine vcall_by true (put_ok gi outs 2 (GC.bo ((GC.b4 n).getD i false)) 0 (by omega)) ?_
      simp (config := { maxSteps := 1000000 }) only [push_cast, ↓reduceIte, ↓normL_data, ↓frzL_data, Nat.reduceEqDiff, Nat.reduceLT, reduceCtorEq, Nat.reduceAdd, Nat.reduceMul, Nat.reduceDiv, Nat.reduceMod, Nat.reduceSub, Nat.reduceLeDiff, Nat.reduceBEq, Int.reduceLE, Int.reduceLT, Int.reduceToNat, Int.reduceAdd, Int.reduceSub, Int.reduceMul, Int.reduceEq, Int.reduceBEq, Int.reduceNeg, Int.reduceGT, Int.natCast_pos]
      have d4 : GC.constL gi ((GC.b4 n).drop i) = ((GC.put gi 2 (GC.bo ((GC.b4 n).getD i false)) 0).1 :: (GC.constL (GC.put gi 2 (GC.bo ((GC.b4 n).getD i false)) 0).2 ((GC.b4 n).drop (i + 1))).1, (GC.constL (GC.put gi 2 (GC.bo ((GC.b4 n).getD i false)) 0).2 ((GC.b4 n).drop (i + 1))).2) := by rw [b4_drop n i hi']; rfl
      refine ⟨by omega, kloop_next ⟨i + 1, (GC.put gi 2 (GC.bo ((GC.b4 n).getD i false)) 0).2, oi ++ [(GC.put gi 2 (GC.bo ((GC.b4 n).getD i false)) 0).1], by omega, by rw [put_len]; omega, by simp [h3], by rw [← h4', d4]; simp, by rw [← h5, d4]⟩ (St.le_of ?_) (by simp only; omega)⟩
      simp (config := { maxSteps := 1000000 }) only [push_cast, ↓reduceIte, ↓normL_data, ↓frzL_data, Nat.reduceEqDiff, Nat.reduceLT, reduceCtorEq, Nat.reduceAdd, Nat.reduceMul, Nat.reduceDiv, Nat.reduceMod, Nat.reduceSub, Nat.reduceLeDiff, Nat.reduceBEq, Int.reduceLE, Int.reduceLT, Int.reduceToNat, Int.reduceAdd, Int.reduceSub, Int.reduceMul, Int.reduceEq, Int.reduceBEq, Int.reduceNeg, Int.reduceGT, Int.natCast_pos]
      rw [w64 _ (by omega) (by omega)]
    · have e : i = 4 := by omega
      subst e
      rw [← h4', ← h5]
      simp only [GC.b4, List.drop_succ_cons, List.drop_zero, GC.constL, List.append_nil]
      simp (config := { maxSteps := 1000000 }) only [push_cast, ↓reduceIte, ↓normL_data, ↓frzL_data, Nat.reduceEqDiff, Nat.reduceLT, reduceCtorEq, Nat.reduceAdd, Nat.reduceMul, Nat.reduceDiv, Nat.reduceMod, Nat.reduceSub, Nat.reduceLeDiff, Nat.reduceBEq, Int.reduceLE, Int.reduceLT, Int.reduceToNat, Int.reduceAdd, Int.reduceSub, Int.reduceMul, Int.reduceEq, Int.reduceBEq, Int.reduceNeg, Int.reduceGT, Int.natCast_pos]
end GV

set_option linter.unusedSimpArgs false
set_option linter.unusedVariables false
namespace GV
open Go
theorem scale_len : ∀ (xs : List Int) (s : Int) (gs : List GC.Gt), (GC.scaleM gs s xs).1.length = xs.length ∧ (GC.scaleM gs s xs).2.length = gs.length + xs.length
  | [], s, gs => ⟨rfl, rfl⟩
  | x :: xs, s, gs => by
    obtain ⟨h1, h2⟩ := scale_len xs s (GC.put gs 4 s x).2
    rw [put_len] at h2
    exact ⟨by simp [GC.scaleM, h1], by simp [GC.scaleM, h2]; omega⟩
theorem full_len (gs : List GC.Gt) (a b c : Int) : (GC.full gs a b c).2.length = gs.length + 5 := by simp [GC.full, GC.put]
theorem addL_len : ∀ (xs ys : List Int) (c : Int) (gs : List GC.Gt), xs.length = ys.length → (GC.addL gs c xs ys).1.length = xs.length ∧ (GC.addL gs c xs ys).2.length ≤ gs.length + 5 * xs.length
  | [], [], c, gs, _ => ⟨rfl, by simp [GC.addL]⟩
  | x :: xs, y :: ys, c, gs, h => by
    obtain ⟨h1, h2⟩ := addL_len xs ys (GC.full gs x y c).1.2 (GC.full gs x y c).2 (by simpa using h)
    rw [full_len] at h2
    by_cases e : xs = []
    · subst e
      simp [GC.addL, GC.put]
    · simp only [GC.addL, if_neg e, List.length_cons, h1]
      exact ⟨trivial, by omega⟩
def mulIt (gs : List GC.Gt) (xs ys : List Int) : Nat → List Int × List GC.Gt
  | 0 => GC.scaleM gs (ys.getD 0 0) xs
  | k + 1 => GC.mulStep xs ys (k + 1) (mulIt gs xs ys k)
theorem step_len (xs ys : List Int) (s : List Int × List GC.Gt) (i : Nat) (hx : xs.length = 4) (hs : s.1.length = 4) (hi : i ≤ 4) : (GC.mulStep xs ys i s).1.length = 4 ∧ (GC.mulStep xs ys i s).2.length ≤ s.2.length + 30 := by
  unfold GC.mulStep GC.sumM
  simp only
  obtain ⟨h1, h2⟩ := scale_len (xs.take (4 - i)) (ys.getD i 0) s.2
  have lt : (xs.take (4 - i)).length = 4 - i := by rw [List.length_take]; omega
  have ld : (s.1.drop i).length = 4 - i := by rw [List.length_drop]; omega
  obtain ⟨h3, h4⟩ := addL_len (s.1.drop i) (GC.scaleM s.2 (ys.getD i 0) (xs.take (4 - i))).1 (GC.put (GC.scaleM s.2 (ys.getD i 0) (xs.take (4 - i))).2 2 (GC.bo false) 0).1 (GC.put (GC.scaleM s.2 (ys.getD i 0) (xs.take (4 - i))).2 2 (GC.bo false) 0).2 (by omega)
  rw [put_len] at h4
  exact ⟨by rw [List.length_append, h3, ld, List.length_take]; omega, by omega⟩
theorem mulIt_len (gs : List GC.Gt) (xs ys : List Int) (hx : xs.length = 4) : ∀ k, k ≤ 3 → (mulIt gs xs ys k).1.length = 4 ∧ (mulIt gs xs ys k).2.length ≤ gs.length + 4 + 30 * k
  | 0, _ => by obtain ⟨h1, h2⟩ := scale_len xs (ys.getD 0 0) gs; exact ⟨by rw [mulIt, h1, hx], by rw [mulIt, h2, hx]; omega⟩
  | k + 1, hk => by
    obtain ⟨h1, h2⟩ := mulIt_len gs xs ys hx k (by omega)
    obtain ⟨h3, h4⟩ := step_len xs ys (mulIt gs xs ys k) (k + 1) hx h1 (by omega)
    exact ⟨h3, by rw [mulIt]; omega⟩
structure ScaleI (gs : List GC.Gt) (s : Int) (xs : List Int) where
  i : Nat
  gi : List GC.Gt
  oi : List Int
  h1 : i ≤ xs.length
  h2 : gi.length = gs.length + i
  h3 : oi.length = i
  h4 : oi ++ (GC.scaleM gi s (xs.drop i)).1 = (GC.scaleM gs s xs).1
  h5 : (GC.scaleM gi s (xs.drop i)).2 = (GC.scaleM gs s xs).2
def ScaleI.next {gs : List GC.Gt} {s : Int} {xs : List Int} (x : ScaleI gs s xs) (h : x.i < xs.length) : ScaleI gs s xs :=
  ⟨x.i + 1, (GC.put x.gi 4 s (xs.getD x.i 0)).2, x.oi ++ [(GC.put x.gi 4 s (xs.getD x.i 0)).1], by omega, by rw [put_len]; have := x.h2; omega, by simp [x.h3],
    by have := x.h4; rw [dropc xs x.i h] at this; rw [← this]; simp [GC.scaleM], by have := x.h5; rw [dropc xs x.i h] at this; rw [← this]; rfl⟩
theorem ScaleI.last {gs : List GC.Gt} {s : Int} {xs : List Int} (x : ScaleI gs s xs) (h : ¬ x.i < xs.length) : x.oi = (GC.scaleM gs s xs).1 ∧ x.gi = (GC.scaleM gs s xs).2 := by
  have h4 := x.h4
  have h5 := x.h5
  have h1 := x.h1
  rw [List.drop_of_length_le (by omega)] at h4 h5
  simp only [GC.scaleM, List.append_nil] at h4 h5
  exact ⟨h4, h5⟩
theorem mul_ok (gs : List GC.Gt) (outs xs ys : List Int) (h : gs.length ≤ 70000) (hx : xs.length = 4) (hy : ys.length = 4) :
    CallOk Go.Proofs.Try.prog gl0 71 [bR gs outs, .c (iS xs), .c (iS ys)] ⟨[.rr (iR (GC.mulM gs xs ys).1)], [bR (GC.mulM gs xs ys).2 outs]⟩ := by
  refine okFn (fn := Go.Proofs.Try.f71) [.tmp 6] 3 68 (by kernel_rfl) (by kernel_rfl) rfl (by kernel_rfl) (by decide) rfl rfl rfl ?_
  simp (config := { maxSteps := 1000000 }) only [push_cast, ↓reduceIte, ↓normL_data, ↓frzL_data, Nat.reduceEqDiff, Nat.reduceLT, reduceCtorEq, Nat.reduceAdd, Nat.reduceMul, Nat.reduceDiv, Nat.reduceMod, Nat.reduceSub, Nat.reduceLeDiff, Nat.reduceBEq, Int.reduceLE, Int.reduceLT, Int.reduceToNat, Int.reduceAdd, Int.reduceSub, Int.reduceMul, Int.reduceEq, Int.reduceBEq, Int.reduceNeg, Int.reduceGT, Int.natCast_pos]
  refine VC.loop' tab_ok (σ := ScaleI gs (ys.getD 0 0) xs) (fun x => St.of gl0 [(0, .c (.ptr 0 0)), (1, .c (.d (iS xs))), (2, .c (.d (iS ys))), (7, .c (.own 7)), (8, .c (.d (iD x.i)))]
    [(7, iR x.oi), (1000, gsR x.gi), (1001, iR outs)] [(0, [.own 1000, .own 1001])]) (fun x => 4 - x.i) ⟨0, gs, [], by omega, rfl, rfl, rfl, rfl⟩ (St.le_of ?_) ?_
  · simp (config := { maxSteps := 1000000 }) only [push_cast, ↓reduceIte, ↓normL_data, ↓frzL_data, Nat.reduceEqDiff, Nat.reduceLT, reduceCtorEq, Nat.reduceAdd, Nat.reduceMul, Nat.reduceDiv, Nat.reduceMod, Nat.reduceSub, Nat.reduceLeDiff, Nat.reduceBEq, Int.reduceLE, Int.reduceLT, Int.reduceToNat, Int.reduceAdd, Int.reduceSub, Int.reduceMul, Int.reduceEq, Int.reduceBEq, Int.reduceNeg, Int.reduceGT, Int.natCast_pos]
  · intro x
    simp (config := { maxSteps := 1000000 }) only [push_cast, ↓reduceIte, ↓normL_data, ↓frzL_data, Nat.reduceEqDiff, Nat.reduceLT, reduceCtorEq, Nat.reduceAdd, Nat.reduceMul, Nat.reduceDiv, Nat.reduceMod, Nat.reduceSub, Nat.reduceLeDiff, Nat.reduceBEq, Int.reduceLE, Int.reduceLT, Int.reduceToNat, Int.reduceAdd, Int.reduceSub, Int.reduceMul, Int.reduceEq, Int.reduceBEq, Int.reduceNeg, Int.reduceGT, Int.natCast_pos]
    have b1 := x.h1
    have b2 := x.h2
    have b3 := x.h3
    refine ⟨fun hi => ?_, fun hi => ?_⟩
    · refine VD.plan tab_ok (by kernel_rfl) [9, 11] (.takes [0, 1, 2, 3, 4, 5, 6, 7, 8] (.one 9 (.one 10 (.one 11 (.takes [12] (.done)))))) (by kernel_rfl) ?_
      have e1 : x.i < xs.length := by omega
      have e0 : 0 < ys.length := by omega
      simp (config := { maxSteps := 1000000 }) only [push_cast, ↓reduceIte, ↓normL_data, ↓frzL_data, Nat.reduceEqDiff, Nat.reduceLT, reduceCtorEq, Nat.reduceAdd, Nat.reduceMul, Nat.reduceDiv, Nat.reduceMod, Nat.reduceSub, Nat.reduceLeDiff, Nat.reduceBEq, Int.reduceLE, Int.reduceLT, Int.reduceToNat, Int.reduceAdd, Int.reduceSub, Int.reduceMul, Int.reduceEq, Int.reduceBEq, Int.reduceNeg, Int.reduceGT, Int.natCast_pos, iE_get _ _ e1, iE_get _ _ e0, e1, e0]
      refine vcall_by true (put_ok x.gi outs 4 (ys.getD 0 0) (xs.getD x.i 0) (by omega)) ?_
      simp (config := { maxSteps := 1000000 }) only [push_cast, ↓reduceIte, ↓normL_data, ↓frzL_data, Nat.reduceEqDiff, Nat.reduceLT, reduceCtorEq, Nat.reduceAdd, Nat.reduceMul, Nat.reduceDiv, Nat.reduceMod, Nat.reduceSub, Nat.reduceLeDiff, Nat.reduceBEq, Int.reduceLE, Int.reduceLT, Int.reduceToNat, Int.reduceAdd, Int.reduceSub, Int.reduceMul, Int.reduceEq, Int.reduceBEq, Int.reduceNeg, Int.reduceGT, Int.natCast_pos]
      refine ⟨by omega, kloop_next (x.next e1) (St.le_of ?_) (by simp only [ScaleI.next]; omega)⟩
      simp (config := { maxSteps := 1000000 }) only [push_cast, ↓reduceIte, ↓normL_data, ↓frzL_data, Nat.reduceEqDiff, Nat.reduceLT, reduceCtorEq, Nat.reduceAdd, Nat.reduceMul, Nat.reduceDiv, Nat.reduceMod, Nat.reduceSub, Nat.reduceLeDiff, Nat.reduceBEq, Int.reduceLE, Int.reduceLT, Int.reduceToNat, Int.reduceAdd, Int.reduceSub, Int.reduceMul, Int.reduceEq, Int.reduceBEq, Int.reduceNeg, Int.reduceGT, Int.natCast_pos, ScaleI.next]
      rw [w64 _ (by omega) (by omega)]
    · obtain ⟨f1, f2⟩ := x.last (by omega)
      simp (config := { maxSteps := 1000000 }) only [push_cast, ↓reduceIte, ↓normL_data, ↓frzL_data, Nat.reduceEqDiff, Nat.reduceLT, reduceCtorEq, Nat.reduceAdd, Nat.reduceMul, Nat.reduceDiv, Nat.reduceMod, Nat.reduceSub, Nat.reduceLeDiff, Nat.reduceBEq, Int.reduceLE, Int.reduceLT, Int.reduceToNat, Int.reduceAdd, Int.reduceSub, Int.reduceMul, Int.reduceEq, Int.reduceBEq, Int.reduceNeg, Int.reduceGT, Int.natCast_pos, f1, f2]
      refine VC.loop' tab_ok (σ := Fin 4) (fun k => St.of gl0 [(0, .c (.ptr 0 0)), (1, .c (.d (iS xs))), (2, .c (.d (iS ys))), (7, .c (.own 7)), (9, .c (.d (iD ((k.1 : Int) + 1))))]
        [(7, iR (mulIt gs xs ys k.1).1), (1000, gsR (mulIt gs xs ys k.1).2), (1001, iR outs)] [(0, [.own 1000, .own 1001])]) (fun k => 4 - k.1) 0 (St.le_of ?_) ?_
      · simp (config := { maxSteps := 1000000 }) only [push_cast, ↓reduceIte, ↓normL_data, ↓frzL_data, Nat.reduceEqDiff, Nat.reduceLT, reduceCtorEq, Nat.reduceAdd, Nat.reduceMul, Nat.reduceDiv, Nat.reduceMod, Nat.reduceSub, Nat.reduceLeDiff, Nat.reduceBEq, Int.reduceLE, Int.reduceLT, Int.reduceToNat, Int.reduceAdd, Int.reduceSub, Int.reduceMul, Int.reduceEq, Int.reduceBEq, Int.reduceNeg, Int.reduceGT, Int.natCast_pos]
        exact ⟨rfl, rfl, rfl⟩
      · intro k
        obtain ⟨k, hk⟩ := k
        obtain ⟨m1, m2⟩ := mulIt_len gs xs ys hx k (by omega)
        have et : ((k : Int) + 1).toNat = k + 1 := by omega
        have t0 : (0 : Int) ≤ (k : Int) + 1 := by omega
        have ew : IntKind.i64.wrap (4 - ((k : Int) + 1)) = ((3 - k : Nat) : Int) := by rw [w64 _ (by omega) (by omega)]; omega
        have lt3 : (xs.take (3 - k)).length = 3 - k := by rw [List.length_take]; omega
        simp (config := { maxSteps := 1000000 }) only [push_cast, ↓reduceIte, ↓normL_data, ↓frzL_data, Nat.reduceEqDiff, Nat.reduceLT, reduceCtorEq, Nat.reduceAdd, Nat.reduceMul, Nat.reduceDiv, Nat.reduceMod, Nat.reduceSub, Nat.reduceLeDiff, Nat.reduceBEq, Int.reduceLE, Int.reduceLT, Int.reduceToNat, Int.reduceAdd, Int.reduceSub, Int.reduceMul, Int.reduceEq, Int.reduceBEq, Int.reduceNeg, Int.reduceGT, Int.natCast_pos]
        refine ⟨fun hi => ?_, fun hi => ?_⟩
        · refine VC.loop' tab_ok (σ := ScaleI (mulIt gs xs ys k).2 (ys.getD (k + 1) 0) (xs.take (3 - k))) (fun x => St.of gl0 [(0, .c (.ptr 0 0)), (1, .c (.d (iS xs))), (2, .c (.d (iS ys))), (7, .c (.own 7)), (9, .c (.d (iD ((k : Int) + 1)))), (10, .c (.own 10)), (11, .c (.d (iD x.i)))]
            [(7, iR (mulIt gs xs ys k).1), (10, iR x.oi), (1000, gsR x.gi), (1001, iR outs)] [(0, [.own 1000, .own 1001])]) (fun x => 4 - x.i) ⟨0, (mulIt gs xs ys k).2, [], by omega, rfl, rfl, rfl, rfl⟩ (St.le_of ?_) ?_
          · simp (config := { maxSteps := 1000000 }) only [push_cast, ↓reduceIte, ↓normL_data, ↓frzL_data, Nat.reduceEqDiff, Nat.reduceLT, reduceCtorEq, Nat.reduceAdd, Nat.reduceMul, Nat.reduceDiv, Nat.reduceMod, Nat.reduceSub, Nat.reduceLeDiff, Nat.reduceBEq, Int.reduceLE, Int.reduceLT, Int.reduceToNat, Int.reduceAdd, Int.reduceSub, Int.reduceMul, Int.reduceEq, Int.reduceBEq, Int.reduceNeg, Int.reduceGT, Int.natCast_pos]
          · intro x
            have b1 := x.h1
            have b2 := x.h2
            have b3 := x.h3
            simp (config := { maxSteps := 1000000 }) only [push_cast, ↓reduceIte, ↓normL_data, ↓frzL_data, Nat.reduceEqDiff, Nat.reduceLT, reduceCtorEq, Nat.reduceAdd, Nat.reduceMul, Nat.reduceDiv, Nat.reduceMod, Nat.reduceSub, Nat.reduceLeDiff, Nat.reduceBEq, Int.reduceLE, Int.reduceLT, Int.reduceToNat, Int.reduceAdd, Int.reduceSub, Int.reduceMul, Int.reduceEq, Int.reduceBEq, Int.reduceNeg, Int.reduceGT, Int.natCast_pos, ew]
            refine ⟨fun hj => ?_, fun hj => ?_⟩
            · refine VD.plan tab_ok (by kernel_rfl) [10, 12] (.takes [0, 1, 2, 3, 4, 5, 6, 7, 8, 9] (.one 10 (.one 11 (.one 12 (.takes [13] (.done)))))) (by kernel_rfl) ?_
              have e1 : x.i < xs.length := by omega
              have e2 : k + 1 < ys.length := by omega
              have e3 : (k : Int) + 1 < (ys.length : Int) := by omega
              have e4 : (xs.take (3 - k)).getD x.i 0 = xs.getD x.i 0 := by rw [List.getD_eq_getElem?_getD, List.getElem?_take, if_pos (by omega), ← List.getD_eq_getElem?_getD]
              simp (config := { maxSteps := 1000000 }) only [push_cast, ↓reduceIte, ↓normL_data, ↓frzL_data, Nat.reduceEqDiff, Nat.reduceLT, reduceCtorEq, Nat.reduceAdd, Nat.reduceMul, Nat.reduceDiv, Nat.reduceMod, Nat.reduceSub, Nat.reduceLeDiff, Nat.reduceBEq, Int.reduceLE, Int.reduceLT, Int.reduceToNat, Int.reduceAdd, Int.reduceSub, Int.reduceMul, Int.reduceEq, Int.reduceBEq, Int.reduceNeg, Int.reduceGT, Int.natCast_pos, et, t0, e3, iE_get _ _ e1, iE_get _ _ e2, e1, e2]
              refine vcall_by true (put_ok x.gi outs 4 (ys.getD (k + 1) 0) (xs.getD x.i 0) (by omega)) ?_
              simp (config := { maxSteps := 1000000 }) only [push_cast, ↓reduceIte, ↓normL_data, ↓frzL_data, Nat.reduceEqDiff, Nat.reduceLT, reduceCtorEq, Nat.reduceAdd, Nat.reduceMul, Nat.reduceDiv, Nat.reduceMod, Nat.reduceSub, Nat.reduceLeDiff, Nat.reduceBEq, Int.reduceLE, Int.reduceLT, Int.reduceToNat, Int.reduceAdd, Int.reduceSub, Int.reduceMul, Int.reduceEq, Int.reduceBEq, Int.reduceNeg, Int.reduceGT, Int.natCast_pos]
              refine ⟨by omega, kloop_next (x.next (by omega)) (St.le_of ?_) (by simp only [ScaleI.next]; omega)⟩
              simp (config := { maxSteps := 1000000 }) only [push_cast, ↓reduceIte, ↓normL_data, ↓frzL_data, Nat.reduceEqDiff, Nat.reduceLT, reduceCtorEq, Nat.reduceAdd, Nat.reduceMul, Nat.reduceDiv, Nat.reduceMod, Nat.reduceSub, Nat.reduceLeDiff, Nat.reduceBEq, Int.reduceLE, Int.reduceLT, Int.reduceToNat, Int.reduceAdd, Int.reduceSub, Int.reduceMul, Int.reduceEq, Int.reduceBEq, Int.reduceNeg, Int.reduceGT, Int.natCast_pos, ScaleI.next, e4]
              rw [w64 _ (by omega) (by omega)]
            · obtain ⟨f1, f2⟩ := x.last (by omega)
              have e3 : (k : Int) + 1 ≤ ((mulIt gs xs ys k).1.length : Int) := by omega
              simp (config := { maxSteps := 1000000 }) only [push_cast, ↓reduceIte, ↓normL_data, ↓frzL_data, Nat.reduceEqDiff, Nat.reduceLT, reduceCtorEq, Nat.reduceAdd, Nat.reduceMul, Nat.reduceDiv, Nat.reduceMod, Nat.reduceSub, Nat.reduceLeDiff, Nat.reduceBEq, Int.reduceLE, Int.reduceLT, Int.reduceToNat, Int.reduceAdd, Int.reduceSub, Int.reduceMul, Int.reduceEq, Int.reduceBEq, Int.reduceNeg, Int.reduceGT, Int.natCast_pos, f1, f2, et, t0, e3, List.take_length]
              obtain ⟨p1, p2⟩ := scale_len (xs.take (3 - k)) (ys.getD (k + 1) 0) (mulIt gs xs ys k).2
              have ld : ((mulIt gs xs ys k).1.drop (k + 1)).length = 3 - k := by rw [List.length_drop]; omega
              refine vcall_by true (sum_ok (GC.scaleM (mulIt gs xs ys k).2 (ys.getD (k + 1) 0) (xs.take (3 - k))).2 outs ((mulIt gs xs ys k).1.drop (k + 1)) (GC.scaleM (mulIt gs xs ys k).2 (ys.getD (k + 1) 0) (xs.take (3 - k))).1 0 (by omega) (by omega) (by omega) (by omega)) ?_
              obtain ⟨q1, q2⟩ := addL_len ((mulIt gs xs ys k).1.drop (k + 1)) (GC.scaleM (mulIt gs xs ys k).2 (ys.getD (k + 1) 0) (xs.take (3 - k))).1 (GC.put (GC.scaleM (mulIt gs xs ys k).2 (ys.getD (k + 1) 0) (xs.take (3 - k))).2 2 0 0).1 (GC.put (GC.scaleM (mulIt gs xs ys k).2 (ys.getD (k + 1) 0) (xs.take (3 - k))).2 2 0 0).2 (by omega)
              simp (config := { maxSteps := 1000000 }) only [push_cast, ↓reduceIte, ↓normL_data, ↓frzL_data, Nat.reduceEqDiff, Nat.reduceLT, reduceCtorEq, Nat.reduceAdd, Nat.reduceMul, Nat.reduceDiv, Nat.reduceMod, Nat.reduceSub, Nat.reduceLeDiff, Nat.reduceBEq, Int.reduceLE, Int.reduceLT, Int.reduceToNat, Int.reduceAdd, Int.reduceSub, Int.reduceMul, Int.reduceEq, Int.reduceBEq, Int.reduceNeg, Int.reduceGT, Int.natCast_pos, et, t0, e3]
              have ltk : ((mulIt gs xs ys k).1.take (k + 1)).length = k + 1 := by rw [List.length_take]; omega
              refine ⟨by omega, by omega, kloop_next ⟨k + 1, by omega⟩ (St.le_of ?_) (by simp only; omega)⟩
              have em : mulIt gs xs ys (k + 1) = ((mulIt gs xs ys k).1.take (k + 1) ++ (GC.addL (GC.put (GC.scaleM (mulIt gs xs ys k).2 (ys.getD (k + 1) 0) (xs.take (3 - k))).2 2 0 0).2 (GC.put (GC.scaleM (mulIt gs xs ys k).2 (ys.getD (k + 1) 0) (xs.take (3 - k))).2 2 0 0).1 ((mulIt gs xs ys k).1.drop (k + 1)) (GC.scaleM (mulIt gs xs ys k).2 (ys.getD (k + 1) 0) (xs.take (3 - k))).1).1,
                  (GC.addL (GC.put (GC.scaleM (mulIt gs xs ys k).2 (ys.getD (k + 1) 0) (xs.take (3 - k))).2 2 0 0).2 (GC.put (GC.scaleM (mulIt gs xs ys k).2 (ys.getD (k + 1) 0) (xs.take (3 - k))).2 2 0 0).1 ((mulIt gs xs ys k).1.drop (k + 1)) (GC.scaleM (mulIt gs xs ys k).2 (ys.getD (k + 1) 0) (xs.take (3 - k))).1).2) := by
                rw [mulIt, GC.mulStep, show 4 - (k + 1) = 3 - k by omega]; rfl
              simp (config := { maxSteps := 1000000 }) only [push_cast, ↓reduceIte, ↓normL_data, ↓frzL_data, Nat.reduceEqDiff, Nat.reduceLT, reduceCtorEq, Nat.reduceAdd, Nat.reduceMul, Nat.reduceDiv, Nat.reduceMod, Nat.reduceSub, Nat.reduceLeDiff, Nat.reduceBEq, Int.reduceLE, Int.reduceLT, Int.reduceToNat, Int.reduceAdd, Int.reduceSub, Int.reduceMul, Int.reduceEq, Int.reduceBEq, Int.reduceNeg, Int.reduceGT, Int.natCast_pos, em]
              rw [w64 _ (by omega) (by omega)]
        · have e : k = 3 := by omega
          subst e
          exact ⟨rfl, rfl⟩
end GV

