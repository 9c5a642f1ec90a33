/-
  The law FnExactAddTerm returns true for every input, and each argument reads behind the call as it read before. No condition.
-/
import Derived.ChangeArms
import Derived.SizedLaws
import Derived.WideShapes
import Derived.Below
import Derived.WalkKit
import Derived.ProofKit
import Derived.OpenShut
import Derived.ChangeOld
import Derived.Carry
import Derived.Test.YtmblkopilcginaaRows
import Derived.Test.YtmblkopilcginaaAdd2
set_option linter.unusedVariables false
set_option linter.unusedSimpArgs false
set_option linter.unusedSectionVars false
namespace Go.Vm
open Go.Proofs
/-! f5: loop.example/g00896/laws.szTerm -/
abbrev P5 : List PT := [.agg [.str, .str, .str], .one (.int .i64)]
abbrev R5 : List RT := [.one false (.int .i64)]
noncomputable def E5 (_ : Nat) : Env := mkEnv tis gl 27 [] [] [] 0
noncomputable def F5 (k : Nat) (x : Args P5) : Option (Res R5) := runFn (E5 k) Try.f5 k (encArgs P5 x) [] (retK R5)
abbrev hF5 (F : Args P5 → Option (Res R5)) : Hnd := hP P5 R5 F
noncomputable def G5 (k : Nat) (a : Term) (left : Int) : Option (Int × Unit) := F5 k (a, left, ())
theorem G5_eq (k : Nat) (a : Term) (left : Int) : G5 k a left =
  if (decide ((IntKind.wrap .i64 (left - (a.1.size : Int))) < (0 : Int))) then
  some ((-1 : Int), ())
  else
  if (decide ((IntKind.wrap .i64 ((IntKind.wrap .i64 (left - (a.1.size : Int))) - (a.2.1.size : Int))) < (0 : Int))) then
  some ((-1 : Int), ())
  else
  if (decide ((IntKind.wrap .i64 ((IntKind.wrap .i64 ((IntKind.wrap .i64 (left - (a.1.size : Int))) - (a.2.1.size : Int))) - (a.2.2.1.size : Int))) < (0 : Int))) then
  some ((-1 : Int), ())
  else
  some ((IntKind.wrap .i64 ((IntKind.wrap .i64 ((IntKind.wrap .i64 (left - (a.1.size : Int))) - (a.2.1.size : Int))) - (a.2.2.1.size : Int))), ()) := by kernel_rfl
theorem S5 (k : Nat) : HSound Try.prog gl 5 true (hF5 (F5 k)) :=
  hP_sound (E := E5 k) (fn := Try.f5) ⟨Try.func5, by kernel_rfl, by kernel_rfl, mixed, mkEnv_ok tis_ok calls_nil, by kernel_rfl, by kernel_rfl, Nat.le_of_ble_eq_true (by kernel_rfl), fun _ => rfl⟩ rfl fun _ _ h => ⟨k, h⟩

/-! f13: loop.example/g00896/laws.szTermS -/
abbrev P13 : List PT := [.one (.sl [.str, .str, .str]), .one (.int .i64)]
abbrev R13 : List RT := [.one false (.int .i64)]
noncomputable def E13 (k : Nat) : Env := mkEnv tis gl 27 [⟨5, true, false, hF5 (F5 k)⟩] [(5, [0, 1, 5])] [] 0
noncomputable def F13 (k : Nat) (x : Args P13) : Option (Res R13) := runFn (E13 k) Try.f13 k (encArgs P13 x) [] (retK R13)
abbrev hF13 (F : Args P13 → Option (Res R13)) : Hnd := hP P13 R13 F
noncomputable def G13 (k : Nat) (a : List (Term)) (left : Int) : Option (Int × Unit) := F13 k (a, left, ())
noncomputable def L13_0 (k : Nat) (n : Nat) (a : List (Term)) (left : Int) (i : Int) : Option (Int × Unit) :=
  loopAt (E13 k) k [1, 1, 1, 0, 1, 0] [] (body Try.f13) (atEnd (E13 k) Try.f13.results.toList (retK R13)) n ⟨[(0, .v (.one (V.d (.sl [.str, .str, .str]) a))), (1, .v (.one (V.d (.int .i64) left))), (5, .v (.one (V.d (.int .i64) i)))], []⟩
theorem G13_eq (k : Nat) (a : List (Term)) (left : Int) : G13 k a left =
  if (decide ((IntKind.wrap .i64 (left - (a.length : Int))) < (0 : Int))) then
  some ((-1 : Int), ())
  else
  L13_0 k k a ((IntKind.wrap .i64 (left - (a.length : Int)))) ((0 : Int)) := by kernel_rfl
theorem L13_0_eq (k : Nat) (n : Nat) (a : List (Term)) (left : Int) (i : Int) : L13_0 k (n + 1) a left i =
  if (decide (i < (a.length : Int))) then
  if 0 ≤ i then
  if i < (a.length : Int) then
  (G5 k (a.getD (i).toNat dTerm) left).bind fun (r1 : Int × Unit) =>
  if (decide (r1.1 < (0 : Int))) then
  some ((-1 : Int), ())
  else
  L13_0 k n a r1.1 ((IntKind.wrap .i64 (i + (1 : Int))))
  else none
  else none
  else
  some (left, ()) := by kernel_rfl
theorem L13_0_zero (k : Nat) (a : List (Term)) (left : Int) (i : Int) : L13_0 k 0 a left i = none := by kernel_rfl
theorem S13 (k : Nat) : HSound Try.prog gl 13 true (hF13 (F13 k)) :=
  hP_sound (E := E13 k) (fn := Try.f13) ⟨Try.func13, by kernel_rfl, by kernel_rfl, mixed, mkEnv_ok tis_ok (calls_cons (S5 k) calls_nil), by kernel_rfl, by kernel_rfl, Nat.le_of_ble_eq_true (by kernel_rfl), fun _ => rfl⟩ rfl fun _ _ h => ⟨k, h⟩

/-! f28: loop.example/g00896/laws.szOrdinalRule -/
abbrev P28 : List PT := [.agg [(.int .i64), (.int .i64), .str], .one (.int .i64)]
abbrev R28 : List RT := [.one false (.int .i64)]
noncomputable def E28 (_ : Nat) : Env := mkEnv tis gl 13 [] [] [] 0
noncomputable def F28 (k : Nat) (x : Args P28) : Option (Res R28) := runFn (E28 k) Try.f28 k (encArgs P28 x) [] (retK R28)
abbrev hF28 (F : Args P28 → Option (Res R28)) : Hnd := hP P28 R28 F
noncomputable def G28 (k : Nat) (a : Rule) (left : Int) : Option (Int × Unit) := F28 k (a, left, ())
theorem G28_eq (k : Nat) (a : Rule) (left : Int) : G28 k a left =
  if (decide ((IntKind.wrap .i64 (left - (a.2.2.1.size : Int))) < (0 : Int))) then
  some ((-1 : Int), ())
  else
  some ((IntKind.wrap .i64 (left - (a.2.2.1.size : Int))), ()) := by kernel_rfl
theorem S28 (k : Nat) : HSound Try.prog gl 28 true (hF28 (F28 k)) :=
  hP_sound (E := E28 k) (fn := Try.f28) ⟨Try.func28, by kernel_rfl, by kernel_rfl, mixed, mkEnv_ok tis_ok calls_nil, by kernel_rfl, by kernel_rfl, Nat.le_of_ble_eq_true (by kernel_rfl), fun _ => rfl⟩ rfl fun _ _ h => ⟨k, h⟩

/-! f14: loop.example/g00896/laws.szOrdinalRuleS -/
abbrev P14 : List PT := [.one (.sl [(.int .i64), (.int .i64), .str]), .one (.int .i64)]
abbrev R14 : List RT := [.one false (.int .i64)]
noncomputable def E14 (k : Nat) : Env := mkEnv tis gl 27 [⟨28, true, false, hF28 (F28 k)⟩] [(5, [0, 1, 5])] [] 0
noncomputable def F14 (k : Nat) (x : Args P14) : Option (Res R14) := runFn (E14 k) Try.f14 k (encArgs P14 x) [] (retK R14)
abbrev hF14 (F : Args P14 → Option (Res R14)) : Hnd := hP P14 R14 F
noncomputable def G14 (k : Nat) (a : List (Rule)) (left : Int) : Option (Int × Unit) := F14 k (a, left, ())
noncomputable def L14_0 (k : Nat) (n : Nat) (a : List (Rule)) (left : Int) (i : Int) : Option (Int × Unit) :=
  loopAt (E14 k) k [1, 1, 1, 0, 1, 0] [] (body Try.f14) (atEnd (E14 k) Try.f14.results.toList (retK R14)) n ⟨[(0, .v (.one (V.d (.sl [(.int .i64), (.int .i64), .str]) a))), (1, .v (.one (V.d (.int .i64) left))), (5, .v (.one (V.d (.int .i64) i)))], []⟩
theorem G14_eq (k : Nat) (a : List (Rule)) (left : Int) : G14 k a left =
  if (decide ((IntKind.wrap .i64 (left - (a.length : Int))) < (0 : Int))) then
  some ((-1 : Int), ())
  else
  L14_0 k k a ((IntKind.wrap .i64 (left - (a.length : Int)))) ((0 : Int)) := by kernel_rfl
theorem L14_0_eq (k : Nat) (n : Nat) (a : List (Rule)) (left : Int) (i : Int) : L14_0 k (n + 1) a left i =
  if (decide (i < (a.length : Int))) then
  if 0 ≤ i then
  if i < (a.length : Int) then
  (G28 k (a.getD (i).toNat dRule) left).bind fun (r1 : Int × Unit) =>
  if (decide (r1.1 < (0 : Int))) then
  some ((-1 : Int), ())
  else
  L14_0 k n a r1.1 ((IntKind.wrap .i64 (i + (1 : Int))))
  else none
  else none
  else
  some (left, ()) := by kernel_rfl
theorem L14_0_zero (k : Nat) (a : List (Rule)) (left : Int) (i : Int) : L14_0 k 0 a left i = none := by kernel_rfl
theorem S14 (k : Nat) : HSound Try.prog gl 14 true (hF14 (F14 k)) :=
  hP_sound (E := E14 k) (fn := Try.f14) ⟨Try.func14, by kernel_rfl, by kernel_rfl, mixed, mkEnv_ok tis_ok (calls_cons (S28 k) calls_nil), by kernel_rfl, by kernel_rfl, Nat.le_of_ble_eq_true (by kernel_rfl), fun _ => rfl⟩ rfl fun _ _ h => ⟨k, h⟩

/-! f4: loop.example/g00896/laws.szLocale -/
abbrev P4 : List PT := [.agg [.str, (.sl [.str, .str, .str]), (.sl [(.int .i64), (.int .i64), .str]), .str, .str], .one (.int .i64)]
abbrev R4 : List RT := [.one false (.int .i64)]
noncomputable def E4 (k : Nat) : Env := mkEnv tis gl 39 [⟨13, true, false, hF13 (F13 k)⟩, ⟨14, true, false, hF14 (F14 k)⟩] [] [] 0
noncomputable def F4 (k : Nat) (x : Args P4) : Option (Res R4) := runFn (E4 k) Try.f4 k (encArgs P4 x) [] (retK R4)
abbrev hF4 (F : Args P4 → Option (Res R4)) : Hnd := hP P4 R4 F
noncomputable def G4 (k : Nat) (a : Locale) (left : Int) : Option (Int × Unit) := F4 k (a, left, ())
theorem G4_eq (k : Nat) (a : Locale) (left : Int) : G4 k a left =
  if (decide ((IntKind.wrap .i64 (left - (a.1.size : Int))) < (0 : Int))) then
  some ((-1 : Int), ())
  else
  (G13 k a.2.1 (IntKind.wrap .i64 (left - (a.1.size : Int)))).bind fun (r1 : Int × Unit) =>
  if (decide (r1.1 < (0 : Int))) then
  some ((-1 : Int), ())
  else
  (G14 k a.2.2.1 r1.1).bind fun (r2 : Int × Unit) =>
  if (decide (r2.1 < (0 : Int))) then
  some ((-1 : Int), ())
  else
  if (decide ((IntKind.wrap .i64 (r2.1 - (a.2.2.2.1.size : Int))) < (0 : Int))) then
  some ((-1 : Int), ())
  else
  if (decide ((IntKind.wrap .i64 ((IntKind.wrap .i64 (r2.1 - (a.2.2.2.1.size : Int))) - (a.2.2.2.2.1.size : Int))) < (0 : Int))) then
  some ((-1 : Int), ())
  else
  some ((IntKind.wrap .i64 ((IntKind.wrap .i64 (r2.1 - (a.2.2.2.1.size : Int))) - (a.2.2.2.2.1.size : Int))), ()) := by kernel_rfl
theorem S4 (k : Nat) : HSound Try.prog gl 4 true (hF4 (F4 k)) :=
  hP_sound (E := E4 k) (fn := Try.f4) ⟨Try.func4, by kernel_rfl, by kernel_rfl, mixed, mkEnv_ok tis_ok (calls_cons (S13 k) (calls_cons (S14 k) calls_nil)), by kernel_rfl, by kernel_rfl, Nat.le_of_ble_eq_true (by kernel_rfl), fun _ => rfl⟩ rfl fun _ _ h => ⟨k, h⟩

/-! f32: loop.example/g00896/spec.l1In -/
abbrev P32 : List PT := [.one (.int .i64), .one (.int .i64), .one (.int .i64)]
abbrev R32 : List RT := [.one false .bool]
noncomputable def E32 (_ : Nat) : Env := mkEnv tis gl 15 [] [] [] 0
noncomputable def F32 (k : Nat) (x : Args P32) : Option (Res R32) := runFn (E32 k) Try.f32 k (encArgs P32 x) [] (retK R32)
abbrev hF32 (F : Args P32 → Option (Res R32)) : Hnd := hP P32 R32 F
noncomputable def G32 (k : Nat) (vx : Int) (a : Int) (b : Int) : Option (Bool × Unit) := F32 k (vx, a, b, ())
theorem G32_eq (k : Nat) (vx : Int) (a : Int) (b : Int) : G32 k vx a b =
  if (decide (vx ≥ a)) then
  some ((decide (vx ≤ b)), ())
  else
  some (false, ()) := by kernel_rfl
theorem S32 (k : Nat) : HSound Try.prog gl 32 true (hF32 (F32 k)) :=
  hP_sound (E := E32 k) (fn := Try.f32) ⟨Try.func32, by kernel_rfl, by kernel_rfl, mixed, mkEnv_ok tis_ok calls_nil, by kernel_rfl, by kernel_rfl, Nat.le_of_ble_eq_true (by kernel_rfl), fun _ => rfl⟩ rfl fun _ _ h => ⟨k, h⟩

/-! f29: loop.example/g00896/spec.l23Key -/
abbrev P29 : List PT := [.one .str]
abbrev R29 : List RT := [.one false .bool]
noncomputable def E29 (k : Nat) : Env := mkEnv tis gl 23 [⟨32, true, false, hF32 (F32 k)⟩] [(2, [0, 3])] [] 0
noncomputable def F29 (k : Nat) (x : Args P29) : Option (Res R29) := runFn (E29 k) Try.f29 k (encArgs P29 x) [] (retK R29)
abbrev hF29 (F : Args P29 → Option (Res R29)) : Hnd := hP P29 R29 F
noncomputable def G29 (k : Nat) (s : ByteArray) : Option (Bool × Unit) := F29 k (s, ())
noncomputable def L29_0 (k : Nat) (n : Nat) (s : ByteArray) (i : Int) : Option (Bool × Unit) :=
  loopAt (E29 k) k [1, 0, 1, 0] [] (body Try.f29) (atEnd (E29 k) Try.f29.results.toList (retK R29)) n ⟨[(0, .v (.one (V.d .str s))), (3, .v (.one (V.d (.int .i64) i)))], []⟩
theorem G29_eq (k : Nat) (s : ByteArray) : G29 k s =
  L29_0 k k s ((0 : Int)) := by kernel_rfl
theorem L29_0_eq (k : Nat) (n : Nat) (s : ByteArray) (i : Int) : L29_0 k (n + 1) s i =
  if (decide (i < (s.size : Int))) then
  if 0 ≤ i then
  if i < (s.size : Int) then
  if (decide ((bt s i) < (97 : Int))) then
  some (false, ())
  else
  if 0 ≤ i then
  if i < (s.size : Int) then
  if (decide ((bt s i) > (122 : Int))) then
  some (false, ())
  else
  L29_0 k n s ((IntKind.wrap .i64 (i + (1 : Int))))
  else none
  else none
  else none
  else none
  else
  (G32 k (s.size : Int) (1 : Int) (10 : Int)).bind fun (r1 : Bool × Unit) =>
  some (r1.1, ()) := by kernel_rfl
theorem L29_0_zero (k : Nat) (s : ByteArray) (i : Int) : L29_0 k 0 s i = none := by kernel_rfl
theorem S29 (k : Nat) : HSound Try.prog gl 29 true (hF29 (F29 k)) :=
  hP_sound (E := E29 k) (fn := Try.f29) ⟨Try.func29, by kernel_rfl, by kernel_rfl, mixed, mkEnv_ok tis_ok (calls_cons (S32 k) calls_nil), by kernel_rfl, by kernel_rfl, Nat.le_of_ble_eq_true (by kernel_rfl), fun _ => rfl⟩ rfl fun _ _ h => ⟨k, h⟩

/-! f30: loop.example/g00896/spec.l23Bytes -/
abbrev P30 : List PT := [.one .str, .one (.int .i64), .one (.int .i64), .one (.int .u8)]
abbrev R30 : List RT := [.one false .bool]
noncomputable def E30 (k : Nat) : Env := mkEnv tis gl 32 [⟨32, true, false, hF32 (F32 k)⟩] [(2, [0, 1, 2, 3, 9])] [] 0
noncomputable def F30 (k : Nat) (x : Args P30) : Option (Res R30) := runFn (E30 k) Try.f30 k (encArgs P30 x) [] (retK R30)
abbrev hF30 (F : Args P30 → Option (Res R30)) : Hnd := hP P30 R30 F
noncomputable def G30 (k : Nat) (s : ByteArray) (low : Int) (high : Int) (first : Int) : Option (Bool × Unit) := F30 k (s, low, high, first, ())
noncomputable def L30_0 (k : Nat) (n : Nat) (s : ByteArray) (low : Int) (high : Int) (first : Int) (i : Int) : Option (Bool × Unit) :=
  loopAt (E30 k) k [1, 0, 1, 0] [] (body Try.f30) (atEnd (E30 k) Try.f30.results.toList (retK R30)) n ⟨[(0, .v (.one (V.d .str s))), (1, .v (.one (V.d (.int .i64) low))), (2, .v (.one (V.d (.int .i64) high))), (3, .v (.one (V.d (.int .u8) first))), (9, .v (.one (V.d (.int .i64) i)))], []⟩
theorem G30_eq (k : Nat) (s : ByteArray) (low : Int) (high : Int) (first : Int) : G30 k s low high first =
  L30_0 k k s low high first ((0 : Int)) := by kernel_rfl
theorem L30_0_eq (k : Nat) (n : Nat) (s : ByteArray) (low : Int) (high : Int) (first : Int) (i : Int) : L30_0 k (n + 1) s low high first i =
  if (decide (i < (s.size : Int))) then
  if 0 ≤ i then
  if i < (s.size : Int) then
  if (decide ((bt s i) < first)) then
  some (false, ())
  else
  if 0 ≤ i then
  if i < (s.size : Int) then
  if (decide ((bt s i) > (126 : Int))) then
  some (false, ())
  else
  L30_0 k n s low high first ((IntKind.wrap .i64 (i + (1 : Int))))
  else none
  else none
  else none
  else none
  else
  (G32 k (s.size : Int) low high).bind fun (r1 : Bool × Unit) =>
  some (r1.1, ()) := by kernel_rfl
theorem L30_0_zero (k : Nat) (s : ByteArray) (low : Int) (high : Int) (first : Int) (i : Int) : L30_0 k 0 s low high first i = none := by kernel_rfl
theorem S30 (k : Nat) : HSound Try.prog gl 30 true (hF30 (F30 k)) :=
  hP_sound (E := E30 k) (fn := Try.f30) ⟨Try.func30, by kernel_rfl, by kernel_rfl, mixed, mkEnv_ok tis_ok (calls_cons (S32 k) calls_nil), by kernel_rfl, by kernel_rfl, Nat.le_of_ble_eq_true (by kernel_rfl), fun _ => rfl⟩ rfl fun _ _ h => ⟨k, h⟩

/-! f31: loop.example/g00896/spec.l23Term -/
abbrev P31 : List PT := [.agg [.str, .str, .str]]
abbrev R31 : List RT := [.one false .bool]
noncomputable def E31 (k : Nat) : Env := mkEnv tis gl 16 [⟨29, true, false, hF29 (F29 k)⟩, ⟨30, true, false, hF30 (F30 k)⟩] [] [] 0
noncomputable def F31 (k : Nat) (x : Args P31) : Option (Res R31) := runFn (E31 k) Try.f31 k (encArgs P31 x) [] (retK R31)
abbrev hF31 (F : Args P31 → Option (Res R31)) : Hnd := hP P31 R31 F
noncomputable def G31 (k : Nat) (t : Term) : Option (Bool × Unit) := F31 k (t, ())
theorem G31_eq (k : Nat) (t : Term) : G31 k t =
  (G29 k t.1).bind fun (r1 : Bool × Unit) =>
  if r1.1 then
  (G30 k t.2.1 (1 : Int) (20 : Int) (32 : Int)).bind fun (r2 : Bool × Unit) =>
  if r2.1 then
  (G30 k t.2.2.1 (1 : Int) (20 : Int) (32 : Int)).bind fun (r3 : Bool × Unit) =>
  some (r3.1, ())
  else
  some (false, ())
  else
  some (false, ()) := by kernel_rfl
theorem S31 (k : Nat) : HSound Try.prog gl 31 true (hF31 (F31 k)) :=
  hP_sound (E := E31 k) (fn := Try.f31) ⟨Try.func31, by kernel_rfl, by kernel_rfl, mixed, mkEnv_ok tis_ok (calls_cons (S29 k) (calls_cons (S30 k) calls_nil)), by kernel_rfl, by kernel_rfl, Nat.le_of_ble_eq_true (by kernel_rfl), fun _ => rfl⟩ rfl fun _ _ h => ⟨k, h⟩

/-! f15: loop.example/g00896/spec.l23Good -/
abbrev P15 : List PT := [.agg [.str, (.sl [.str, .str, .str]), (.sl [(.int .i64), (.int .i64), .str]), .str, .str]]
abbrev R15 : List RT := [.one false .bool]
noncomputable def E15 (k : Nat) : Env := mkEnv tis gl 99 [⟨29, true, false, hF29 (F29 k)⟩, ⟨30, true, false, hF30 (F30 k)⟩, ⟨31, true, false, hF31 (F31 k)⟩, ⟨32, true, false, hF32 (F32 k)⟩] [(4, [1, 3]), (9, [1, 4])] [(6, [(0, false, []), (1, false, []), (2, false, []), (3, false, []), (4, false, []), (5, false, []), (6, false, []), (7, false, []), (8, false, []), (9, false, []), (10, false, []), (11, false, []), (12, false, []), (13, false, []), (14, false, []), (15, false, []), (16, false, []), (17, false, []), (18, false, []), (19, false, []), (20, false, []), (21, false, []), (22, false, []), (23, false, []), (24, false, []), (25, false, []), (26, false, [])])] 0
noncomputable def F15 (k : Nat) (x : Args P15) : Option (Res R15) := runFn (E15 k) Try.f15 k (encArgs P15 x) [] (retK R15)
abbrev hF15 (F : Args P15 → Option (Res R15)) : Hnd := hP P15 R15 F
noncomputable def G15 (k : Nat) (l : Locale) : Option (Bool × Unit) := F15 k (l, ())
noncomputable def L15_0 (k : Nat) (n : Nat) (i : Int) (l : ByteArray) (l_1 : List (Term)) (l_2 : List (Rule)) (l_3 : ByteArray) (l_4 : ByteArray) : Option (Bool × Unit) :=
  loopAt (E15 k) k [1, 1, 0, 1, 0] [] (body Try.f15) (atEnd (E15 k) Try.f15.results.toList (retK R15)) n ⟨[(1, .v (.one (V.ptr 0 0))), (3, .v (.one (V.d (.int .i64) i)))], [.box [V.d .str l, V.d (.sl [.str, .str, .str]) l_1, V.d (.sl [(.int .i64), (.int .i64), .str]) l_2, V.d .str l_3, V.d .str l_4]]⟩
noncomputable def L15_1 (k : Nat) (n : Nat) (i : Int) (l : ByteArray) (l_1 : List (Term)) (l_2 : List (Rule)) (l_3 : ByteArray) (l_4 : ByteArray) : Option (Bool × Unit) :=
  loopAt (E15 k) k [1, 1, 1, 0, 1, 0] [] (body Try.f15) (atEnd (E15 k) Try.f15.results.toList (retK R15)) n ⟨[(1, .v (.one (V.ptr 0 0))), (4, .v (.one (V.d (.int .i64) i)))], [.box [V.d .str l, V.d (.sl [.str, .str, .str]) l_1, V.d (.sl [(.int .i64), (.int .i64), .str]) l_2, V.d .str l_3, V.d .str l_4]]⟩
theorem G15_eq (k : Nat) (l : Locale) : G15 k l =
  (G29 k l.1).bind fun (r1 : Bool × Unit) =>
  if (!r1.1) then
  some (false, ())
  else
  if (decide ((l.2.1.length : Int) > (12 : Int))) then
  some (false, ())
  else
  if (decide ((l.2.2.1.length : Int) > (6 : Int))) then
  some (false, ())
  else
  (G30 k l.2.2.2.1 (1 : Int) (10 : Int) (32 : Int)).bind fun (r2 : Bool × Unit) =>
  if (!r2.1) then
  some (false, ())
  else
  (G30 k l.2.2.2.2.1 (1 : Int) (10 : Int) (32 : Int)).bind fun (r3 : Bool × Unit) =>
  if (!r3.1) then
  some (false, ())
  else
  L15_0 k k ((0 : Int)) l.1 l.2.1 l.2.2.1 l.2.2.2.1 l.2.2.2.2.1 := by kernel_rfl
theorem L15_0_eq (k : Nat) (n : Nat) (i : Int) (l : ByteArray) (l_1 : List (Term)) (l_2 : List (Rule)) (l_3 : ByteArray) (l_4 : ByteArray) : L15_0 k (n + 1) i l l_1 l_2 l_3 l_4 =
  if (decide (i < (l_1.length : Int))) then
  if 0 ≤ i then
  if i < (l_1.length : Int) then
  (G31 k (l_1.getD (i).toNat dTerm)).bind fun (r1 : Bool × Unit) =>
  if (!r1.1) then
  some (false, ())
  else
  if (decide (i > (0 : Int))) then
  if 0 ≤ (IntKind.wrap .i64 (i - (1 : Int))) then
  if (IntKind.wrap .i64 (i - (1 : Int))) < (l_1.length : Int) then
  if 0 ≤ i then
  if i < (l_1.length : Int) then
  if ((!sLt (l_1.getD ((IntKind.wrap .i64 (i - (1 : Int)))).toNat dTerm).1 (l_1.getD (i).toNat dTerm).1)) then
  some (false, ())
  else
  L15_0 k n ((IntKind.wrap .i64 (i + (1 : Int)))) l l_1 l_2 l_3 l_4
  else none
  else none
  else none
  else none
  else
  L15_0 k n ((IntKind.wrap .i64 (i + (1 : Int)))) l l_1 l_2 l_3 l_4
  else none
  else none
  else
  L15_1 k k ((0 : Int)) l l_1 l_2 l_3 l_4 := by kernel_rfl
theorem L15_0_zero (k : Nat) (i : Int) (l : ByteArray) (l_1 : List (Term)) (l_2 : List (Rule)) (l_3 : ByteArray) (l_4 : ByteArray) : L15_0 k 0 i l l_1 l_2 l_3 l_4 = none := by kernel_rfl
theorem L15_1_eq (k : Nat) (n : Nat) (i : Int) (l : ByteArray) (l_1 : List (Term)) (l_2 : List (Rule)) (l_3 : ByteArray) (l_4 : ByteArray) : L15_1 k (n + 1) i l l_1 l_2 l_3 l_4 =
  if (decide (i < (l_2.length : Int))) then
  if 0 ≤ i then
  if i < (l_2.length : Int) then
  (G32 k ((l_2.getD (i).toNat dRule).1) (1 : Int) (1000 : Int)).bind fun (r1 : Bool × Unit) =>
  if (!r1.1) then
  some (false, ())
  else
  (G32 k ((l_2.getD (i).toNat dRule).2.1) (0 : Int) (IntKind.wrap .i64 ((l_2.getD (i).toNat dRule).1 - (1 : Int)))).bind fun (r2 : Bool × Unit) =>
  if (!r2.1) then
  some (false, ())
  else
  (G30 k ((l_2.getD (i).toNat dRule).2.2.1) (0 : Int) (4 : Int) (33 : Int)).bind fun (r3 : Bool × Unit) =>
  if (!r3.1) then
  some (false, ())
  else
  L15_1 k n ((IntKind.wrap .i64 (i + (1 : Int)))) l l_1 l_2 l_3 l_4
  else none
  else none
  else
  some (true, ()) := by kernel_rfl
theorem L15_1_zero (k : Nat) (i : Int) (l : ByteArray) (l_1 : List (Term)) (l_2 : List (Rule)) (l_3 : ByteArray) (l_4 : ByteArray) : L15_1 k 0 i l l_1 l_2 l_3 l_4 = none := by kernel_rfl
theorem S15 (k : Nat) : HSound Try.prog gl 15 true (hF15 (F15 k)) :=
  hP_sound (E := E15 k) (fn := Try.f15) ⟨Try.func15, by kernel_rfl, by kernel_rfl, mixed, mkEnv_ok tis_ok (calls_cons (S29 k) (calls_cons (S30 k) (calls_cons (S31 k) (calls_cons (S32 k) calls_nil)))), by kernel_rfl, by kernel_rfl, Nat.le_of_ble_eq_true (by kernel_rfl), fun _ => rfl⟩ rfl fun _ _ h => ⟨k, h⟩

/-! f16: loop.example/g00896/spec.l23Own -/
abbrev P16 : List PT := [.agg [.str, (.sl [.str, .str, .str]), (.sl [(.int .i64), (.int .i64), .str]), .str, .str]]
abbrev R16 : List RT := [.agg [(false, .str), (true, (.sl [.str, .str, .str])), (true, (.sl [(.int .i64), (.int .i64), .str])), (false, .str), (false, .str)]]
noncomputable def E16 (_ : Nat) : Env := mkEnv tis gl 18 [] [] [(1, [(0, false, []), (3, false, []), (7, false, []), (10, false, []), (12, false, []), (1, true, []), (4, true, []), (8, true, []), (11, true, []), (13, true, []), (2, false, [2, 6]), (5, false, [6]), (6, false, [6]), (9, false, []), (14, false, []), (15, false, [])])] 0
noncomputable def F16 (k : Nat) (x : Args P16) : Option (Res R16) := runFn (E16 k) Try.f16 k (encArgs P16 x) [] (retK R16)
abbrev hF16 (F : Args P16 → Option (Res R16)) : Hnd := hP P16 R16 F
noncomputable def G16 (k : Nat) (l : Locale) : Option (Locale × Unit) := F16 k (l, ())
theorem G16_eq (k : Nat) (l : Locale) : G16 k l =
  if (([] : List (Term)).length + l.2.1.length) * 48 ≤ 2 ^ 47 then
  if (([] : List (Rule)).length + l.2.2.1.length) * 32 ≤ 2 ^ 47 then
  some ((l.1, ([] ++ l.2.1), ([] ++ l.2.2.1), l.2.2.2.1, l.2.2.2.2.1, ()), ())
  else none
  else none := by kernel_rfl
theorem S16 (k : Nat) : HSound Try.prog gl 16 true (hF16 (F16 k)) :=
  hP_sound (E := E16 k) (fn := Try.f16) ⟨Try.func16, by kernel_rfl, by kernel_rfl, mixed, mkEnv_ok tis_ok calls_nil, by kernel_rfl, by kernel_rfl, Nat.le_of_ble_eq_true (by kernel_rfl), fun _ => rfl⟩ rfl fun _ _ h => ⟨k, h⟩

/-! f6: loop.example/g00896/spec.AddTerm -/
abbrev P6 : List PT := [.agg [.str, (.sl [.str, .str, .str]), (.sl [(.int .i64), (.int .i64), .str]), .str, .str], .agg [.str, .str, .str]]
abbrev R6 : List RT := [.agg [(false, .str), (true, (.sl [.str, .str, .str])), (true, (.sl [(.int .i64), (.int .i64), .str])), (false, .str), (false, .str)], .one false .bool]
noncomputable def E6 (k : Nat) : Env := mkEnv tis gl 72 [⟨15, true, false, hF15 (F15 k)⟩, ⟨16, true, false, hF16 (F16 k)⟩] [(5, [2, 3, 4, 6, 7])] [(5, [(0, false, []), (1, false, []), (2, false, []), (3, false, []), (4, false, []), (5, false, []), (6, false, []), (7, false, []), (8, false, []), (9, false, []), (10, false, []), (11, false, []), (12, false, []), (13, false, []), (14, false, []), (15, false, [])]), (8, [(0, false, []), (1, false, []), (2, false, []), (3, false, []), (4, false, []), (5, false, []), (6, false, []), (7, false, []), (8, false, []), (9, false, []), (10, false, []), (11, false, []), (12, false, []), (13, false, []), (14, false, []), (15, false, [])]), (10, [(1, false, []), (3, false, []), (9, false, []), (11, false, []), (2, true, []), (4, false, []), (6, true, []), (10, true, []), (12, false, []), (0, false, [0, 7]), (5, false, [7]), (7, false, [7]), (8, false, []), (13, false, []), (14, false, []), (15, false, [])])] 0
noncomputable def F6 (k : Nat) (x : Args P6) : Option (Res R6) := runFn (E6 k) Try.f6 k (encArgs P6 x) [] (retK R6)
abbrev hF6 (F : Args P6 → Option (Res R6)) : Hnd := hP P6 R6 F
noncomputable def G6 (k : Nat) (l : Locale) (t : Term) : Option (Locale × Bool × Unit) := F6 k (l, t, ())
noncomputable def L6_0 (k : Nat) (n : Nat) (i : Int) (l : ByteArray) (l_1 : List (Term)) (l_2 : List (Rule)) (l_3 : ByteArray) (l_4 : ByteArray) (t : ByteArray) (t_1 : ByteArray) (t_2 : ByteArray) (v4 : ByteArray) (v4_1 : ByteArray) (v4_2 : ByteArray) (out : ByteArray) (out_1 : ByteArray) (out_2 : ByteArray) (out_3 : List (Term)) (out_4 : List (Rule)) : Option (Locale × Bool × Unit) :=
  loopAt (E6 k) k [1, 1, 1, 1, 0, 0] [] (body Try.f6) (atEnd (E6 k) Try.f6.results.toList (retK R6)) n ⟨[(2, .v (.one (V.ptr 0 0))), (3, .v (.one (V.ptr 1 0))), (4, .v (.one (V.ptr 2 0))), (6, .v (.one (V.ptr 3 0))), (7, .v (.one (V.d (.int .i64) i)))], [.box [V.d .str l, V.d (.sl [.str, .str, .str]) l_1, V.d (.sl [(.int .i64), (.int .i64), .str]) l_2, V.d .str l_3, V.d .str l_4], .box [V.d .str t, V.d .str t_1, V.d .str t_2], .box [V.d .str v4, V.nils, V.nils, V.d .str v4_1, V.d .str v4_2], .box [V.d .str out, V.ref 4, V.ref 5, V.d .str out_1, V.d .str out_2], .arr (.sl [.str, .str, .str]) out_3, .arr (.sl [(.int .i64), (.int .i64), .str]) out_4]⟩
theorem G6_eq (k : Nat) (l : Locale) (t : Term) : G6 k l t =
  (G15 k l).bind fun (r1 : Bool × Unit) =>
  if (!r1.1) then
  some ((ByteArray.empty, [], [], ByteArray.empty, ByteArray.empty, ()), false, ())
  else
  (G16 k l).bind fun (r2 : Locale × Unit) =>
  L6_0 k k ((0 : Int)) l.1 l.2.1 l.2.2.1 l.2.2.2.1 l.2.2.2.2.1 t.1 t.2.1 t.2.2.1 ByteArray.empty ByteArray.empty ByteArray.empty r2.1.1 r2.1.2.2.2.1 r2.1.2.2.2.2.1 r2.1.2.1 r2.1.2.2.1 := by kernel_rfl
theorem L6_0_eq (k : Nat) (n : Nat) (i : Int) (l : ByteArray) (l_1 : List (Term)) (l_2 : List (Rule)) (l_3 : ByteArray) (l_4 : ByteArray) (t : ByteArray) (t_1 : ByteArray) (t_2 : ByteArray) (v4 : ByteArray) (v4_1 : ByteArray) (v4_2 : ByteArray) (out : ByteArray) (out_1 : ByteArray) (out_2 : ByteArray) (out_3 : List (Term)) (out_4 : List (Rule)) : L6_0 k (n + 1) i l l_1 l_2 l_3 l_4 t t_1 t_2 v4 v4_1 v4_2 out out_1 out_2 out_3 out_4 =
  if (decide (i < (l_1.length : Int))) then
  if 0 ≤ i then
  if i < (l_1.length : Int) then
  if (sLt (l_1.getD (i).toNat dTerm).1 t) then
  L6_0 k n ((IntKind.wrap .i64 (i + (1 : Int)))) l l_1 l_2 l_3 l_4 t t_1 t_2 v4 v4_1 v4_2 out out_1 out_2 out_3 out_4
  else
  if (decide (i < (l_1.length : Int))) then
  if 0 ≤ i then
  if i < (l_1.length : Int) then
  if (sEq (l_1.getD (i).toNat dTerm).1 t) then
  if 0 ≤ (0 : Int) then
  if (0 : Int) ≤ i then
  if i ≤ (l_1.length : Int) then
  if 0 ≤ (IntKind.wrap .i64 (i + (1 : Int))) then
  if (IntKind.wrap .i64 (i + (1 : Int))) ≤ (l_1.length : Int) then
  if (l_1.length : Int) ≤ (l_1.length : Int) then
  if (([] : List (Term)).length + ((l_1.take (i).toNat).drop ((0 : Int)).toNat).length) * 48 ≤ 2 ^ 47 then
  if (([] ++ ((l_1.take (i).toNat).drop ((0 : Int)).toNat)).length + ([(t, t_1, t_2, ())] : List (Term)).length) * 48 ≤ 2 ^ 47 then
  if ((([] ++ ((l_1.take (i).toNat).drop ((0 : Int)).toNat)) ++ [(t, t_1, t_2, ())]).length + ((l_1.take ((l_1.length : Int)).toNat).drop ((IntKind.wrap .i64 (i + (1 : Int)))).toNat).length) * 48 ≤ 2 ^ 47 then
  (G15 k (out, ((([] ++ ((l_1.take (i).toNat).drop ((0 : Int)).toNat)) ++ [(t, t_1, t_2, ())]) ++ ((l_1.take ((l_1.length : Int)).toNat).drop ((IntKind.wrap .i64 (i + (1 : Int)))).toNat)), out_4, out_1, out_2, ())).bind fun (r1 : Bool × Unit) =>
  if (!r1.1) then
  some ((ByteArray.empty, [], [], ByteArray.empty, ByteArray.empty, ()), false, ())
  else
  some ((out, ((([] ++ ((l_1.take (i).toNat).drop ((0 : Int)).toNat)) ++ [(t, t_1, t_2, ())]) ++ ((l_1.take ((l_1.length : Int)).toNat).drop ((IntKind.wrap .i64 (i + (1 : Int)))).toNat)), out_4, out_1, out_2, ()), true, ())
  else none
  else none
  else none
  else none
  else none
  else none
  else none
  else none
  else none
  else
  if 0 ≤ (0 : Int) then
  if (0 : Int) ≤ i then
  if i ≤ (l_1.length : Int) then
  if 0 ≤ i then
  if i ≤ (l_1.length : Int) then
  if (l_1.length : Int) ≤ (l_1.length : Int) then
  if (([] : List (Term)).length + ((l_1.take (i).toNat).drop ((0 : Int)).toNat).length) * 48 ≤ 2 ^ 47 then
  if (([] ++ ((l_1.take (i).toNat).drop ((0 : Int)).toNat)).length + ([(t, t_1, t_2, ())] : List (Term)).length) * 48 ≤ 2 ^ 47 then
  if ((([] ++ ((l_1.take (i).toNat).drop ((0 : Int)).toNat)) ++ [(t, t_1, t_2, ())]).length + ((l_1.take ((l_1.length : Int)).toNat).drop (i).toNat).length) * 48 ≤ 2 ^ 47 then
  (G15 k (out, ((([] ++ ((l_1.take (i).toNat).drop ((0 : Int)).toNat)) ++ [(t, t_1, t_2, ())]) ++ ((l_1.take ((l_1.length : Int)).toNat).drop (i).toNat)), out_4, out_1, out_2, ())).bind fun (r2 : Bool × Unit) =>
  if (!r2.1) then
  some ((ByteArray.empty, [], [], ByteArray.empty, ByteArray.empty, ()), false, ())
  else
  some ((out, ((([] ++ ((l_1.take (i).toNat).drop ((0 : Int)).toNat)) ++ [(t, t_1, t_2, ())]) ++ ((l_1.take ((l_1.length : Int)).toNat).drop (i).toNat)), out_4, out_1, out_2, ()), true, ())
  else none
  else none
  else none
  else none
  else none
  else none
  else none
  else none
  else none
  else none
  else none
  else
  if 0 ≤ (0 : Int) then
  if (0 : Int) ≤ i then
  if i ≤ (l_1.length : Int) then
  if 0 ≤ i then
  if i ≤ (l_1.length : Int) then
  if (l_1.length : Int) ≤ (l_1.length : Int) then
  if (([] : List (Term)).length + ((l_1.take (i).toNat).drop ((0 : Int)).toNat).length) * 48 ≤ 2 ^ 47 then
  if (([] ++ ((l_1.take (i).toNat).drop ((0 : Int)).toNat)).length + ([(t, t_1, t_2, ())] : List (Term)).length) * 48 ≤ 2 ^ 47 then
  if ((([] ++ ((l_1.take (i).toNat).drop ((0 : Int)).toNat)) ++ [(t, t_1, t_2, ())]).length + ((l_1.take ((l_1.length : Int)).toNat).drop (i).toNat).length) * 48 ≤ 2 ^ 47 then
  (G15 k (out, ((([] ++ ((l_1.take (i).toNat).drop ((0 : Int)).toNat)) ++ [(t, t_1, t_2, ())]) ++ ((l_1.take ((l_1.length : Int)).toNat).drop (i).toNat)), out_4, out_1, out_2, ())).bind fun (r3 : Bool × Unit) =>
  if (!r3.1) then
  some ((ByteArray.empty, [], [], ByteArray.empty, ByteArray.empty, ()), false, ())
  else
  some ((out, ((([] ++ ((l_1.take (i).toNat).drop ((0 : Int)).toNat)) ++ [(t, t_1, t_2, ())]) ++ ((l_1.take ((l_1.length : Int)).toNat).drop (i).toNat)), out_4, out_1, out_2, ()), true, ())
  else none
  else none
  else none
  else none
  else none
  else none
  else none
  else none
  else none
  else none
  else none
  else
  if (decide (i < (l_1.length : Int))) then
  if 0 ≤ i then
  if i < (l_1.length : Int) then
  if (sEq (l_1.getD (i).toNat dTerm).1 t) then
  if 0 ≤ (0 : Int) then
  if (0 : Int) ≤ i then
  if i ≤ (l_1.length : Int) then
  if 0 ≤ (IntKind.wrap .i64 (i + (1 : Int))) then
  if (IntKind.wrap .i64 (i + (1 : Int))) ≤ (l_1.length : Int) then
  if (l_1.length : Int) ≤ (l_1.length : Int) then
  if (([] : List (Term)).length + ((l_1.take (i).toNat).drop ((0 : Int)).toNat).length) * 48 ≤ 2 ^ 47 then
  if (([] ++ ((l_1.take (i).toNat).drop ((0 : Int)).toNat)).length + ([(t, t_1, t_2, ())] : List (Term)).length) * 48 ≤ 2 ^ 47 then
  if ((([] ++ ((l_1.take (i).toNat).drop ((0 : Int)).toNat)) ++ [(t, t_1, t_2, ())]).length + ((l_1.take ((l_1.length : Int)).toNat).drop ((IntKind.wrap .i64 (i + (1 : Int)))).toNat).length) * 48 ≤ 2 ^ 47 then
  (G15 k (out, ((([] ++ ((l_1.take (i).toNat).drop ((0 : Int)).toNat)) ++ [(t, t_1, t_2, ())]) ++ ((l_1.take ((l_1.length : Int)).toNat).drop ((IntKind.wrap .i64 (i + (1 : Int)))).toNat)), out_4, out_1, out_2, ())).bind fun (r4 : Bool × Unit) =>
  if (!r4.1) then
  some ((ByteArray.empty, [], [], ByteArray.empty, ByteArray.empty, ()), false, ())
  else
  some ((out, ((([] ++ ((l_1.take (i).toNat).drop ((0 : Int)).toNat)) ++ [(t, t_1, t_2, ())]) ++ ((l_1.take ((l_1.length : Int)).toNat).drop ((IntKind.wrap .i64 (i + (1 : Int)))).toNat)), out_4, out_1, out_2, ()), true, ())
  else none
  else none
  else none
  else none
  else none
  else none
  else none
  else none
  else none
  else
  if 0 ≤ (0 : Int) then
  if (0 : Int) ≤ i then
  if i ≤ (l_1.length : Int) then
  if 0 ≤ i then
  if i ≤ (l_1.length : Int) then
  if (l_1.length : Int) ≤ (l_1.length : Int) then
  if (([] : List (Term)).length + ((l_1.take (i).toNat).drop ((0 : Int)).toNat).length) * 48 ≤ 2 ^ 47 then
  if (([] ++ ((l_1.take (i).toNat).drop ((0 : Int)).toNat)).length + ([(t, t_1, t_2, ())] : List (Term)).length) * 48 ≤ 2 ^ 47 then
  if ((([] ++ ((l_1.take (i).toNat).drop ((0 : Int)).toNat)) ++ [(t, t_1, t_2, ())]).length + ((l_1.take ((l_1.length : Int)).toNat).drop (i).toNat).length) * 48 ≤ 2 ^ 47 then
  (G15 k (out, ((([] ++ ((l_1.take (i).toNat).drop ((0 : Int)).toNat)) ++ [(t, t_1, t_2, ())]) ++ ((l_1.take ((l_1.length : Int)).toNat).drop (i).toNat)), out_4, out_1, out_2, ())).bind fun (r5 : Bool × Unit) =>
  if (!r5.1) then
  some ((ByteArray.empty, [], [], ByteArray.empty, ByteArray.empty, ()), false, ())
  else
  some ((out, ((([] ++ ((l_1.take (i).toNat).drop ((0 : Int)).toNat)) ++ [(t, t_1, t_2, ())]) ++ ((l_1.take ((l_1.length : Int)).toNat).drop (i).toNat)), out_4, out_1, out_2, ()), true, ())
  else none
  else none
  else none
  else none
  else none
  else none
  else none
  else none
  else none
  else none
  else none
  else
  if 0 ≤ (0 : Int) then
  if (0 : Int) ≤ i then
  if i ≤ (l_1.length : Int) then
  if 0 ≤ i then
  if i ≤ (l_1.length : Int) then
  if (l_1.length : Int) ≤ (l_1.length : Int) then
  if (([] : List (Term)).length + ((l_1.take (i).toNat).drop ((0 : Int)).toNat).length) * 48 ≤ 2 ^ 47 then
  if (([] ++ ((l_1.take (i).toNat).drop ((0 : Int)).toNat)).length + ([(t, t_1, t_2, ())] : List (Term)).length) * 48 ≤ 2 ^ 47 then
  if ((([] ++ ((l_1.take (i).toNat).drop ((0 : Int)).toNat)) ++ [(t, t_1, t_2, ())]).length + ((l_1.take ((l_1.length : Int)).toNat).drop (i).toNat).length) * 48 ≤ 2 ^ 47 then
  (G15 k (out, ((([] ++ ((l_1.take (i).toNat).drop ((0 : Int)).toNat)) ++ [(t, t_1, t_2, ())]) ++ ((l_1.take ((l_1.length : Int)).toNat).drop (i).toNat)), out_4, out_1, out_2, ())).bind fun (r6 : Bool × Unit) =>
  if (!r6.1) then
  some ((ByteArray.empty, [], [], ByteArray.empty, ByteArray.empty, ()), false, ())
  else
  some ((out, ((([] ++ ((l_1.take (i).toNat).drop ((0 : Int)).toNat)) ++ [(t, t_1, t_2, ())]) ++ ((l_1.take ((l_1.length : Int)).toNat).drop (i).toNat)), out_4, out_1, out_2, ()), true, ())
  else none
  else none
  else none
  else none
  else none
  else none
  else none
  else none
  else none := by kernel_rfl
theorem L6_0_zero (k : Nat) (i : Int) (l : ByteArray) (l_1 : List (Term)) (l_2 : List (Rule)) (l_3 : ByteArray) (l_4 : ByteArray) (t : ByteArray) (t_1 : ByteArray) (t_2 : ByteArray) (v4 : ByteArray) (v4_1 : ByteArray) (v4_2 : ByteArray) (out : ByteArray) (out_1 : ByteArray) (out_2 : ByteArray) (out_3 : List (Term)) (out_4 : List (Rule)) : L6_0 k 0 i l l_1 l_2 l_3 l_4 t t_1 t_2 v4 v4_1 v4_2 out out_1 out_2 out_3 out_4 = none := by kernel_rfl
theorem S6 (k : Nat) : HSound Try.prog gl 6 true (hF6 (F6 k)) :=
  hP_sound (E := E6 k) (fn := Try.f6) ⟨Try.func6, by kernel_rfl, by kernel_rfl, mixed, mkEnv_ok tis_ok (calls_cons (S15 k) (calls_cons (S16 k) calls_nil)), by kernel_rfl, by kernel_rfl, Nat.le_of_ble_eq_true (by kernel_rfl), fun _ => rfl⟩ rfl fun _ _ h => ⟨k, h⟩

/-! f8: loop.example/g00896/laws.toTerm -/
abbrev P8 : List PT := [.agg [.str, .str, .str]]
abbrev R8 : List RT := [.agg [(false, .str), (false, .str), (false, .str)]]
noncomputable def E8 (_ : Nat) : Env := mkEnv tis gl 14 [] [] [] 0
noncomputable def F8 (k : Nat) (x : Args P8) : Option (Res R8) := runFn (E8 k) Try.f8 k (encArgs P8 x) [] (retK R8)
abbrev hF8 (F : Args P8 → Option (Res R8)) : Hnd := hP P8 R8 F
noncomputable def G8 (k : Nat) (a : Term) : Option (Term × Unit) := F8 k (a, ())
theorem G8_eq (k : Nat) (a : Term) : G8 k a =
  some (a, ()) := by kernel_rfl
theorem S8 (k : Nat) : HSound Try.prog gl 8 true (hF8 (F8 k)) :=
  hP_sound (E := E8 k) (fn := Try.f8) ⟨Try.func8, by kernel_rfl, by kernel_rfl, mixed, mkEnv_ok tis_ok calls_nil, by kernel_rfl, by kernel_rfl, Nat.le_of_ble_eq_true (by kernel_rfl), fun _ => rfl⟩ rfl fun _ _ h => ⟨k, h⟩

/-! f17: loop.example/g00896/laws.toTermS -/
abbrev P17 : List PT := [.one (.sl [.str, .str, .str])]
abbrev R17 : List RT := [.one true (.sl [.str, .str, .str])]
noncomputable def E17 (k : Nat) : Env := mkEnv tis gl 23 [⟨8, true, false, hF8 (F8 k)⟩] [(3, [0, 3, 4])] [] 0
noncomputable def F17 (k : Nat) (x : Args P17) : Option (Res R17) := runFn (E17 k) Try.f17 k (encArgs P17 x) [] (retK R17)
abbrev hF17 (F : Args P17 → Option (Res R17)) : Hnd := hP P17 R17 F
noncomputable def G17 (k : Nat) (a : List (Term)) : Option ((List (Term)) × Unit) := F17 k (a, ())
noncomputable def L17_0 (k : Nat) (n : Nat) (a : List (Term)) (i : Int) (out : List (Term)) : Option ((List (Term)) × Unit) :=
  loopAt (E17 k) k [1, 1, 0, 1, 0] [] (body Try.f17) (atEnd (E17 k) Try.f17.results.toList (retK R17)) n ⟨[(0, .v (.one (V.d (.sl [.str, .str, .str]) a))), (3, .v (.one (V.ref 0))), (4, .v (.one (V.d (.int .i64) i)))], [.arr (.sl [.str, .str, .str]) out]⟩
theorem G17_eq (k : Nat) (a : List (Term)) : G17 k a =
  if 0 ≤ (a.length : Int) then
  if (a.length : Int) ≤ (a.length : Int) then
  if ((a.length : Int)).toNat * 48 ≤ 2 ^ 47 then
  L17_0 k k a ((0 : Int)) ((List.replicate ((a.length : Int)).toNat dTerm))
  else none
  else none
  else none := by kernel_rfl
theorem L17_0_eq (k : Nat) (n : Nat) (a : List (Term)) (i : Int) (out : List (Term)) : L17_0 k (n + 1) a i out =
  if (decide (i < (a.length : Int))) then
  if 0 ≤ i then
  if i < (a.length : Int) then
  (G8 k (a.getD (i).toNat dTerm)).bind fun (r1 : Term × Unit) =>
  if 0 ≤ i then
  if i < (out.length : Int) then
  L17_0 k n a ((IntKind.wrap .i64 (i + (1 : Int)))) ((out.set (i).toNat (r1.1.1, r1.1.2.1, r1.1.2.2.1, ())))
  else none
  else none
  else none
  else none
  else
  some (out, ()) := by kernel_rfl
theorem L17_0_zero (k : Nat) (a : List (Term)) (i : Int) (out : List (Term)) : L17_0 k 0 a i out = none := by kernel_rfl
theorem S17 (k : Nat) : HSound Try.prog gl 17 true (hF17 (F17 k)) :=
  hP_sound (E := E17 k) (fn := Try.f17) ⟨Try.func17, by kernel_rfl, by kernel_rfl, mixed, mkEnv_ok tis_ok (calls_cons (S8 k) calls_nil), by kernel_rfl, by kernel_rfl, Nat.le_of_ble_eq_true (by kernel_rfl), fun _ => rfl⟩ rfl fun _ _ h => ⟨k, h⟩

/-! f33: loop.example/g00896/laws.toOrdinalRule -/
abbrev P33 : List PT := [.agg [(.int .i64), (.int .i64), .str]]
abbrev R33 : List RT := [.agg [(false, (.int .i64)), (false, (.int .i64)), (false, .str)]]
noncomputable def E33 (_ : Nat) : Env := mkEnv tis gl 14 [] [] [] 0
noncomputable def F33 (k : Nat) (x : Args P33) : Option (Res R33) := runFn (E33 k) Try.f33 k (encArgs P33 x) [] (retK R33)
abbrev hF33 (F : Args P33 → Option (Res R33)) : Hnd := hP P33 R33 F
noncomputable def G33 (k : Nat) (a : Rule) : Option (Rule × Unit) := F33 k (a, ())
theorem G33_eq (k : Nat) (a : Rule) : G33 k a =
  some (a, ()) := by kernel_rfl
theorem S33 (k : Nat) : HSound Try.prog gl 33 true (hF33 (F33 k)) :=
  hP_sound (E := E33 k) (fn := Try.f33) ⟨Try.func33, by kernel_rfl, by kernel_rfl, mixed, mkEnv_ok tis_ok calls_nil, by kernel_rfl, by kernel_rfl, Nat.le_of_ble_eq_true (by kernel_rfl), fun _ => rfl⟩ rfl fun _ _ h => ⟨k, h⟩

/-! f18: loop.example/g00896/laws.toOrdinalRuleS -/
abbrev P18 : List PT := [.one (.sl [(.int .i64), (.int .i64), .str])]
abbrev R18 : List RT := [.one true (.sl [(.int .i64), (.int .i64), .str])]
noncomputable def E18 (k : Nat) : Env := mkEnv tis gl 23 [⟨33, true, false, hF33 (F33 k)⟩] [(3, [0, 3, 4])] [] 0
noncomputable def F18 (k : Nat) (x : Args P18) : Option (Res R18) := runFn (E18 k) Try.f18 k (encArgs P18 x) [] (retK R18)
abbrev hF18 (F : Args P18 → Option (Res R18)) : Hnd := hP P18 R18 F
noncomputable def G18 (k : Nat) (a : List (Rule)) : Option ((List (Rule)) × Unit) := F18 k (a, ())
noncomputable def L18_0 (k : Nat) (n : Nat) (a : List (Rule)) (i : Int) (out : List (Rule)) : Option ((List (Rule)) × Unit) :=
  loopAt (E18 k) k [1, 1, 0, 1, 0] [] (body Try.f18) (atEnd (E18 k) Try.f18.results.toList (retK R18)) n ⟨[(0, .v (.one (V.d (.sl [(.int .i64), (.int .i64), .str]) a))), (3, .v (.one (V.ref 0))), (4, .v (.one (V.d (.int .i64) i)))], [.arr (.sl [(.int .i64), (.int .i64), .str]) out]⟩
theorem G18_eq (k : Nat) (a : List (Rule)) : G18 k a =
  if 0 ≤ (a.length : Int) then
  if (a.length : Int) ≤ (a.length : Int) then
  if ((a.length : Int)).toNat * 32 ≤ 2 ^ 47 then
  L18_0 k k a ((0 : Int)) ((List.replicate ((a.length : Int)).toNat dRule))
  else none
  else none
  else none := by kernel_rfl
theorem L18_0_eq (k : Nat) (n : Nat) (a : List (Rule)) (i : Int) (out : List (Rule)) : L18_0 k (n + 1) a i out =
  if (decide (i < (a.length : Int))) then
  if 0 ≤ i then
  if i < (a.length : Int) then
  (G33 k (a.getD (i).toNat dRule)).bind fun (r1 : Rule × Unit) =>
  if 0 ≤ i then
  if i < (out.length : Int) then
  L18_0 k n a ((IntKind.wrap .i64 (i + (1 : Int)))) ((out.set (i).toNat (r1.1.1, r1.1.2.1, r1.1.2.2.1, ())))
  else none
  else none
  else none
  else none
  else
  some (out, ()) := by kernel_rfl
theorem L18_0_zero (k : Nat) (a : List (Rule)) (i : Int) (out : List (Rule)) : L18_0 k 0 a i out = none := by kernel_rfl
theorem S18 (k : Nat) : HSound Try.prog gl 18 true (hF18 (F18 k)) :=
  hP_sound (E := E18 k) (fn := Try.f18) ⟨Try.func18, by kernel_rfl, by kernel_rfl, mixed, mkEnv_ok tis_ok (calls_cons (S33 k) calls_nil), by kernel_rfl, by kernel_rfl, Nat.le_of_ble_eq_true (by kernel_rfl), fun _ => rfl⟩ rfl fun _ _ h => ⟨k, h⟩

/-! f7: loop.example/g00896/laws.toLocale -/
abbrev P7 : List PT := [.agg [.str, (.sl [.str, .str, .str]), (.sl [(.int .i64), (.int .i64), .str]), .str, .str]]
abbrev R7 : List RT := [.agg [(false, .str), (true, (.sl [.str, .str, .str])), (true, (.sl [(.int .i64), (.int .i64), .str])), (false, .str), (false, .str)]]
noncomputable def E7 (k : Nat) : Env := mkEnv tis gl 22 [⟨17, true, false, hF17 (F17 k)⟩, ⟨18, true, false, hF18 (F18 k)⟩] [] [] 0
noncomputable def F7 (k : Nat) (x : Args P7) : Option (Res R7) := runFn (E7 k) Try.f7 k (encArgs P7 x) [] (retK R7)
abbrev hF7 (F : Args P7 → Option (Res R7)) : Hnd := hP P7 R7 F
noncomputable def G7 (k : Nat) (a : Locale) : Option (Locale × Unit) := F7 k (a, ())
theorem G7_eq (k : Nat) (a : Locale) : G7 k a =
  (G17 k a.2.1).bind fun (r1 : (List (Term)) × Unit) =>
  (G18 k a.2.2.1).bind fun (r2 : (List (Rule)) × Unit) =>
  some ((a.1, r1.1, r2.1, a.2.2.2.1, a.2.2.2.2.1, ()), ()) := by kernel_rfl
theorem S7 (k : Nat) : HSound Try.prog gl 7 true (hF7 (F7 k)) :=
  hP_sound (E := E7 k) (fn := Try.f7) ⟨Try.func7, by kernel_rfl, by kernel_rfl, mixed, mkEnv_ok tis_ok (calls_cons (S17 k) (calls_cons (S18 k) calls_nil)), by kernel_rfl, by kernel_rfl, Nat.le_of_ble_eq_true (by kernel_rfl), fun _ => rfl⟩ rfl fun _ _ h => ⟨k, h⟩

/-! f45: loop.example/g00896/impl.inside -/
abbrev P45 : List PT := [.one (.int .i64), .one (.int .i64), .one (.int .i64)]
abbrev R45 : List RT := [.one false .bool]
noncomputable def E45 (_ : Nat) : Env := mkEnv tis gl 15 [] [] [] 0
noncomputable def F45 (k : Nat) (x : Args P45) : Option (Res R45) := runFn (E45 k) Try.f45 k (encArgs P45 x) [] (retK R45)
abbrev hF45 (F : Args P45 → Option (Res R45)) : Hnd := hP P45 R45 F
noncomputable def G45 (k : Nat) (vn : Int) (low : Int) (high : Int) : Option (Bool × Unit) := F45 k (vn, low, high, ())
theorem G45_eq (k : Nat) (vn : Int) (low : Int) (high : Int) : G45 k vn low high =
  if (decide (vn ≥ low)) then
  some ((decide (vn ≤ high)), ())
  else
  some (false, ()) := by kernel_rfl
theorem S45 (k : Nat) : HSound Try.prog gl 45 true (hF45 (F45 k)) :=
  hP_sound (E := E45 k) (fn := Try.f45) ⟨Try.func45, by kernel_rfl, by kernel_rfl, mixed, mkEnv_ok tis_ok calls_nil, by kernel_rfl, by kernel_rfl, Nat.le_of_ble_eq_true (by kernel_rfl), fun _ => rfl⟩ rfl fun _ _ h => ⟨k, h⟩

/-! f56: internal/stringslite.HasSuffix -/
abbrev P56 : List PT := [.one .str, .one .str]
abbrev R56 : List RT := [.one false .bool]
noncomputable def E56 (_ : Nat) : Env := mkEnv tis gl 21 [] [] [] 0
noncomputable def F56 (k : Nat) (x : Args P56) : Option (Res R56) := runFn (E56 k) Try.f56 k (encArgs P56 x) [] (retK R56)
abbrev hF56 (F : Args P56 → Option (Res R56)) : Hnd := hP P56 R56 F
noncomputable def G56 (k : Nat) (s : ByteArray) (vsuffix : ByteArray) : Option (Bool × Unit) := F56 k (s, vsuffix, ())
theorem G56_eq (k : Nat) (s : ByteArray) (vsuffix : ByteArray) : G56 k s vsuffix =
  if (decide ((s.size : Int) ≥ (vsuffix.size : Int))) then
  if 0 ≤ (IntKind.wrap .i64 ((s.size : Int) - (vsuffix.size : Int))) then
  if (IntKind.wrap .i64 ((s.size : Int) - (vsuffix.size : Int))) ≤ (s.size : Int) then
  if (s.size : Int) ≤ (s.size : Int) then
  some ((sEq (s.extract ((IntKind.wrap .i64 ((s.size : Int) - (vsuffix.size : Int)))).toNat ((s.size : Int)).toNat) vsuffix), ())
  else none
  else none
  else none
  else
  some (false, ()) := by kernel_rfl
theorem S56 (k : Nat) : HSound Try.prog gl 56 true (hF56 (F56 k)) :=
  hP_sound (E := E56 k) (fn := Try.f56) ⟨Try.func56, by kernel_rfl, by kernel_rfl, mixed, mkEnv_ok tis_ok calls_nil, by kernel_rfl, by kernel_rfl, Nat.le_of_ble_eq_true (by kernel_rfl), fun _ => rfl⟩ rfl fun _ _ h => ⟨k, h⟩

/-! f54: internal/stringslite.TrimSuffix -/
abbrev P54 : List PT := [.one .str, .one .str]
abbrev R54 : List RT := [.one false .str]
noncomputable def E54 (k : Nat) : Env := mkEnv tis gl 16 [⟨56, true, false, hF56 (F56 k)⟩] [] [] 0
noncomputable def F54 (k : Nat) (x : Args P54) : Option (Res R54) := runFn (E54 k) Try.f54 k (encArgs P54 x) [] (retK R54)
abbrev hF54 (F : Args P54 → Option (Res R54)) : Hnd := hP P54 R54 F
noncomputable def G54 (k : Nat) (s : ByteArray) (vsuffix : ByteArray) : Option (ByteArray × Unit) := F54 k (s, vsuffix, ())
theorem G54_eq (k : Nat) (s : ByteArray) (vsuffix : ByteArray) : G54 k s vsuffix =
  (G56 k s vsuffix).bind fun (r1 : Bool × Unit) =>
  if r1.1 then
  if 0 ≤ (0 : Int) then
  if (0 : Int) ≤ (IntKind.wrap .i64 ((s.size : Int) - (vsuffix.size : Int))) then
  if (IntKind.wrap .i64 ((s.size : Int) - (vsuffix.size : Int))) ≤ (s.size : Int) then
  some ((s.extract ((0 : Int)).toNat ((IntKind.wrap .i64 ((s.size : Int) - (vsuffix.size : Int)))).toNat), ())
  else none
  else none
  else none
  else
  some (s, ()) := by kernel_rfl
theorem S54 (k : Nat) : HSound Try.prog gl 54 true (hF54 (F54 k)) :=
  hP_sound (E := E54 k) (fn := Try.f54) ⟨Try.func54, by kernel_rfl, by kernel_rfl, mixed, mkEnv_ok tis_ok (calls_cons (S56 k) calls_nil), by kernel_rfl, by kernel_rfl, Nat.le_of_ble_eq_true (by kernel_rfl), fun _ => rfl⟩ rfl fun _ _ h => ⟨k, h⟩

/-! f50: strings.TrimSuffix -/
abbrev P50 : List PT := [.one .str, .one .str]
abbrev R50 : List RT := [.one false .str]
noncomputable def E50 (k : Nat) : Env := mkEnv tis gl 8 [⟨54, true, false, hF54 (F54 k)⟩] [] [] 0
noncomputable def F50 (k : Nat) (x : Args P50) : Option (Res R50) := runFn (E50 k) Try.f50 k (encArgs P50 x) [] (retK R50)
abbrev hF50 (F : Args P50 → Option (Res R50)) : Hnd := hP P50 R50 F
noncomputable def G50 (k : Nat) (s : ByteArray) (vsuffix : ByteArray) : Option (ByteArray × Unit) := F50 k (s, vsuffix, ())
theorem G50_eq (k : Nat) (s : ByteArray) (vsuffix : ByteArray) : G50 k s vsuffix =
  (G54 k s vsuffix).bind fun (r1 : ByteArray × Unit) =>
  some (r1.1, ()) := by kernel_rfl
theorem S50 (k : Nat) : HSound Try.prog gl 50 true (hF50 (F50 k)) :=
  hP_sound (E := E50 k) (fn := Try.f50) ⟨Try.func50, by kernel_rfl, by kernel_rfl, mixed, mkEnv_ok tis_ok (calls_cons (S54 k) calls_nil), by kernel_rfl, by kernel_rfl, Nat.le_of_ble_eq_true (by kernel_rfl), fun _ => rfl⟩ rfl fun _ _ h => ⟨k, h⟩

/-! f51: loop.example/g00896/impl.isLower -/
abbrev P51 : List PT := [.one (.int .u8)]
abbrev R51 : List RT := [.one false .bool]
noncomputable def E51 (_ : Nat) : Env := mkEnv tis gl 9 [] [] [] 0
noncomputable def F51 (k : Nat) (x : Args P51) : Option (Res R51) := runFn (E51 k) Try.f51 k (encArgs P51 x) [] (retK R51)
abbrev hF51 (F : Args P51 → Option (Res R51)) : Hnd := hP P51 R51 F
noncomputable def G51 (k : Nat) (b : Int) : Option (Bool × Unit) := F51 k (b, ())
theorem G51_eq (k : Nat) (b : Int) : G51 k b =
  if (decide (b ≥ (97 : Int))) then
  some ((decide (b ≤ (122 : Int))), ())
  else
  some (false, ()) := by kernel_rfl
theorem S51 (k : Nat) : HSound Try.prog gl 51 true (hF51 (F51 k)) :=
  hP_sound (E := E51 k) (fn := Try.f51) ⟨Try.func51, by kernel_rfl, by kernel_rfl, mixed, mkEnv_ok tis_ok calls_nil, by kernel_rfl, by kernel_rfl, Nat.le_of_ble_eq_true (by kernel_rfl), fun _ => rfl⟩ rfl fun _ _ h => ⟨k, h⟩

/-! f44: loop.example/g00896/impl.isSmall -/
abbrev P44 : List PT := [.one .str, .one (.int .i64), .one (.int .i64), .one .str]
abbrev R44 : List RT := [.one false .bool]
noncomputable def E44 (k : Nat) : Env := mkEnv tis gl 29 [⟨45, true, false, hF45 (F45 k)⟩, ⟨50, true, false, hF50 (F50 k)⟩, ⟨51, true, false, hF51 (F51 k)⟩] [(3, [0, 1, 2, 9])] [] 0
noncomputable def F44 (k : Nat) (x : Args P44) : Option (Res R44) := runFn (E44 k) Try.f44 k (encArgs P44 x) [] (retK R44)
abbrev hF44 (F : Args P44 → Option (Res R44)) : Hnd := hP P44 R44 F
noncomputable def G44 (k : Nat) (s : ByteArray) (low : Int) (high : Int) (behind : ByteArray) : Option (Bool × Unit) := F44 k (s, low, high, behind, ())
noncomputable def L44_0 (k : Nat) (n : Nat) (s : ByteArray) (low : Int) (high : Int) (i : Int) : Option (Bool × Unit) :=
  loopAt (E44 k) k [1, 1, 0, 1, 0] [] (body Try.f44) (atEnd (E44 k) Try.f44.results.toList (retK R44)) n ⟨[(0, .v (.one (V.d .str s))), (1, .v (.one (V.d (.int .i64) low))), (2, .v (.one (V.d (.int .i64) high))), (9, .v (.one (V.d (.int .i64) i)))], []⟩
theorem G44_eq (k : Nat) (s : ByteArray) (low : Int) (high : Int) (behind : ByteArray) : G44 k s low high behind =
  (G50 k s behind).bind fun (r1 : ByteArray × Unit) =>
  L44_0 k k r1.1 low high ((0 : Int)) := by kernel_rfl
theorem L44_0_eq (k : Nat) (n : Nat) (s : ByteArray) (low : Int) (high : Int) (i : Int) : L44_0 k (n + 1) s low high i =
  if (decide (i < (s.size : Int))) then
  if 0 ≤ i then
  if i < (s.size : Int) then
  (G51 k (bt s i)).bind fun (r1 : Bool × Unit) =>
  if (!r1.1) then
  some (false, ())
  else
  L44_0 k n s low high ((IntKind.wrap .i64 (i + (1 : Int))))
  else none
  else none
  else
  (G45 k (s.size : Int) low high).bind fun (r2 : Bool × Unit) =>
  some (r2.1, ()) := by kernel_rfl
theorem L44_0_zero (k : Nat) (s : ByteArray) (low : Int) (high : Int) (i : Int) : L44_0 k 0 s low high i = none := by kernel_rfl
theorem S44 (k : Nat) : HSound Try.prog gl 44 true (hF44 (F44 k)) :=
  hP_sound (E := E44 k) (fn := Try.f44) ⟨Try.func44, by kernel_rfl, by kernel_rfl, mixed, mkEnv_ok tis_ok (calls_cons (S45 k) (calls_cons (S50 k) (calls_cons (S51 k) calls_nil))), by kernel_rfl, by kernel_rfl, Nat.le_of_ble_eq_true (by kernel_rfl), fun _ => rfl⟩ rfl fun _ _ h => ⟨k, h⟩

/-! f34: loop.example/g00896/impl.isTermKey -/
abbrev P34 : List PT := [.one .str]
abbrev R34 : List RT := [.one false .bool]
noncomputable def E34 (k : Nat) : Env := mkEnv tis gl 5 [⟨44, true, false, hF44 (F44 k)⟩] [] [] 0
noncomputable def F34 (k : Nat) (x : Args P34) : Option (Res R34) := runFn (E34 k) Try.f34 k (encArgs P34 x) [] (retK R34)
abbrev hF34 (F : Args P34 → Option (Res R34)) : Hnd := hP P34 R34 F
noncomputable def G34 (k : Nat) (s : ByteArray) : Option (Bool × Unit) := F34 k (s, ())
theorem G34_eq (k : Nat) (s : ByteArray) : G34 k s =
  (G44 k s (1 : Int) (10 : Int) (⟨#[]⟩ : ByteArray)).bind fun (r1 : Bool × Unit) =>
  some (r1.1, ()) := by kernel_rfl
theorem S34 (k : Nat) : HSound Try.prog gl 34 true (hF34 (F34 k)) :=
  hP_sound (E := E34 k) (fn := Try.f34) ⟨Try.func34, by kernel_rfl, by kernel_rfl, mixed, mkEnv_ok tis_ok (calls_cons (S44 k) calls_nil), by kernel_rfl, by kernel_rfl, Nat.le_of_ble_eq_true (by kernel_rfl), fun _ => rfl⟩ rfl fun _ _ h => ⟨k, h⟩

/-! f46: loop.example/g00896/impl.arePrintable -/
abbrev P46 : List PT := [.one .str]
abbrev R46 : List RT := [.one false .bool]
noncomputable def E46 (_ : Nat) : Env := mkEnv tis gl 20 [] [(2, [0, 3])] [] 0
noncomputable def F46 (k : Nat) (x : Args P46) : Option (Res R46) := runFn (E46 k) Try.f46 k (encArgs P46 x) [] (retK R46)
abbrev hF46 (F : Args P46 → Option (Res R46)) : Hnd := hP P46 R46 F
noncomputable def G46 (k : Nat) (s : ByteArray) : Option (Bool × Unit) := F46 k (s, ())
noncomputable def L46_0 (k : Nat) (n : Nat) (s : ByteArray) (i : Int) : Option (Bool × Unit) :=
  loopAt (E46 k) k [1, 0, 1, 0] [] (body Try.f46) (atEnd (E46 k) Try.f46.results.toList (retK R46)) n ⟨[(0, .v (.one (V.d .str s))), (3, .v (.one (V.d (.int .i64) i)))], []⟩
theorem G46_eq (k : Nat) (s : ByteArray) : G46 k s =
  L46_0 k k s ((0 : Int)) := by kernel_rfl
theorem L46_0_eq (k : Nat) (n : Nat) (s : ByteArray) (i : Int) : L46_0 k (n + 1) s i =
  if (decide (i < (s.size : Int))) then
  if 0 ≤ i then
  if i < (s.size : Int) then
  if (decide ((bt s i) < (32 : Int))) then
  some (false, ())
  else
  if 0 ≤ i then
  if i < (s.size : Int) then
  if (decide ((bt s i) > (126 : Int))) then
  some (false, ())
  else
  L46_0 k n s ((IntKind.wrap .i64 (i + (1 : Int))))
  else none
  else none
  else none
  else none
  else
  some (true, ()) := by kernel_rfl
theorem L46_0_zero (k : Nat) (s : ByteArray) (i : Int) : L46_0 k 0 s i = none := by kernel_rfl
theorem S46 (k : Nat) : HSound Try.prog gl 46 true (hF46 (F46 k)) :=
  hP_sound (E := E46 k) (fn := Try.f46) ⟨Try.func46, by kernel_rfl, by kernel_rfl, mixed, mkEnv_ok tis_ok calls_nil, by kernel_rfl, by kernel_rfl, Nat.le_of_ble_eq_true (by kernel_rfl), fun _ => rfl⟩ rfl fun _ _ h => ⟨k, h⟩

/-! f35: loop.example/g00896/impl.isTermText -/
abbrev P35 : List PT := [.one .str, .one (.int .i64)]
abbrev R35 : List RT := [.one false .bool]
noncomputable def E35 (k : Nat) : Env := mkEnv tis gl 13 [⟨45, true, false, hF45 (F45 k)⟩, ⟨46, true, false, hF46 (F46 k)⟩] [] [] 0
noncomputable def F35 (k : Nat) (x : Args P35) : Option (Res R35) := runFn (E35 k) Try.f35 k (encArgs P35 x) [] (retK R35)
abbrev hF35 (F : Args P35 → Option (Res R35)) : Hnd := hP P35 R35 F
noncomputable def G35 (k : Nat) (s : ByteArray) (most : Int) : Option (Bool × Unit) := F35 k (s, most, ())
theorem G35_eq (k : Nat) (s : ByteArray) (most : Int) : G35 k s most =
  (G45 k (s.size : Int) (1 : Int) most).bind fun (r1 : Bool × Unit) =>
  if r1.1 then
  (G46 k s).bind fun (r2 : Bool × Unit) =>
  some (r2.1, ())
  else
  some (false, ()) := by kernel_rfl
theorem S35 (k : Nat) : HSound Try.prog gl 35 true (hF35 (F35 k)) :=
  hP_sound (E := E35 k) (fn := Try.f35) ⟨Try.func35, by kernel_rfl, by kernel_rfl, mixed, mkEnv_ok tis_ok (calls_cons (S45 k) (calls_cons (S46 k) calls_nil)), by kernel_rfl, by kernel_rfl, Nat.le_of_ble_eq_true (by kernel_rfl), fun _ => rfl⟩ rfl fun _ _ h => ⟨k, h⟩

/-! f48: strings.Contains, by the shelf's contract -/
abbrev P48 : List PT := [.one .str, .one .str]
abbrev R48 : List RT := [.one false .bool]
def F48 (_ : Nat) (x : Args P48) : Option (Res R48) := match (x.2.1 : ByteArray).data.toList with
  | [c] => some (decide (0 ≤ Lib.indexByte (x.1 : ByteArray).data.toList c), ())
  | _ => none
def G48 (k : Nat) (s vsubstr : ByteArray) : Option (Bool × Unit) := F48 k (s, vsubstr, ())
abbrev hF48 (F : Args P48 → Option (Res R48)) : Hnd := hP P48 R48 F
theorem S48 (k : Nat) : HSound Try.prog gl 48 true (hF48 (F48 k)) := by
  refine hP_of_contract (hEnter_of Try.func48 (by kernel_rfl) (by kernel_rfl)) rfl rfl fun x r w h => ?_
  obtain ⟨a, b, u⟩ := x
  unfold F48 at h
  split at h
  · rename_i c hc
    cases h
    have hb : (b : ByteArray) = ⟨#[c]⟩ := by
      have h2 : (b : ByteArray).data = #[c] := by
        apply Array.ext'
        exact hc
      cases b
      cases h2
      rfl
    have h3 : valArgs P48 (a, b, u) = [.string a, .string (⟨#[c]⟩ : ByteArray)] := by
      rw [← hb]; rfl
    rw [h3]
    exact Try.strings_Contains_one a c w
  · cases h

/-! f38: loop.example/g00896/impl.isOrdinalRule -/
abbrev P38 : List PT := [.agg [(.int .i64), (.int .i64), .str]]
abbrev R38 : List RT := [.one false .bool]
noncomputable def E38 (k : Nat) : Env := mkEnv tis gl 31 [⟨45, true, false, hF45 (F45 k)⟩, ⟨46, true, false, hF46 (F46 k)⟩, ⟨48, true, false, hF48 (F48 k)⟩] [] [] 0
noncomputable def F38 (k : Nat) (x : Args P38) : Option (Res R38) := runFn (E38 k) Try.f38 k (encArgs P38 x) [] (retK R38)
abbrev hF38 (F : Args P38 → Option (Res R38)) : Hnd := hP P38 R38 F
noncomputable def G38 (k : Nat) (r : Rule) : Option (Bool × Unit) := F38 k (r, ())
theorem G38_eq (k : Nat) (r : Rule) : G38 k r =
  (G45 k r.1 (1 : Int) (1000 : Int)).bind fun (r1 : Bool × Unit) =>
  if r1.1 then
  (G45 k r.2.1 (0 : Int) (IntKind.wrap .i64 (r.1 - (1 : Int)))).bind fun (r2 : Bool × Unit) =>
  if r2.1 then
  if (decide ((r.2.2.1.size : Int) ≤ (4 : Int))) then
  (G46 k r.2.2.1).bind fun (r3 : Bool × Unit) =>
  if r3.1 then
  (G48 k r.2.2.1 (⟨#[32]⟩ : ByteArray)).bind fun (r4 : Bool × Unit) =>
  some ((!r4.1), ())
  else
  some (false, ())
  else
  some (false, ())
  else
  some (false, ())
  else
  some (false, ()) := by kernel_rfl
theorem S38 (k : Nat) : HSound Try.prog gl 38 true (hF38 (F38 k)) :=
  hP_sound (E := E38 k) (fn := Try.f38) ⟨Try.func38, by kernel_rfl, by kernel_rfl, mixed, mkEnv_ok tis_ok (calls_cons (S45 k) (calls_cons (S46 k) (calls_cons (S48 k) calls_nil))), by kernel_rfl, by kernel_rfl, Nat.le_of_ble_eq_true (by kernel_rfl), fun _ => rfl⟩ rfl fun _ _ h => ⟨k, h⟩

/-! f37: loop.example/g00896/impl.IsValidLocale$1 -/
abbrev P37 : List PT := [.agg [(.int .i64), (.int .i64), .str]]
abbrev R37 : List RT := [.one false .bool]
noncomputable def E37 (k : Nat) : Env := mkEnv tis gl 6 [⟨38, true, false, hF38 (F38 k)⟩] [] [] 0
noncomputable def F37 (k : Nat) (x : Args P37) : Option (Res R37) := runFn (E37 k) Try.f37 k (encArgs P37 x) [] (retK R37)
abbrev hF37 (F : Args P37 → Option (Res R37)) : Hnd := hP P37 R37 F
noncomputable def G37 (k : Nat) (r : Rule) : Option (Bool × Unit) := F37 k (r, ())
theorem G37_eq (k : Nat) (r : Rule) : G37 k r =
  (G38 k r).bind fun (r1 : Bool × Unit) =>
  some ((!r1.1), ()) := by kernel_rfl
theorem S37 (k : Nat) : HSound Try.prog gl 37 true (hF37 (F37 k)) :=
  hP_sound (E := E37 k) (fn := Try.f37) ⟨Try.func37, by kernel_rfl, by kernel_rfl, mixed, mkEnv_ok tis_ok (calls_cons (S38 k) calls_nil), by kernel_rfl, by kernel_rfl, Nat.le_of_ble_eq_true (by kernel_rfl), fun _ => rfl⟩ rfl fun _ _ h => ⟨k, h⟩

/-! f47: slices.IndexFunc[[]loop.example/g00896/impl.OrdinalRule,loop.example/g00896/impl.OrdinalRule] -/
abbrev P47 : List PT := [.one (.sl [(.int .i64), (.int .i64), .str]), .fn 37]
abbrev R47 : List RT := [.one false (.int .i64)]
noncomputable def E47 (k : Nat) : Env := mkEnv tis gl 19 [⟨37, true, false, hF37 (F37 k)⟩] [(2, [0, 1, 7, 8])] [] 0
noncomputable def F47 (k : Nat) (x : Args P47) : Option (Res R47) := runFn (E47 k) Try.f47 k (encArgs P47 x) [] (retK R47)
abbrev hF47 (F : Args P47 → Option (Res R47)) : Hnd := hP P47 R47 F
noncomputable def G47 (k : Nat) (s : List (Rule)) : Option (Int × Unit) := F47 k (s, (), ())
noncomputable def L47_0 (k : Nat) (n : Nat) (s : List (Rule)) (v7 : Int) (v8 : Int) : Option (Int × Unit) :=
  loopAt (E47 k) k [1, 0, 1, 0] [] (body Try.f47) (atEnd (E47 k) Try.f47.results.toList (retK R47)) n ⟨[(0, .v (.one (V.d (.sl [(.int .i64), (.int .i64), .str]) s))), (1, .v (.one (V.clo 37 []))), (7, .v (.one (V.d (.int .i64) v7))), (8, .v (.one (V.d (.int .i64) v8)))], []⟩
theorem G47_eq (k : Nat) (s : List (Rule)) : G47 k s =
  L47_0 k k s ((s.length : Int)) ((0 : Int)) := by kernel_rfl
theorem L47_0_eq (k : Nat) (n : Nat) (s : List (Rule)) (v7 : Int) (v8 : Int) : L47_0 k (n + 1) s v7 v8 =
  if (decide (v8 < v7)) then
  if 0 ≤ v8 then
  if v8 < (s.length : Int) then
  (G37 k (s.getD (v8).toNat dRule)).bind fun (r1 : Bool × Unit) =>
  if r1.1 then
  some (v8, ())
  else
  L47_0 k n s v7 ((IntKind.wrap .i64 (v8 + (1 : Int))))
  else none
  else none
  else
  some ((-1 : Int), ()) := by kernel_rfl
theorem L47_0_zero (k : Nat) (s : List (Rule)) (v7 : Int) (v8 : Int) : L47_0 k 0 s v7 v8 = none := by kernel_rfl
theorem S47 (k : Nat) : HSound Try.prog gl 47 true (hF47 (F47 k)) :=
  hP_sound (E := E47 k) (fn := Try.f47) ⟨Try.func47, by kernel_rfl, by kernel_rfl, mixed, mkEnv_ok tis_ok (calls_cons (S37 k) calls_nil), by kernel_rfl, by kernel_rfl, Nat.le_of_ble_eq_true (by kernel_rfl), fun _ => rfl⟩ rfl fun _ _ h => ⟨k, h⟩

/-! f36: slices.ContainsFunc[[]loop.example/g00896/impl.OrdinalRule,loop.example/g00896/impl.OrdinalRule] -/
abbrev P36 : List PT := [.one (.sl [(.int .i64), (.int .i64), .str]), .fn 37]
abbrev R36 : List RT := [.one false .bool]
noncomputable def E36 (k : Nat) : Env := mkEnv tis gl 9 [⟨47, true, false, hF47 (F47 k)⟩] [] [] 0
noncomputable def F36 (k : Nat) (x : Args P36) : Option (Res R36) := runFn (E36 k) Try.f36 k (encArgs P36 x) [] (retK R36)
abbrev hF36 (F : Args P36 → Option (Res R36)) : Hnd := hP P36 R36 F
noncomputable def G36 (k : Nat) (s : List (Rule)) : Option (Bool × Unit) := F36 k (s, (), ())
theorem G36_eq (k : Nat) (s : List (Rule)) : G36 k s =
  (G47 k s).bind fun (r1 : Int × Unit) =>
  some ((decide (r1.1 ≥ (0 : Int))), ()) := by kernel_rfl
theorem S36 (k : Nat) : HSound Try.prog gl 36 true (hF36 (F36 k)) :=
  hP_sound (E := E36 k) (fn := Try.f36) ⟨Try.func36, by kernel_rfl, by kernel_rfl, mixed, mkEnv_ok tis_ok (calls_cons (S47 k) calls_nil), by kernel_rfl, by kernel_rfl, Nat.le_of_ble_eq_true (by kernel_rfl), fun _ => rfl⟩ rfl fun _ _ h => ⟨k, h⟩

/-! f19: loop.example/g00896/impl.IsValidLocale -/
abbrev P19 : List PT := [.agg [.str, (.sl [.str, .str, .str]), (.sl [(.int .i64), (.int .i64), .str]), .str, .str]]
abbrev R19 : List RT := [.one false .bool]
noncomputable def E19 (k : Nat) : Env := mkEnv tis gl 78 [⟨34, true, false, hF34 (F34 k)⟩, ⟨35, true, false, hF35 (F35 k)⟩, ⟨36, true, false, hF36 (F36 k)⟩] [(4, [1, 34, 35, 36])] [(6, [(0, false, []), (1, false, []), (2, false, []), (3, false, []), (4, false, []), (5, false, []), (6, false, []), (7, false, []), (8, false, []), (9, false, []), (10, false, []), (11, false, []), (12, false, []), (13, false, []), (14, false, []), (15, false, []), (16, false, []), (17, false, []), (18, false, []), (19, false, []), (20, false, []), (21, false, []), (22, false, []), (23, false, []), (24, false, []), (25, false, []), (26, false, []), (27, false, []), (28, false, []), (29, false, []), (30, false, []), (31, false, [])])] 0
noncomputable def F19 (k : Nat) (x : Args P19) : Option (Res R19) := runFn (E19 k) Try.f19 k (encArgs P19 x) [] (retK R19)
abbrev hF19 (F : Args P19 → Option (Res R19)) : Hnd := hP P19 R19 F
noncomputable def G19 (k : Nat) (l : Locale) : Option (Bool × Unit) := F19 k (l, ())
noncomputable def L19_0 (k : Nat) (n : Nat) (v34 : List (Term)) (v35 : Int) (v36 : Int) (l : ByteArray) (l_1 : List (Term)) (l_2 : List (Rule)) (l_3 : ByteArray) (l_4 : ByteArray) : Option (Bool × Unit) :=
  loopAt (E19 k) k [1, 1, 0, 1, 0] [] (body Try.f19) (atEnd (E19 k) Try.f19.results.toList (retK R19)) n ⟨[(1, .v (.one (V.ptr 0 0))), (34, .v (.one (V.d (.sl [.str, .str, .str]) v34))), (35, .v (.one (V.d (.int .i64) v35))), (36, .v (.one (V.d (.int .i64) v36)))], [.box [V.d .str l, V.d (.sl [.str, .str, .str]) l_1, V.d (.sl [(.int .i64), (.int .i64), .str]) l_2, V.d .str l_3, V.d .str l_4]]⟩
theorem G19_eq (k : Nat) (l : Locale) : G19 k l =
  (G34 k l.1).bind fun (r1 : Bool × Unit) =>
  if (!r1.1) then
  some (false, ())
  else
  if (decide ((l.2.1.length : Int) > (12 : Int))) then
  some (false, ())
  else
  if (decide ((l.2.2.1.length : Int) > (6 : Int))) then
  some (false, ())
  else
  (G35 k l.2.2.2.1 (10 : Int)).bind fun (r2 : Bool × Unit) =>
  if (!r2.1) then
  some (false, ())
  else
  (G35 k l.2.2.2.2.1 (10 : Int)).bind fun (r3 : Bool × Unit) =>
  if (!r3.1) then
  some (false, ())
  else
  L19_0 k k l.2.1 ((l.2.1.length : Int)) ((0 : Int)) l.1 l.2.1 l.2.2.1 l.2.2.2.1 l.2.2.2.2.1 := by kernel_rfl
theorem L19_0_eq (k : Nat) (n : Nat) (v34 : List (Term)) (v35 : Int) (v36 : Int) (l : ByteArray) (l_1 : List (Term)) (l_2 : List (Rule)) (l_3 : ByteArray) (l_4 : ByteArray) : L19_0 k (n + 1) v34 v35 v36 l l_1 l_2 l_3 l_4 =
  if (decide (v36 < v35)) then
  if 0 ≤ v36 then
  if v36 < (v34.length : Int) then
  (G34 k ((v34.getD (v36).toNat dTerm).1)).bind fun (r1 : Bool × Unit) =>
  if (!r1.1) then
  some (false, ())
  else
  (G35 k ((v34.getD (v36).toNat dTerm).2.1) (20 : Int)).bind fun (r2 : Bool × Unit) =>
  if (!r2.1) then
  some (false, ())
  else
  (G35 k ((v34.getD (v36).toNat dTerm).2.2.1) (20 : Int)).bind fun (r3 : Bool × Unit) =>
  if (!r3.1) then
  some (false, ())
  else
  if (decide (v36 > (0 : Int))) then
  if 0 ≤ (IntKind.wrap .i64 (v36 - (1 : Int))) then
  if (IntKind.wrap .i64 (v36 - (1 : Int))) < (l_1.length : Int) then
  if ((!sLt (l_1.getD ((IntKind.wrap .i64 (v36 - (1 : Int)))).toNat dTerm).1 (v34.getD (v36).toNat dTerm).1)) then
  some (false, ())
  else
  L19_0 k n v34 v35 ((IntKind.wrap .i64 (v36 + (1 : Int)))) l l_1 l_2 l_3 l_4
  else none
  else none
  else
  L19_0 k n v34 v35 ((IntKind.wrap .i64 (v36 + (1 : Int)))) l l_1 l_2 l_3 l_4
  else none
  else none
  else
  (G36 k l_2).bind fun (r4 : Bool × Unit) =>
  some ((!r4.1), ()) := by kernel_rfl
theorem L19_0_zero (k : Nat) (v34 : List (Term)) (v35 : Int) (v36 : Int) (l : ByteArray) (l_1 : List (Term)) (l_2 : List (Rule)) (l_3 : ByteArray) (l_4 : ByteArray) : L19_0 k 0 v34 v35 v36 l l_1 l_2 l_3 l_4 = none := by kernel_rfl
theorem S19 (k : Nat) : HSound Try.prog gl 19 true (hF19 (F19 k)) :=
  hP_sound (E := E19 k) (fn := Try.f19) ⟨Try.func19, by kernel_rfl, by kernel_rfl, mixed, mkEnv_ok tis_ok (calls_cons (S34 k) (calls_cons (S35 k) (calls_cons (S36 k) calls_nil))), by kernel_rfl, by kernel_rfl, Nat.le_of_ble_eq_true (by kernel_rfl), fun _ => rfl⟩ rfl fun _ _ h => ⟨k, h⟩

/-! f20: loop.example/g00896/impl.newLocale -/
abbrev P20 : List PT := [.agg [.str, (.sl [.str, .str, .str]), (.sl [(.int .i64), (.int .i64), .str]), .str, .str]]
abbrev R20 : List RT := [.agg [(false, .str), (true, (.sl [.str, .str, .str])), (true, (.sl [(.int .i64), (.int .i64), .str])), (false, .str), (false, .str)]]
noncomputable def E20 (_ : Nat) : Env := mkEnv tis gl 14 [] [] [] 0
noncomputable def F20 (k : Nat) (x : Args P20) : Option (Res R20) := runFn (E20 k) Try.f20 k (encArgs P20 x) [] (retK R20)
abbrev hF20 (F : Args P20 → Option (Res R20)) : Hnd := hP P20 R20 F
noncomputable def G20 (k : Nat) (l : Locale) : Option (Locale × Unit) := F20 k (l, ())
theorem G20_eq (k : Nat) (l : Locale) : G20 k l =
  if (([] : List (Term)).length + l.2.1.length) * 48 ≤ 2 ^ 47 then
  if (([] : List (Rule)).length + l.2.2.1.length) * 32 ≤ 2 ^ 47 then
  some ((l.1, ([] ++ l.2.1), ([] ++ l.2.2.1), l.2.2.2.1, l.2.2.2.2.1, ()), ())
  else none
  else none := by kernel_rfl
theorem S20 (k : Nat) : HSound Try.prog gl 20 true (hF20 (F20 k)) :=
  hP_sound (E := E20 k) (fn := Try.f20) ⟨Try.func20, by kernel_rfl, by kernel_rfl, mixed, mkEnv_ok tis_ok calls_nil, by kernel_rfl, by kernel_rfl, Nat.le_of_ble_eq_true (by kernel_rfl), fun _ => rfl⟩ rfl fun _ _ h => ⟨k, h⟩



/-! f9: loop.example/g00896/impl.AddTerm -/
abbrev P9 : List PT := [.agg [.str, (.sl [.str, .str, .str]), (.sl [(.int .i64), (.int .i64), .str]), .str, .str], .agg [.str, .str, .str]]
abbrev R9 : List RT := [.agg [(false, .str), (true, (.sl [.str, .str, .str])), (true, (.sl [(.int .i64), (.int .i64), .str])), (false, .str), (false, .str)], .one false .bool]
noncomputable def E9 (k : Nat) : Env := mkEnv tis gl 65 [⟨19, true, false, hF19 (F19 k)⟩, ⟨20, true, false, hF20 (F20 k)⟩, ⟨21, false, false, hIns (.sl [.str, .str, .str]) 48⟩] [(4, [3, 4, 6, 7])] [(4, [(0, false, []), (1, false, []), (2, false, []), (3, false, []), (4, false, []), (5, false, []), (6, false, []), (7, false, []), (8, false, []), (9, false, []), (10, false, []), (11, false, []), (12, false, []), (13, false, []), (14, false, []), (15, false, [])]), (6, [(0, false, []), (1, false, []), (2, false, []), (3, false, []), (4, false, []), (5, false, []), (6, false, []), (7, false, []), (8, false, []), (9, false, []), (10, false, []), (11, false, []), (12, false, []), (13, false, []), (14, false, []), (15, false, [])])] 0
noncomputable def F9 (k : Nat) (x : Args P9) : Option (Res R9) := runFn (E9 k) Try.f9 k (encArgs P9 x) [] (retK R9)
abbrev hF9 (F : Args P9 → Option (Res R9)) : Hnd := hP P9 R9 F
noncomputable def G9 (k : Nat) (l : Locale) (t : Term) : Option (Locale × Bool × Unit) := F9 k (l, t, ())
noncomputable def L9_0 (k : Nat) (n : Nat) (vat : Int) (t : ByteArray) (t_1 : ByteArray) (t_2 : ByteArray) (v4 : ByteArray) (v4_1 : ByteArray) (v4_2 : ByteArray) (out : ByteArray) (out_1 : ByteArray) (out_2 : ByteArray) (out_3 : List (Term)) (out_4 : List (Rule)) : Option (Locale × Bool × Unit) :=
  loopAt (E9 k) k [1, 1, 1, 0, 0] [] (body Try.f9) (atEnd (E9 k) Try.f9.results.toList (retK R9)) n ⟨[(3, .v (.one (V.ptr 0 0))), (4, .v (.one (V.ptr 1 0))), (6, .v (.one (V.ptr 2 0))), (7, .v (.one (V.d (.int .i64) vat)))], [.box [V.d .str t, V.d .str t_1, V.d .str t_2], .box [V.d .str v4, V.nils, V.nils, V.d .str v4_1, V.d .str v4_2], .box [V.d .str out, V.ref 3, V.ref 4, V.d .str out_1, V.d .str out_2], .arr (.sl [.str, .str, .str]) out_3, .arr (.sl [(.int .i64), (.int .i64), .str]) out_4]⟩
theorem G9_eq (k : Nat) (l : Locale) (t : Term) : G9 k l t =
  (G19 k l).bind fun (r1 : Bool × Unit) =>
  if (!r1.1) then
  some ((ByteArray.empty, [], [], ByteArray.empty, ByteArray.empty, ()), false, ())
  else
  (G20 k l).bind fun (r2 : Locale × Unit) =>
  L9_0 k k ((0 : Int)) t.1 t.2.1 t.2.2.1 ByteArray.empty ByteArray.empty ByteArray.empty r2.1.1 r2.1.2.2.2.1 r2.1.2.2.2.2.1 r2.1.2.1 r2.1.2.2.1 := by kernel_rfl
theorem L9_0_eq (k : Nat) (n : Nat) (vat : Int) (t : ByteArray) (t_1 : ByteArray) (t_2 : ByteArray) (v4 : ByteArray) (v4_1 : ByteArray) (v4_2 : ByteArray) (out : ByteArray) (out_1 : ByteArray) (out_2 : ByteArray) (out_3 : List (Term)) (out_4 : List (Rule)) : L9_0 k (n + 1) vat t t_1 t_2 v4 v4_1 v4_2 out out_1 out_2 out_3 out_4 =
  if (decide (vat < (out_3.length : Int))) then
  if 0 ≤ vat then
  if vat < (out_3.length : Int) then
  if (sLt (out_3.getD (vat).toNat dTerm).1 t) then
  L9_0 k n ((IntKind.wrap .i64 (vat + (1 : Int)))) t t_1 t_2 v4 v4_1 v4_2 out out_1 out_2 out_3 out_4
  else
  if (decide (vat < (out_3.length : Int))) then
  if 0 ≤ vat then
  if vat < (out_3.length : Int) then
  if (sEq (out_3.getD (vat).toNat dTerm).1 t) then
  if 0 ≤ vat then
  if vat < (out_3.length : Int) then
  (G19 k (out, (out_3.set (vat).toNat (t, t_1, t_2, ())), out_4, out_1, out_2, ())).bind fun (r1 : Bool × Unit) =>
  if (!r1.1) then
  some ((ByteArray.empty, [], [], ByteArray.empty, ByteArray.empty, ()), false, ())
  else
  some ((out, (out_3.set (vat).toNat (t, t_1, t_2, ())), out_4, out_1, out_2, ()), true, ())
  else none
  else none
  else
  if 0 ≤ vat then
  if vat ≤ (out_3.length : Int) then
  if (out_3.length + ([(t, t_1, t_2, ())] : List (Term)).length) * 48 ≤ 2 ^ 47 then
  (G19 k (out, (List.take (vat).toNat out_3 ++ [(t, t_1, t_2, ())] ++ List.drop (vat).toNat out_3), out_4, out_1, out_2, ())).bind fun (r2 : Bool × Unit) =>
  if (!r2.1) then
  some ((ByteArray.empty, [], [], ByteArray.empty, ByteArray.empty, ()), false, ())
  else
  some ((out, (List.take (vat).toNat out_3 ++ [(t, t_1, t_2, ())] ++ List.drop (vat).toNat out_3), out_4, out_1, out_2, ()), true, ())
  else none
  else none
  else none
  else none
  else none
  else
  if 0 ≤ vat then
  if vat ≤ (out_3.length : Int) then
  if (out_3.length + ([(t, t_1, t_2, ())] : List (Term)).length) * 48 ≤ 2 ^ 47 then
  (G19 k (out, (List.take (vat).toNat out_3 ++ [(t, t_1, t_2, ())] ++ List.drop (vat).toNat out_3), out_4, out_1, out_2, ())).bind fun (r3 : Bool × Unit) =>
  if (!r3.1) then
  some ((ByteArray.empty, [], [], ByteArray.empty, ByteArray.empty, ()), false, ())
  else
  some ((out, (List.take (vat).toNat out_3 ++ [(t, t_1, t_2, ())] ++ List.drop (vat).toNat out_3), out_4, out_1, out_2, ()), true, ())
  else none
  else none
  else none
  else none
  else none
  else
  if (decide (vat < (out_3.length : Int))) then
  if 0 ≤ vat then
  if vat < (out_3.length : Int) then
  if (sEq (out_3.getD (vat).toNat dTerm).1 t) then
  if 0 ≤ vat then
  if vat < (out_3.length : Int) then
  (G19 k (out, (out_3.set (vat).toNat (t, t_1, t_2, ())), out_4, out_1, out_2, ())).bind fun (r4 : Bool × Unit) =>
  if (!r4.1) then
  some ((ByteArray.empty, [], [], ByteArray.empty, ByteArray.empty, ()), false, ())
  else
  some ((out, (out_3.set (vat).toNat (t, t_1, t_2, ())), out_4, out_1, out_2, ()), true, ())
  else none
  else none
  else
  if 0 ≤ vat then
  if vat ≤ (out_3.length : Int) then
  if (out_3.length + ([(t, t_1, t_2, ())] : List (Term)).length) * 48 ≤ 2 ^ 47 then
  (G19 k (out, (List.take (vat).toNat out_3 ++ [(t, t_1, t_2, ())] ++ List.drop (vat).toNat out_3), out_4, out_1, out_2, ())).bind fun (r5 : Bool × Unit) =>
  if (!r5.1) then
  some ((ByteArray.empty, [], [], ByteArray.empty, ByteArray.empty, ()), false, ())
  else
  some ((out, (List.take (vat).toNat out_3 ++ [(t, t_1, t_2, ())] ++ List.drop (vat).toNat out_3), out_4, out_1, out_2, ()), true, ())
  else none
  else none
  else none
  else none
  else none
  else
  if 0 ≤ vat then
  if vat ≤ (out_3.length : Int) then
  if (out_3.length + ([(t, t_1, t_2, ())] : List (Term)).length) * 48 ≤ 2 ^ 47 then
  (G19 k (out, (List.take (vat).toNat out_3 ++ [(t, t_1, t_2, ())] ++ List.drop (vat).toNat out_3), out_4, out_1, out_2, ())).bind fun (r6 : Bool × Unit) =>
  if (!r6.1) then
  some ((ByteArray.empty, [], [], ByteArray.empty, ByteArray.empty, ()), false, ())
  else
  some ((out, (List.take (vat).toNat out_3 ++ [(t, t_1, t_2, ())] ++ List.drop (vat).toNat out_3), out_4, out_1, out_2, ()), true, ())
  else none
  else none
  else none := by kernel_rfl
theorem L9_0_zero (k : Nat) (vat : Int) (t : ByteArray) (t_1 : ByteArray) (t_2 : ByteArray) (v4 : ByteArray) (v4_1 : ByteArray) (v4_2 : ByteArray) (out : ByteArray) (out_1 : ByteArray) (out_2 : ByteArray) (out_3 : List (Term)) (out_4 : List (Rule)) : L9_0 k 0 vat t t_1 t_2 v4 v4_1 v4_2 out out_1 out_2 out_3 out_4 = none := by kernel_rfl
theorem S9 (k : Nat) : HSound Try.prog gl 9 true (hF9 (F9 k)) :=
  hP_sound (E := E9 k) (fn := Try.f9) ⟨Try.func9, by kernel_rfl, by kernel_rfl, mixed, mkEnv_ok tis_ok (calls_cons (S19 k) (calls_cons (S20 k) (calls_cons (S21 k) calls_nil))), by kernel_rfl, by kernel_rfl, Nat.le_of_ble_eq_true (by kernel_rfl), fun _ => rfl⟩ rfl fun _ _ h => ⟨k, h⟩

/-! f41: loop.example/g00896/laws.eqTerm -/
abbrev P41 : List PT := [.agg [.str, .str, .str], .agg [.str, .str, .str]]
abbrev R41 : List RT := [.one false .bool]
noncomputable def E41 (_ : Nat) : Env := mkEnv tis gl 20 [] [] [] 0
noncomputable def F41 (k : Nat) (x : Args P41) : Option (Res R41) := runFn (E41 k) Try.f41 k (encArgs P41 x) [] (retK R41)
abbrev hF41 (F : Args P41 → Option (Res R41)) : Hnd := hP P41 R41 F
noncomputable def G41 (k : Nat) (a : Term) (b : Term) : Option (Bool × Unit) := F41 k (a, b, ())
theorem G41_eq (k : Nat) (a : Term) (b : Term) : G41 k a b =
  if ((!sEq a.1 b.1)) then
  some (false, ())
  else
  if ((!sEq a.2.1 b.2.1)) then
  some (false, ())
  else
  if ((!sEq a.2.2.1 b.2.2.1)) then
  some (false, ())
  else
  some (true, ()) := by kernel_rfl
theorem S41 (k : Nat) : HSound Try.prog gl 41 true (hF41 (F41 k)) :=
  hP_sound (E := E41 k) (fn := Try.f41) ⟨Try.func41, by kernel_rfl, by kernel_rfl, mixed, mkEnv_ok tis_ok calls_nil, by kernel_rfl, by kernel_rfl, Nat.le_of_ble_eq_true (by kernel_rfl), fun _ => rfl⟩ rfl fun _ _ h => ⟨k, h⟩

/-! f22: loop.example/g00896/laws.eqTermS -/
abbrev P22 : List PT := [.one (.sl [.str, .str, .str]), .one (.sl [.str, .str, .str])]
abbrev R22 : List RT := [.one false .bool]
noncomputable def E22 (k : Nat) : Env := mkEnv tis gl 27 [⟨41, true, false, hF41 (F41 k)⟩] [(4, [0, 1, 5])] [(6, [(0, false, []), (1, false, []), (2, false, []), (3, false, []), (4, false, []), (5, false, []), (6, false, []), (7, false, []), (8, false, []), (9, false, [])])] 0
noncomputable def F22 (k : Nat) (x : Args P22) : Option (Res R22) := runFn (E22 k) Try.f22 k (encArgs P22 x) [] (retK R22)
abbrev hF22 (F : Args P22 → Option (Res R22)) : Hnd := hP P22 R22 F
noncomputable def G22 (k : Nat) (a : List (Term)) (b : List (Term)) : Option (Bool × Unit) := F22 k (a, b, ())
noncomputable def L22_0 (k : Nat) (n : Nat) (a : List (Term)) (b : List (Term)) (i : Int) : Option (Bool × Unit) :=
  loopAt (E22 k) k [1, 1, 0, 1, 0] [] (body Try.f22) (atEnd (E22 k) Try.f22.results.toList (retK R22)) n ⟨[(0, .v (.one (V.d (.sl [.str, .str, .str]) a))), (1, .v (.one (V.d (.sl [.str, .str, .str]) b))), (5, .v (.one (V.d (.int .i64) i)))], []⟩
theorem G22_eq (k : Nat) (a : List (Term)) (b : List (Term)) : G22 k a b =
  if (((a.length : Int) != (b.length : Int))) then
  some (false, ())
  else
  L22_0 k k a b ((0 : Int)) := by kernel_rfl
theorem L22_0_eq (k : Nat) (n : Nat) (a : List (Term)) (b : List (Term)) (i : Int) : L22_0 k (n + 1) a b i =
  if (decide (i < (a.length : Int))) then
  if 0 ≤ i then
  if i < (a.length : Int) then
  if 0 ≤ i then
  if i < (b.length : Int) then
  (G41 k (a.getD (i).toNat dTerm) (b.getD (i).toNat dTerm)).bind fun (r1 : Bool × Unit) =>
  if (!r1.1) then
  some (false, ())
  else
  L22_0 k n a b ((IntKind.wrap .i64 (i + (1 : Int))))
  else none
  else none
  else none
  else none
  else
  some (true, ()) := by kernel_rfl
theorem L22_0_zero (k : Nat) (a : List (Term)) (b : List (Term)) (i : Int) : L22_0 k 0 a b i = none := by kernel_rfl
theorem S22 (k : Nat) : HSound Try.prog gl 22 true (hF22 (F22 k)) :=
  hP_sound (E := E22 k) (fn := Try.f22) ⟨Try.func22, by kernel_rfl, by kernel_rfl, mixed, mkEnv_ok tis_ok (calls_cons (S41 k) calls_nil), by kernel_rfl, by kernel_rfl, Nat.le_of_ble_eq_true (by kernel_rfl), fun _ => rfl⟩ rfl fun _ _ h => ⟨k, h⟩

/-! f42: loop.example/g00896/laws.eqOrdinalRule -/
abbrev P42 : List PT := [.agg [(.int .i64), (.int .i64), .str], .agg [(.int .i64), (.int .i64), .str]]
abbrev R42 : List RT := [.one false .bool]
noncomputable def E42 (_ : Nat) : Env := mkEnv tis gl 20 [] [] [] 0
noncomputable def F42 (k : Nat) (x : Args P42) : Option (Res R42) := runFn (E42 k) Try.f42 k (encArgs P42 x) [] (retK R42)
abbrev hF42 (F : Args P42 → Option (Res R42)) : Hnd := hP P42 R42 F
noncomputable def G42 (k : Nat) (a : Rule) (b : Rule) : Option (Bool × Unit) := F42 k (a, b, ())
theorem G42_eq (k : Nat) (a : Rule) (b : Rule) : G42 k a b =
  if ((a.1 != b.1)) then
  some (false, ())
  else
  if ((a.2.1 != b.2.1)) then
  some (false, ())
  else
  if ((!sEq a.2.2.1 b.2.2.1)) then
  some (false, ())
  else
  some (true, ()) := by kernel_rfl
theorem S42 (k : Nat) : HSound Try.prog gl 42 true (hF42 (F42 k)) :=
  hP_sound (E := E42 k) (fn := Try.f42) ⟨Try.func42, by kernel_rfl, by kernel_rfl, mixed, mkEnv_ok tis_ok calls_nil, by kernel_rfl, by kernel_rfl, Nat.le_of_ble_eq_true (by kernel_rfl), fun _ => rfl⟩ rfl fun _ _ h => ⟨k, h⟩

/-! f23: loop.example/g00896/laws.eqOrdinalRuleS -/
abbrev P23 : List PT := [.one (.sl [(.int .i64), (.int .i64), .str]), .one (.sl [(.int .i64), (.int .i64), .str])]
abbrev R23 : List RT := [.one false .bool]
noncomputable def E23 (k : Nat) : Env := mkEnv tis gl 27 [⟨42, true, false, hF42 (F42 k)⟩] [(4, [0, 1, 5])] [(6, [(0, false, []), (1, false, []), (2, false, []), (3, false, []), (4, false, []), (5, false, []), (6, false, []), (7, false, []), (8, false, []), (9, false, [])])] 0
noncomputable def F23 (k : Nat) (x : Args P23) : Option (Res R23) := runFn (E23 k) Try.f23 k (encArgs P23 x) [] (retK R23)
abbrev hF23 (F : Args P23 → Option (Res R23)) : Hnd := hP P23 R23 F
noncomputable def G23 (k : Nat) (a : List (Rule)) (b : List (Rule)) : Option (Bool × Unit) := F23 k (a, b, ())
noncomputable def L23_0 (k : Nat) (n : Nat) (a : List (Rule)) (b : List (Rule)) (i : Int) : Option (Bool × Unit) :=
  loopAt (E23 k) k [1, 1, 0, 1, 0] [] (body Try.f23) (atEnd (E23 k) Try.f23.results.toList (retK R23)) n ⟨[(0, .v (.one (V.d (.sl [(.int .i64), (.int .i64), .str]) a))), (1, .v (.one (V.d (.sl [(.int .i64), (.int .i64), .str]) b))), (5, .v (.one (V.d (.int .i64) i)))], []⟩
theorem G23_eq (k : Nat) (a : List (Rule)) (b : List (Rule)) : G23 k a b =
  if (((a.length : Int) != (b.length : Int))) then
  some (false, ())
  else
  L23_0 k k a b ((0 : Int)) := by kernel_rfl
theorem L23_0_eq (k : Nat) (n : Nat) (a : List (Rule)) (b : List (Rule)) (i : Int) : L23_0 k (n + 1) a b i =
  if (decide (i < (a.length : Int))) then
  if 0 ≤ i then
  if i < (a.length : Int) then
  if 0 ≤ i then
  if i < (b.length : Int) then
  (G42 k (a.getD (i).toNat dRule) (b.getD (i).toNat dRule)).bind fun (r1 : Bool × Unit) =>
  if (!r1.1) then
  some (false, ())
  else
  L23_0 k n a b ((IntKind.wrap .i64 (i + (1 : Int))))
  else none
  else none
  else none
  else none
  else
  some (true, ()) := by kernel_rfl
theorem L23_0_zero (k : Nat) (a : List (Rule)) (b : List (Rule)) (i : Int) : L23_0 k 0 a b i = none := by kernel_rfl
theorem S23 (k : Nat) : HSound Try.prog gl 23 true (hF23 (F23 k)) :=
  hP_sound (E := E23 k) (fn := Try.f23) ⟨Try.func23, by kernel_rfl, by kernel_rfl, mixed, mkEnv_ok tis_ok (calls_cons (S42 k) calls_nil), by kernel_rfl, by kernel_rfl, Nat.le_of_ble_eq_true (by kernel_rfl), fun _ => rfl⟩ rfl fun _ _ h => ⟨k, h⟩

/-! f10: loop.example/g00896/laws.eqLocale -/
abbrev P10 : List PT := [.agg [.str, (.sl [.str, .str, .str]), (.sl [(.int .i64), (.int .i64), .str]), .str, .str], .agg [.str, (.sl [.str, .str, .str]), (.sl [(.int .i64), (.int .i64), .str]), .str, .str]]
abbrev R10 : List RT := [.one false .bool]
noncomputable def E10 (k : Nat) : Env := mkEnv tis gl 32 [⟨22, true, false, hF22 (F22 k)⟩, ⟨23, true, false, hF23 (F23 k)⟩] [] [] 0
noncomputable def F10 (k : Nat) (x : Args P10) : Option (Res R10) := runFn (E10 k) Try.f10 k (encArgs P10 x) [] (retK R10)
abbrev hF10 (F : Args P10 → Option (Res R10)) : Hnd := hP P10 R10 F
noncomputable def G10 (k : Nat) (a : Locale) (b : Locale) : Option (Bool × Unit) := F10 k (a, b, ())
theorem G10_eq (k : Nat) (a : Locale) (b : Locale) : G10 k a b =
  if ((!sEq a.1 b.1)) then
  some (false, ())
  else
  (G22 k a.2.1 b.2.1).bind fun (r1 : Bool × Unit) =>
  if (!r1.1) then
  some (false, ())
  else
  (G23 k a.2.2.1 b.2.2.1).bind fun (r2 : Bool × Unit) =>
  if (!r2.1) then
  some (false, ())
  else
  if ((!sEq a.2.2.2.1 b.2.2.2.1)) then
  some (false, ())
  else
  if ((!sEq a.2.2.2.2.1 b.2.2.2.2.1)) then
  some (false, ())
  else
  some (true, ()) := by kernel_rfl
theorem S10 (k : Nat) : HSound Try.prog gl 10 true (hF10 (F10 k)) :=
  hP_sound (E := E10 k) (fn := Try.f10) ⟨Try.func10, by kernel_rfl, by kernel_rfl, mixed, mkEnv_ok tis_ok (calls_cons (S22 k) (calls_cons (S23 k) calls_nil)), by kernel_rfl, by kernel_rfl, Nat.le_of_ble_eq_true (by kernel_rfl), fun _ => rfl⟩ rfl fun _ _ h => ⟨k, h⟩

/-! f43: loop.example/g00896/laws.markText -/
abbrev P43 : List PT := [.one (.int .i64)]
abbrev R43 : List RT := [.one false .str]
noncomputable def E43 (_ : Nat) : Env := mkEnv tis gl 20 [] [(4, [0, 3])] [] 0
noncomputable def F43 (k : Nat) (x : Args P43) : Option (Res R43) := runFn (E43 k) Try.f43 k (encArgs P43 x) [] (retK R43)
abbrev hF43 (F : Args P43 → Option (Res R43)) : Hnd := hP P43 R43 F
noncomputable def G43 (k : Nat) (vk : Int) : Option (ByteArray × Unit) := F43 k (vk, ())
noncomputable def L43_0 (k : Nat) (n : Nat) (vk : Int) (out : ByteArray) : Option (ByteArray × Unit) :=
  loopAt (E43 k) k [1, 1, 1, 0, 0] [] (body Try.f43) (atEnd (E43 k) Try.f43.results.toList (retK R43)) n ⟨[(0, .v (.one (V.d (.int .i64) vk))), (3, .v (.one (V.d .str out)))], []⟩
theorem G43_eq (k : Nat) (vk : Int) : G43 k vk =
  if (decide (vk ≤ (0 : Int))) then
  some ((⟨#[109, 48]⟩ : ByteArray), ())
  else
  L43_0 k k vk ((⟨#[]⟩ : ByteArray)) := by kernel_rfl
theorem L43_0_eq (k : Nat) (n : Nat) (vk : Int) (out : ByteArray) : L43_0 k (n + 1) vk out =
  if (decide (vk > (0 : Int))) then
  if (10 : Int) = 0 then none else
  if (ofBytes [(IntKind.wrap .u8 (IntKind.wrap .i64 ((48 : Int) + (Int.tmod vk (10 : Int)))))]).size + out.size ≤ 9223372036854775807 then
  if (10 : Int) = 0 then none else
  L43_0 k n ((IntKind.wrap .i64 (Int.tdiv vk (10 : Int)))) (((ofBytes [(IntKind.wrap .u8 (IntKind.wrap .i64 ((48 : Int) + (Int.tmod vk (10 : Int)))))]) ++ out))
  else none
  else
  if (⟨#[109]⟩ : ByteArray).size + out.size ≤ 9223372036854775807 then
  some (((⟨#[109]⟩ : ByteArray) ++ out), ())
  else none := by kernel_rfl
theorem L43_0_zero (k : Nat) (vk : Int) (out : ByteArray) : L43_0 k 0 vk out = none := by kernel_rfl
theorem S43 (k : Nat) : HSound Try.prog gl 43 true (hF43 (F43 k)) :=
  hP_sound (E := E43 k) (fn := Try.f43) ⟨Try.func43, by kernel_rfl, by kernel_rfl, mixed, mkEnv_ok tis_ok calls_nil, by kernel_rfl, by kernel_rfl, Nat.le_of_ble_eq_true (by kernel_rfl), fun _ => rfl⟩ rfl fun _ _ h => ⟨k, h⟩

/-! f24: loop.example/g00896/laws.markTermS -/
abbrev P24 : List RT := [.one true (.sl [.str, .str, .str]), .one false (.int .i64)]
abbrev R24 : List RT := [.one false (.int .i64)]
noncomputable def E24 (k : Nat) : Env := mkEnv tis gl 37 [⟨43, true, false, hF43 (F43 k)⟩] [(2, [0, 1, 5])] [] 1
noncomputable def F24 (k : Nat) (x : Res P24) : Option (Res R24 × Owns P24) := runFn (E24 k) Try.f24 k (encRes P24 x 0) (blkRes P24 x) (retM R24 P24)
abbrev hF24 (F : Res P24 → Option (Res R24 × Owns P24)) : Hnd := hM P24 R24 F
noncomputable def G24 (k : Nat) (a : List (Term)) (vk : Int) : Option ((Int × Unit) × ((List (Term)) × Unit)) := F24 k (a, vk, ())
noncomputable def L24_0 (k : Nat) (n : Nat) (vk : Int) (i : Int) (a : List (Term)) : Option ((Int × Unit) × ((List (Term)) × Unit)) :=
  loopAt (E24 k) k [1, 0, 1, 0] [] (body Try.f24) (atEnd (E24 k) Try.f24.results.toList (retM R24 P24)) n ⟨[(0, .v (.one (V.ref 0))), (1, .v (.one (V.d (.int .i64) vk))), (5, .v (.one (V.d (.int .i64) i)))], [.arr (.sl [.str, .str, .str]) a]⟩
theorem G24_eq (k : Nat) (a : List (Term)) (vk : Int) : G24 k a vk =
  L24_0 k k vk ((0 : Int)) a := by kernel_rfl
theorem L24_0_eq (k : Nat) (n : Nat) (vk : Int) (i : Int) (a : List (Term)) : L24_0 k (n + 1) vk i a =
  if (decide (i < (a.length : Int))) then
  (G43 k vk).bind fun (r1 : ByteArray × Unit) =>
  if 0 ≤ i then
  if i < (a.length : Int) then
  (G43 k (IntKind.wrap .i64 (vk + (1 : Int)))).bind fun (r2 : ByteArray × Unit) =>
  if 0 ≤ i then
  if i < ((a.set (i).toNat (r1.1, (a.getD (i).toNat dTerm).2.1, (a.getD (i).toNat dTerm).2.2.1, ())).length : Int) then
  (G43 k (IntKind.wrap .i64 ((IntKind.wrap .i64 (vk + (1 : Int))) + (1 : Int)))).bind fun (r3 : ByteArray × Unit) =>
  if 0 ≤ i then
  if i < (((a.set (i).toNat (r1.1, (a.getD (i).toNat dTerm).2.1, (a.getD (i).toNat dTerm).2.2.1, ())).set (i).toNat (((a.set (i).toNat (r1.1, (a.getD (i).toNat dTerm).2.1, (a.getD (i).toNat dTerm).2.2.1, ())).getD (i).toNat dTerm).1, r2.1, ((a.set (i).toNat (r1.1, (a.getD (i).toNat dTerm).2.1, (a.getD (i).toNat dTerm).2.2.1, ())).getD (i).toNat dTerm).2.2.1, ())).length : Int) then
  L24_0 k n ((IntKind.wrap .i64 ((IntKind.wrap .i64 ((IntKind.wrap .i64 (vk + (1 : Int))) + (1 : Int))) + (1 : Int)))) ((IntKind.wrap .i64 (i + (1 : Int)))) ((((a.set (i).toNat (r1.1, (a.getD (i).toNat dTerm).2.1, (a.getD (i).toNat dTerm).2.2.1, ())).set (i).toNat (((a.set (i).toNat (r1.1, (a.getD (i).toNat dTerm).2.1, (a.getD (i).toNat dTerm).2.2.1, ())).getD (i).toNat dTerm).1, r2.1, ((a.set (i).toNat (r1.1, (a.getD (i).toNat dTerm).2.1, (a.getD (i).toNat dTerm).2.2.1, ())).getD (i).toNat dTerm).2.2.1, ())).set (i).toNat ((((a.set (i).toNat (r1.1, (a.getD (i).toNat dTerm).2.1, (a.getD (i).toNat dTerm).2.2.1, ())).set (i).toNat (((a.set (i).toNat (r1.1, (a.getD (i).toNat dTerm).2.1, (a.getD (i).toNat dTerm).2.2.1, ())).getD (i).toNat dTerm).1, r2.1, ((a.set (i).toNat (r1.1, (a.getD (i).toNat dTerm).2.1, (a.getD (i).toNat dTerm).2.2.1, ())).getD (i).toNat dTerm).2.2.1, ())).getD (i).toNat dTerm).1, (((a.set (i).toNat (r1.1, (a.getD (i).toNat dTerm).2.1, (a.getD (i).toNat dTerm).2.2.1, ())).set (i).toNat (((a.set (i).toNat (r1.1, (a.getD (i).toNat dTerm).2.1, (a.getD (i).toNat dTerm).2.2.1, ())).getD (i).toNat dTerm).1, r2.1, ((a.set (i).toNat (r1.1, (a.getD (i).toNat dTerm).2.1, (a.getD (i).toNat dTerm).2.2.1, ())).getD (i).toNat dTerm).2.2.1, ())).getD (i).toNat dTerm).2.1, r3.1, ())))
  else none
  else none
  else none
  else none
  else none
  else none
  else
  some ((vk, ()), (a, ())) := by kernel_rfl
theorem L24_0_zero (k : Nat) (vk : Int) (i : Int) (a : List (Term)) : L24_0 k 0 vk i a = none := by kernel_rfl
theorem S24 (k : Nat) : HSound Try.prog gl 24 false (hF24 (F24 k)) :=
  hM_sound (E := E24 k) (fn := Try.f24) ⟨Try.func24, by kernel_rfl, by kernel_rfl, mixed, mkEnv_ok tis_ok (calls_cons (S43 k) calls_nil), by kernel_rfl, by kernel_rfl, Nat.le_of_ble_eq_true (by kernel_rfl), fun _ => rfl⟩ rfl fun _ _ h => ⟨k, h⟩

/-! f25: loop.example/g00896/laws.markOrdinalRuleS -/
abbrev P25 : List RT := [.one true (.sl [(.int .i64), (.int .i64), .str]), .one false (.int .i64)]
abbrev R25 : List RT := [.one false (.int .i64)]
noncomputable def E25 (k : Nat) : Env := mkEnv tis gl 35 [⟨43, true, false, hF43 (F43 k)⟩] [(2, [0, 1, 5])] [] 1
noncomputable def F25 (k : Nat) (x : Res P25) : Option (Res R25 × Owns P25) := runFn (E25 k) Try.f25 k (encRes P25 x 0) (blkRes P25 x) (retM R25 P25)
abbrev hF25 (F : Res P25 → Option (Res R25 × Owns P25)) : Hnd := hM P25 R25 F
noncomputable def G25 (k : Nat) (a : List (Rule)) (vk : Int) : Option ((Int × Unit) × ((List (Rule)) × Unit)) := F25 k (a, vk, ())
noncomputable def L25_0 (k : Nat) (n : Nat) (vk : Int) (i : Int) (a : List (Rule)) : Option ((Int × Unit) × ((List (Rule)) × Unit)) :=
  loopAt (E25 k) k [1, 0, 1, 0] [] (body Try.f25) (atEnd (E25 k) Try.f25.results.toList (retM R25 P25)) n ⟨[(0, .v (.one (V.ref 0))), (1, .v (.one (V.d (.int .i64) vk))), (5, .v (.one (V.d (.int .i64) i)))], [.arr (.sl [(.int .i64), (.int .i64), .str]) a]⟩
theorem G25_eq (k : Nat) (a : List (Rule)) (vk : Int) : G25 k a vk =
  L25_0 k k vk ((0 : Int)) a := by kernel_rfl
theorem L25_0_eq (k : Nat) (n : Nat) (vk : Int) (i : Int) (a : List (Rule)) : L25_0 k (n + 1) vk i a =
  if (decide (i < (a.length : Int))) then
  if 0 ≤ i then
  if i < (a.length : Int) then
  if 0 ≤ i then
  if i < ((a.set (i).toNat (vk, (a.getD (i).toNat dRule).2.1, (a.getD (i).toNat dRule).2.2.1, ())).length : Int) then
  (G43 k (IntKind.wrap .i64 ((IntKind.wrap .i64 (vk + (1 : Int))) + (1 : Int)))).bind fun (r1 : ByteArray × Unit) =>
  if 0 ≤ i then
  if i < (((a.set (i).toNat (vk, (a.getD (i).toNat dRule).2.1, (a.getD (i).toNat dRule).2.2.1, ())).set (i).toNat (((a.set (i).toNat (vk, (a.getD (i).toNat dRule).2.1, (a.getD (i).toNat dRule).2.2.1, ())).getD (i).toNat dRule).1, (IntKind.wrap .i64 (vk + (1 : Int))), ((a.set (i).toNat (vk, (a.getD (i).toNat dRule).2.1, (a.getD (i).toNat dRule).2.2.1, ())).getD (i).toNat dRule).2.2.1, ())).length : Int) then
  L25_0 k n ((IntKind.wrap .i64 ((IntKind.wrap .i64 ((IntKind.wrap .i64 (vk + (1 : Int))) + (1 : Int))) + (1 : Int)))) ((IntKind.wrap .i64 (i + (1 : Int)))) ((((a.set (i).toNat (vk, (a.getD (i).toNat dRule).2.1, (a.getD (i).toNat dRule).2.2.1, ())).set (i).toNat (((a.set (i).toNat (vk, (a.getD (i).toNat dRule).2.1, (a.getD (i).toNat dRule).2.2.1, ())).getD (i).toNat dRule).1, (IntKind.wrap .i64 (vk + (1 : Int))), ((a.set (i).toNat (vk, (a.getD (i).toNat dRule).2.1, (a.getD (i).toNat dRule).2.2.1, ())).getD (i).toNat dRule).2.2.1, ())).set (i).toNat ((((a.set (i).toNat (vk, (a.getD (i).toNat dRule).2.1, (a.getD (i).toNat dRule).2.2.1, ())).set (i).toNat (((a.set (i).toNat (vk, (a.getD (i).toNat dRule).2.1, (a.getD (i).toNat dRule).2.2.1, ())).getD (i).toNat dRule).1, (IntKind.wrap .i64 (vk + (1 : Int))), ((a.set (i).toNat (vk, (a.getD (i).toNat dRule).2.1, (a.getD (i).toNat dRule).2.2.1, ())).getD (i).toNat dRule).2.2.1, ())).getD (i).toNat dRule).1, (((a.set (i).toNat (vk, (a.getD (i).toNat dRule).2.1, (a.getD (i).toNat dRule).2.2.1, ())).set (i).toNat (((a.set (i).toNat (vk, (a.getD (i).toNat dRule).2.1, (a.getD (i).toNat dRule).2.2.1, ())).getD (i).toNat dRule).1, (IntKind.wrap .i64 (vk + (1 : Int))), ((a.set (i).toNat (vk, (a.getD (i).toNat dRule).2.1, (a.getD (i).toNat dRule).2.2.1, ())).getD (i).toNat dRule).2.2.1, ())).getD (i).toNat dRule).2.1, r1.1, ())))
  else none
  else none
  else none
  else none
  else none
  else none
  else
  some ((vk, ()), (a, ())) := by kernel_rfl
theorem L25_0_zero (k : Nat) (vk : Int) (i : Int) (a : List (Rule)) : L25_0 k 0 vk i a = none := by kernel_rfl
theorem S25 (k : Nat) : HSound Try.prog gl 25 false (hF25 (F25 k)) :=
  hM_sound (E := E25 k) (fn := Try.f25) ⟨Try.func25, by kernel_rfl, by kernel_rfl, mixed, mkEnv_ok tis_ok (calls_cons (S43 k) calls_nil), by kernel_rfl, by kernel_rfl, Nat.le_of_ble_eq_true (by kernel_rfl), fun _ => rfl⟩ rfl fun _ _ h => ⟨k, h⟩

/-! f11: loop.example/g00896/laws.markLocale -/
abbrev P11 : List RT := [.agg [(false, .str), (true, (.sl [.str, .str, .str])), (true, (.sl [(.int .i64), (.int .i64), .str])), (false, .str), (false, .str)], .one false (.int .i64)]
abbrev R11 : List RT := [.one false (.int .i64)]
noncomputable def E11 (k : Nat) : Env := mkEnv tis gl 14 [⟨24, false, false, hF24 (F24 k)⟩, ⟨25, false, false, hF25 (F25 k)⟩] [] [] 2
noncomputable def F11 (k : Nat) (x : Res P11) : Option (Res R11 × Owns P11) := runFn (E11 k) Try.f11 k (encRes P11 x 0) (blkRes P11 x) (retM R11 P11)
abbrev hF11 (F : Res P11 → Option (Res R11 × Owns P11)) : Hnd := hM P11 R11 F
noncomputable def G11 (k : Nat) (a : Locale) (vk : Int) : Option ((Int × Unit) × ((List (Term)) × (List (Rule)) × Unit)) := F11 k (a, vk, ())
theorem G11_eq (k : Nat) (a : Locale) (vk : Int) : G11 k a vk =
  (G24 k a.2.1 vk).bind fun (r1 : (Int × Unit) × ((List (Term)) × Unit)) =>
  (G25 k a.2.2.1 r1.1.1).bind fun (r2 : (Int × Unit) × ((List (Rule)) × Unit)) =>
  some ((r2.1.1, ()), (r1.2.1, r2.2.1, ())) := by kernel_rfl
theorem S11 (k : Nat) : HSound Try.prog gl 11 false (hF11 (F11 k)) :=
  hM_sound (E := E11 k) (fn := Try.f11) ⟨Try.func11, by kernel_rfl, by kernel_rfl, mixed, mkEnv_ok tis_ok (calls_cons (S24 k) (calls_cons (S25 k) calls_nil)), by kernel_rfl, by kernel_rfl, Nat.le_of_ble_eq_true (by kernel_rfl), fun _ => rfl⟩ rfl fun _ _ h => ⟨k, h⟩

/-! f26: loop.example/g00896/laws.heldTermS -/
abbrev P26 : List PT := [.one (.sl [.str, .str, .str]), .one (.int .i64)]
abbrev R26 : List RT := [.one false (.int .i64)]
noncomputable def E26 (k : Nat) : Env := mkEnv tis gl 43 [⟨43, true, false, hF43 (F43 k)⟩] [(2, [0, 1, 5])] [(4, [(0, false, []), (1, false, []), (2, false, []), (3, false, []), (4, false, []), (5, false, []), (6, false, []), (7, false, [])]), (7, [(0, false, []), (1, false, []), (2, false, []), (3, false, []), (4, false, []), (5, false, []), (6, false, []), (7, false, [])]), (10, [(0, false, []), (1, false, []), (2, false, []), (3, false, []), (4, false, []), (5, false, []), (6, false, []), (7, false, [])])] 0
noncomputable def F26 (k : Nat) (x : Args P26) : Option (Res R26) := runFn (E26 k) Try.f26 k (encArgs P26 x) [] (retK R26)
abbrev hF26 (F : Args P26 → Option (Res R26)) : Hnd := hP P26 R26 F
noncomputable def G26 (k : Nat) (a : List (Term)) (vk : Int) : Option (Int × Unit) := F26 k (a, vk, ())
noncomputable def L26_0 (k : Nat) (n : Nat) (a : List (Term)) (vk : Int) (i : Int) : Option (Int × Unit) :=
  loopAt (E26 k) k [1, 0, 1, 0] [] (body Try.f26) (atEnd (E26 k) Try.f26.results.toList (retK R26)) n ⟨[(0, .v (.one (V.d (.sl [.str, .str, .str]) a))), (1, .v (.one (V.d (.int .i64) vk))), (5, .v (.one (V.d (.int .i64) i)))], []⟩
theorem G26_eq (k : Nat) (a : List (Term)) (vk : Int) : G26 k a vk =
  L26_0 k k a vk ((0 : Int)) := by kernel_rfl
theorem L26_0_eq (k : Nat) (n : Nat) (a : List (Term)) (vk : Int) (i : Int) : L26_0 k (n + 1) a vk i =
  if (decide (i < (a.length : Int))) then
  if 0 ≤ i then
  if i < (a.length : Int) then
  (G43 k vk).bind fun (r1 : ByteArray × Unit) =>
  if ((!sEq (a.getD (i).toNat dTerm).1 r1.1)) then
  some ((-1 : Int), ())
  else
  if 0 ≤ i then
  if i < (a.length : Int) then
  (G43 k (IntKind.wrap .i64 (vk + (1 : Int)))).bind fun (r2 : ByteArray × Unit) =>
  if ((!sEq (a.getD (i).toNat dTerm).2.1 r2.1)) then
  some ((-1 : Int), ())
  else
  if 0 ≤ i then
  if i < (a.length : Int) then
  (G43 k (IntKind.wrap .i64 ((IntKind.wrap .i64 (vk + (1 : Int))) + (1 : Int)))).bind fun (r3 : ByteArray × Unit) =>
  if ((!sEq (a.getD (i).toNat dTerm).2.2.1 r3.1)) then
  some ((-1 : Int), ())
  else
  L26_0 k n a ((IntKind.wrap .i64 ((IntKind.wrap .i64 ((IntKind.wrap .i64 (vk + (1 : Int))) + (1 : Int))) + (1 : Int)))) ((IntKind.wrap .i64 (i + (1 : Int))))
  else none
  else none
  else none
  else none
  else none
  else none
  else
  some (vk, ()) := by kernel_rfl
theorem L26_0_zero (k : Nat) (a : List (Term)) (vk : Int) (i : Int) : L26_0 k 0 a vk i = none := by kernel_rfl
theorem S26 (k : Nat) : HSound Try.prog gl 26 true (hF26 (F26 k)) :=
  hP_sound (E := E26 k) (fn := Try.f26) ⟨Try.func26, by kernel_rfl, by kernel_rfl, mixed, mkEnv_ok tis_ok (calls_cons (S43 k) calls_nil), by kernel_rfl, by kernel_rfl, Nat.le_of_ble_eq_true (by kernel_rfl), fun _ => rfl⟩ rfl fun _ _ h => ⟨k, h⟩

/-! f27: loop.example/g00896/laws.heldOrdinalRuleS -/
abbrev P27 : List PT := [.one (.sl [(.int .i64), (.int .i64), .str]), .one (.int .i64)]
abbrev R27 : List RT := [.one false (.int .i64)]
noncomputable def E27 (k : Nat) : Env := mkEnv tis gl 41 [⟨43, true, false, hF43 (F43 k)⟩] [(2, [0, 1, 5])] [(10, [(0, false, []), (1, false, []), (2, false, []), (3, false, []), (4, false, []), (5, false, []), (6, false, []), (7, false, [])])] 0
noncomputable def F27 (k : Nat) (x : Args P27) : Option (Res R27) := runFn (E27 k) Try.f27 k (encArgs P27 x) [] (retK R27)
abbrev hF27 (F : Args P27 → Option (Res R27)) : Hnd := hP P27 R27 F
noncomputable def G27 (k : Nat) (a : List (Rule)) (vk : Int) : Option (Int × Unit) := F27 k (a, vk, ())
noncomputable def L27_0 (k : Nat) (n : Nat) (a : List (Rule)) (vk : Int) (i : Int) : Option (Int × Unit) :=
  loopAt (E27 k) k [1, 0, 1, 0] [] (body Try.f27) (atEnd (E27 k) Try.f27.results.toList (retK R27)) n ⟨[(0, .v (.one (V.d (.sl [(.int .i64), (.int .i64), .str]) a))), (1, .v (.one (V.d (.int .i64) vk))), (5, .v (.one (V.d (.int .i64) i)))], []⟩
theorem G27_eq (k : Nat) (a : List (Rule)) (vk : Int) : G27 k a vk =
  L27_0 k k a vk ((0 : Int)) := by kernel_rfl
theorem L27_0_eq (k : Nat) (n : Nat) (a : List (Rule)) (vk : Int) (i : Int) : L27_0 k (n + 1) a vk i =
  if (decide (i < (a.length : Int))) then
  if 0 ≤ i then
  if i < (a.length : Int) then
  if (((a.getD (i).toNat dRule).1 != vk)) then
  some ((-1 : Int), ())
  else
  if 0 ≤ i then
  if i < (a.length : Int) then
  if (((a.getD (i).toNat dRule).2.1 != (IntKind.wrap .i64 (vk + (1 : Int))))) then
  some ((-1 : Int), ())
  else
  if 0 ≤ i then
  if i < (a.length : Int) then
  (G43 k (IntKind.wrap .i64 ((IntKind.wrap .i64 (vk + (1 : Int))) + (1 : Int)))).bind fun (r1 : ByteArray × Unit) =>
  if ((!sEq (a.getD (i).toNat dRule).2.2.1 r1.1)) then
  some ((-1 : Int), ())
  else
  L27_0 k n a ((IntKind.wrap .i64 ((IntKind.wrap .i64 ((IntKind.wrap .i64 (vk + (1 : Int))) + (1 : Int))) + (1 : Int)))) ((IntKind.wrap .i64 (i + (1 : Int))))
  else none
  else none
  else none
  else none
  else none
  else none
  else
  some (vk, ()) := by kernel_rfl
theorem L27_0_zero (k : Nat) (a : List (Rule)) (vk : Int) (i : Int) : L27_0 k 0 a vk i = none := by kernel_rfl
theorem S27 (k : Nat) : HSound Try.prog gl 27 true (hF27 (F27 k)) :=
  hP_sound (E := E27 k) (fn := Try.f27) ⟨Try.func27, by kernel_rfl, by kernel_rfl, mixed, mkEnv_ok tis_ok (calls_cons (S43 k) calls_nil), by kernel_rfl, by kernel_rfl, Nat.le_of_ble_eq_true (by kernel_rfl), fun _ => rfl⟩ rfl fun _ _ h => ⟨k, h⟩

/-! f12: loop.example/g00896/laws.heldLocale -/
abbrev P12 : List PT := [.agg [.str, (.sl [.str, .str, .str]), (.sl [(.int .i64), (.int .i64), .str]), .str, .str], .one (.int .i64)]
abbrev R12 : List RT := [.one false (.int .i64)]
noncomputable def E12 (k : Nat) : Env := mkEnv tis gl 18 [⟨26, true, false, hF26 (F26 k)⟩, ⟨27, true, false, hF27 (F27 k)⟩] [] [] 0
noncomputable def F12 (k : Nat) (x : Args P12) : Option (Res R12) := runFn (E12 k) Try.f12 k (encArgs P12 x) [] (retK R12)
abbrev hF12 (F : Args P12 → Option (Res R12)) : Hnd := hP P12 R12 F
noncomputable def G12 (k : Nat) (a : Locale) (vk : Int) : Option (Int × Unit) := F12 k (a, vk, ())
theorem G12_eq (k : Nat) (a : Locale) (vk : Int) : G12 k a vk =
  (G26 k a.2.1 vk).bind fun (r1 : Int × Unit) =>
  if (decide (r1.1 < (0 : Int))) then
  some ((-1 : Int), ())
  else
  (G27 k a.2.2.1 r1.1).bind fun (r2 : Int × Unit) =>
  if (decide (r2.1 < (0 : Int))) then
  some ((-1 : Int), ())
  else
  some (r2.1, ()) := by kernel_rfl
theorem S12 (k : Nat) : HSound Try.prog gl 12 true (hF12 (F12 k)) :=
  hP_sound (E := E12 k) (fn := Try.f12) ⟨Try.func12, by kernel_rfl, by kernel_rfl, mixed, mkEnv_ok tis_ok (calls_cons (S26 k) (calls_cons (S27 k) calls_nil)), by kernel_rfl, by kernel_rfl, Nat.le_of_ble_eq_true (by kernel_rfl), fun _ => rfl⟩ rfl fun _ _ h => ⟨k, h⟩

/-! f3: loop.example/g00896/laws.FnExactAddTerm -/
abbrev P3 : List PT := [.agg [.str, (.sl [.str, .str, .str]), (.sl [(.int .i64), (.int .i64), .str]), .str, .str], .agg [.str, .str, .str]]
abbrev R3 : List RT := [.one false .bool]
noncomputable def E3 (k : Nat) : Env := mkEnv tis gl 109 [⟨4, true, false, hF4 (F4 k)⟩, ⟨5, true, false, hF5 (F5 k)⟩, ⟨6, true, false, hF6 (F6 k)⟩, ⟨7, true, false, hF7 (F7 k)⟩, ⟨8, true, false, hF8 (F8 k)⟩, ⟨9, true, false, hF9 (F9 k)⟩, ⟨10, true, false, hF10 (F10 k)⟩, ⟨11, false, false, hF11 (F11 k)⟩, ⟨12, true, false, hF12 (F12 k)⟩] [] [(8, [(0, false, []), (2, false, []), (1, false, [8]), (3, false, [8]), (4, false, [8]), (5, false, []), (6, false, []), (7, false, []), (8, false, [8]), (9, false, []), (10, false, [])]), (10, [(0, false, []), (1, false, []), (2, false, [7]), (3, false, [7]), (4, false, []), (5, false, []), (6, false, []), (7, false, [7]), (8, false, []), (9, false, [])]), (13, [(0, false, []), (1, false, []), (2, false, []), (3, false, []), (4, false, [])]), (27, [(0, false, []), (2, false, []), (1, false, [8]), (3, false, [8]), (4, false, [8]), (5, false, []), (6, false, []), (7, false, []), (8, false, [8]), (9, false, []), (10, false, [])])] 0
noncomputable def F3 (k : Nat) (x : Args P3) : Option (Res R3) := runFn (E3 k) Try.f3 k (encArgs P3 x) [] (retK R3)
abbrev hF3 (F : Args P3 → Option (Res R3)) : Hnd := hP P3 R3 F
noncomputable def G3 (k : Nat) (aL : Locale) (aT : Term) : Option (Bool × Unit) := F3 k (aL, aT, ())
theorem G3_eq (k : Nat) (aL : Locale) (aT : Term) : G3 k aL aT =
  (G4 k aL (1048576 : Int)).bind fun (r1 : Int × Unit) =>
  if (decide (r1.1 < (0 : Int))) then
  some (true, ())
  else
  (G5 k aT r1.1).bind fun (r2 : Int × Unit) =>
  if (decide (r2.1 < (0 : Int))) then
  some (true, ())
  else
  (G7 k aL).bind fun (r3 : Locale × Unit) =>
  (G8 k aT).bind fun (r4 : Term × Unit) =>
  (G6 k r3.1 r4.1).bind fun (r5 : Locale × Bool × Unit) =>
  (G7 k aL).bind fun (r6 : Locale × Unit) =>
  (G8 k aT).bind fun (r7 : Term × Unit) =>
  (G9 k r6.1 r7.1).bind fun (r8 : Locale × Bool × Unit) =>
  (G10 k r8.1 r5.1).bind fun (r9 : Bool × Unit) =>
  if (!r9.1) then
  some (false, ())
  else
  if (!(r8.2.1 == r5.2.1)) then
  some (false, ())
  else
  (G7 k aL).bind fun (r10 : Locale × Unit) =>
  (G10 k r6.1 r10.1).bind fun (r11 : Bool × Unit) =>
  if (!r11.1) then
  some (false, ())
  else
  (G11 k r6.1 (1 : Int)).bind fun (r12 : (Int × Unit) × ((List (Term)) × (List (Rule)) × Unit)) =>
  if (decide (r12.1.1 < (0 : Int))) then
  some (false, ())
  else
  (G10 k r8.1 r5.1).bind fun (r13 : Bool × Unit) =>
  if (!r13.1) then
  some (false, ())
  else
  if (!(r8.2.1 == r5.2.1)) then
  some (false, ())
  else
  (G11 k r8.1 (1 : Int)).bind fun (r14 : (Int × Unit) × ((List (Term)) × (List (Rule)) × Unit)) =>
  (G12 k (r8.1.1, r14.2.1, r14.2.2.1, r8.1.2.2.2.1, r8.1.2.2.2.2.1, ()) (1 : Int)).bind fun (r15 : Int × Unit) =>
  if (decide (r15.1 < (0 : Int))) then
  some (false, ())
  else
  if ((r15.1 != r14.1.1)) then
  some (false, ())
  else
  (G7 k aL).bind fun (r16 : Locale × Unit) =>
  (G8 k aT).bind fun (r17 : Term × Unit) =>
  (G9 k r16.1 r17.1).bind fun (r18 : Locale × Bool × Unit) =>
  (G10 k r18.1 r5.1).bind fun (r19 : Bool × Unit) =>
  if (!r19.1) then
  some (false, ())
  else
  if (!(r18.2.1 == r5.2.1)) then
  some (false, ())
  else
  (G12 k (r8.1.1, r14.2.1, r14.2.2.1, r8.1.2.2.2.1, r8.1.2.2.2.2.1, ()) (1 : Int)).bind fun (r20 : Int × Unit) =>
  if (decide (r20.1 < (0 : Int))) then
  some (false, ())
  else
  if ((r20.1 != r14.1.1)) then
  some (false, ())
  else
  some (true, ()) := by kernel_rfl
theorem S3 (k : Nat) : HSound Try.prog gl 3 true (hF3 (F3 k)) :=
  hP_sound (E := E3 k) (fn := Try.f3) ⟨Try.func3, by kernel_rfl, by kernel_rfl, mixed, mkEnv_ok tis_ok (calls_cons (S4 k) (calls_cons (S5 k) (calls_cons (S6 k) (calls_cons (S7 k) (calls_cons (S8 k) (calls_cons (S9 k) (calls_cons (S10 k) (calls_cons (S11 k) (calls_cons (S12 k) calls_nil))))))))), by kernel_rfl, by kernel_rfl, Nat.le_of_ble_eq_true (by kernel_rfl), fun _ => rfl⟩ rfl fun _ _ h => ⟨k, h⟩

/-! f59: internal/bytealg.Cutover -/
abbrev P59 : List PT := [.one (.int .i64)]
abbrev R59 : List RT := [.one false (.int .i64)]
noncomputable def E59 (_ : Nat) : Env := mkEnv tis gl 6 [] [] [] 0
noncomputable def F59 (k : Nat) (x : Args P59) : Option (Res R59) := runFn (E59 k) Try.f59 k (encArgs P59 x) [] (retK R59)
abbrev hF59 (F : Args P59 → Option (Res R59)) : Hnd := hP P59 R59 F
noncomputable def G59 (k : Nat) (vn : Int) : Option (Int × Unit) := F59 k (vn, ())
theorem G59_eq (k : Nat) (vn : Int) : G59 k vn =
  if (8 : Int) = 0 then none else
  some ((IntKind.wrap .i64 (Int.tdiv (IntKind.wrap .i64 (vn + (16 : Int))) (8 : Int))), ()) := by kernel_rfl
theorem S59 (k : Nat) : HSound Try.prog gl 59 true (hF59 (F59 k)) :=
  hP_sound (E := E59 k) (fn := Try.f59) ⟨Try.func59, by kernel_rfl, by kernel_rfl, mixed, mkEnv_ok tis_ok calls_nil, by kernel_rfl, by kernel_rfl, Nat.le_of_ble_eq_true (by kernel_rfl), fun _ => rfl⟩ rfl fun _ _ h => ⟨k, h⟩

/-! f62: internal/bytealg.hashStr[string] -/
abbrev P62 : List PT := [.one .str]
abbrev R62 : List RT := [.one false (.int .u32), .one false (.int .u32)]
noncomputable def E62 (_ : Nat) : Env := mkEnv tis gl 39 [] [(3, [0, 4, 5]), (8, [4, 6, 7, 8])] [] 0
noncomputable def F62 (k : Nat) (x : Args P62) : Option (Res R62) := runFn (E62 k) Try.f62 k (encArgs P62 x) [] (retK R62)
abbrev hF62 (F : Args P62 → Option (Res R62)) : Hnd := hP P62 R62 F
noncomputable def G62 (k : Nat) (sep : ByteArray) : Option (Int × Int × Unit) := F62 k (sep, ())
noncomputable def L62_0 (k : Nat) (n : Nat) (sep : ByteArray) (hash : Int) (i : Int) : Option (Int × Int × Unit) :=
  loopAt (E62 k) k [1, 1, 0, 1, 0] [] (body Try.f62) (atEnd (E62 k) Try.f62.results.toList (retK R62)) n ⟨[(0, .v (.one (V.d .str sep))), (4, .v (.one (V.d (.int .u32) hash))), (5, .v (.one (V.d (.int .i64) i)))], []⟩
noncomputable def L62_1 (k : Nat) (n : Nat) (hash : Int) (pow : Int) (sq : Int) (i : Int) : Option (Int × Int × Unit) :=
  loopAt (E62 k) k [1, 1, 1, 1, 0, 1, 0] [] (body Try.f62) (atEnd (E62 k) Try.f62.results.toList (retK R62)) n ⟨[(4, .v (.one (V.d (.int .u32) hash))), (6, .v (.one (V.d (.int .u32) pow))), (7, .v (.one (V.d (.int .u32) sq))), (8, .v (.one (V.d (.int .i64) i)))], []⟩
theorem G62_eq (k : Nat) (sep : ByteArray) : G62 k sep =
  L62_0 k k sep ((0 : Int)) ((0 : Int)) := by kernel_rfl
theorem L62_0_eq (k : Nat) (n : Nat) (sep : ByteArray) (hash : Int) (i : Int) : L62_0 k (n + 1) sep hash i =
  if (decide (i < (sep.size : Int))) then
  if 0 ≤ i then
  if i < (sep.size : Int) then
  L62_0 k n sep ((IntKind.wrap .u32 ((IntKind.wrap .u32 (hash * (16777619 : Int))) + (IntKind.wrap .u32 (bt sep i))))) ((IntKind.wrap .i64 (i + (1 : Int))))
  else none
  else none
  else
  L62_1 k k hash ((1 : Int)) ((16777619 : Int)) ((sep.size : Int)) := by kernel_rfl
theorem L62_0_zero (k : Nat) (sep : ByteArray) (hash : Int) (i : Int) : L62_0 k 0 sep hash i = none := by kernel_rfl
theorem L62_1_eq (k : Nat) (n : Nat) (hash : Int) (pow : Int) (sq : Int) (i : Int) : L62_1 k (n + 1) hash pow sq i =
  if (decide (i > (0 : Int))) then
  if (((bits .and .i64 i (1 : Int)) != (0 : Int))) then
  if (1 : Int) < 0 then none else
  L62_1 k n hash ((IntKind.wrap .u32 (pow * sq))) ((IntKind.wrap .u32 (sq * sq))) ((Int.fdiv i ((2 : Int) ^ (min ((1 : Int)).toNat 64))))
  else
  if (1 : Int) < 0 then none else
  L62_1 k n hash pow ((IntKind.wrap .u32 (sq * sq))) ((Int.fdiv i ((2 : Int) ^ (min ((1 : Int)).toNat 64))))
  else
  some (hash, pow, ()) := by kernel_rfl
theorem L62_1_zero (k : Nat) (hash : Int) (pow : Int) (sq : Int) (i : Int) : L62_1 k 0 hash pow sq i = none := by kernel_rfl
theorem S62 (k : Nat) : HSound Try.prog gl 62 true (hF62 (F62 k)) :=
  hP_sound (E := E62 k) (fn := Try.f62) ⟨Try.func62, by kernel_rfl, by kernel_rfl, mixed, mkEnv_ok tis_ok calls_nil, by kernel_rfl, by kernel_rfl, Nat.le_of_ble_eq_true (by kernel_rfl), fun _ => rfl⟩ rfl fun _ _ h => ⟨k, h⟩

/-! f60: internal/bytealg.IndexRabinKarp[string] -/
abbrev P60 : List PT := [.one .str, .one .str]
abbrev R60 : List RT := [.one false (.int .i64)]
noncomputable def E60 (k : Nat) : Env := mkEnv tis gl 81 [⟨62, true, false, hF62 (F62 k)⟩] [(5, [0, 1, 5, 6, 7, 8, 9]), (11, [0, 1, 5, 6, 7, 8, 10])] [] 0
noncomputable def F60 (k : Nat) (x : Args P60) : Option (Res R60) := runFn (E60 k) Try.f60 k (encArgs P60 x) [] (retK R60)
abbrev hF60 (F : Args P60 → Option (Res R60)) : Hnd := hP P60 R60 F
noncomputable def G60 (k : Nat) (s : ByteArray) (sep : ByteArray) : Option (Int × Unit) := F60 k (s, sep, ())
noncomputable def L60_0 (k : Nat) (n : Nat) (s : ByteArray) (sep : ByteArray) (hashss : Int) (pow : Int) (vn : Int) (h : Int) (i : Int) : Option (Int × Unit) :=
  loopAt (E60 k) k [1, 1, 1, 1, 0, 1, 0] [] (body Try.f60) (atEnd (E60 k) Try.f60.results.toList (retK R60)) n ⟨[(0, .v (.one (V.d .str s))), (1, .v (.one (V.d .str sep))), (5, .v (.one (V.d (.int .u32) hashss))), (6, .v (.one (V.d (.int .u32) pow))), (7, .v (.one (V.d (.int .i64) vn))), (8, .v (.one (V.d (.int .u32) h))), (9, .v (.one (V.d (.int .i64) i)))], []⟩
noncomputable def L60_1 (k : Nat) (n : Nat) (s : ByteArray) (sep : ByteArray) (hashss : Int) (pow : Int) (vn : Int) (h : Int) (i : Int) : Option (Int × Unit) :=
  loopAt (E60 k) k [1, 1, 1, 1, 1, 1, 0, 1, 0] [] (body Try.f60) (atEnd (E60 k) Try.f60.results.toList (retK R60)) n ⟨[(0, .v (.one (V.d .str s))), (1, .v (.one (V.d .str sep))), (5, .v (.one (V.d (.int .u32) hashss))), (6, .v (.one (V.d (.int .u32) pow))), (7, .v (.one (V.d (.int .i64) vn))), (8, .v (.one (V.d (.int .u32) h))), (10, .v (.one (V.d (.int .i64) i)))], []⟩
theorem G60_eq (k : Nat) (s : ByteArray) (sep : ByteArray) : G60 k s sep =
  (G62 k sep).bind fun (r1 : Int × Int × Unit) =>
  L60_0 k k s sep r1.1 r1.2.1 ((sep.size : Int)) ((0 : Int)) ((0 : Int)) := by kernel_rfl
theorem L60_0_eq (k : Nat) (n : Nat) (s : ByteArray) (sep : ByteArray) (hashss : Int) (pow : Int) (vn : Int) (h : Int) (i : Int) : L60_0 k (n + 1) s sep hashss pow vn h i =
  if (decide (i < vn)) then
  if 0 ≤ i then
  if i < (s.size : Int) then
  L60_0 k n s sep hashss pow vn ((IntKind.wrap .u32 ((IntKind.wrap .u32 (h * (16777619 : Int))) + (IntKind.wrap .u32 (bt s i))))) ((IntKind.wrap .i64 (i + (1 : Int))))
  else none
  else none
  else
  if ((h == hashss)) then
  if 0 ≤ (0 : Int) then
  if (0 : Int) ≤ vn then
  if vn ≤ (s.size : Int) then
  if (sEq (s.extract ((0 : Int)).toNat (vn).toNat) sep) then
  some ((0 : Int), ())
  else
  L60_1 k k s sep hashss pow vn h vn
  else none
  else none
  else none
  else
  L60_1 k k s sep hashss pow vn h vn := by kernel_rfl
theorem L60_0_zero (k : Nat) (s : ByteArray) (sep : ByteArray) (hashss : Int) (pow : Int) (vn : Int) (h : Int) (i : Int) : L60_0 k 0 s sep hashss pow vn h i = none := by kernel_rfl
theorem L60_1_eq (k : Nat) (n : Nat) (s : ByteArray) (sep : ByteArray) (hashss : Int) (pow : Int) (vn : Int) (h : Int) (i : Int) : L60_1 k (n + 1) s sep hashss pow vn h i =
  if (decide (i < (s.size : Int))) then
  if 0 ≤ i then
  if i < (s.size : Int) then
  if 0 ≤ (IntKind.wrap .i64 (i - vn)) then
  if (IntKind.wrap .i64 (i - vn)) < (s.size : Int) then
  if (((IntKind.wrap .u32 ((IntKind.wrap .u32 ((IntKind.wrap .u32 (h * (16777619 : Int))) + (IntKind.wrap .u32 (bt s i)))) - (IntKind.wrap .u32 (pow * (IntKind.wrap .u32 (bt s (IntKind.wrap .i64 (i - vn)))))))) == hashss)) then
  if 0 ≤ (IntKind.wrap .i64 ((IntKind.wrap .i64 (i + (1 : Int))) - vn)) then
  if (IntKind.wrap .i64 ((IntKind.wrap .i64 (i + (1 : Int))) - vn)) ≤ (IntKind.wrap .i64 (i + (1 : Int))) then
  if (IntKind.wrap .i64 (i + (1 : Int))) ≤ (s.size : Int) then
  if (sEq (s.extract ((IntKind.wrap .i64 ((IntKind.wrap .i64 (i + (1 : Int))) - vn))).toNat ((IntKind.wrap .i64 (i + (1 : Int)))).toNat) sep) then
  some ((IntKind.wrap .i64 ((IntKind.wrap .i64 (i + (1 : Int))) - vn)), ())
  else
  L60_1 k n s sep hashss pow vn ((IntKind.wrap .u32 ((IntKind.wrap .u32 ((IntKind.wrap .u32 (h * (16777619 : Int))) + (IntKind.wrap .u32 (bt s i)))) - (IntKind.wrap .u32 (pow * (IntKind.wrap .u32 (bt s (IntKind.wrap .i64 (i - vn))))))))) ((IntKind.wrap .i64 (i + (1 : Int))))
  else none
  else none
  else none
  else
  L60_1 k n s sep hashss pow vn ((IntKind.wrap .u32 ((IntKind.wrap .u32 ((IntKind.wrap .u32 (h * (16777619 : Int))) + (IntKind.wrap .u32 (bt s i)))) - (IntKind.wrap .u32 (pow * (IntKind.wrap .u32 (bt s (IntKind.wrap .i64 (i - vn))))))))) ((IntKind.wrap .i64 (i + (1 : Int))))
  else none
  else none
  else none
  else none
  else
  some ((-1 : Int), ()) := by kernel_rfl
theorem L60_1_zero (k : Nat) (s : ByteArray) (sep : ByteArray) (hashss : Int) (pow : Int) (vn : Int) (h : Int) (i : Int) : L60_1 k 0 s sep hashss pow vn h i = none := by kernel_rfl
theorem S60 (k : Nat) : HSound Try.prog gl 60 true (hF60 (F60 k)) :=
  hP_sound (E := E60 k) (fn := Try.f60) ⟨Try.func60, by kernel_rfl, by kernel_rfl, mixed, mkEnv_ok tis_ok (calls_cons (S62 k) calls_nil), by kernel_rfl, by kernel_rfl, Nat.le_of_ble_eq_true (by kernel_rfl), fun _ => rfl⟩ rfl fun _ _ h => ⟨k, h⟩
end Go.Vm

namespace Go.Vm
open Go.Proofs

/-! ### The plain side of the first seat -/

theorem G32_ok (k : Nat) (x a b : Int) : G32 k x a b = some (decide (a ≤ x) && decide (x ≤ b), ()) := by
  rw [G32_eq]; grind

theorem G45_ok (k : Nat) (x a b : Int) : G45 k x a b = some (decide (a ≤ x) && decide (x ≤ b), ()) := by
  rw [G45_eq]; grind

theorem G51_ok (k : Nat) (b : Int) : G51 k b = some (decide (97 ≤ b) && decide (b ≤ 122), ()) := by
  rw [G51_eq]
  by_cases h : 97 ≤ b <;> simp [h]

/-- All bytes from 'i' on lie between two. -/
def inside (lo hi : Int) (s : ByteArray) (j : Nat) : Bool := decide (lo ≤ bt s j) && decide (bt s j ≤ hi)
def between (lo hi : Int) (s : ByteArray) : Bool := (List.range' 0 s.size).all (inside lo hi s)
def fits (low high : Int) (s : ByteArray) : Bool := decide (low ≤ (s.size : Int)) && decide ((s.size : Int) ≤ high)

theorem ite_some_all {c : Bool} {r : Bool} : (if c = true then some (r, ()) else some (false, ())) = some (c && r, ()) := by cases c <;> rfl
theorem ite_some_all' {c : Bool} : (if c = true then some (true, ()) else some (false, ())) = some (c, ()) := by cases c <;> rfl

theorem L29_ok (k : Nat) (s : ByteArray) (hs : s.size < k) (hk : k ≤ 9223372036854775806) : L29_0 k k s 0 = some (between 97 122 s && fits 1 10 s, ()) := by
  refine (loop_all (fun n i => L29_0 k n s i) s.size (inside 97 122 s) (some (false, ())) (some (fits 1 10 s, ())) ?_ ?_ k 0 (Nat.zero_le _) (by omega)).trans ite_some_all
  · intro n i hi
    show L29_0 k (n + 1) s i = _
    rw [L29_0_eq]
    unfold inside
    grind [wsucc]
  · intro n
    show L29_0 k (n + 1) s s.size = _
    rw [L29_0_eq]
    simp [G32_ok, fits]

theorem L30_ok (k : Nat) (s : ByteArray) (low high first : Int) (hs : s.size < k) (hk : k ≤ 9223372036854775806) : L30_0 k k s low high first 0 = some (between first 126 s && fits low high s, ()) := by
  refine (loop_all (fun n i => L30_0 k n s low high first i) s.size (inside first 126 s) (some (false, ())) (some (fits low high s, ())) ?_ ?_ k 0 (Nat.zero_le _) (by omega)).trans ite_some_all
  · intro n i hi
    show L30_0 k (n + 1) s low high first i = _
    rw [L30_0_eq]
    unfold inside
    grind [wsucc]
  · intro n
    show L30_0 k (n + 1) s low high first s.size = _
    rw [L30_0_eq]
    simp [G32_ok, fits]

theorem L46_ok (k : Nat) (s : ByteArray) (hs : s.size < k) (hk : k ≤ 9223372036854775806) : L46_0 k k s 0 = some (between 32 126 s, ()) := by
  refine (loop_all (fun n i => L46_0 k n s i) s.size (inside 32 126 s) (some (false, ())) (some (true, ())) ?_ ?_ k 0 (Nat.zero_le _) (by omega)).trans ite_some_all'
  · intro n i hi
    show L46_0 k (n + 1) s i = _
    rw [L46_0_eq]
    unfold inside
    grind [wsucc]
  · intro n
    show L46_0 k (n + 1) s s.size = _
    rw [L46_0_eq]
    simp

theorem L44_ok (k : Nat) (s : ByteArray) (low high : Int) (hs : s.size < k) (hk : k ≤ 9223372036854775806) : L44_0 k k s low high 0 = some (between 97 122 s && fits low high s, ()) := by
  refine (loop_all (fun n i => L44_0 k n s low high i) s.size (inside 97 122 s) (some (false, ())) (some (fits low high s, ())) ?_ ?_ k 0 (Nat.zero_le _) (by omega)).trans ite_some_all
  · intro n i hi
    show L44_0 k (n + 1) s low high i = _
    rw [L44_0_eq, G51_ok]
    unfold inside
    grind [wsucc]
  · intro n
    show L44_0 k (n + 1) s low high s.size = _
    rw [L44_0_eq]
    simp [G45_ok, fits]

def key (s : ByteArray) : Bool := between 97 122 s && fits 1 10 s
def text (first low high : Int) (s : ByteArray) : Bool := between first 126 s && fits low high s

section
variable (k : Nat) (hk2 : k ≤ 9223372036854775806)
include hk2

theorem G29_ok (s : ByteArray) (hs : s.size < k) : G29 k s = some (key s, ()) := by
  rw [G29_eq]; exact L29_ok k s hs hk2

theorem G30_ok (s : ByteArray) (low high first : Int) (hs : s.size < k) : G30 k s low high first = some (text first low high s, ()) := by
  rw [G30_eq]; exact L30_ok k s low high first hs hk2

theorem G46_ok (s : ByteArray) (hs : s.size < k) : G46 k s = some (between 32 126 s, ()) := by
  rw [G46_eq]; exact L46_ok k s hs hk2

theorem G31_ok (t : Term) (h1 : t.1.size < k) (h2 : t.2.1.size < k) (h3 : t.2.2.1.size < k) :
    G31 k t = some (key t.1 && (text 32 1 20 t.2.1 && text 32 1 20 t.2.2.1), ()) := by
  rw [G31_eq, G29_ok k hk2 _ h1, G30_ok k hk2 _ _ _ _ h2, G30_ok k hk2 _ _ _ _ h3]
  cases key t.1 <;> cases text 32 1 20 t.2.1 <;> rfl

theorem G35_ok (s : ByteArray) (most : Int) (h1 : s.size < k) : G35 k s most = some (text 32 1 most s, ()) := by
  rw [G35_eq, G45_ok, G46_ok k hk2 _ h1]
  unfold text fits
  cases between 32 126 s <;> cases decide ((1 : Int) ≤ (s.size : Int)) <;> cases decide ((s.size : Int) ≤ most) <;> rfl

theorem G56_ok (s : ByteArray) (hs : s.size < k) : G56 k s (⟨#[]⟩ : ByteArray) = some (true, ()) := by
  rw [G56_eq]
  have e : (((⟨#[]⟩ : ByteArray).size : Nat) : Int) = 0 := rfl
  rw [e, w64 (by omega) (by omega)]
  have h : sEq ByteArray.empty (⟨#[]⟩ : ByteArray) = true := sEq_self ByteArray.empty
  simp [h]

theorem G54_ok (s : ByteArray) (hs : s.size < k) : G54 k s (⟨#[]⟩ : ByteArray) = some (s, ()) := by
  rw [G54_eq, G56_ok k hk2 s hs]
  have e : (((⟨#[]⟩ : ByteArray).size : Nat) : Int) = 0 := rfl
  rw [e, w64 (by omega) (by omega)]
  simp

theorem G34_ok (s : ByteArray) (h1 : s.size < k) : G34 k s = some (key s, ()) := by
  rw [G34_eq, G44_eq, G50_eq, G54_ok k hk2 s h1]
  simp only [Option.bind_some]
  rw [L44_ok k s 1 10 h1 hk2]
  rfl

end
end Go.Vm

namespace Go.Vm
open Go.Proofs

/-! ### Sizes -/
def bndT (m : Nat) (t : Term) : Prop := t.1.size ≤ m ∧ t.2.1.size ≤ m ∧ t.2.2.1.size ≤ m
def bndR (m : Nat) (r : Rule) : Prop := r.2.2.1.size ≤ m
def bndL (m : Nat) (l : Locale) : Prop := l.1.size ≤ m ∧ l.2.1.length ≤ m ∧ l.2.2.1.length ≤ m ∧ l.2.2.2.1.size ≤ m ∧ l.2.2.2.2.1.size ≤ m ∧
  (∀ i, i < l.2.1.length → bndT m (l.2.1.getD i dTerm)) ∧ (∀ i, i < l.2.2.1.length → bndR m (l.2.2.1.getD i dRule))

abbrev big : Nat := 140737488355328

theorem wsub {a : Int} {n : Nat} (h0 : 0 ≤ a) (h1 : a ≤ 1048576) (h2 : n ≤ 140737488355328) : IntKind.wrap .i64 (a - (n : Int)) = a - n := by
  apply w64 <;> omega

theorem G5_ok (k : Nat) (t : Term) (left : Int) (h0 : 0 ≤ left) (h1 : left ≤ 1048576) (hb : bndT big t) :
    ∃ r : Int, G5 k t left = some (r, ()) ∧ (r < 0 ∨ (0 ≤ r ∧ r ≤ left ∧ bndT 1048576 t)) := by
  rw [G5_eq]
  unfold bndT big at *
  grind [wsub]

theorem G28_ok (k : Nat) (t : Rule) (left : Int) (h0 : 0 ≤ left) (h1 : left ≤ 1048576) (hb : bndR big t) :
    ∃ r : Int, G28 k t left = some (r, ()) ∧ (r < 0 ∨ (0 ≤ r ∧ r ≤ left ∧ bndR 1048576 t)) := by
  rw [G28_eq]
  unfold bndR big at *
  grind [wsub]

/-- A loop that takes from what is left. -/
theorem loop_left (L : Nat → Int → Int → Option (Int × Unit)) (sz : Nat → Int → Option (Int × Unit)) (len : Nat) (B : Nat → Prop) (hl : len ≤ 1048576)
    (hz : ∀ i left, i < len → 0 ≤ left → left ≤ 1048576 → ∃ r : Int, sz i left = some (r, ()) ∧ (r < 0 ∨ (0 ≤ r ∧ r ≤ left ∧ B i)))
    (hs : ∀ n i left, i < len → L (n + 1) left (i : Int) = (sz i left).bind fun r => if r.1 < 0 then some (-1, ()) else L n r.1 ((i + 1 : Nat) : Int))
    (he : ∀ n left, L (n + 1) left (len : Int) = some (left, ())) :
    ∀ (n i : Nat) (left : Int), i ≤ len → len < n + i → 0 ≤ left → left ≤ 1048576 →
    ∃ r : Int, L n left i = some (r, ()) ∧ (r < 0 ∨ (0 ≤ r ∧ r ≤ left ∧ ∀ j, i ≤ j → j < len → B j)) := by
  intro n
  induction n with
  | zero => intro i left h1 h2; omega
  | succ n ih =>
    intro i left h1 h2 h3 h4
    by_cases hi : i < len
    · obtain ⟨r, hr, hr2⟩ := hz i left hi h3 h4
      rw [hs n i left hi, hr]
      simp only [Option.bind_some]
      rcases hr2 with h | ⟨h5, h6, h7⟩
      · exact ⟨-1, by rw [if_pos h], .inl (by omega)⟩
      · rw [if_neg (by omega)]
        obtain ⟨r', hr', hr2'⟩ := ih (i + 1) r (by omega) (by omega) h5 (by omega)
        refine ⟨r', hr', ?_⟩
        rcases hr2' with h | ⟨h8, h9, h10⟩
        · exact .inl h
        · refine .inr ⟨h8, by omega, fun j hj1 hj2 => ?_⟩
          by_cases e : j = i
          · subst e; exact h7
          · exact h10 j (by omega) hj2
    · obtain rfl : i = len := by omega
      exact ⟨left, he n left, .inr ⟨h3, by omega, fun j hj1 hj2 => by omega⟩⟩

theorem G13_ok (k : Nat) (a : List Term) (left : Int) (hk : 1048577 ≤ k) (h0 : 0 ≤ left) (h1 : left ≤ 1048576) (hl : a.length ≤ big) (ha : ∀ i, i < a.length → bndT big (a.getD i dTerm)) :
    ∃ r : Int, G13 k a left = some (r, ()) ∧ (r < 0 ∨ (0 ≤ r ∧ r ≤ left ∧ a.length ≤ 1048576 ∧ ∀ j, j < a.length → bndT 1048576 (a.getD j dTerm))) := by
  rw [G13_eq, wsub h0 h1 hl]
  by_cases c1 : left - (a.length : Int) < 0
  · exact ⟨-1, by grind, .inl (by omega)⟩
  rw [if_neg (by simpa using c1)]
  obtain ⟨r, hr, hr2⟩ := loop_left (fun n left i => L13_0 k n a left i) (fun i left => G5 k (a.getD i dTerm) left) a.length (fun j => bndT 1048576 (a.getD j dTerm)) (by omega)
    (fun i left hi h0 h1 => G5_ok k _ left h0 h1 (ha i hi)) (fun n i left hi => by show L13_0 k (n + 1) a left i = _; rw [L13_0_eq]; grind [wsucc]) (fun n left => by show L13_0 k (n + 1) a left _ = _; rw [L13_0_eq]; grind)
    k 0 (left - (a.length : Int)) (by omega) (by omega) (by omega) (by omega)
  refine ⟨r, hr, ?_⟩
  grind

theorem G14_ok (k : Nat) (a : List Rule) (left : Int) (hk : 1048577 ≤ k) (h0 : 0 ≤ left) (h1 : left ≤ 1048576) (hl : a.length ≤ big) (ha : ∀ i, i < a.length → bndR big (a.getD i dRule)) :
    ∃ r : Int, G14 k a left = some (r, ()) ∧ (r < 0 ∨ (0 ≤ r ∧ r ≤ left ∧ a.length ≤ 1048576 ∧ ∀ j, j < a.length → bndR 1048576 (a.getD j dRule))) := by
  rw [G14_eq, wsub h0 h1 hl]
  by_cases c1 : left - (a.length : Int) < 0
  · exact ⟨-1, by grind, .inl (by omega)⟩
  rw [if_neg (by simpa using c1)]
  obtain ⟨r, hr, hr2⟩ := loop_left (fun n left i => L14_0 k n a left i) (fun i left => G28 k (a.getD i dRule) left) a.length (fun j => bndR 1048576 (a.getD j dRule)) (by omega)
    (fun i left hi h0 h1 => G28_ok k _ left h0 h1 (ha i hi)) (fun n i left hi => by show L14_0 k (n + 1) a left i = _; rw [L14_0_eq]; grind [wsucc]) (fun n left => by show L14_0 k (n + 1) a left _ = _; rw [L14_0_eq]; grind)
    k 0 (left - (a.length : Int)) (by omega) (by omega) (by omega) (by omega)
  refine ⟨r, hr, ?_⟩
  grind

theorem G4_ok (k : Nat) (l : Locale) (left : Int) (hk : 1048577 ≤ k) (h0 : 0 ≤ left) (h1 : left ≤ 1048576) (hb : bndL big l) :
    ∃ r : Int, G4 k l left = some (r, ()) ∧ (r < 0 ∨ (0 ≤ r ∧ r ≤ left ∧ bndL 1048576 l)) := by
  obtain ⟨b1, b2, b3, b4, b5, b6, b7⟩ := hb
  rw [G4_eq, wsub h0 h1 b1]
  by_cases c1 : left - (l.1.size : Int) < 0
  · exact ⟨-1, by grind, .inl (by omega)⟩
  rw [if_neg (by simpa using c1)]
  obtain ⟨r, hr, hr2⟩ := G13_ok k l.2.1 (left - (l.1.size : Int)) hk (by omega) (by omega) b2 b6
  rw [hr]
  simp only [Option.bind_some]
  rcases hr2 with h | ⟨h2, h3, h4, h5⟩
  · exact ⟨-1, by grind, .inl (by omega)⟩
  rw [if_neg (by simp; omega)]
  obtain ⟨r', hr', hr2'⟩ := G14_ok k l.2.2.1 r hk (by omega) (by omega) b3 b7
  rw [hr']
  simp only [Option.bind_some]
  unfold bndL
  grind [wsub]

end Go.Vm

namespace Go.Vm
open Go.Proofs

/-! ### A locale is good -/
def goodT (t : Term) : Bool := key t.1 && (text 32 1 20 t.2.1 && text 32 1 20 t.2.2.1)
def goodAt (ts : List Term) (i : Nat) : Bool := goodT (ts.getD i dTerm) && (decide (i = 0) || sLt (ts.getD (i - 1) dTerm).1 (ts.getD i dTerm).1)
def goodR (r : Rule) : Bool := decide (1 ≤ r.1) && decide (r.1 ≤ 1000) && (decide (0 ≤ r.2.1) && decide (r.2.1 ≤ r.1 - 1)) && text 33 0 4 r.2.2.1
def allR (rs : List Rule) : Bool := (List.range' 0 rs.length).all (fun j => goodR (rs.getD j dRule))
def allT (ts : List Term) : Bool := (List.range' 0 ts.length).all (goodAt ts)
def good (l : Locale) : Bool := key l.1 && decide (l.2.1.length ≤ 12) && decide (l.2.2.1.length ≤ 6) && text 32 1 10 l.2.2.2.1 && text 32 1 10 l.2.2.2.2.1 &&
  (allT l.2.1 && allR l.2.2.1)

section
variable (k : Nat) (hk : 1048577 ≤ k) (hk2 : k ≤ 9223372036854775806)
include hk hk2

theorem L15_1_ok (a : ByteArray) (ts : List Term) (rs : List Rule) (b c : ByteArray) (hr : rs.length ≤ 1048576) (hb : ∀ i, i < rs.length → bndR 1048576 (rs.getD i dRule)) :
    L15_1 k k 0 a ts rs b c = some (allR rs, ()) := by
  refine (loop_all (fun n i => L15_1 k n i a ts rs b c) rs.length (fun j => goodR (rs.getD j dRule)) (some (false, ())) (some (true, ())) ?_ ?_ k 0 (Nat.zero_le _) (by omega)).trans ite_some_all'
  · intro n i hi
    have hb' : (rs.getD i dRule).2.2.1.size ≤ 1048576 := hb i hi
    show L15_1 k (n + 1) i a ts rs b c = _
    rw [L15_1_eq, Int.toNat_natCast, G32_ok, G30_ok k hk2 _ _ _ _ (by omega)]
    simp only [G32_ok]
    unfold goodR
    grind [wsucc, w64]
  · intro n
    show L15_1 k (n + 1) (rs.length : Int) a ts rs b c = _
    rw [L15_1_eq]; grind

theorem L15_0_ok (a : ByteArray) (ts : List Term) (rs : List Rule) (b c : ByteArray) (hr : rs.length ≤ 1048576) (hb : ∀ i, i < rs.length → bndR 1048576 (rs.getD i dRule))
    (ht : ts.length ≤ 1048576) (hc : ∀ i, i < ts.length → bndT 1048576 (ts.getD i dTerm)) :
    L15_0 k k 0 a ts rs b c = some (allT ts && allR rs, ()) := by
  refine (loop_all (fun n i => L15_0 k n i a ts rs b c) ts.length (goodAt ts) (some (false, ())) (some (allR rs, ())) ?_ ?_ k 0 (Nat.zero_le _) (by omega)).trans ite_some_all
  · intro n i hi
    obtain ⟨c1, c2, c3⟩ := hc i hi
    show L15_0 k (n + 1) i a ts rs b c = _
    rw [L15_0_eq, Int.toNat_natCast, G31_ok k hk2 _ (by omega) (by omega) (by omega), w64 (n := (i : Int) - 1) (by omega) (by omega), show ((i : Int) - 1).toNat = i - 1 by omega]
    unfold goodAt goodT
    grind [wsucc]
  · intro n
    show L15_0 k (n + 1) (ts.length : Int) a ts rs b c = _
    rw [L15_0_eq, if_neg (by simp)]
    exact L15_1_ok k hk hk2 a ts rs b c hr hb

theorem G15_ok (l : Locale) (hb : bndL 1048576 l) : G15 k l = some (good l, ()) := by
  obtain ⟨b1, b2, b3, b4, b5, b6, b7⟩ := hb
  rw [G15_eq, G29_ok k hk2 _ (by omega), G30_ok k hk2 _ _ _ _ (by omega), G30_ok k hk2 _ _ _ _ (by omega), L15_0_ok k hk hk2 l.1 l.2.1 l.2.2.1 l.2.2.2.1 l.2.2.2.2.1 b3 b7 b2 b6]
  unfold good
  grind

omit hk hk2 in
theorem between_list (lo hi : Int) (s : ByteArray) : between lo hi s = s.data.toList.all (fun b => decide (lo ≤ (b.toNat : Int)) && decide ((b.toNat : Int) ≤ hi)) := by
  unfold between inside
  rw [size_list, ← range_all (0 : UInt8)]
  simp only [bt_getD]

omit hk hk2 in
theorem rule_bytes : ∀ (l : List UInt8), ((l.all fun b => decide ((32 : Int) ≤ (b.toNat : Int)) && decide ((b.toNat : Int) ≤ 126)) && !decide (0 ≤ Lib.indexByte l 32)) = l.all fun b => decide ((33 : Int) ≤ (b.toNat : Int)) && decide ((b.toNat : Int) ≤ 126)
  | [] => rfl
  | b :: l => by
    have h := rule_bytes l
    have hge := Lib.indexByte_ge l 32
    have h0 : (0 ≤ Lib.indexByte (b :: l) 32) ↔ (b = 32 ∨ 0 ≤ Lib.indexByte l 32) := by
      rw [Lib.indexByte]
      grind
    have h1 : b = 32 ↔ (b.toNat : Int) = 32 := by
      rw [← UInt8.toNat_inj]
      show b.toNat = 32 ↔ _
      omega
    have h2 : (decide (0 ≤ Lib.indexByte (b :: l) 32)) = (decide ((b.toNat : Int) = 32) || decide (0 ≤ Lib.indexByte l 32)) := by
      rw [Bool.eq_iff_iff, decide_eq_true_iff, h0, h1]; simp
    rw [List.all_cons, List.all_cons, ← h, h2]
    grind

omit hk hk2 in
theorem rule_text (s : ByteArray) : (decide ((s.size : Int) ≤ 4) && (between 32 126 s && !decide (0 ≤ Lib.indexByte s.data.toList 32))) = text 33 0 4 s := by
  unfold text fits
  rw [between_list, between_list, rule_bytes]
  grind

theorem G38_ok (r : Rule) (hb : bndR 1048576 r) : G38 k r = some (goodR r, ()) := by
  have hb' : r.2.2.1.size ≤ 1048576 := hb
  rw [G38_eq, G46_ok k hk2 _ (by omega), show G48 k r.2.2.1 (⟨#[32]⟩ : ByteArray) = some (decide (0 ≤ Lib.indexByte r.2.2.1.data.toList 32), ()) from rfl]
  simp only [G45_ok]
  unfold goodR
  rw [← rule_text]
  grind [w64]

theorem G37_ok (r : Rule) (hb : bndR 1048576 r) : G37 k r = some (!goodR r, ()) := by
  rw [G37_eq, G38_ok k hk hk2 r hb]
  rfl

theorem G36_ok (rs : List Rule) (hr : rs.length ≤ 1048576) (hb : ∀ i, i < rs.length → bndR 1048576 (rs.getD i dRule)) :
    G36 k rs = some (!allR rs, ()) := by
  rw [G36_eq, G47_eq]
  have h := loop_scan (fun n i => (L47_0 k n rs (rs.length : Int) i)) rs.length (fun j => goodR (rs.getD j dRule)) (fun j => if j < rs.length then some ((j : Int), ()) else some (-1, ())) ?_ ?_ ?_ k 0 (Nat.zero_le _) (by omega)
  · have h' : L47_0 k k rs (rs.length : Int) 0 = _ := h
    rw [h']
    unfold allR
    rw [← scan_all]
    simp only [Nat.sub_zero, Nat.zero_add]
    generalize scan _ _ _ = m
    split <;> simp <;> omega
  · intro n i hi hp
    show L47_0 k (n + 1) rs _ i = _
    rw [L47_0_eq, Int.toNat_natCast, G37_ok k hk hk2 _ (hb i hi)]
    grind [wsucc]
  · intro n i hi hp
    show L47_0 k (n + 1) rs _ i = _
    rw [L47_0_eq, Int.toNat_natCast, G37_ok k hk hk2 _ (hb i hi)]
    grind
  · intro n
    show L47_0 k (n + 1) rs _ _ = _
    rw [L47_0_eq]; grind

theorem G19_ok (l : Locale) (hb : bndL 1048576 l) : G19 k l = some (good l, ()) := by
  obtain ⟨b1, b2, b3, b4, b5, b6, b7⟩ := hb
  rw [G19_eq, G34_ok k hk2 _ (by omega), G35_ok k hk2 _ _ (by omega), G35_ok k hk2 _ _ (by omega)]
  have h : L19_0 k k l.2.1 (l.2.1.length : Int) 0 l.1 l.2.1 l.2.2.1 l.2.2.2.1 l.2.2.2.2.1 = some (allT l.2.1 && allR l.2.2.1, ()) := by
    refine (loop_all (fun n i => L19_0 k n l.2.1 (l.2.1.length : Int) i l.1 l.2.1 l.2.2.1 l.2.2.2.1 l.2.2.2.2.1) l.2.1.length (goodAt l.2.1) (some (false, ())) (some (allR l.2.2.1, ())) ?_ ?_ k 0 (Nat.zero_le _) (by omega)).trans ite_some_all
    · intro n i hi
      obtain ⟨c1, c2, c3⟩ := b6 i hi
      show L19_0 k (n + 1) l.2.1 (l.2.1.length : Int) i l.1 l.2.1 l.2.2.1 l.2.2.2.1 l.2.2.2.2.1 = _
      rw [L19_0_eq, Int.toNat_natCast, G34_ok k hk2 _ (by omega), G35_ok k hk2 _ _ (by omega), G35_ok k hk2 _ _ (by omega), w64 (n := (i : Int) - 1) (by omega) (by omega), show ((i : Int) - 1).toNat = i - 1 by omega]
      unfold goodAt goodT
      grind [wsucc]
    · intro n
      show L19_0 k (n + 1) l.2.1 (l.2.1.length : Int) l.2.1.length l.1 l.2.1 l.2.2.1 l.2.2.2.1 l.2.2.2.2.1 = _
      rw [L19_0_eq, if_neg (by simp), G36_ok k hk hk2 _ b3 b7]
      simp
  rw [h]
  unfold good
  grind

end
end Go.Vm

namespace Go.Vm
open Go.Proofs

/-! ### A term is added -/
abbrev dLoc : Locale := (ByteArray.empty, [], [], ByteArray.empty, ByteArray.empty, ())
def addAt (ts : List Term) (t : Term) (i : Nat) : List Term :=
  if i < ts.length ∧ sEq (ts.getD i dTerm).1 t.1 = true then ts.take i ++ [t] ++ ts.drop (i + 1) else ts.take i ++ [t] ++ ts.drop i
def addRes (l : Locale) (t : Term) (i : Nat) : Option (Locale × Bool × Unit) :=
  if good (l.1, addAt l.2.1 t i, l.2.2.1, l.2.2.2.1, l.2.2.2.2.1, ()) then some ((l.1, addAt l.2.1 t i, l.2.2.1, l.2.2.2.1, l.2.2.2.2.1, ()), true, ()) else some (dLoc, false, ())
def before (ts : List Term) (t : Term) (i : Nat) : Bool := sLt (ts.getD i dTerm).1 t.1
def addOne (l : Locale) (t : Term) : Option (Locale × Bool × Unit) :=
  if good l then addRes l t (scan (before l.2.1 t) l.2.1.length 0) else some (dLoc, false, ())

theorem bndT_mem {m : Nat} {ts : List Term} (h : ∀ i, i < ts.length → bndT m (ts.getD i dTerm)) : ∀ x ∈ ts, bndT m x := by
  intro x hx
  obtain ⟨i, hi, rfl⟩ := List.mem_iff_getElem.1 hx
  have := h i hi
  simpa [hi] using this

theorem bndT_of_mem {m : Nat} {ts : List Term} (h : ∀ x ∈ ts, bndT m x) : ∀ i, i < ts.length → bndT m (ts.getD i dTerm) := by
  intro i hi
  have := h ts[i] (List.getElem_mem hi)
  simpa [hi] using this

theorem addAt_bnd {ts : List Term} {t : Term} {m i : Nat} (h : ∀ x ∈ ts, bndT m x) (ht : bndT m t) : ∀ x ∈ addAt ts t i, bndT m x := by
  intro x hx
  unfold addAt at hx
  have hsub : x ∈ ts ∨ x = t := by
    split at hx <;> simp only [List.mem_append, List.mem_singleton] at hx
    · rcases hx with (hx | hx) | hx
      · exact .inl (List.mem_of_mem_take hx)
      · exact .inr hx
      · exact .inl (List.mem_of_mem_drop hx)
    · rcases hx with (hx | hx) | hx
      · exact .inl (List.mem_of_mem_take hx)
      · exact .inr hx
      · exact .inl (List.mem_of_mem_drop hx)
  rcases hsub with h1 | rfl
  · exact h x h1
  · exact ht

theorem addAt_len (ts : List Term) (t : Term) (i : Nat) : (addAt ts t i).length ≤ ts.length + 1 := by
  unfold addAt
  split <;> simp <;> omega

section
variable (k : Nat) (hk : 1048577 ≤ k) (hk2 : k ≤ 9223372036854775806)
include hk hk2

omit hk hk2 in
theorem bndL_add {l : Locale} {t : Term} (hb : bndL 1048576 l) (ht : bndT 1048576 t) (h12 : l.2.1.length ≤ 12) (i : Nat) : bndL 1048576 (l.1, addAt l.2.1 t i, l.2.2.1, l.2.2.2.1, l.2.2.2.2.1, ()) := by
  obtain ⟨b1, b2, b3, b4, b5, b6, b7⟩ := hb
  exact ⟨b1, Nat.le_trans (addAt_len _ _ _) (by omega), b3, b4, b5, bndT_of_mem (addAt_bnd (bndT_mem b6) ht), b7⟩

omit hk hk2 in
theorem good_len {l : Locale} (h : good l = true) : l.2.1.length ≤ 12 ∧ l.2.2.1.length ≤ 6 := by
  unfold good at h
  grind

theorem G6_ok (l : Locale) (t : Term) (hb : bndL 1048576 l) (ht : bndT 1048576 t) : G6 k l t = addOne l t := by
  rw [G6_eq, G15_ok k hk hk2 l hb]
  unfold addOne
  cases hg : good l
  · rfl
  obtain ⟨h12, h6⟩ := good_len hg
  have hb2 := hb
  have e : G16 k l = some (l, ()) := by
    rw [G16_eq, if_pos (by simp; omega), if_pos (by simp; omega)]; rfl
  have hq := fun i => G15_ok k hk hk2 _ (bndL_add hb2 ht h12 i)
  simp only [Option.bind_some, Bool.not_true, e, if_true]
  rw [if_neg (by simp)]
  obtain ⟨l1, ts, rs, l3, l4, ⟨⟩⟩ := l
  obtain ⟨t1, t2, t3, ⟨⟩⟩ := t
  simp only at h12 h6 hq ⊢
  refine loop_scan (fun n i => L6_0 k n i l1 ts rs l3 l4 t1 t2 t3 ByteArray.empty ByteArray.empty ByteArray.empty l1 l3 l4 ts rs) ts.length (before ts (t1, t2, t3, ())) (addRes (l1, ts, rs, l3, l4, ()) (t1, t2, t3, ())) ?_ ?_ ?_ k 0 (Nat.zero_le _) (by omega)
  · intro n i hi hp
    show L6_0 k (n + 1) i _ _ _ _ _ _ _ _ _ _ _ _ _ _ _ _ = _
    rw [L6_0_eq]
    unfold before at hp
    grind [wsucc]
  · intro n i hi hp
    show L6_0 k (n + 1) i _ _ _ _ _ _ _ _ _ _ _ _ _ _ _ _ = _
    rw [L6_0_eq, wsucc (by omega)]
    specialize hq i
    unfold before at hp
    unfold addRes
    by_cases h3 : sEq (ts.getD i dTerm).1 t1 = true
    · have ea : addAt ts (t1, t2, t3, ()) i = ts.take i ++ [(t1, t2, t3, ())] ++ ts.drop (i + 1) := if_pos ⟨hi, h3⟩
      rw [ea] at hq ⊢
      simp at *
      grind
    · have ea : addAt ts (t1, t2, t3, ()) i = ts.take i ++ [(t1, t2, t3, ())] ++ ts.drop i := if_neg (fun h => h3 h.2)
      rw [ea] at hq ⊢
      simp at *
      grind
  · intro n
    show L6_0 k (n + 1) ts.length _ _ _ _ _ _ _ _ _ _ _ _ _ _ _ _ = _
    rw [L6_0_eq]
    specialize hq ts.length
    unfold addRes
    have ea : addAt ts (t1, t2, t3, ()) ts.length = ts.take ts.length ++ [(t1, t2, t3, ())] ++ ts.drop ts.length := if_neg (fun h => absurd h.1 (by omega))
    rw [ea] at hq ⊢
    simp at *
    grind

theorem G9_ok (l : Locale) (t : Term) (hb : bndL 1048576 l) (ht : bndT 1048576 t) : G9 k l t = addOne l t := by
  rw [G9_eq, G19_ok k hk hk2 l hb]
  unfold addOne
  cases hg : good l
  · rfl
  obtain ⟨h12, h6⟩ := good_len hg
  have hb2 := hb
  have e : G20 k l = some (l, ()) := by
    rw [G20_eq, if_pos (by simp; omega), if_pos (by simp; omega)]; rfl
  have hq := fun i => G19_ok k hk hk2 _ (bndL_add hb2 ht h12 i)
  simp only [Option.bind_some, Bool.not_true, e, if_true]
  rw [if_neg (by simp)]
  obtain ⟨l1, ts, rs, l3, l4, ⟨⟩⟩ := l
  obtain ⟨t1, t2, t3, ⟨⟩⟩ := t
  simp only at h12 h6 hq ⊢
  refine loop_scan (fun n i => L9_0 k n i t1 t2 t3 ByteArray.empty ByteArray.empty ByteArray.empty l1 l3 l4 ts rs) ts.length (before ts (t1, t2, t3, ())) (addRes (l1, ts, rs, l3, l4, ()) (t1, t2, t3, ())) ?_ ?_ ?_ k 0 (Nat.zero_le _) (by omega)
  · intro n i hi hp
    show L9_0 k (n + 1) i _ _ _ _ _ _ _ _ _ _ _ = _
    rw [L9_0_eq]
    unfold before at hp
    grind [wsucc]
  · intro n i hi hp
    show L9_0 k (n + 1) i _ _ _ _ _ _ _ _ _ _ _ = _
    rw [L9_0_eq, wsucc (by omega)]
    specialize hq i
    unfold before at hp
    unfold addRes
    by_cases h3 : sEq (ts.getD i dTerm).1 t1 = true
    · have ea : addAt ts (t1, t2, t3, ()) i = ts.set i (t1, t2, t3, ()) := by
        rw [show addAt ts (t1, t2, t3, ()) i = ts.take i ++ [(t1, t2, t3, ())] ++ ts.drop (i + 1) from if_pos ⟨hi, h3⟩, List.set_eq_take_append_cons_drop]
        simp [hi]
      rw [ea] at hq ⊢
      simp at *
      grind
    · have ea : addAt ts (t1, t2, t3, ()) i = ts.take i ++ [(t1, t2, t3, ())] ++ ts.drop i := if_neg (fun h => h3 h.2)
      rw [ea] at hq ⊢
      simp at *
      grind
  · intro n
    show L9_0 k (n + 1) ts.length _ _ _ _ _ _ _ _ _ _ _ = _
    rw [L9_0_eq]
    specialize hq ts.length
    unfold addRes
    have ea : addAt ts (t1, t2, t3, ()) ts.length = ts.take ts.length ++ [(t1, t2, t3, ())] ++ ts.drop ts.length := if_neg (fun h => absurd h.1 (by omega))
    rw [ea] at hq ⊢
    simp at *
    grind

/-! ### Copies, equality -/
omit hk hk2 in
theorem G8_ok (t : Term) : G8 k t = some (t, ()) := by rw [G8_eq]
omit hk hk2 in
theorem G33_ok (t : Rule) : G33 k t = some (t, ()) := by rw [G33_eq]

omit hk hk2 in
/-- A loop that copies. -/
theorem loop_copy {α β : Type} (d : α) (L : Nat → Int → List α → Option β) (xs : List α) (fin : List α → Option β)
    (hs : ∀ n i (out : List α), i < xs.length → out.length = xs.length → L (n + 1) (i : Int) out = L n ((i + 1 : Nat) : Int) (out.set i (xs.getD i d)))
    (he : ∀ n out, L (n + 1) (xs.length : Int) out = fin out) :
    ∀ (n i : Nat) (out : List α), i ≤ xs.length → xs.length < n + i → out.length = xs.length → (∀ j, j < i → out.getD j d = xs.getD j d) → L n (i : Int) out = fin xs := by
  intro n
  induction n with
  | zero => intro i out h1 h2; omega
  | succ n ih =>
    intro i out h1 h2 h3 h4
    by_cases hi : i < xs.length
    · rw [hs n i out hi h3]
      refine ih (i + 1) _ (by omega) (by omega) (by simpa using h3) fun j hj => ?_
      by_cases e : j = i
      · subst e; simp [h3, hi]
      · have := h4 j (by omega)
        simpa [List.getElem?_set, show ¬ i = j from fun h => e h.symm] using this
    · obtain rfl : i = xs.length := by omega
      rw [he]
      congr 1
      apply List.ext_getElem h3
      intro j hj1 hj2
      have := h4 j hj2
      simpa [hj1, hj2] using this

theorem G17_ok (a : List Term) (ha : a.length ≤ 1048576) : G17 k a = some (a, ()) := by
  rw [G17_eq, if_pos (by omega), if_pos (by omega), if_pos (by omega)]
  refine loop_copy dTerm (fun n i out => L17_0 k n a i out) a (fun x => some (x, ())) ?_ ?_ k 0 _ (Nat.zero_le _) (by omega) (by simp) (fun j hj => by omega)
  · intro n i out hi ho
    show L17_0 k (n + 1) a i out = _
    rw [L17_0_eq, G8_ok]
    simp (disch := omega) only [Option.bind_some, wsucc, Int.toNat_natCast]
    grind
  · intro n out
    show L17_0 k (n + 1) a _ out = _
    rw [L17_0_eq]; grind

theorem G18_ok (a : List Rule) (ha : a.length ≤ 1048576) : G18 k a = some (a, ()) := by
  rw [G18_eq, if_pos (by omega), if_pos (by omega), if_pos (by omega)]
  refine loop_copy dRule (fun n i out => L18_0 k n a i out) a (fun x => some (x, ())) ?_ ?_ k 0 _ (Nat.zero_le _) (by omega) (by simp) (fun j hj => by omega)
  · intro n i out hi ho
    show L18_0 k (n + 1) a i out = _
    rw [L18_0_eq, G33_ok]
    simp (disch := omega) only [Option.bind_some, wsucc, Int.toNat_natCast]
    grind
  · intro n out
    show L18_0 k (n + 1) a _ out = _
    rw [L18_0_eq]; grind

theorem G7_ok (l : Locale) (hb : bndL 1048576 l) : G7 k l = some (l, ()) := by
  rw [G7_eq, G17_ok k hk hk2 _ hb.2.1, G18_ok k hk hk2 _ hb.2.2.1]
  rfl

omit hk hk2 in
theorem G41_ok (t : Term) : G41 k t t = some (true, ()) := by rw [G41_eq]; simp [sEq_self]
omit hk hk2 in
theorem G42_ok (t : Rule) : G42 k t t = some (true, ()) := by rw [G42_eq]; simp [sEq_self]

theorem G22_ok (a : List Term) (ha : a.length < k) : G22 k a a = some (true, ()) := by
  rw [G22_eq, if_neg (by simp)]
  refine (loop_all (fun n i => L22_0 k n a a i) a.length (fun _ => true) (some (false, ())) (some (true, ())) ?_ ?_ k 0 (Nat.zero_le _) (by omega)).trans (by simp)
  · intro n i hi
    show L22_0 k (n + 1) a a i = _
    rw [L22_0_eq, G41_ok]; grind [wsucc]
  · intro n
    show L22_0 k (n + 1) a a _ = _
    rw [L22_0_eq]; grind

theorem G23_ok (a : List Rule) (ha : a.length < k) : G23 k a a = some (true, ()) := by
  rw [G23_eq, if_neg (by simp)]
  refine (loop_all (fun n i => L23_0 k n a a i) a.length (fun _ => true) (some (false, ())) (some (true, ())) ?_ ?_ k 0 (Nat.zero_le _) (by omega)).trans (by simp)
  · intro n i hi
    show L23_0 k (n + 1) a a i = _
    rw [L23_0_eq, G42_ok]; grind [wsucc]
  · intro n
    show L23_0 k (n + 1) a a _ = _
    rw [L23_0_eq]; grind

theorem G10_ok (l : Locale) (h1 : l.2.1.length < k) (h2 : l.2.2.1.length < k) : G10 k l l = some (true, ()) := by
  rw [G10_eq, G22_ok k hk hk2 _ h1, G23_ok k hk hk2 _ h2]
  simp [sEq_self]

end
end Go.Vm

namespace Go.Vm
open Go.Proofs

/-! ### Marks -/
section
variable (k : Nat) (hk : k = 8388608)

theorem ofBytes_size (xs : List Int) : (ofBytes xs).size = xs.length := by
  show (xs.map fun n => UInt8.ofNat n.toNat).toArray.size = _
  simp

theorem L43_some : ∀ (n : Nat) (v : Int) (out : ByteArray), 0 ≤ v → v < n → out.size + n ≤ 16777216 → ∃ r : ByteArray, L43_0 k n v out = some (r, ()) := by
  intro n
  induction n with
  | zero => intro v out h1 h2; omega
  | succ n ih =>
    intro v out h1 h2 h3
    rw [L43_0_eq]
    have hs : (ofBytes [(IntKind.wrap .u8 (IntKind.wrap .i64 ((48 : Int) + (Int.tmod v (10 : Int)))))]).size = 1 := ofBytes_size _
    rw [Int.tdiv_eq_ediv_of_nonneg h1]
    by_cases hv : v > 0
    · obtain ⟨r, hr⟩ := ih (v / 10) ((ofBytes [(IntKind.wrap .u8 (IntKind.wrap .i64 ((48 : Int) + (Int.tmod v (10 : Int)))))]) ++ out) (by omega) (by omega) (by rw [ByteArray.size_append]; omega)
      refine ⟨r, ?_⟩
      rw [if_pos (by simpa using hv), if_neg (by omega), if_pos (by omega), if_neg (by omega), w64 (by omega) (by omega), hr]
    · refine ⟨(⟨#[109]⟩ : ByteArray) ++ out, ?_⟩
      have : (⟨#[109]⟩ : ByteArray).size = 1 := rfl
      rw [if_neg (by simpa using hv), if_pos (by omega)]

noncomputable def mk (v : Int) : ByteArray := ((G43 k v).getD (ByteArray.empty, ())).1

include hk

theorem G43_ok (v : Int) (h1 : v ≤ 8388600) : G43 k v = some (mk k v, ()) := by
  have h : ∃ r : ByteArray, G43 k v = some (r, ()) := by
    rw [G43_eq]
    by_cases hv : v ≤ 0
    · exact ⟨_, if_pos (by simpa using hv)⟩
    · rw [if_neg (by simpa using hv)]
      refine L43_some k k v _ (by omega) (by omega) ?_
      have : (⟨#[]⟩ : ByteArray).size = 0 := rfl
      omega
  obtain ⟨r, hr⟩ := h
  unfold mk
  rw [hr]; rfl

noncomputable def markT (v : Int) : Term := (mk k v, mk k (v + 1), mk k (v + 2), ())
noncomputable def markR (v : Int) : Rule := (v, v + 1, mk k (v + 2), ())

theorem L24_ok : ∀ (n i : Nat) (v : Int) (a : List Term), a.length ≤ 1048577 → i ≤ a.length → a.length < n + i → 0 ≤ v → v + 3 * (a.length - i : Int) ≤ 8388600 →
    ∃ a' : List Term, L24_0 k n v i a = some ((v + 3 * (a.length - i : Int), ()), (a', ())) ∧ a'.length = a.length ∧ (∀ j, j < i → a'.getD j dTerm = a.getD j dTerm) ∧ ∀ j, i ≤ j → j < a.length → a'.getD j dTerm = markT k (v + 3 * (j - i : Int)) := by
  intro n
  induction n with
  | zero => intro i v a hl h1 h2; omega
  | succ n ih =>
    intro i v a hl h1 h2 h3 h4
    rw [L24_0_eq]
    by_cases hi : i < a.length
    · obtain ⟨a', h5, h6, h7, h8⟩ := ih (i + 1) (v + 3) (a.set i (markT k v)) (by simpa using hl) (by simp; omega) (by simp; omega) (by omega) (by simp; omega)
      refine ⟨a', ?_, by simpa using h6, fun j hj => ?_, fun j hj1 hj2 => ?_⟩
      · rw [G43_ok k hk v (by omega)]
        simp (disch := omega) only [w64, G43_ok k hk, Option.bind_some, Int.toNat_natCast, show v + 1 + 1 = v + 2 by omega, show v + 2 + 1 = v + 3 by omega]
        simp [hi, markT] at h5 ⊢
        rw [h5]
        grind
      · rw [h7 j (by omega)]
        simp [show ¬ i = j by omega]
      · by_cases e : j = i
        · subst e
          rw [h7 j (by omega)]
          simp [hj2]
        · rw [h8 j (by omega) (by simpa using hj2)]
          congr 1
          omega
    · obtain rfl : i = a.length := by omega
      exact ⟨a, by rw [if_neg (by simp)]; simp, rfl, fun _ _ => rfl, fun j hj1 hj2 => by omega⟩

theorem L26_ok (a : List Term) (v : Int) (h0 : 0 ≤ v) (h1 : v + 3 * a.length ≤ 8388600) (h : ∀ j, j < a.length → a.getD j dTerm = markT k (v + 3 * j)) (h2 : a.length < k) :
    L26_0 k k a v 0 = some (v + 3 * a.length, ()) := by
  have e := loop_scan (fun n i => L26_0 k n a (v + 3 * i) i) a.length (fun _ => true) (fun j => some (v + 3 * j, ())) ?_ ?_ ?_ k 0 (Nat.zero_le _) (by omega)
  · have hs : ∀ n i, scan (fun _ => true) n i = i + n := by
      intro n
      induction n with
      | zero => intro i; rfl
      | succ n ih => intro i; rw [scan, if_pos rfl, ih]; omega
    simp only [hs] at e
    simpa using e
  · intro n i hi _
    show L26_0 k (n + 1) a _ i = _
    rw [L26_0_eq, Int.toNat_natCast, h i hi, wsucc (by omega), show v + 3 * ((i + 1 : Nat) : Int) = v + 3 * (i : Int) + 3 by omega]
    obtain ⟨w, hw⟩ : ∃ w : Int, w = v + 3 * (i : Int) := ⟨_, rfl⟩
    have hw1 : w + 3 ≤ 8388600 := by omega
    have hw2 : 0 ≤ w := by omega
    rw [← hw]
    clear hw h
    rw [w64 (n := w + 1) (by omega) (by omega), w64 (n := w + 1 + 1) (by omega) (by omega), w64 (n := w + 1 + 1 + 1) (by omega) (by omega), show w + 1 + 1 + 1 = w + 3 by omega, show w + 1 + 1 = w + 2 by omega, G43_ok k hk w (by omega), G43_ok k hk (w + 1) (by omega), G43_ok k hk (w + 2) (by omega)]
    simp only [Option.bind_some]
    unfold markT
    grind [sEq_self]
  · intro n i hi hf; cases hf
  · intro n
    show L26_0 k (n + 1) a _ _ = _
    rw [L26_0_eq]; simp

theorem L25_ok : ∀ (n i : Nat) (v : Int) (a : List Rule), a.length ≤ 1048577 → i ≤ a.length → a.length < n + i → 0 ≤ v → v + 3 * (a.length - i : Int) ≤ 8388600 →
    ∃ a' : List Rule, L25_0 k n v i a = some ((v + 3 * (a.length - i : Int), ()), (a', ())) ∧ a'.length = a.length ∧ (∀ j, j < i → a'.getD j dRule = a.getD j dRule) ∧ ∀ j, i ≤ j → j < a.length → a'.getD j dRule = markR k (v + 3 * (j - i : Int)) := by
  intro n
  induction n with
  | zero => intro i v a hl h1 h2; omega
  | succ n ih =>
    intro i v a hl h1 h2 h3 h4
    rw [L25_0_eq]
    by_cases hi : i < a.length
    · obtain ⟨a', h5, h6, h7, h8⟩ := ih (i + 1) (v + 3) (a.set i (markR k v)) (by simpa using hl) (by simp; omega) (by simp; omega) (by omega) (by simp; omega)
      refine ⟨a', ?_, by simpa using h6, fun j hj => ?_, fun j hj1 hj2 => ?_⟩
      · simp (disch := omega) only [w64, G43_ok k hk, Option.bind_some, Int.toNat_natCast, show v + 1 + 1 = v + 2 by omega, show v + 2 + 1 = v + 3 by omega]
        simp [hi, markR] at h5 ⊢
        rw [h5]
        grind
      · rw [h7 j (by omega)]
        simp [show ¬ i = j by omega]
      · by_cases e : j = i
        · subst e
          rw [h7 j (by omega)]
          simp [hj2]
        · rw [h8 j (by omega) (by simpa using hj2)]
          congr 1
          omega
    · obtain rfl : i = a.length := by omega
      exact ⟨a, by rw [if_neg (by simp)]; simp, rfl, fun _ _ => rfl, fun j hj1 hj2 => by omega⟩

theorem L27_ok (a : List Rule) (v : Int) (h0 : 0 ≤ v) (h1 : v + 3 * a.length ≤ 8388600) (h : ∀ j, j < a.length → a.getD j dRule = markR k (v + 3 * j)) (h2 : a.length < k) :
    L27_0 k k a v 0 = some (v + 3 * a.length, ()) := by
  have e := loop_scan (fun n i => L27_0 k n a (v + 3 * i) i) a.length (fun _ => true) (fun j => some (v + 3 * j, ())) ?_ ?_ ?_ k 0 (Nat.zero_le _) (by omega)
  · have hs : ∀ n i, scan (fun _ => true) n i = i + n := by
      intro n
      induction n with
      | zero => intro i; rfl
      | succ n ih => intro i; rw [scan, if_pos rfl, ih]; omega
    simp only [hs] at e
    simpa using e
  · intro n i hi _
    show L27_0 k (n + 1) a _ i = _
    rw [L27_0_eq, Int.toNat_natCast, h i hi, wsucc (by omega), show v + 3 * ((i + 1 : Nat) : Int) = v + 3 * (i : Int) + 3 by omega]
    obtain ⟨w, hw⟩ : ∃ w : Int, w = v + 3 * (i : Int) := ⟨_, rfl⟩
    have hw1 : w + 3 ≤ 8388600 := by omega
    have hw2 : 0 ≤ w := by omega
    rw [← hw]
    clear hw h
    rw [w64 (n := w + 1) (by omega) (by omega), w64 (n := w + 1 + 1) (by omega) (by omega), w64 (n := w + 1 + 1 + 1) (by omega) (by omega), show w + 1 + 1 + 1 = w + 3 by omega, show w + 1 + 1 = w + 2 by omega, G43_ok k hk (w + 2) (by omega)]
    simp only [Option.bind_some]
    unfold markR
    grind [sEq_self]
  · intro n i hi hf; cases hf
  · intro n
    show L27_0 k (n + 1) a _ _ = _
    rw [L27_0_eq]; simp

theorem G11_ok (l : Locale) (h1 : l.2.1.length ≤ 1048577) (h2 : l.2.2.1.length ≤ 1048576) : ∃ (a : List Term) (b : List Rule) (v : Int), G11 k l 1 = some ((v, ()), (a, b, ())) ∧ 0 ≤ v ∧
    ∀ x y z, G12 k (x, a, b, y, z, ()) 1 = some (v, ()) := by
  obtain ⟨a, e1, e2, _, e3⟩ := L24_ok k hk k 0 1 l.2.1 (by omega) (by omega) (by omega) (by omega) (by omega)
  obtain ⟨b, f1, f2, _, f3⟩ := L25_ok k hk k 0 (1 + 3 * (l.2.1.length : Int)) l.2.2.1 (by omega) (by omega) (by omega) (by omega) (by omega)
  simp only [Int.natCast_zero, Int.sub_zero] at e1 f1 e3 f3
  have e1' : G24 k l.2.1 1 = some ((1 + 3 * (l.2.1.length : Int), ()), (a, ())) := by rw [G24_eq]; exact e1
  have f1' : G25 k l.2.2.1 (1 + 3 * (l.2.1.length : Int)) = some ((1 + 3 * (l.2.1.length : Int) + 3 * (l.2.2.1.length : Int), ()), (b, ())) := by rw [G25_eq]; exact f1
  refine ⟨a, b, 1 + 3 * (l.2.1.length : Int) + 3 * (l.2.2.1.length : Int), ?_, by omega, fun x y z => ?_⟩
  · rw [G11_eq, e1']
    simp only [Option.bind_some, f1']
  · have g1 : G26 k a 1 = some (1 + 3 * (l.2.1.length : Int), ()) := by
      rw [G26_eq, L26_ok k hk a 1 (by omega) (by omega) (fun j hj => e3 j (by omega) (by omega)) (by omega), e2]
    have g2 : G27 k b (1 + 3 * (l.2.1.length : Int)) = some (1 + 3 * (l.2.1.length : Int) + 3 * (l.2.2.1.length : Int), ()) := by
      rw [G27_eq, L27_ok k hk b _ (by omega) (by omega) (fun j hj => f3 j (by omega) (by omega)) (by omega), f2]
    rw [G12_eq, g1]
    simp only [Option.bind_some, g2]
    rw [if_neg (by simp; omega), if_neg (by simp; omega)]

end
end Go.Vm

namespace Go.Vm
open Go.Proofs

theorem addOne_some (l : Locale) (t : Term) (hb : l.2.1.length ≤ 1048576 ∧ l.2.2.1.length ≤ 1048576) : ∃ (m : Locale) (b : Bool), addOne l t = some (m, b, ()) ∧ m.2.1.length ≤ 1048577 ∧ m.2.2.1.length ≤ 1048576 := by
  unfold addOne
  split
  · unfold addRes
    split
    · exact ⟨_, _, rfl, Nat.le_trans (addAt_len _ _ _) (by omega), hb.2⟩
    · exact ⟨_, _, rfl, by simp, by simp⟩
  · exact ⟨_, _, rfl, by simp, by simp⟩

theorem G3_ok (l : Locale) (t : Term) (hl : bndL big l) (ht : bndT big t) : G3 8388608 l t = some (true, ()) := by
  obtain ⟨k, hk⟩ : ∃ k : Nat, k = 8388608 := ⟨_, rfl⟩
  rw [← hk, G3_eq]
  obtain ⟨r, hr, hr2⟩ := G4_ok k l 1048576 (by omega) (by omega) (by omega) hl
  rw [hr]
  simp only [Option.bind_some]
  rcases hr2 with h | ⟨h0, h1, hb⟩
  · rw [if_pos (by simpa using h)]
  rw [if_neg (by simp; omega)]
  obtain ⟨r', hr', hr2'⟩ := G5_ok k t r h0 h1 ht
  rw [hr']
  simp only [Option.bind_some]
  rcases hr2' with h | ⟨h2, h3, ht'⟩
  · rw [if_pos (by simpa using h)]
  rw [if_neg (by simp; omega)]
  obtain ⟨m, b, hm, hm1, hm2⟩ := addOne_some l t ⟨hb.2.1, hb.2.2.1⟩
  obtain ⟨_, _, v0, e0, e1, _⟩ := G11_ok k hk l (by have := hb.2.1; omega) hb.2.2.1
  obtain ⟨a', b', v, f0, f1, f2⟩ := G11_ok k hk m hm1 hm2
  have g10 := G10_ok k (by omega) (by omega) m (by omega) (by omega)
  have g10' := G10_ok k (by omega) (by omega) l (by have := hb.2.1; omega) (by have := hb.2.2.1; omega)
  have g7 := G7_ok k (by omega) (by omega) l hb
  have g6 := (G6_ok k (by omega) (by omega) l t hb ht').trans hm
  have g9 := (G9_ok k (by omega) (by omega) l t hb ht').trans hm
  simp [g7, G8_ok, g6, g9, g10, g10', e0, f0, f2, show ¬ v < 0 by omega, show ¬ v0 < 0 by omega]

end Go.Vm

namespace Go.Vm

/-! ### Arguments of a row, read as data -/

abbrev Bnd : Nat := 140737488351232

mutual
/-- The data is as large as a row's reach allows. -/
def okU : U → Prop
  | .i k n => (Lit.int k n).wf = true
  | .b _ => True
  | .s s => s.size ≤ Bnd
  | .l n cs => n ≤ Bnd ∧ okUs cs
def okUs : List U → Prop
  | [] => True
  | u :: r => okU u ∧ okUs r
end

theorem okUs_append : ∀ (a b : List U), okUs (a ++ b) ↔ okUs a ∧ okUs b
  | [], b => by simp [okUs]
  | u :: a, b => by simp only [List.cons_append, okUs, okUs_append a b, and_assoc]

theorem okUs_flatMap {α : Type} (f : α → List U) : ∀ (xs : List α), (∀ x ∈ xs, okUs (f x)) → okUs (xs.flatMap f)
  | [], _ => by simp [okUs]
  | x :: r, h => by
    rw [List.flatMap_cons, okUs_append]
    exact ⟨h x (by simp), okUs_flatMap f r fun y hy => h y (by simp [hy])⟩

def unsnoc : (r : List C) → (c : C) → C.Is (r ++ [c]) → C.Is r × c.I
  | [], _, x => ((), x.1)
  | _ :: r, c, x => ((x.1, (unsnoc r c x.2).1), (unsnoc r c x.2).2)

theorem encs_unsnoc : ∀ (r : List C) (c : C) (x : C.Is (r ++ [c])), encs (r ++ [c]) x = encs r (unsnoc r c x).1 ++ [enc c (unsnoc r c x).2]
  | [], c, x => rfl
  | d :: r, c, x => by
    show enc d x.1 :: encs (r ++ [c]) x.2 = _
    rw [encs_unsnoc r c x.2]
    rfl

/-- A slice's content out of its elements' rows. -/
def ofElems : (c : C) → List (C.Is (rowOf c)) → c.I
  | .int _, _ => (0 : Int)
  | .bool, _ => false
  | .str, _ => ByteArray.empty
  | .sl1 c, xs => (xs.map fun (x : c.I × Unit) => x.1 : List c.I)
  | .sl r, xs => (xs : List (C.Is r))
  | .kids r, xs => (xs.map fun x => Rose.mk (unsnoc r (.kids r) x).1 (unsnoc r (.kids r) x).2 : List (Rose (C.Is r)))

theorem ofElems_aux1 {α : Type} (f : α → U) : ∀ (xs : List (α × Unit)), U.l (xs.map fun x => x.1).length ((xs.map fun x => x.1).map f) = .l xs.length (xs.flatMap fun x => [f x.1])
  | [] => rfl
  | x :: r => by
    have h := ofElems_aux1 f r
    simp only [U.l.injEq, List.map_cons, List.length_cons, List.flatMap_cons] at h ⊢
    exact ⟨by simp, by rw [h.2]; rfl⟩

theorem ofElems_aux2 {α β : Type} (f : α → List U) (g : β → α × List (Rose α)) (e : β → List U) (h : ∀ x, e x = f (g x).1 ++ [.l (g x).2.length (rosesU f (g x).2)]) : ∀ (xs : List β),
    U.l (xs.map fun x => Rose.mk (g x).1 (g x).2).length (rosesU f (xs.map fun x => Rose.mk (g x).1 (g x).2)) = .l xs.length (xs.flatMap e)
  | [] => rfl
  | x :: r => by
    have k := ofElems_aux2 f g e h r
    simp only [U.l.injEq, List.map_cons, List.length_cons, List.flatMap_cons, rosesU, roseU] at k ⊢
    exact ⟨by simp, by rw [k.2, h x]⟩

theorem enc_ofElems (c : C) (h : isSl c = true) (xs : List (C.Is (rowOf c))) : enc c (ofElems c xs) = .l xs.length (xs.flatMap (encs (rowOf c))) := by
  cases c with
  | sl1 c => exact ofElems_aux1 (enc c) xs
  | sl r => rfl
  | kids r => exact ofElems_aux2 (encs r) (unsnoc r (.kids r)) (encs (r ++ [.kids r])) (fun x => encs_unsnoc r (.kids r) x) xs
  | int k => cases h
  | bool => cases h
  | str => cases h

def hasB (tab : List (TypeId × List C)) (t : TypeId) (cs : List C) : Bool := tab.any fun x => x.1 == t && C.beqs x.2 cs

theorem hasB_mem {tab : List (TypeId × List C)} {t : TypeId} {cs : List C} (h : hasB tab t cs = true) : (t, cs) ∈ tab := by
  unfold hasB at h
  obtain ⟨x, hx, h⟩ := List.any_eq_true.1 h
  simp only [Bool.and_eq_true, beq_iff_eq] at h
  have h2 := C.beqs_eq h.2
  rcases x with ⟨a, b⟩
  simp only at h h2
  rw [← h.1, ← h2]; exact hx

def fieldsB (P : Program) (tab : List (TypeId × List C)) : List Field → Nat → List C → Bool
  | [], _, cs => cs.isEmpty
  | f :: r, off, cs => f.offset == off && hasB tab f.type (cs.take (P.cellsOf f.type)) && decide (P.cellsOf f.type ≤ cs.length) && fieldsB P tab r (off + P.cellsOf f.type) (cs.drop (P.cellsOf f.type))

/-- What the table of types to be read says is so. -/
def rdTab (P : Program) (tab : List (TypeId × List C)) : Bool := tab.all fun x => match P.underlying x.1 with
  | some .bool => C.beqs x.2 [.bool]
  | some (.int k) => C.beqs x.2 [.int k]
  | some .string => C.beqs x.2 [.str]
  | some (.slice e) => match x.2 with
    | [c] => isSl c && hasB tab e (rowOf c) && P.cellsOf e == (rowOf c).length && decide (1 ≤ P.bytesOf e) && decide (1 ≤ (rowOf c).length)
    | _ => false
  | some (.struct fs) => P.cellsOf x.1 == x.2.length && fieldsB P tab fs.toList 0 x.2
  | _ => false

/-- Cells that hold data. -/
def RowRd (w : World) (Al : Nat → Prop) (us : List U) (vs : List Value) : Prop :=
  vs.length = us.length ∧ ∀ (i : Nat) (u : U), us[i]? = some u → ∃ v, vs[i]? = some v ∧ Rd w Al u v

theorem RowRd.nil {w : World} {Al : Nat → Prop} : RowRd w Al [] [] := ⟨rfl, fun i u h => by simp at h⟩

theorem RowRd.append {w : World} {Al : Nat → Prop} {a b : List U} {x y : List Value} (h : RowRd w Al a x) (k : RowRd w Al b y) : RowRd w Al (a ++ b) (x ++ y) := by
  refine ⟨by simp [h.1, k.1], fun i u hu => ?_⟩
  by_cases hi : i < a.length
  · rw [List.getElem?_append_left hi] at hu
    obtain ⟨v, h1, h2⟩ := h.2 i u hu
    exact ⟨v, by rw [List.getElem?_append_left (by rw [h.1]; exact hi)]; exact h1, h2⟩
  · rw [List.getElem?_append_right (by omega)] at hu
    obtain ⟨v, h1, h2⟩ := k.2 _ u hu
    exact ⟨v, by rw [List.getElem?_append_right (by rw [h.1]; omega), h.1]; exact h1, h2⟩

theorem RowRd.one {w : World} {Al : Nat → Prop} {u : U} {v : Value} (h : Rd w Al u v) : RowRd w Al [u] [v] :=
  ⟨rfl, fun i x hx => by
    cases i with
    | zero => simp at hx; subst hx; exact ⟨v, rfl, h⟩
    | succ i => simp at hx⟩

def splitIs : (r s : List C) → C.Is r → C.Is s → C.Is (r ++ s)
  | [], _, _, y => y
  | _ :: r, s, x, y => (x.1, splitIs r s x.2 y)

theorem encs_splitIs : ∀ (r s : List C) (x : C.Is r) (y : C.Is s), encs (r ++ s) (splitIs r s x y) = encs r x ++ encs s y
  | [], _, _, _ => rfl
  | c :: r, s, x, y => by
    show enc c x.1 :: encs (r ++ s) (splitIs r s x.2 y) = _
    rw [encs_splitIs r s x.2 y]; rfl

section
variable {H : Type} {enc' : TypeId × Value → H} {P : Program} {w : World} {spare : Nat → Bool} {held : Bool}

def Reads (w : World) (cells : List C) (vs : List Value) : Prop := ∃ xs : C.Is cells, RowRd w (fun g => g < w.heap.size) (encs cells xs) vs ∧ okUs (encs cells xs)

theorem Reads.append {w : World} {r s : List C} {x y : List Value} (h : Reads w r x) (k : Reads w s y) : Reads w (r ++ s) (x ++ y) := by
  obtain ⟨a, h1, h2⟩ := h
  obtain ⟨b, k1, k2⟩ := k
  exact ⟨splitIs r s a b, by rw [encs_splitIs]; exact h1.append k1, by rw [encs_splitIs, okUs_append]; exact ⟨h2, k2⟩⟩

theorem cells?_row {a : Addr} {n : Nat} {cs : List Value} (h : w.cells? 0 a n = some cs) : cs.length = n ∧ ∀ i, i < n → w.cell? (a.add i) = cs[i]? := by
  unfold World.cells? at h
  rw [if_pos (Nat.zero_le _)] at h
  refine ⟨by simpa using mapM_some_length h, fun i hi => mapM_some_get h i i (by simp [hi])⟩

theorem fields_read {tab : List (TypeId × List C)} {n : Nat}
    (ih : ∀ (t : TypeId) (cells : List C) (cs : List Value) (x : DataW H × List MemPlace), (t, cells) ∈ tab → DataW.trod enc' P w 0 spare held n t cs = some x → (∀ m ∈ x.1.weights P t, m ≤ reachBytes) → Reads w cells cs) :
    ∀ (fs : List Field) (off : Nat) (cells : List C) (cs : List Value) (xs : List (DataW H × List MemPlace)), fieldsB P tab fs off cells = true → xs.length = fs.length → cs.length = off + cells.length →
      (∀ (i : Nat) (f : Field), fs[i]? = some f → DataW.trod enc' P w 0 spare held n f.type ((cs.drop f.offset).take (P.cellsOf f.type)) = xs[i]?) →
      (∀ m ∈ DataW.weightsEach P (fs.map (·.type)) (xs.map (·.1)), m ≤ reachBytes) → Reads w cells (cs.drop off)
  | [], off, cells, cs, xs, hf, hl, hc, hr, hw => by
    simp only [fieldsB, List.isEmpty_iff] at hf
    subst hf
    have : cs.drop off = [] := by apply List.drop_eq_nil_of_le; simp at hc; omega
    rw [this]
    exact ⟨(), RowRd.nil, trivial⟩
  | f :: r, off, cells, cs, xs, hf, hl, hc, hr, hw => by
    simp only [fieldsB, Bool.and_eq_true, beq_iff_eq, decide_eq_true_eq] at hf
    obtain ⟨⟨⟨h1, h2⟩, h3⟩, h4⟩ := hf
    cases xs with
    | nil => simp at hl
    | cons x xs =>
      have h5 := hr 0 f rfl
      rw [h1] at h5
      simp only [List.map_cons, DataW.weightsEach, List.mem_append] at hw
      have h6 := ih f.type _ _ x (hasB_mem h2) h5 fun m hm => hw m (.inl hm)
      have h7 := fields_read ih r (off + P.cellsOf f.type) (cells.drop (P.cellsOf f.type)) cs xs h4 (by simpa using hl) (by rw [List.length_drop]; omega) (fun i g hg => by simpa using hr (i + 1) g (by simpa using hg)) fun m hm => hw m (.inr hm)
      have h8 := h6.append h7
      rw [List.take_append_drop] at h8
      rw [← List.drop_drop, List.take_append_drop] at h8
      exact h8

theorem reads_ok {tab : List (TypeId × List C)} (ht : rdTab P tab = true) : ∀ (n : Nat) (t : TypeId) (cells : List C) (cs : List Value) (x : DataW H × List MemPlace), (t, cells) ∈ tab →
    DataW.trod enc' P w 0 spare held n t cs = some x → (∀ m ∈ x.1.weights P t, m ≤ reachBytes) → Reads w cells cs := by
  intro n
  induction n with
  | zero => intro t cells cs x _ h; simp [DataW.trod] at h
  | succ n ih =>
    intro t cells cs x hm h hw
    have h0 := List.all_eq_true.1 ht _ hm
    simp only at h0
    split at h0
    · rename_i hu
      obtain ⟨b, rfl, rfl⟩ := DataW.trod_bool hu h
      rw [C.beqs_eq h0]
      exact ⟨(b, ()), RowRd.one rfl, trivial, trivial⟩
    · rename_i k hu
      obtain ⟨b, rfl, rfl, hwf⟩ := DataW.trod_int hu h
      rw [C.beqs_eq h0]
      exact ⟨(b, ()), RowRd.one rfl, hwf, trivial⟩
    · rename_i hu
      obtain ⟨s, rfl, rfl, hs⟩ := DataW.trod_string hu h
      rw [C.beqs_eq h0]
      refine ⟨(s, ()), RowRd.one rfl, ?_, trivial⟩
      have := hw s.data.toList.length (by simp [DataW.weights])
      rw [Array.length_toList] at this
      exact this
    · rename_i e hu
      match cells, h0, hm with
      | [c], h0, hm =>
        clear hm
        simp only [Bool.and_eq_true, beq_iff_eq, decide_eq_true_eq] at h0
        obtain ⟨⟨⟨⟨h1, h2⟩, h3⟩, h4⟩, h5⟩ := h0
        rcases DataW.trod_slice hu h with ⟨rfl, rfl⟩ | ⟨a, len, cap, elems, rest, m, hn, rfl, rfl, hb, hl, hm, hlen, hel, _, _⟩
        · refine ⟨(ofElems c [], ()), RowRd.one ?_, ?_, trivial⟩
          · show Rd _ _ (enc c (ofElems c [])) _
            rw [enc_ofElems c h1]
            exact ⟨none, 0, rfl, Nat.le_refl _, .inl rfl⟩
          · rw [enc_ofElems c h1]
            exact ⟨by simp, trivial⟩
        · obtain rfl : n = m := by omega
          simp only [DataW.weights, hu] at hw
          have hw1 := hw _ (List.mem_cons_self ..)
          have hlb : len ≤ Bnd := by
            have : len * 1 ≤ (elems.length + rest.length) * P.bytesOf e := Nat.mul_le_mul (by omega) h4
            simp only [List.length_map] at hw1
            have h9 : reachBytes = Bnd := rfl
            omega
          have hw2 : ∀ (i : Nat) (y : DataW H × List MemPlace), elems[i]? = some y → ∀ m ∈ y.1.weights P e, m ≤ reachBytes := by
            intro i y hy m hm
            refine hw m (List.mem_cons_of_mem _ (List.mem_append_left _ ?_))
            have : ∀ (l : List (DataW H)) (d : DataW H), d ∈ l → m ∈ d.weights P e → m ∈ DataW.weightsAll P e l := by
              intro l
              induction l with
              | nil => intro d hd; simp at hd
              | cons z l ihl =>
                intro d hd hmd
                simp only [DataW.weightsAll, List.mem_append]
                rcases List.mem_cons.1 hd with rfl | hd
                · exact .inl hmd
                · exact .inr (ihl d hd hmd)
            exact this _ y.1 (List.mem_map.2 ⟨y, List.mem_of_getElem? hy, rfl⟩) hm
          have hone : ∀ i, i < len → ∃ xs : C.Is (rowOf c), okUs (encs (rowOf c) xs) ∧ ∀ (j : Nat) (u : U), (encs (rowOf c) xs)[j]? = some u → ∃ v, w.cell? ⟨a.block, a.off + (i * (rowOf c).length + j), none⟩ = some v ∧ a.spot = none ∧ a.block < w.heap.size ∧ Rd w (fun g => g < w.heap.size) u v := by
            intro i hi
            have hi2 := hel i hi
            rw [List.getElem?_eq_getElem (by omega)] at hi2
            obtain ⟨cs', hc1, hc2⟩ := Option.bind_eq_some_iff.1 hi2
            obtain ⟨xs, hx1, hx2⟩ := ih e (rowOf c) cs' _ (hasB_mem h2) hc2 (hw2 i _ (List.getElem?_eq_getElem (by omega)))
            obtain ⟨hlc, hcell⟩ := cells?_row hc1
            refine ⟨xs, hx2, fun j u hu => ?_⟩
            obtain ⟨v, hv1, hv2⟩ := hx1.2 j u hu
            have hj : j < P.cellsOf e := by
              rw [← hlc]
              exact (List.getElem?_eq_some_iff.1 hv1).1
            have hcj := hcell j hj
            rw [hv1] at hcj
            have hsp : ∀ (b : Addr), w.cell? b = some v → b.spot = none ∧ b.block < w.heap.size := by
              intro b hb
              unfold World.cell? at hb
              split at hb
              · rename_i hh
                split at hb
                · cases hb
                · rename_i hs
                  exact ⟨by simpa using hs, (Array.getElem?_eq_some_iff.1 hh).1⟩
              · cases hb
            obtain ⟨hs1, hs2⟩ := hsp _ hcj
            -- the first element's first cell tells of the spot
            have h00 : a.spot = none := by
              have h01 := hel 0 (by omega)
              rw [List.getElem?_eq_getElem (by omega)] at h01
              obtain ⟨cs0, hd1, hd2⟩ := Option.bind_eq_some_iff.1 h01
              obtain ⟨hl0, hcell0⟩ := cells?_row hd1
              have := hcell0 0 (by omega)
              rw [List.getElem?_eq_getElem (by omega)] at this
              have h02 : ((a.add (0 * P.cellsOf e)).add 0) = a := by simp [Addr.add]
              rw [h02] at this
              unfold World.cell? at this
              split at this
              · split at this
                · cases this
                · rename_i hs; simpa using hs
              · cases this
            have hadd : (a.add (i * P.cellsOf e)).add j = ⟨a.block, a.off + (i * (rowOf c).length + j), none⟩ := by
              rw [h3]
              rcases a with ⟨ab, ao, asp⟩
              simp only at h00
              subst h00
              unfold Addr.add
              by_cases e1 : i * (rowOf c).length = 0 <;> by_cases e2 : j = 0 <;> simp [e1, e2, Nat.add_assoc]
            rw [hadd] at hcj hs2
            exact ⟨v, hcj, h00, hs2, hv2⟩
          have hcho : ∃ f : Nat → C.Is (rowOf c), ∀ i, i < len → (okUs (encs (rowOf c) (f i)) ∧ ∀ (j : Nat) (u : U), (encs (rowOf c) (f i))[j]? = some u → ∃ v, w.cell? ⟨a.block, a.off + (i * (rowOf c).length + j), none⟩ = some v ∧ a.spot = none ∧ a.block < w.heap.size ∧ Rd w (fun g => g < w.heap.size) u v) := by
            refine ⟨fun i => if hi : i < len then Classical.choose (hone i hi) else dflts _, fun i hi => ?_⟩
            simp only [dif_pos hi]
            exact Classical.choose_spec (hone i hi)
          obtain ⟨f, hf⟩ := hcho
          have hlf : ((List.range len).map f).length = len := by simp
          refine ⟨(ofElems c ((List.range len).map f), ()), RowRd.one ?_, ?_, trivial⟩
          · show Rd _ _ (enc c (ofElems c ((List.range len).map f))) _
            rw [enc_ofElems c h1, hlf]
            refine ⟨some a, cap, rfl, hl, ?_⟩
            by_cases hz : len = 0
            · exact .inl hz
            · right
              have hfirst := hf 0 (by omega)
              obtain ⟨u0, hu0⟩ : ∃ u0, (encs (rowOf c) (f 0))[0]? = some u0 := ⟨_, List.getElem?_eq_getElem (by rw [encs_len]; omega)⟩
              obtain ⟨_, _, hsp, hblk, _⟩ := hfirst.2 0 u0 hu0
              refine ⟨a.block, a.off, ?_, hblk, ?_⟩
              · rcases a with ⟨ab, ao, asp⟩
                simp only at hsp
                subst hsp
                rfl
              · rw [RdC_iff]
                intro i u hu
                have hil : i < len * (rowOf c).length := by
                  have := (List.getElem?_eq_some_iff.1 hu).1
                  rw [flatMap_len (encs (rowOf c)) (rowOf c).length (encs_len _), hlf] at this
                  exact this
                have hq : i / (rowOf c).length < len := Nat.div_lt_of_lt_mul (by rw [Nat.mul_comm]; exact hil)
                have hat := flatMap_at (encs (rowOf c)) (rowOf c).length (encs_len _) ((List.range len).map f) (i / (rowOf c).length) (f 0) (by rw [hlf]; exact hq)
                have hgd : ((List.range len).map f).getD (i / (rowOf c).length) (f 0) = f (i / (rowOf c).length) := by simp [hq]
                rw [hgd] at hat
                have hu' : (encs (rowOf c) (f (i / (rowOf c).length)))[i % (rowOf c).length]? = some u := by
                  rw [← hat, List.getElem?_take, if_pos (Nat.mod_lt _ h5), List.getElem?_drop]
                  rw [show i / (rowOf c).length * (rowOf c).length + i % (rowOf c).length = i by rw [Nat.mul_comm]; exact Nat.div_add_mod _ _]
                  exact hu
                obtain ⟨v, hv1, _, _, hv2⟩ := (hf _ hq).2 _ u hu'
                rw [show i / (rowOf c).length * (rowOf c).length + i % (rowOf c).length = i by rw [Nat.mul_comm]; exact Nat.div_add_mod _ _] at hv1
                exact ⟨v, hv1, hv2⟩
          · rw [enc_ofElems c h1, hlf]
            refine ⟨hlb, okUs_flatMap _ _ fun y hy => ?_⟩
            obtain ⟨i, hi, rfl⟩ := List.mem_map.1 hy
            exact (hf i (List.mem_range.1 hi)).1
    · rename_i fs hu
      simp only [Bool.and_eq_true, beq_iff_eq] at h0
      obtain ⟨xs, m, hn, rfl, hlen, hxl, hr⟩ := DataW.trod_struct hu h
      obtain rfl : n = m := by omega
      simp only [DataW.weights, hu] at hw
      have := fields_read (fun t cells cs x hm h hw => ih t cells cs x hm h hw) fs.toList 0 cells cs xs h0.2 (by simpa using hxl) (by rw [hlen, h0.1]; omega) (fun i f hf => hr i f (by simpa using hf)) hw
      simpa using this
    · cases h0

end
end Go.Vm

namespace Go.Vm
open Go.RowKit

/-! ### The row of a law -/

theorem C.beq_self : (∀ c : C, C.beq c c = true) := by
  intro c
  exact C.rec (motive_1 := fun c => C.beq c c = true) (motive_2 := fun r => C.beqs r r = true)
    (fun k => by simp [C.beq]) rfl rfl (fun c h => by simpa [C.beq] using h) (fun r h => by simpa [C.beq] using h) (fun r h => by simpa [C.beq] using h) rfl (fun c r h1 h2 => by simp [C.beqs, h1, h2]) c

theorem cast?_self (c : C) (x : c.I) : cast? c c x = some x := by
  unfold cast?
  rw [dif_pos (C.beq_self c)]
  unfold castI
  rfl

def argB (P : Program) (tab : List (TypeId × List C)) (t : TypeId) : PT → Bool
  | .one c => hasB tab t [c] && (match P.underlying t with | some .bool | some (.int _) | some .string | some (.slice _) => true | _ => false)
  | .agg row => hasB tab t row && (match P.underlying t with | some (.struct _) => true | _ => false)
  | .fn _ => false

def argsB (P : Program) (tab : List (TypeId × List C)) : List TypeId → List PT → Bool
  | [], [] => true
  | t :: ts, p :: ps => argB P tab t p && argsB P tab ts ps
  | _, _ => false

/-- An argument is as large as a row's reach allows. -/
def okP : (p : PT) → p.I → Prop
  | .one c, x => okU (enc c x)
  | .agg row, x => okUs (encs row x)
  | .fn _, _ => True

def okArgs : (ps : List PT) → Args ps → Prop
  | [], _ => True
  | p :: r, x => okP p x.1 ∧ okArgs r x.2

def cf0 (w : World) : Cf := ⟨w, fun g => g < w.heap.size, [], []⟩

theorem cf0_ok (w : World) : (cf0 w).ok where
  len := rfl
  blk b blk h := by simp [cf0] at h
  inj b b' x y g cap cap' h := by simp [cf0] at h
  av g h := by obtain ⟨b, x, cap, h, _⟩ := h; simp [cf0] at h
  lt g h := h

section
variable {H : Type} {enc' : TypeId × Value → H} {P : Program} {w : World} {spare : Nat → Bool} {held : Bool}

theorem row_agg {w : World} : ∀ (row : List C) (x : C.Is row) (vs : List Value), RowRd w (fun g => g < w.heap.size) (encs row x) vs →
    ((dsOf row x).map V.ofD).length = vs.length ∧ ∀ (i : Nat) (a : V), ((dsOf row x).map V.ofD)[i]? = some a → ∃ u, vs[i]? = some u ∧ (cf0 w).r1 a u := by
  intro row x vs h
  have hl : (dsOf row x).length = (encs row x).length := by rw [← encs_ds, List.length_map]
  refine ⟨by rw [List.length_map, hl, h.1], fun i a ha => ?_⟩
  rw [List.getElem?_map, Option.map_eq_some_iff] at ha
  obtain ⟨d, hd, rfl⟩ := ha
  have : (encs row x)[i]? = some (D.U d) := by rw [← encs_ds, List.getElem?_map, hd]; rfl
  obtain ⟨v, h1, h2⟩ := h.2 i _ this
  exact ⟨v, h1, h2⟩

theorem arg_ok {tab : List (TypeId × List C)} (ht : rdTab P tab = true) {t : TypeId} {p : PT} (hp : argB P tab t p = true) {v : Value} {d : DataW H} {pl : List MemPlace} {base : Nat}
    (hval : Value.okWide P w .any base t v) (hd : DataW.Trod enc' P w 0 spare held t v d pl) (hw : ∀ m ∈ d.weights P t, m ≤ reachBytes) :
    ∃ x : p.I, (cf0 w).ra0 (encP p x) v ∧ okP p x := by
  obtain ⟨fuel, hf⟩ := hd
  cases p with
  | one c =>
    simp only [argB, Bool.and_eq_true] at hp
    obtain ⟨xs, h1, h2⟩ := reads_ok ht fuel t [c] _ _ (hasB_mem hp.1) hf hw
    have hv : v.cells.toList = [v] := by
      have h3 := hp.2
      split at h3
      · rename_i hu; obtain ⟨b, rfl⟩ := WideShapes.okWide_bool hu hval; rfl
      · rename_i k hu; obtain ⟨b, rfl⟩ := WideShapes.okWide_int hu hval; rfl
      · rename_i hu; obtain ⟨b, rfl⟩ := WideShapes.okWide_string hu hval; rfl
      · rename_i e hu; obtain ⟨a, l, cp, rfl⟩ := WideShapes.okWide_slice hu hval; rfl
      · cases h3
    rw [hv] at h1
    obtain ⟨v', h4, h5⟩ := h1.2 0 _ rfl
    simp at h4; subst h4
    exact ⟨xs.1, h5, h2.1⟩
  | agg row =>
    simp only [argB, Bool.and_eq_true] at hp
    obtain ⟨xs, h1, h2⟩ := reads_ok ht fuel t row _ _ (hasB_mem hp.1) hf hw
    have h3 := hp.2
    split at h3
    · rename_i fs hu
      obtain ⟨cs, rfl, _⟩ := WideShapes.okWide_struct hu hval
      obtain ⟨h4, h5⟩ := row_agg row xs _ h1
      refine ⟨xs, ⟨cs, rfl, ?_, fun i x hx => ?_⟩, h2⟩
      · rw [h4]; simp [Value.cells]
      · obtain ⟨u, h6, h7⟩ := h5 i x hx
        exact ⟨u, by simpa [Value.cells] using h6, h7⟩
    · cases h3
  | fn f => cases hp

theorem args_ok {tab : List (TypeId × List C)} (ht : rdTab P tab = true) {base : Nat} : ∀ (ts : List TypeId) (ps : List PT) (vs : List Value) (ds : List (DataW H)) (pl : List MemPlace), argsB P tab ts ps = true →
    (∀ (j : Nat) t v, ts[j]? = some t → vs[j]? = some v → Value.okWide P w .any base t v) → DataW.TrodAll enc' P w 0 spare held ts vs ds pl → (∀ m ∈ DataW.weightsEach P ts ds, m ≤ reachBytes) →
    ∃ x : Args ps, vs.length = (encArgs ps x).length ∧ (∀ (i : Nat) (a : A0), (encArgs ps x)[i]? = some a → ∃ v, vs[i]? = some v ∧ (cf0 w).ra0 a v) ∧ okArgs ps x
  | [], [], [], [], pl, _, _, h, _ => ⟨(), rfl, fun i a h => by simp [encArgs] at h, trivial⟩
  | t :: ts, p :: ps, v :: vs, d :: ds, pl, hb, hval, h, hw => by
    simp only [argsB, Bool.and_eq_true] at hb
    obtain ⟨p1, q1, h1, h2, _⟩ := h
    simp only [DataW.weightsEach, List.mem_append] at hw
    obtain ⟨x, hx1, hx2⟩ := arg_ok ht hb.1 (hval 0 t v rfl rfl) h1 fun m hm => hw m (.inl hm)
    obtain ⟨y, hy1, hy2, hy3⟩ := args_ok ht ts ps vs ds q1 hb.2 (fun j t v h1 h2 => hval (j + 1) t v (by simpa using h1) (by simpa using h2)) h2 fun m hm => hw m (.inr hm)
    refine ⟨(x, y), by simp [encArgs, hy1], fun i a ha => ?_, hx2, hy3⟩
    cases i with
    | zero => simp [encArgs] at ha; subst ha; exact ⟨v, rfl, hx1⟩
    | succ i =>
      obtain ⟨u, h3, h4⟩ := hy2 i a (by simpa [encArgs] using ha)
      exact ⟨u, by simpa using h3, h4⟩
  | [], p :: ps, _, _, _, hb, _, _, _ => by cases hb
  | t :: ts, [], _, _, _, hb, _, _, _ => by cases hb
  | [], [], _ :: _, _, _, _, _, h, _ => by simp [DataW.TrodAll] at h
  | [], [], [], _ :: _, _, _, _, h, _ => by simp [DataW.TrodAll] at h
  | _ :: _, _ :: _, [], _, _, _, _, h, _ => by simp [DataW.TrodAll] at h
  | _ :: _, _ :: _, _ :: _, [], _, _, _, h, _ => by simp [DataW.TrodAll] at h

end

theorem lendRow_enc (lend : Bool) (mem : List Blk) : ∀ (r : List C) (x : C.Is r), lendRow lend mem r ((dsOf r x).map V.ofD) = some x
  | [], _ => rfl
  | c :: r, x => by
    simp only [dsOf, List.map_cons, lendRow]
    have : lendC lend mem c (V.ofD ⟨c, x.1⟩) = some x.1 := cast?_self c x.1
    rw [this, lendRow_enc lend mem r x.2]
    rfl

theorem decArgs_enc (lend : Bool) (mem : List Blk) : ∀ (ps : List PT) (x : Args ps), decArgs lend mem ps (encArgs ps x) = some x
  | [], _ => rfl
  | p :: r, x => by
    have : decP lend mem p (encP p x.1) = some x.1 := by
      cases p with
      | one c => exact cast?_self c x.1
      | agg row => exact lendRow_enc lend mem row x.1
      | fn f => exact if_pos rfl
    have h2 := decArgs_enc lend mem r x.2
    unfold encArgs decArgs
    rw [this]
    show (match decArgs lend mem r (encArgs r x.2) with | some y => some (x.1, y) | none => none) = some x
    rw [h2]
    rfl

theorem law_runs {P : Program} {gl : Nat → V} {f : Nat} {ps : List PT} {F : Args ps → Option (Res [.one false .bool])} (hS : HSound P gl f true (hP ps [.one false .bool] F)) {w : World} (hgl : GlobOK gl (cf0 w))
    {args : Array Value} {x : Args ps} (hlen : args.toList.length = (encArgs ps x).length) (hx : ∀ (i : Nat) (a : A0), (encArgs ps x)[i]? = some a → ∃ v, args.toList[i]? = some v ∧ (cf0 w).ra0 a v) (hF : F x = some (true, ())) :
    Calls P f args w fun e w' => e = .returned (.bool true) ∧ Below w.heap.size w w' := by
  have h := hS.2 Bool (encArgs ps x) args.toList (cf0 w) (fun a _ => match a with | .v (.one (.d .bool b)) => some b | _ => none) true (cf0_ok w) hgl hlen hx (by
    unfold hP
    have e : decArgs (safe [.one false .bool]) (cf0 w).mem ps (encArgs ps x) = some x := decArgs_enc _ _ ps x
    rw [e]
    show (F x).bind _ = _
    rw [hF]
    rfl)
  have h' : Calls P f args w _ := h
  refine h'.mono ?_
  rintro e w' ⟨v, av, Al, be, mem', he0, hK, _, _, hra, hext⟩
  subst he0
  have he := hext rfl
  refine ⟨?_, ⟨he.os, he.tape, he.output, he.size, he.block⟩⟩
  split at hK
  · rename_i b
    cases hK
    have : v = .bool true := hra
    rw [this]
  · cases hK

end Go.Vm

namespace Go.Vm
open Go.RowKit Go.ChangeShapes

/-- The arguments read again behind the call. -/
theorem trodAll_below {H : Type} {enc : TypeId × Value → H} {P : Program} (hl : laidOutB P = true) {W W' : World} (hb : Below W.heap.size W W') : ∀ (ts : List TypeId) (vs : List Value) (ds : List (DataW H)) (ps : List MemPlace),
    (ts.all fun t => P.readableRec t && decide (t < P.types.size)) = true → DataW.TrodAll enc P W 0 (fun _ => true) true ts vs ds ps → DataW.TrodAll enc P W' 0 (fun b => decide (b < W.heap.size)) true ts vs ds ps
  | [], [], [], ps, _, h => h
  | t :: ts, v :: vs, d :: ds, ps, ht, h => by
    simp only [List.all_cons, Bool.and_eq_true, decide_eq_true_eq] at ht
    obtain ⟨p, q, h1, h2, e⟩ := h
    have hlt : ∀ x ∈ p, x.block < W.heap.size := by obtain ⟨m, hm⟩ := h1; exact DataW.trod_lt m _ _ _ hm
    exact ⟨p, q, Below.trod hl ht.1.1 ht.1.2 h1 hb hlt, trodAll_below hl hb ts vs ds q ht.2 h2, e⟩
  | [], _ :: _, _, _, _, h => by simp [DataW.TrodAll] at h
  | [], [], _ :: _, _, _, h => by simp [DataW.TrodAll] at h
  | _ :: _, [], _, _, _, h => by simp [DataW.TrodAll] at h
  | _ :: _, _ :: _, [], _, _, h => by simp [DataW.TrodAll] at h

end Go.Vm

namespace Go.Proofs.Ytmblkopilcginaa.fnExactAddTerm
open Go.ChangeShapes Go.WideShapes Go.ChangeAt Go.RowKit
open Go.Vm
theorem own : ownKnob Try.prog.godebug = none := by kernel_rfl
theorem laidOut : laidOutB Try.prog = true := by kernel_rfl

abbrev cT : C := .sl [.str, .str, .str]
abbrev cR : C := .sl [.int .i64, .int .i64, .str]
def tab : List (TypeId × List C) := [(25, [.str, cT, cR, .str, .str]), (9, [.str]), (22, [cT]), (27, [.str, .str, .str]), (23, [cR]), (55, [.int .i64, .int .i64, .str]), (3, [.int .i64])]
theorem tab_ok : rdTab Try.prog tab = true := by kernel_rfl

theorem okUs_getD {r : List C} (xs : List (C.Is r)) (h : okUs (xs.flatMap (encs r))) (i : Nat) (hi : i < xs.length) (d : C.Is r) : okUs (encs r (xs.getD i d)) := by
  induction xs generalizing i with
  | nil => simp at hi
  | cons x r ih =>
    rw [List.flatMap_cons, okUs_append] at h
    cases i with
    | zero => exact h.1
    | succ i => exact ih h.2 i (by simpa using hi)

theorem bndT_ok (t : Term) (h : okUs (encs [.str, .str, .str] t)) : bndT big t := by
  obtain ⟨h1, h2, h3, _⟩ := h
  exact ⟨Nat.le_trans h1 (by decide), Nat.le_trans h2 (by decide), Nat.le_trans h3 (by decide)⟩

theorem bndR_ok (t : Rule) (h : okUs (encs [.int .i64, .int .i64, .str] t)) : bndR big t := by
  obtain ⟨h1, h2, h3, _⟩ := h
  exact Nat.le_trans h3 (by decide)

theorem bndL_ok (l : Locale) (h : okUs (encs [.str, cT, cR, .str, .str] l)) : bndL big l := by
  obtain ⟨h1, ⟨h2, h2'⟩, ⟨h3, h3'⟩, h4, h5, _⟩ := h
  exact ⟨Nat.le_trans h1 (by decide), Nat.le_trans h2 (by decide), Nat.le_trans h3 (by decide), Nat.le_trans h4 (by decide), Nat.le_trans h5 (by decide),
    fun i hi => bndT_ok _ (okUs_getD (r := [.str, .str, .str]) l.2.1 h2' i hi dTerm), fun i hi => bndR_ok _ (okUs_getD (r := [.int .i64, .int .i64, .str]) l.2.2.1 h3' i hi dRule)⟩

set_option maxRecDepth 100000 in
theorem lifted (os : Os) (started : os.Started) (H : Type) (enc : TypeId × Value → H) :
    ReturnsInHanded {} Try.checked os 3 .any (Rows.fnExactAddTermSpec.pre6 enc Try.prog Try.f3 Rows.fnExactAddTermRow.domain false) (Rows.fnExactAddTermSpec.post enc Try.prog Try.f3 false true false false) := by
  refine returnsInHanded_of_change_sized (C := Try.checked) own started (by kernel_rfl) Try.func3
    (ChangeSpec.witness6 (enc := enc) (C := Try.checked) false ⟨#[], #[.agg #[.string ByteArray.empty, .slice none 0 0, .slice none 0 0, .string ByteArray.empty, .string ByteArray.empty], .agg #[.string ByteArray.empty, .string ByteArray.empty, .string ByteArray.empty]], []⟩ 8 (by kernel_rfl) (by kernel_rfl) (by kernel_rfl) (by kernel_rfl)) ?_
  intro W base args ds gs before hval0 hW hcnd hsz0 _
  have hW' := hW
  obtain ⟨p, q, hA0, hV, rfl, hfz, hnd⟩ := hW
  have hA : DataW.TrodAll enc Try.prog W 0 (fun _ => true) true [25, 27] args.toList ds p := hA0
  have hval : ∀ (j : Nat) t v, ([25, 27] : List TypeId)[j]? = some t → args.toList[j]? = some v → Value.okWide Try.prog W .any base t v := fun j t v h1 h2 => hval0 j t v (by simpa using h1) (by simpa using h2)
  obtain ⟨rfl, rfl⟩ := trodVars_none hV
  have hsz : ∀ m ∈ DataW.weightsEach Try.prog [25, 27] ds, m ≤ reachBytes := by
    have h : (DataW.weightsEach Try.prog ([25, 27] ++ []) (ds ++ [])).all (· ≤ reachBytes) = true := hsz0
    simpa using h
  obtain ⟨⟨l, t, u⟩, hx1, hx2, hx3⟩ := args_ok tab_ok [25, 27] P3 args.toList ds p (by kernel_rfl) hval hA hsz
  have hF : F3 8388608 (l, t, u) = some (true, ()) := G3_ok l t (bndL_ok l hx3.1) (bndT_ok t hx3.2.1)
  refine (law_runs (S3 8388608) (fun g => trivial) hx1 hx2 hF).mono fun e W' ⟨he, bel⟩ => ?_
  subst he
  have hargs : ∃ d1 d2, ds = [d1, d2] := by
    obtain ⟨v0, vs0, d0, ds0, p0, q0, _, rfl, _, _, r0⟩ := trodAll_cons hA
    obtain ⟨v1, vs1, d1, ds1, p1, q1, _, rfl, _, _, r1⟩ := trodAll_cons r0
    obtain ⟨_, rfl, _⟩ := trodAll_nil r1
    exact ⟨d0, d1, rfl⟩
  obtain ⟨d1, d2, rfl⟩ := hargs
  exact ⟨_, rfl, _, _, _, [], _, [], hW', trodAll_mk1 (shut_bool (by kernel_rfl) _), trodAll_below laidOut bel [25, 27] args.toList [d1, d2] _ (by kernel_rfl) hA, rfl, bel.frame _, fun h => by cases h⟩

theorem over : Rows.fnExactAddTermRow.holds Try.pinned (OpenSpec.ofChange Rows.fnExactAddTermSpec) :=
  OpenClaim.holds_of_wide 3 Try.f3 rfl rfl rfl rfl rfl rfl rfl ⟨rfl, rfl, rfl, rfl, rfl⟩ rfl rfl rfl rfl rfl (by kernel_rfl) Try.func3 (by kernel_rfl)
    (of_decide_eq_true (by kernel_rfl)) (by unfold Func.isWrapper; first | (rw [if_pos (by decide +kernel)]; kernel_rfl) | (rw [if_neg (by decide +kernel)]; exact ⟨rfl, rfl⟩))
    (fun os started H enc _ => lifted os started H enc)
theorem proved : Rows.FnExactAddTermSaid := over
end Go.Proofs.Ytmblkopilcginaa.fnExactAddTerm
