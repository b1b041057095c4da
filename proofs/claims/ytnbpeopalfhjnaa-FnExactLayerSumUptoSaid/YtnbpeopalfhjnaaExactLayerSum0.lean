/- Every function that the law FnExactLayerSum reaches does what its specification (a function on plain data) says; the law answers true wherever what it reads is of bulk at most 1048576. Conditions: that bound. -/
import Derived.Test.YtnbpeopalfhjnaaAb1
import Derived.JoinedCond
import Derived.Laws.BitsLemmas
import Derived.OpenShut
import Derived.ProofKit
import Derived.Test.YtnbpeopalfhjnaaRows
import Derived.WalkKit
set_option autoImplicit true
set_option relaxedAutoImplicit true
set_option maxHeartbeats 4000000
set_option maxRecDepth 4000
set_option linter.unusedVariables false
set_option linter.unusedSimpArgs false
namespace Go.Proofs.Ytnbpeopalfhjnaa
open Go.Ab
def tys : List (Nat × TI) := [
  (1, { kind := .other, size := 1, bytes := 8, ty := none, zero := [.any] }),
  (2, { kind := .scalar, size := 1, bytes := 8, ty := some (.int .i64), zero := [.d (.int .i64) 0] }),
  (3, { kind := .scalar, size := 1, bytes := 8, ty := some (.int .i64), zero := [.d (.int .i64) 0] }),
  (4, { kind := .scalar, size := 1, bytes := 1, ty := some .bool, zero := [.lb false] }),
  (5, { kind := .scalar, size := 1, bytes := 1, ty := some (.int .u8), zero := [.d (.int .u8) 0] }),
  (9, { kind := .scalar, size := 1, bytes := 16, ty := some .str, zero := [.d .str []] }),
  (20, { kind := .other, size := 1, bytes := 16, ty := some .any, zero := [.nili] }),
  (21, { kind := .scalar, size := 1, bytes := 4, ty := some (.int .i32), zero := [.d (.int .i32) 0] }),
  (23, { kind := .other, size := 1, bytes := 8, ty := none, zero := [.any] }),
  (24, { kind := .other, size := 1, bytes := 8, ty := none, zero := [.any] }),
  (25, { kind := .slice 3, size := 1, bytes := 24, ty := some (.slice (.int .i64)), zero := [.emp true] }),
  (26, { kind := .struct [(0, 1, 3), (1, 1, 3), (2, 1, 3), (3, 1, 3), (4, 1, 3), (5, 1, 25)], size := 6, bytes := 64, ty := some (.pair (.int .i64) (.pair (.int .i64) (.pair (.int .i64) (.pair (.int .i64) (.pair (.int .i64) (.pair (.slice (.int .i64)) .unit)))))), zero := [.d (.int .i64) 0, .d (.int .i64) 0, .d (.int .i64) 0, .d (.int .i64) 0, .d (.int .i64) 0, .emp true] }),
  (27, { kind := .struct [(0, 1, 3), (1, 1, 3), (2, 1, 3), (3, 1, 3), (4, 1, 3), (5, 1, 25)], size := 6, bytes := 64, ty := some (.pair (.int .i64) (.pair (.int .i64) (.pair (.int .i64) (.pair (.int .i64) (.pair (.int .i64) (.pair (.slice (.int .i64)) .unit)))))), zero := [.d (.int .i64) 0, .d (.int .i64) 0, .d (.int .i64) 0, .d (.int .i64) 0, .d (.int .i64) 0, .emp true] }),
  (28, { kind := .other, size := 1, bytes := 8, ty := none, zero := [.any] }),
  (29, { kind := .other, size := 1, bytes := 8, ty := none, zero := [.any] }),
  (30, { kind := .struct [(0, 1, 3), (1, 1, 3), (2, 1, 3), (3, 1, 3), (4, 1, 3), (5, 1, 25)], size := 6, bytes := 64, ty := some (.pair (.int .i64) (.pair (.int .i64) (.pair (.int .i64) (.pair (.int .i64) (.pair (.int .i64) (.pair (.slice (.int .i64)) .unit)))))), zero := [.d (.int .i64) 0, .d (.int .i64) 0, .d (.int .i64) 0, .d (.int .i64) 0, .d (.int .i64) 0, .emp true] }),
  (31, { kind := .other, size := 1, bytes := 8, ty := none, zero := [.any] }),
  (32, { kind := .other, size := 1, bytes := 8, ty := none, zero := [.any] }),
  (33, { kind := .other, size := 1, bytes := 8, ty := none, zero := [.any] }),
  (34, { kind := .slice 91, size := 1, bytes := 24, ty := some (.slice (.pair (.int .i64) (.pair .str (.pair .bool .unit)))), zero := [.emp true] }),
  (35, { kind := .slice 93, size := 1, bytes := 24, ty := some (.slice (.pair .str (.pair (.int .i64) .unit))), zero := [.emp true] }),
  (36, { kind := .struct [(0, 1, 34), (1, 1, 35), (2, 1, 35), (3, 1, 3)], size := 4, bytes := 80, ty := some (.pair (.slice (.pair (.int .i64) (.pair .str (.pair .bool .unit)))) (.pair (.slice (.pair .str (.pair (.int .i64) .unit))) (.pair (.slice (.pair .str (.pair (.int .i64) .unit))) (.pair (.int .i64) .unit)))), zero := [.emp true, .emp true, .emp true, .d (.int .i64) 0] }),
  (37, { kind := .struct [(0, 1, 34), (1, 1, 35), (2, 1, 35), (3, 1, 3)], size := 4, bytes := 80, ty := some (.pair (.slice (.pair (.int .i64) (.pair .str (.pair .bool .unit)))) (.pair (.slice (.pair .str (.pair (.int .i64) .unit))) (.pair (.slice (.pair .str (.pair (.int .i64) .unit))) (.pair (.int .i64) .unit)))), zero := [.emp true, .emp true, .emp true, .d (.int .i64) 0] }),
  (38, { kind := .other, size := 1, bytes := 8, ty := none, zero := [.any] }),
  (39, { kind := .other, size := 1, bytes := 8, ty := none, zero := [.any] }),
  (40, { kind := .slice 66, size := 1, bytes := 24, ty := some (.slice (.pair (.int .i64) (.pair .str (.pair .bool .unit)))), zero := [.emp true] }),
  (41, { kind := .slice 79, size := 1, bytes := 24, ty := some (.slice (.pair .str (.pair (.int .i64) .unit))), zero := [.emp true] }),
  (42, { kind := .struct [(0, 1, 40), (1, 1, 41), (2, 1, 41), (3, 1, 3)], size := 4, bytes := 80, ty := some (.pair (.slice (.pair (.int .i64) (.pair .str (.pair .bool .unit)))) (.pair (.slice (.pair .str (.pair (.int .i64) .unit))) (.pair (.slice (.pair .str (.pair (.int .i64) .unit))) (.pair (.int .i64) .unit)))), zero := [.emp true, .emp true, .emp true, .d (.int .i64) 0] }),
  (43, { kind := .struct [(0, 1, 40), (1, 1, 41), (2, 1, 41), (3, 1, 3)], size := 4, bytes := 80, ty := some (.pair (.slice (.pair (.int .i64) (.pair .str (.pair .bool .unit)))) (.pair (.slice (.pair .str (.pair (.int .i64) .unit))) (.pair (.slice (.pair .str (.pair (.int .i64) .unit))) (.pair (.int .i64) .unit)))), zero := [.emp true, .emp true, .emp true, .d (.int .i64) 0] }),
  (44, { kind := .other, size := 1, bytes := 8, ty := none, zero := [.any] }),
  (45, { kind := .other, size := 1, bytes := 8, ty := none, zero := [.any] }),
  (46, { kind := .other, size := 1, bytes := 8, ty := none, zero := [.any] }),
  (47, { kind := .other, size := 1, bytes := 8, ty := none, zero := [.any] }),
  (49, { kind := .other, size := 1, bytes := 8, ty := none, zero := [.any] }),
  (50, { kind := .other, size := 1, bytes := 8, ty := none, zero := [.any] }),
  (52, { kind := .other, size := 1, bytes := 8, ty := none, zero := [.any] }),
  (53, { kind := .other, size := 1, bytes := 8, ty := none, zero := [.any] }),
  (54, { kind := .other, size := 1, bytes := 8, ty := none, zero := [.any] }),
  (55, { kind := .other, size := 1, bytes := 8, ty := none, zero := [.any] }),
  (56, { kind := .other, size := 1, bytes := 8, ty := none, zero := [.any] }),
  (57, { kind := .other, size := 1, bytes := 8, ty := none, zero := [.any] }),
  (58, { kind := .other, size := 1, bytes := 8, ty := none, zero := [.any] }),
  (59, { kind := .other, size := 1, bytes := 8, ty := none, zero := [.any] }),
  (60, { kind := .other, size := 1, bytes := 8, ty := none, zero := [.any] }),
  (61, { kind := .other, size := 1, bytes := 8, ty := none, zero := [.any] }),
  (62, { kind := .other, size := 1, bytes := 8, ty := none, zero := [.any] }),
  (63, { kind := .other, size := 1, bytes := 8, ty := none, zero := [.any] }),
  (64, { kind := .other, size := 1, bytes := 8, ty := none, zero := [.any] }),
  (65, { kind := .struct [(0, 1, 3), (1, 1, 9), (2, 1, 4)], size := 3, bytes := 32, ty := some (.pair (.int .i64) (.pair .str (.pair .bool .unit))), zero := [.d (.int .i64) 0, .d .str [], .lb false], eq := true }),
  (66, { kind := .struct [(0, 1, 3), (1, 1, 9), (2, 1, 4)], size := 3, bytes := 32, ty := some (.pair (.int .i64) (.pair .str (.pair .bool .unit))), zero := [.d (.int .i64) 0, .d .str [], .lb false], eq := true }),
  (67, { kind := .other, size := 1, bytes := 8, ty := none, zero := [.any] }),
  (68, { kind := .other, size := 1, bytes := 8, ty := none, zero := [.any] }),
  (69, { kind := .other, size := 1, bytes := 8, ty := none, zero := [.any] }),
  (70, { kind := .other, size := 1, bytes := 8, ty := none, zero := [.any] }),
  (72, { kind := .other, size := 1, bytes := 8, ty := none, zero := [.any] }),
  (73, { kind := .other, size := 1, bytes := 8, ty := none, zero := [.any] }),
  (74, { kind := .other, size := 1, bytes := 8, ty := none, zero := [.any] }),
  (75, { kind := .other, size := 1, bytes := 8, ty := none, zero := [.any] }),
  (76, { kind := .other, size := 1, bytes := 8, ty := none, zero := [.any] }),
  (77, { kind := .other, size := 1, bytes := 8, ty := none, zero := [.any] }),
  (78, { kind := .struct [(0, 1, 9), (1, 1, 3)], size := 2, bytes := 24, ty := some (.pair .str (.pair (.int .i64) .unit)), zero := [.d .str [], .d (.int .i64) 0], eq := true }),
  (79, { kind := .struct [(0, 1, 9), (1, 1, 3)], size := 2, bytes := 24, ty := some (.pair .str (.pair (.int .i64) .unit)), zero := [.d .str [], .d (.int .i64) 0], eq := true }),
  (80, { kind := .other, size := 1, bytes := 8, ty := none, zero := [.any] }),
  (81, { kind := .other, size := 1, bytes := 8, ty := none, zero := [.any] }),
  (82, { kind := .other, size := 1, bytes := 8, ty := none, zero := [.any] }),
  (84, { kind := .other, size := 1, bytes := 8, ty := none, zero := [.any] }),
  (85, { kind := .other, size := 1, bytes := 8, ty := none, zero := [.any] }),
  (86, { kind := .other, size := 1, bytes := 8, ty := none, zero := [.any] }),
  (87, { kind := .other, size := 1, bytes := 8, ty := none, zero := [.any] }),
  (88, { kind := .slice 9, size := 1, bytes := 24, ty := some (.slice .str), zero := [.emp true] }),
  (89, { kind := .other, size := 1, bytes := 8, ty := none, zero := [.any] }),
  (90, { kind := .other, size := 1, bytes := 8, ty := none, zero := [.any] }),
  (91, { kind := .struct [(0, 1, 3), (1, 1, 9), (2, 1, 4)], size := 3, bytes := 32, ty := some (.pair (.int .i64) (.pair .str (.pair .bool .unit))), zero := [.d (.int .i64) 0, .d .str [], .lb false], eq := true }),
  (92, { kind := .other, size := 1, bytes := 8, ty := none, zero := [.any] }),
  (93, { kind := .struct [(0, 1, 9), (1, 1, 3)], size := 2, bytes := 24, ty := some (.pair .str (.pair (.int .i64) .unit)), zero := [.d .str [], .d (.int .i64) 0], eq := true }),
  (94, { kind := .other, size := 1, bytes := 8, ty := none, zero := [.any] }),
  (95, { kind := .other, size := 1, bytes := 8, ty := none, zero := [.any] }),
  (96, { kind := .other, size := 1, bytes := 8, ty := none, zero := [.any] }),
  (97, { kind := .other, size := 1, bytes := 8, ty := none, zero := [.any] }),
  (98, { kind := .other, size := 1, bytes := 8, ty := none, zero := [.any] }),
  (99, { kind := .other, size := 1, bytes := 8, ty := none, zero := [.any] }),
  (100, { kind := .other, size := 1, bytes := 8, ty := none, zero := [.any] }),
  (101, { kind := .slice 20, size := 1, bytes := 24, ty := some (.slice .any), zero := [.emp true] }),
  (104, { kind := .other, size := 1, bytes := 8, ty := none, zero := [.any] }),
  (105, { kind := .other, size := 1, bytes := 8, ty := none, zero := [.any] }),
  (106, { kind := .other, size := 1, bytes := 8, ty := none, zero := [.any] }),
  (107, { kind := .other, size := 1, bytes := 8, ty := none, zero := [.any] }),
  (108, { kind := .other, size := 1, bytes := 8, ty := none, zero := [.any] }),
  (109, { kind := .other, size := 1, bytes := 8, ty := none, zero := [.any] }),
  (110, { kind := .other, size := 1, bytes := 8, ty := none, zero := [.any] }),
  (111, { kind := .slice 5, size := 1, bytes := 24, ty := some (.slice (.int .u8)), zero := [.emp true] }),
  (112, { kind := .other, size := 1, bytes := 8, ty := none, zero := [.any] }),
  (113, { kind := .other, size := 1, bytes := 8, ty := none, zero := [.any] }),
  (114, { kind := .other, size := 1, bytes := 8, ty := none, zero := [.any] }),
  (120, { kind := .other, size := 1, bytes := 8, ty := none, zero := [.any] }),
  (121, { kind := .scalar, size := 1, bytes := 4, ty := some (.int .u32), zero := [.d (.int .u32) 0] })]
def mkE (specs : List (Nat × FSpec)) (clos : List (Nat × CSpec)) : Env := { tys := tys, specs := specs, clos := clos, anyB := 4, anyN := 3, anyS := 9 }
def E0 : Env := mkE [] []
theorem envOK (specs clos) : EnvOK Try.prog (mkE specs clos) := by
  refine { tys := ?_, distinct := ?_, anyTys := ?_, anyZ := ?_ }
  · show tysOK Try.prog (mkE specs clos) tys = true
    kernel_rfl
  · exact ⟨by show (4 : Nat) ≠ 3; decide, by show (4 : Nat) ≠ 9; decide, by show (3 : Nat) ≠ 9; decide⟩
  · exact ⟨by kernel_rfl, by kernel_rfl, by kernel_rfl⟩
  · exact ⟨by kernel_rfl, by kernel_rfl, by kernel_rfl⟩
def FO (f : Nat) (sp : FSpec) : Prop := FOK Try.prog E0 f sp
def CO (f : Nat) (cl : CSpec) : Prop := COK Try.prog E0 f cl
def AllF : List (Nat × FSpec) → Prop
  | [] => True
  | (f, sp) :: r => FO f sp ∧ AllF r
def AllC : List (Nat × CSpec) → Prop
  | [] => True
  | (f, cl) :: r => CO f cl ∧ AllC r
theorem AllF.get : ∀ {l : List (Nat × FSpec)}, AllF l → ∀ {f sp} , Go.Ab.look l f = some sp → FO f sp
  | [], _, f, sp, h => by cases h
  | (k, x) :: r, ⟨h1, h2⟩, f, sp, h => by
    simp only [Go.Ab.look] at h
    cases hk : Nat.beq k f with
    | true => rw [hk] at h; cases h; rw [← Nat.eq_of_beq_eq_true hk]; exact h1
    | false => rw [hk] at h; exact AllF.get h2 h
theorem AllC.get : ∀ {l : List (Nat × CSpec)}, AllC l → ∀ {f cl} , Go.Ab.look l f = some cl → CO f cl
  | [], _, f, sp, h => by cases h
  | (k, x) :: r, ⟨h1, h2⟩, f, sp, h => by
    simp only [Go.Ab.look] at h
    cases hk : Nat.beq k f with
    | true => rw [hk] at h; cases h; rw [← Nat.eq_of_beq_eq_true hk]; exact h1
    | false => rw [hk] at h; exact AllC.get h2 h
theorem eqE (s1 c1 s2 c2) : AnyEq (mkE s1 c1) (mkE s2 c2) := ⟨rfl, rfl, rfl⟩
theorem progOK {specs clos} (h1 : AllF specs) (h2 : AllC clos) : ProgOK Try.prog (mkE specs clos) :=
  { env := envOK specs clos, specs := fun f sp h => fok_env (eqE ..) (h1.get h), clos := fun f cl h => cok_env (eqE ..) (h2.get h), mixed := by kernel_rfl }
theorem fo {specs clos f fn sp} (A : pdens sp.ps → List (Nat × LoopAnn)) (h1 : AllF specs) (h2 : AllC clos) (hf : Try.prog.funcs[f]? = some fn) (hn : (fn.name == "runtime.NumGoroutine") = false) (hb : fn.body.isSome = true) (hv : ∀ x, sp.pre x → vc (mkE specs clos) (A x) fn sp x) : FO f sp :=
  fok_env (eqE ..) (fok_of_vc (progOK h1 h2) hf hn A hv hb)
theorem co {f cl} (h : FO f cl.fspec) (hb : cl.b.leafB = true) (hs : cl.b.shares = false) : CO f cl := cok_of_fok h hb hs
theorem vcOf {p : Prop} (q : Prop) (h : p = q) (hq : q) : p := h ▸ hq
end Go.Proofs.Ytnbpeopalfhjnaa
namespace Go.Ab

abbrev I : Ty := .int .i64
abbrev tSlot : Ty := .pair .str (.pair I .unit)
abbrev tInode : Ty := .pair I (.pair .str (.pair .bool .unit))
abbrev tDisk : Ty := .pair (.slice tInode) (.pair (.slice tSlot) (.pair (.slice tSlot) (.pair I .unit)))
abbrev tAct : Ty := .pair I (.pair I (.pair I (.pair I (.pair I (.pair (.slice I) .unit)))))
abbrev tRec : Ty := .pair I (.pair .str (.pair .str (.pair I (.pair .bool .unit))))
abbrev tNode : Ty := .pair I (.pair .str (.pair .str (.pair I .unit)))
abbrev tStep : Ty := .pair I (.pair .str (.pair .str (.pair .str .unit)))
abbrev tPick : Ty := .pair .str (.pair I .unit)
end Go.Ab
namespace Go.Fn
open Go.Ab
theorem wAdd_in {a b : Int} (h : -9223372036854775808 ≤ a + b ∧ a + b ≤ 9223372036854775807) : wAdd .i64 a b = a + b := by unfold wAdd; rw [IntKind.wrap_i64]; omega
theorem wSub_in {a b : Int} (h : -9223372036854775808 ≤ a - b ∧ a - b ≤ 9223372036854775807) : wSub .i64 a b = a - b := by unfold wSub; rw [IntKind.wrap_i64]; omega
theorem wMul_in {a b : Int} (h : -9223372036854775808 ≤ a * b ∧ a * b ≤ 9223372036854775807) : wMul .i64 a b = a * b := by unfold wMul; rw [IntKind.wrap_i64]; omega
theorem i64_in {a : Int} (h : -9223372036854775808 ≤ a ∧ a ≤ 9223372036854775807) : IntKind.i64.wrap a = a := by rw [IntKind.wrap_i64]; omega
theorem i64_byte (c : UInt8) : IntKind.i64.wrap (Int.ofNat c.toNat) = (c.toNat : Int) := i64_in ⟨by have := c.toNat_lt; show _ ≤ (c.toNat : Int); omega, by have := c.toNat_lt; show (c.toNat : Int) ≤ _; omega⟩
theorem inc_in {k : Nat} {α : Type} {l : List α} (h : fits (lenL l)) (hk : k ≤ l.length) : wAdd .i64 (Int.ofNat k) 1 = Int.ofNat (k + 1) := by
  have : l.length < 1099511627776 := h
  rw [wAdd_in]
  · rfl
  · simp only [Int.ofNat_eq_natCast]; omega
theorem lt_iff {k n : Nat} : decide (Int.ofNat k < iOf n) = decide (k < n) := by unfold iOf; simp
theorem nthI_nat {α : Type} (l : List α) (k : Nat) : nthI l (Int.ofNat k) = l[k]? := rfl
theorem bnd_iff {k n : Nat} : bnd (Int.ofNat k) n ↔ k < n := ⟨fun h => Int.ofNat_lt.1 h.2, fun h => ⟨Int.natCast_nonneg _, Int.ofNat_lt.2 h⟩⟩
theorem bnd_nat {k n : Nat} (h : k < n) : bnd (Int.ofNat k) n := ⟨Int.natCast_nonneg _, Int.ofNat_lt.2 h⟩
theorem below_succ {α : Type} {P : α → Prop} {l : List α} {k : Nat} {x : α} (h : ∀ j y, j < k → l[j]? = some y → P y) (hk : l[k]? = some x) (hx : P x) : ∀ j y, j < k + 1 → l[j]? = some y → P y := by
  intro j y hj hy
  rcases Nat.lt_or_ge j k with h1 | h1
  · exact h j y h1 hy
  · obtain rfl : j = k := by omega
    rw [hk] at hy; cases hy; exact hx
theorem le_iff {k n : Nat} : decide (iOf k ≤ (Int.ofNat n)) = decide (k ≤ n) := by unfold iOf; simp
def idx {α : Type} (p : α → Bool) (l : List α) : Int := match l.findIdx? p with | some i => (i : Int) | none => -1
theorem idx_none {α : Type} {p : α → Bool} {l : List α} (h : ∀ x ∈ l, p x = false) : idx p l = -1 := by
  unfold idx; rw [List.findIdx?_eq_none_iff.2 h]
theorem idx_at {α : Type} {p : α → Bool} {l : List α} {k : Nat} {x : α} (h : ∀ j y, j < k → l[j]? = some y → p y = false) (hk : l[k]? = some x) (hx : p x = true) : idx p l = Int.ofNat k := by
  unfold idx
  have : l.findIdx? p = some k := by
    rw [List.findIdx?_eq_some_iff_getElem]
    obtain ⟨hlt, e⟩ := List.getElem?_eq_some_iff.1 hk
    refine ⟨hlt, by rw [e]; exact hx, fun j hj => ?_⟩
    have := h j (l[j]'(by omega)) hj (List.getElem?_eq_getElem _)
    simp [this]
  rw [this]; rfl
theorem idx_end {α : Type} {p : α → Bool} {l : List α} {k : Nat} (h : ∀ j y, j < k → l[j]? = some y → p y = false) (hk : ¬ k < l.length) : idx p l = -1 := by
  refine idx_none fun x hx => ?_
  obtain ⟨j, hj, rfl⟩ := List.getElem_of_mem hx
  exact h j _ (by omega) (List.getElem?_eq_getElem hj)
theorem idx_nonneg {α : Type} {p : α → Bool} {l : List α} : decide (idx p l ≥ 0) = l.any p := by
  unfold idx
  cases h : l.findIdx? p with
  | none =>
    rw [List.findIdx?_eq_none_iff] at h
    have : l.any p = false := by rw [List.any_eq_false]; intro x hx; simp [h x hx]
    rw [this]; rfl
  | some i =>
    rw [List.findIdx?_eq_some_iff_getElem] at h
    obtain ⟨hi, hp, _⟩ := h
    have : l.any p = true := List.any_eq_true.2 ⟨l[i], List.getElem_mem hi, hp⟩
    rw [this]
    simp
end Go.Fn
namespace Go.Fn
open Go.Ab
def sum (l : List UInt8) : Int := l.foldl (fun n c => (n * 263 + c.toNat + 1) % 65521) 1
theorem sum_step (l : List UInt8) (k : Nat) (c : UInt8) (h : l[k]? = some c) : sum (l.take (k + 1)) = (sum (l.take k) * 263 + c.toNat + 1) % 65521 := by
  obtain ⟨hk, rfl⟩ := List.getElem?_eq_some_iff.1 h
  unfold sum
  rw [List.take_succ_eq_append_getElem hk, List.foldl_append]; rfl
theorem sum_from : ∀ (l : List UInt8) (n : Int), 0 ≤ n ∧ n < 65521 → 0 ≤ l.foldl (fun n c => (n * 263 + (c.toNat : Int) + 1) % 65521) n ∧ l.foldl (fun n c => (n * 263 + (c.toNat : Int) + 1) % 65521) n < 65521
  | [], _, h => h
  | _ :: l, _, _ => sum_from l _ ⟨Int.emod_nonneg _ (by decide), Int.emod_lt_of_pos _ (by decide)⟩
theorem sum_range (l : List UInt8) : 0 ≤ sum l ∧ sum l < 65521 := sum_from l 1 (by decide)
theorem sum_go (l : List UInt8) (k : Nat) (c : UInt8) (h : l[k]? = some c) : wRem (wAdd .i64 (wAdd .i64 (wMul .i64 (sum (l.take k)) 263) (IntKind.i64.wrap (Int.ofNat c.toNat))) 1) 65521 = sum (l.take (k + 1)) := by
  have h1 := sum_range (l.take k)
  have h2 := c.toNat_lt
  have e1 : wMul .i64 (sum (l.take k)) 263 = sum (l.take k) * 263 := wMul_in (by omega)
  have e2 : wAdd .i64 (sum (l.take k) * 263) (c.toNat : Int) = sum (l.take k) * 263 + c.toNat := wAdd_in (by omega)
  have e3 : wAdd .i64 (sum (l.take k) * 263 + c.toNat) 1 = sum (l.take k) * 263 + c.toNat + 1 := wAdd_in (by omega)
  rw [sum_step l k c h, i64_byte, e1, e2, e3]
  unfold wRem
  rw [Int.tmod_eq_emod_of_nonneg (by omega)]
theorem sum_go2 (l : List UInt8) (k : Nat) (c : UInt8) (h : l[k]? = some c) : wRem (wAdd .i64 (wAdd .i64 (wMul .i64 263 (sum (l.take k))) (IntKind.i64.wrap (Int.ofNat c.toNat))) 1) 65521 = sum (l.take (k + 1)) := by
  rw [← sum_go l k c h]; unfold wMul; rw [Int.mul_comm]
end Go.Fn
namespace Go.Fn
open Go.Ab
def short (t : List UInt8) : Bool := decide (t.length ≤ 65536)
theorem short_iff {t : List UInt8} : decide (iOf t.length ≤ 65536) = short t := by unfold short iOf; simp; omega
def layerSum (t : List UInt8) : Int := if short t then sum t else 0
def longCode (t : List UInt8) : Int := if short t then 0 else 2
theorem long_iff {t : List UInt8} : decide (iOf t.length > 65536) = !(short t) := by unfold short iOf; by_cases h : t.length ≤ 65536 <;> simp [h] <;> omega
theorem gt_short {t : List UInt8} : (iOf t.length > 65536) ↔ short t = false := by unfold short iOf; simp; omega
end Go.Fn
namespace Go.Fn
open Go.Ab
theorem all_not {α : Type} (l : List α) (p : α → Bool) : (!(l.any fun x => !(p x))) = l.all p := by
  induction l with
  | nil => rfl
  | cons x l ih => simp only [List.any_cons, List.all_cons, Bool.not_or, Bool.not_not, ih]
end Go.Fn
namespace Go.Proofs.Ytnbpeopalfhjnaa
open Go.Ab Go.Fn
def s_l09Sum : FSpec := { ps := [.v .str], rs := [.v I], pre := fun _ => True, fn := fun x => (Fn.sum x.1, ()), upd := fun _ => () }
def L_l09Sum (t : List UInt8) : LoopAnn := { ι := Nat, inv := fun k => k ≤ t.length, slots := fun k => [(3, .d I (Fn.sum (t.take k))), (4, .d I (Int.ofNat k))], objs := fun _ => [], μ := fun k => t.length - k }
theorem fo_l09Sum : FO 35 s_l09Sum := by
  refine fo (specs := []) (clos := []) (fun x => [(3, L_l09Sum x.1)]) trivial trivial Try.func35 rfl rfl ?_
  rintro ⟨t, ⟨⟩⟩ -
  refine vcOf ((∃ (i : Nat), i ≤ List.length t ∧ (t = t ∧ (0 : Int) = (0 : Int) ∧ (1 : Int) = sum (List.take i t) ∧ (0 : Int) = Int.ofNat i ∧ True) ∧ True) ∧ ∀ (i : Nat), i ≤ List.length t → fits (lenL t) → (decide (Int.ofNat i < iOf (lenL t)) = true → bnd (Int.ofNat i) (lenL t) ∧ ∀ (c : UInt8), nthI t (Int.ofNat i) = some c → nz (65521 : Int) ∧ ∃ (j : Nat), j ≤ List.length t ∧ (List.length t).sub j < (List.length t).sub i ∧ (t = t ∧ (0 : Int) = (0 : Int) ∧ wRem (wAdd IntKind.i64 (wAdd IntKind.i64 (wMul IntKind.i64 (sum (List.take i t)) (263 : Int)) (IntKind.i64.wrap (Int.ofNat c.toNat))) (1 : Int)) (65521 : Int) = sum (List.take j t) ∧ wAdd IntKind.i64 (Int.ofNat i) (1 : Int) = Int.ofNat j ∧ True) ∧ True) ∧ (decide (Int.ofNat i < iOf (lenL t)) = false → (sum (List.take i t), ()) = (sum t, ()) ∧ () = ())) (by kernel_rfl) ?_
  simp only [Nat.le_refl, true_and, and_true, and_self, eq_self, lt_iff, nthI_nat, bnd_iff, decide_eq_true_eq, decide_eq_false_iff_not, Nat.sub_eq, nz, ne_eq, not_false_eq_true, Prod.mk.injEq, Int.reduceEq, Nat.reduceEqDiff, forall_const, implies_true, bne_self_eq_false, Bool.true_eq_false, Bool.false_eq_true, false_implies, reduceCtorEq, Bool.not_true, Bool.not_false, List.all_cons, List.all_nil, Bool.and_true, Bool.not_eq_true, Bool.not_eq_false]; try simp only [lenL]
  refine ⟨⟨0, Nat.zero_le _, rfl, rfl⟩, fun k hk hf => ⟨fun h => ⟨h, fun c hc => ⟨k + 1, h, by omega, sum_go t k c hc, inc_in hf hk⟩⟩, fun h => ?_⟩⟩
  rw [List.take_of_length_le (by omega)]
end Go.Proofs.Ytnbpeopalfhjnaa
namespace Go.Proofs.Ytnbpeopalfhjnaa
open Go.Ab Go.Fn
def L_layerSum (t : List UInt8) : LoopAnn := { ι := Nat, inv := fun k => k ≤ t.length, slots := fun k => [(3, .d I (Fn.sum (t.take k))), (7, .d I (Int.ofNat k))], objs := fun _ => [], μ := fun k => t.length - k }
theorem fo_layerSum : FO 37 s_l09Sum := by
  refine fo (specs := []) (clos := []) (fun x => [(3, L_layerSum x.1)]) trivial trivial Try.func37 rfl rfl ?_
  rintro ⟨t, ⟨⟩⟩ -
  refine vcOf (fits (lenL t) → (∃ (i : Nat), i ≤ List.length t ∧ (t = t ∧ (0 : Int) = (0 : Int) ∧ (1 : Int) = sum (List.take i t) ∧ t = t ∧ iOf (lenL t) = iOf (lenL t) ∧ (0 : Int) = Int.ofNat i ∧ True) ∧ True) ∧ ∀ (i : Nat), i ≤ List.length t → (decide (Int.ofNat i < iOf (lenL t)) = true → bnd (Int.ofNat i) (lenL t) ∧ ∀ (c : UInt8), nthI t (Int.ofNat i) = some c → nz (65521 : Int) ∧ ∃ (j : Nat), j ≤ List.length t ∧ (List.length t).sub j < (List.length t).sub i ∧ (t = t ∧ (0 : Int) = (0 : Int) ∧ wRem (wAdd IntKind.i64 (wAdd IntKind.i64 (wMul IntKind.i64 (263 : Int) (sum (List.take i t))) (IntKind.i64.wrap (Int.ofNat c.toNat))) (1 : Int)) (65521 : Int) = sum (List.take j t) ∧ t = t ∧ iOf (lenL t) = iOf (lenL t) ∧ wAdd IntKind.i64 (Int.ofNat i) (1 : Int) = Int.ofNat j ∧ True) ∧ True) ∧ (decide (Int.ofNat i < iOf (lenL t)) = false → (sum (List.take i t), ()) = (sum t, ()) ∧ () = ())) (by kernel_rfl) ?_
  simp only [Nat.le_refl, true_and, and_true, and_self, eq_self, lt_iff, nthI_nat, bnd_iff, decide_eq_true_eq, decide_eq_false_iff_not, Nat.sub_eq, nz, ne_eq, not_false_eq_true, Prod.mk.injEq, Int.reduceEq, Nat.reduceEqDiff, forall_const, implies_true, bne_self_eq_false, Bool.true_eq_false, Bool.false_eq_true, false_implies, reduceCtorEq, Bool.not_true, Bool.not_false, List.all_cons, List.all_nil, Bool.and_true, Bool.not_eq_true, Bool.not_eq_false]; try simp only [lenL]
  refine fun hf => ⟨⟨0, Nat.zero_le _, rfl, rfl⟩, fun k hk => ⟨fun h => ⟨h, fun c hc => ⟨k + 1, h, by omega, sum_go2 t k c hc, inc_in hf hk⟩⟩, fun h => ?_⟩⟩
  rw [List.take_of_length_le (by omega)]
end Go.Proofs.Ytnbpeopalfhjnaa
namespace Go.Proofs.Ytnbpeopalfhjnaa
open Go.Ab Go.Fn
def s_IndexFunc_str : FSpec := { ps := [.v (.slice .str), .f [.str] .bool], rs := [.v I], pre := fun x => ∀ y, y ∈ x.1 → x.2.1.2 (y, ()), fn := fun x => (idx (fun y => x.2.1.1 (y, ())) x.1, ()), upd := fun _ => () }
def L_IndexFunc_str (xs : List (.str : Ty).den) (p : dens [.str] → Bool) : LoopAnn := { ι := Nat, inv := fun k => k ≤ List.length (α := (.str : Ty).den) xs ∧ ∀ (j : Nat) (y : (.str : Ty).den), j < k → xs[j]? = some y → p (y, ()) = false, slots := fun k => [(8, .d I (Int.ofNat k))], objs := fun _ => [], μ := fun k => List.length (α := (.str : Ty).den) xs - k }
theorem fo_IndexFunc_str : FO 104 s_IndexFunc_str := by
  refine fo (specs := []) (clos := []) (fun x => [(2, L_IndexFunc_str x.1 x.2.1.1)]) trivial trivial Try.func104 rfl rfl ?_
  rintro ⟨xs, ⟨p, q⟩, ⟨⟩⟩ hp
  refine vcOf (fits (lenL xs) → (∃ (i : Nat), (i ≤ List.length xs ∧ ∀ (j : Nat) (y : List UInt8), j < i → xs[j]? = some y → p (y, ()) = false) ∧ (xs = xs ∧ (p, q) = (p, q) ∧ xs = xs ∧ iOf (lenL xs) = iOf (lenL xs) ∧ (0 : Int) = Int.ofNat i ∧ True) ∧ True) ∧ ∀ (i : Nat), (i ≤ List.length xs ∧ ∀ (j : Nat) (y : List UInt8), j < i → xs[j]? = some y → p (y, ()) = false) → (decide (Int.ofNat i < iOf (lenL xs)) = true → bnd (Int.ofNat i) (lenL xs) ∧ ∀ (x : List UInt8), nthI xs (Int.ofNat i) = some x → nat_lit 1 ≤ nat_lit 1 ∧ q (x, ()) ∧ (p (x, ()) = true → (Int.ofNat i, ()) = (idx (fun (y : List UInt8) => p (y, ())) xs, ()) ∧ () = ()) ∧ (p (x, ()) = false → ∃ (j : Nat), (j ≤ List.length xs ∧ ∀ (j_1 : Nat) (y : List UInt8), j_1 < j → xs[j_1]? = some y → p (y, ()) = false) ∧ (List.length xs).sub j < (List.length xs).sub i ∧ (xs = xs ∧ (p, q) = (p, q) ∧ xs = xs ∧ iOf (lenL xs) = iOf (lenL xs) ∧ wAdd IntKind.i64 (Int.ofNat i) (1 : Int) = Int.ofNat j ∧ True) ∧ True)) ∧ (decide (Int.ofNat i < iOf (lenL xs)) = false → ((-1 : Int), ()) = (idx (fun (y : List UInt8) => p (y, ())) xs, ()) ∧ () = ())) (by kernel_rfl) ?_
  simp only [Nat.le_refl, true_and, and_true, and_self, eq_self, lt_iff, nthI_nat, bnd_iff, decide_eq_true_eq, decide_eq_false_iff_not, Nat.sub_eq, nz, ne_eq, not_false_eq_true, Prod.mk.injEq, Int.reduceEq, Nat.reduceEqDiff, forall_const, implies_true, bne_self_eq_false, Bool.true_eq_false, Bool.false_eq_true, false_implies, reduceCtorEq, Bool.not_true, Bool.not_false, List.all_cons, List.all_nil, Bool.and_true, Bool.not_eq_true, Bool.not_eq_false]; try simp only [lenL]
  refine fun hf => ⟨⟨0, ⟨Nat.zero_le _, fun j y hj => absurd hj (Nat.not_lt_zero _)⟩, rfl⟩, fun k ⟨hk, hi⟩ => ⟨fun h => ⟨h, fun x hx => ⟨hp x (List.mem_of_getElem? hx), fun h1 => (idx_at hi hx h1).symm, fun h1 => ⟨k + 1, ⟨h, below_succ (P := fun y => p (y, ()) = false) hi hx h1⟩, by omega, inc_in hf hk⟩⟩⟩, fun h => (idx_end hi h).symm⟩⟩
end Go.Proofs.Ytnbpeopalfhjnaa
namespace Go.Proofs.Ytnbpeopalfhjnaa
open Go.Ab Go.Fn
def s_ContainsFunc_str : FSpec := { ps := [.v (.slice .str), .f [.str] .bool], rs := [.v .bool], pre := fun x => ∀ y, y ∈ x.1 → x.2.1.2 (y, ()), fn := fun x => (x.1.any (fun y => x.2.1.1 (y, ())), ()), upd := fun _ => () }
theorem fo_ContainsFunc_str : FO 101 s_ContainsFunc_str := by
  refine fo (specs := [(104, s_IndexFunc_str)]) (clos := []) (fun x => []) ⟨fo_IndexFunc_str, trivial⟩ trivial Try.func101 rfl rfl ?_
  rintro ⟨xs, ⟨p, q⟩, ⟨⟩⟩ hp
  refine vcOf (true = true ∧ (∀ (y : List UInt8), y ∈ xs → q (y, ())) ∧ (decide (idx (fun (y : List UInt8) => p (y, ())) xs ≥ (0 : Int)), ()) = (List.any xs fun (y : List UInt8) => p (y, ()), ()) ∧ () = ()) (by kernel_rfl) ?_
  simp only [Nat.le_refl, true_and, and_true, and_self, eq_self, lt_iff, nthI_nat, bnd_iff, decide_eq_true_eq, decide_eq_false_iff_not, Nat.sub_eq, nz, ne_eq, not_false_eq_true, Prod.mk.injEq, Int.reduceEq, Nat.reduceEqDiff, forall_const, implies_true, bne_self_eq_false, Bool.true_eq_false, Bool.false_eq_true, false_implies, reduceCtorEq, Bool.not_true, Bool.not_false, List.all_cons, List.all_nil, Bool.and_true, Bool.not_eq_true, Bool.not_eq_false]; try simp only [lenL]
  exact ⟨hp, idx_nonneg⟩
end Go.Proofs.Ytnbpeopalfhjnaa
namespace Go.Proofs.Ytnbpeopalfhjnaa
open Go.Ab Go.Fn
def c_all_str : CSpec := { ats := [.str], b := .bool, cs := [.rf [.str] .bool], pre := fun c a => c.1.2 a, fn := fun c a => !c.1.1 a }
theorem fo_allc_str : FO 102 c_all_str.fspec := by
  refine fo (specs := []) (clos := []) (fun x => []) trivial trivial Try.func102 rfl rfl ?_
  rintro ⟨y, ⟨p, q⟩, ⟨⟩⟩ hp
  refine vcOf (nat_lit 1 ≤ nat_lit 1 ∧ q (y, ()) ∧ (!p (y, ()), ()) = (match p (y, ()) with | true => false | false => true, ()) ∧ () = ()) (by kernel_rfl) ?_
  simp only [Nat.le_refl, true_and, and_true, and_self, eq_self, lt_iff, nthI_nat, bnd_iff, decide_eq_true_eq, decide_eq_false_iff_not, Nat.sub_eq, nz, ne_eq, not_false_eq_true, Prod.mk.injEq, Int.reduceEq, Nat.reduceEqDiff, forall_const, implies_true, bne_self_eq_false, Bool.true_eq_false, Bool.false_eq_true, false_implies, reduceCtorEq, Bool.not_true, Bool.not_false, List.all_cons, List.all_nil, Bool.and_true, Bool.not_eq_true, Bool.not_eq_false]; try simp only [lenL]
  exact ⟨hp, rfl⟩
def s_all_str : FSpec := { ps := [.v (.slice .str), .f [.str] .bool], rs := [.v .bool], pre := fun x => ∀ y, y ∈ x.1 → x.2.1.2 (y, ()), fn := fun x => (x.1.all (fun y => x.2.1.1 (y, ())), ()), upd := fun _ => () }
theorem fo_all_str : FO 71 s_all_str := by
  refine fo (specs := [(101, s_ContainsFunc_str)]) (clos := [(102, c_all_str)]) (fun x => []) ⟨fo_ContainsFunc_str, trivial⟩ ⟨co fo_allc_str rfl rfl, trivial⟩ Try.func71 rfl rfl ?_
  rintro ⟨xs, ⟨p, q⟩, ⟨⟩⟩ hp
  refine vcOf (true = true ∧ (∀ (y : List UInt8), y ∈ xs → q (y, ())) ∧ (!List.any xs fun (y : List UInt8) => (fun (a : List UInt8 × Unit) => !p a, fun (a : List UInt8 × Unit) => q a).fst (y, ()), ()) = (List.all xs fun (y : List UInt8) => p (y, ()), ()) ∧ () = ()) (by kernel_rfl) ?_
  simp only [Nat.le_refl, true_and, and_true, and_self, eq_self, lt_iff, nthI_nat, bnd_iff, decide_eq_true_eq, decide_eq_false_iff_not, Nat.sub_eq, nz, ne_eq, not_false_eq_true, Prod.mk.injEq, Int.reduceEq, Nat.reduceEqDiff, forall_const, implies_true, bne_self_eq_false, Bool.true_eq_false, Bool.false_eq_true, false_implies, reduceCtorEq, Bool.not_true, Bool.not_false, List.all_cons, List.all_nil, Bool.and_true, Bool.not_eq_true, Bool.not_eq_false]; try simp only [lenL]
  exact ⟨hp, all_not _ _⟩
end Go.Proofs.Ytnbpeopalfhjnaa
namespace Go.Proofs.Ytnbpeopalfhjnaa
open Go.Ab Go.Fn
def c_isLong : CSpec := { ats := [.str], b := .bool, cs := [], pre := fun _ _ => True, fn := fun _ a => Fn.short a.1 }
theorem fo_isLongc : FO 72 c_isLong.fspec := by
  refine fo (specs := []) (clos := []) (fun x => []) trivial trivial Try.func72 rfl rfl ?_
  rintro ⟨t, ⟨⟩⟩ -
  refine vcOf (fits (lenL t) → (decide (iOf (lenL t) ≤ (65536 : Int)), ()) = (short t, ()) ∧ () = ()) (by kernel_rfl) ?_
  simp only [Nat.le_refl, true_and, and_true, and_self, eq_self, lt_iff, nthI_nat, bnd_iff, decide_eq_true_eq, decide_eq_false_iff_not, Nat.sub_eq, nz, ne_eq, not_false_eq_true, Prod.mk.injEq, Int.reduceEq, Nat.reduceEqDiff, forall_const, implies_true, bne_self_eq_false, Bool.true_eq_false, Bool.false_eq_true, false_implies, reduceCtorEq, Bool.not_true, Bool.not_false, List.all_cons, List.all_nil, Bool.and_true, Bool.not_eq_true, Bool.not_eq_false]; try simp only [lenL]
  exact fun _ => short_iff
def s_isLong : FSpec := { ps := [.v (.slice .str)], rs := [.v .bool], pre := fun x => True, fn := fun x => (!(x.1.all Fn.short), ()), upd := fun _ => () }
theorem fo_isLong : FO 36 s_isLong := by
  refine fo (specs := [(71, s_all_str)]) (clos := [(72, c_isLong)]) (fun x => []) ⟨fo_all_str, trivial⟩ ⟨co fo_isLongc rfl rfl, trivial⟩ Try.func36 rfl rfl ?_
  rintro ⟨l, ⟨⟩⟩ -
  refine vcOf (true = true ∧ (∀ (y : List UInt8), y ∈ l → True) ∧ (!List.all l fun (y : List UInt8) => (fun (a : List UInt8 × Unit) => short a.fst, fun (x : List UInt8 × Unit) => True).fst (y, ()), ()) = (!List.all l short, ()) ∧ () = ()) (by kernel_rfl) ?_
  simp only [Nat.le_refl, true_and, and_true, and_self, eq_self, lt_iff, nthI_nat, bnd_iff, decide_eq_true_eq, decide_eq_false_iff_not, Nat.sub_eq, nz, ne_eq, not_false_eq_true, Prod.mk.injEq, Int.reduceEq, Nat.reduceEqDiff, forall_const, implies_true, bne_self_eq_false, Bool.true_eq_false, Bool.false_eq_true, false_implies, reduceCtorEq, Bool.not_true, Bool.not_false, List.all_cons, List.all_nil, Bool.and_true, Bool.not_eq_true, Bool.not_eq_false]; try simp only [lenL]
end Go.Proofs.Ytnbpeopalfhjnaa
namespace Go.Proofs.Ytnbpeopalfhjnaa
open Go.Ab Go.Fn
def s_LayerSum : FSpec := { ps := [.v .str], rs := [.v I, .v I], pre := fun _ => True, fn := fun x => (Fn.layerSum x.1, Fn.longCode x.1, ()), upd := fun _ => () }
theorem fo_sLayerSum : FO 11 s_LayerSum := by
  refine fo (specs := [(35, s_l09Sum)]) (clos := []) (fun x => []) ⟨fo_l09Sum, trivial⟩ trivial Try.func11 rfl rfl ?_
  rintro ⟨l, ⟨⟩⟩ -
  refine vcOf (fits (lenL l) → (decide (iOf (lenL l) > (65536 : Int)) = true → ((0 : Int), (2 : Int), ()) = (layerSum l, longCode l, ()) ∧ () = ()) ∧ (decide (iOf (lenL l) > (65536 : Int)) = false → true = true ∧ True ∧ (sum l, (0 : Int), ()) = (layerSum l, longCode l, ()) ∧ () = ())) (by kernel_rfl) ?_
  simp only [Nat.le_refl, true_and, and_true, and_self, eq_self, lt_iff, nthI_nat, bnd_iff, decide_eq_true_eq, decide_eq_false_iff_not, Nat.sub_eq, nz, ne_eq, not_false_eq_true, Prod.mk.injEq, Int.reduceEq, Nat.reduceEqDiff, forall_const, implies_true, bne_self_eq_false, Bool.true_eq_false, Bool.false_eq_true, false_implies, reduceCtorEq, Bool.not_true, Bool.not_false, List.all_cons, List.all_nil, Bool.and_true, Bool.not_eq_true, Bool.not_eq_false]; try simp only [lenL]
  refine fun _ => ⟨fun h => ?_, fun h => ?_⟩
  · rw [gt_short] at h; unfold layerSum longCode; rw [h]; exact ⟨rfl, rfl⟩
  · rw [gt_short, Bool.not_eq_false] at h; unfold layerSum longCode; rw [h]; exact ⟨rfl, rfl⟩
theorem fo_iLayerSum : FO 12 s_LayerSum := by
  refine fo (specs := [(37, s_l09Sum), (36, s_isLong)]) (clos := []) (fun x => []) ⟨fo_layerSum, fo_isLong, trivial⟩ trivial Try.func12 rfl rfl ?_
  rintro ⟨l, ⟨⟩⟩ -
  refine vcOf (true = true ∧ True ∧ ((![l].all short) = true → ((0 : Int), (2 : Int), ()) = (layerSum l, longCode l, ()) ∧ () = ()) ∧ ((![l].all short) = false → true = true ∧ True ∧ (sum l, (0 : Int), ()) = (layerSum l, longCode l, ()) ∧ () = ())) (by kernel_rfl) ?_
  simp only [Nat.le_refl, true_and, and_true, and_self, eq_self, lt_iff, nthI_nat, bnd_iff, decide_eq_true_eq, decide_eq_false_iff_not, Nat.sub_eq, nz, ne_eq, not_false_eq_true, Prod.mk.injEq, Int.reduceEq, Nat.reduceEqDiff, forall_const, implies_true, bne_self_eq_false, Bool.true_eq_false, Bool.false_eq_true, false_implies, reduceCtorEq, Bool.not_true, Bool.not_false, List.all_cons, List.all_nil, Bool.and_true, Bool.not_eq_true, Bool.not_eq_false]; try simp only [lenL]
  unfold layerSum longCode
  cases short l <;> simp
end Go.Proofs.Ytnbpeopalfhjnaa
namespace Go.Proofs.Ytnbpeopalfhjnaa
open Go.Ab Go.Fn
theorem fo_law_FnExactLayerSum : FO 3 (lawSpec [.str] 1048576) := by
  refine fo (specs := [(11, s_LayerSum), (12, s_LayerSum)]) (clos := []) (fun x => []) ⟨fo_sLayerSum, fo_iLayerSum, trivial⟩ trivial Try.func3 rfl rfl ?_
  rintro ⟨l, ⟨⟩⟩ -
  refine vcOf (fits (lenL l) → (decide (iOf (lenL l) > (1048576 : Int)) = true → (true, ()) = (true, ()) ∧ () = ()) ∧ (decide (iOf (lenL l) > (1048576 : Int)) = false → true = true ∧ True ∧ true = true ∧ True ∧ ((layerSum l != layerSum l) = false → (false = true → (false, ()) = (true, ()) ∧ () = ()) ∧ (false = false → ((longCode l != longCode l) = true → (false, ()) = (true, ()) ∧ () = ()) ∧ ((longCode l != longCode l) = false → (true, ()) = (true, ()) ∧ () = ()))) ∧ ((layerSum l != layerSum l) = true → (true = true → (false, ()) = (true, ()) ∧ () = ()) ∧ (true = false → False)))) (by kernel_rfl) ?_
  simp only [Nat.le_refl, true_and, and_true, and_self, eq_self, lt_iff, nthI_nat, bnd_iff, decide_eq_true_eq, decide_eq_false_iff_not, Nat.sub_eq, nz, ne_eq, not_false_eq_true, Prod.mk.injEq, Int.reduceEq, Nat.reduceEqDiff, forall_const, implies_true, bne_self_eq_false, Bool.true_eq_false, Bool.false_eq_true, false_implies, reduceCtorEq, Bool.not_true, Bool.not_false, List.all_cons, List.all_nil, Bool.and_true, Bool.not_eq_true, Bool.not_eq_false]; try simp only [lenL]
end Go.Proofs.Ytnbpeopalfhjnaa
namespace Go.Proofs.Ytnbpeopalfhjnaa
open Go.Ab Go.Fn Go.ChangeShapes Go.WideShapes Go.ChangeAt Go.RowKit
theorem bulk {H : Type} : Bulk (Rows.uptoBulk (H := H)) Rows.uptoBulkAll := by
  constructor <;> intros <;> simp [Rows.uptoBulk, Rows.uptoBulkAll]
theorem own : ownKnob Try.prog.godebug = none := by kernel_rfl
set_option maxRecDepth 100000 in
theorem fnExactLayerSum_lifted (os : Os) (started : os.Started) (H : Type) (enc : TypeId × Value → H) (F : Stop.Interp) :
    ReturnsInHanded {} Try.checked os 3 .any ((Rows.OpenSpec.upto Rows.fnExactLayerSumSpec).pre6 enc Try.prog Try.f3 Rows.fnExactLayerSumUptoRow.domain false) (((Rows.OpenSpec.upto Rows.fnExactLayerSumSpec).at F).post enc Try.prog Try.f3 false true false false) := by
  refine returnsInHanded_of_cond (C := Try.checked) (s := Rows.OpenSpec.upto Rows.fnExactLayerSumSpec) (k := Rows.uptoSmall) rfl own started (by kernel_rfl) Try.func3
    (OpenSpec.witness (enc := enc) (C := Try.checked) (s := Rows.OpenSpec.upto Rows.fnExactLayerSumSpec) (k := Rows.uptoSmall) rfl false ⟨#[], #[.string ⟨#[]⟩], []⟩ 8 (by kernel_rfl) (by kernel_rfl) (by kernel_rfl)
      (x := ([.lit (.string [])], [], [])) (by kernel_rfl) rfl (by kernel_rfl)) ?_
  intro W base args ds gs before hval hW _ hk _
  refine law_contract bulk fo_law_FnExactLayerSum (by kernel_rfl) rfl ?_ (tb := 4) rfl (by kernel_rfl) hval hW (of_decide_eq_true hk)
  intro ds hl
  match ds, hl with
  | [_], _ => rfl
theorem fnExactLayerSum_holds : Rows.FnExactLayerSumUptoSaid :=
  OpenClaim.holds_of_cond 3 Try.f3 rfl rfl rfl rfl rfl rfl rfl ⟨rfl, rfl, rfl, rfl, rfl⟩ rfl rfl rfl rfl rfl (by kernel_rfl) Try.func3 (by kernel_rfl)
    (of_decide_eq_true (by kernel_rfl)) (by unfold Func.isWrapper; first | (rw [if_pos (by decide +kernel)]; kernel_rfl) | (rw [if_neg (by decide +kernel)]; exact ⟨rfl, rfl⟩))
    (fun os started H enc _ F => fnExactLayerSum_lifted os started H enc F)
end Go.Proofs.Ytnbpeopalfhjnaa
