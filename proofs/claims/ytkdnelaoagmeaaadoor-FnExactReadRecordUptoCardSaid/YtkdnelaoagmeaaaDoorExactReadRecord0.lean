/- Every function that the law FnExactReadRecord reaches does what its specification (a function on plain data) says; the law answers true wherever what it reads is of bulk at most 1048576. Conditions: that bound. -/
import Derived.Test.YtkdnelaoagmeaaaDoorAb2
import Derived.Deep.DeepHandedRow
import Derived.Deep.DeepLaidRun
import Derived.Laws.BitsLemmas
import Derived.Lib.AtoiAll
import Derived.Lib.Bytealg
import Derived.Lib.ItoaLen
import Derived.Lib.ItoaMem
import Derived.Lib.Join
import Derived.Lib.LaidTab
import Derived.OpenShut
import Derived.ProofKit
import Derived.Shelf.LaysC
import Derived.Shelf.LaysM
import Derived.Shelf.Strconv.AtoiAll
import Derived.Shelf.Strconv.Itoa3
import Derived.Shelf.Strings.OnBuilder
import Derived.Stop.LaidErr
import Derived.Test.YtkdnelaoagmeaaaDoorCards
import Derived.Test.YtkdnelaoagmeaaaDoorRows
import Derived.Test.YtkdnelaoagmeaaaDoorTie
import Derived.WalkKit
set_option autoImplicit true
set_option relaxedAutoImplicit true
set_option maxHeartbeats 4000000
set_option maxRecDepth 4000
set_option linter.unusedVariables false
set_option linter.unusedSimpArgs false
namespace Go.Proofs.YtkdnelaoagmeaaaDoor
open Go.Ab
def tys : List (Nat × TI) := [
 (1, { kind := .other, size := 1, bytes := 8, ty := none, zero := [.any] }),
 (2, { kind := .scalar, size := 1, bytes := 8, ty := some (.int .i64), zero := [.d (.int .i64) 0] }),
 (3, { kind := .scalar, size := 1, bytes := 8, ty := some (.int .i64), zero := [.d (.int .i64) 0] }),
 (4, { kind := .scalar, size := 1, bytes := 1, ty := some .bool, zero := [.lb false] }),
 (5, { kind := .scalar, size := 1, bytes := 1, ty := some (.int .u8), zero := [.d (.int .u8) 0] }),
 (9, { kind := .scalar, size := 1, bytes := 16, ty := some .str, zero := [.d .str []] }),
 (20, { kind := .other, size := 1, bytes := 16, ty := some .any, zero := [.nili] }),
 (21, { kind := .scalar, size := 1, bytes := 4, ty := some (.int .i32), zero := [.d (.int .i32) 0] }),
 (22, { kind := .struct [(0, 1, 3), (1, 1, 9), (2, 1, 9), (3, 1, 3), (4, 1, 4)], size := 5, bytes := 56, ty := some (.pair (.int .i64) (.pair .str (.pair .str (.pair (.int .i64) (.pair .bool .unit))))), zero := [.d (.int .i64) 0, .d .str [], .d .str [], .d (.int .i64) 0, .lb false], eq := true }),
 (23, { kind := .struct [(0, 1, 3), (1, 1, 9), (2, 1, 9), (3, 1, 3), (4, 1, 4)], size := 5, bytes := 56, ty := some (.pair (.int .i64) (.pair .str (.pair .str (.pair (.int .i64) (.pair .bool .unit))))), zero := [.d (.int .i64) 0, .d .str [], .d .str [], .d (.int .i64) 0, .lb false], eq := true }),
 (25, { kind := .other, size := 1, bytes := 8, ty := none, zero := [.any] }),
 (26, { kind := .other, size := 1, bytes := 8, ty := none, zero := [.any] }),
 (27, { kind := .other, size := 1, bytes := 8, ty := none, zero := [.any] }),
 (29, { kind := .other, size := 1, bytes := 8, ty := none, zero := [.any] }),
 (30, { kind := .slice 9, size := 1, bytes := 24, ty := some (.slice .str), zero := [.emp true] }),
 (31, { kind := .other, size := 1, bytes := 8, ty := none, zero := [.any] }),
 (32, { kind := .other, size := 1, bytes := 8, ty := none, zero := [.any] }),
 (33, { kind := .other, size := 1, bytes := 8, ty := none, zero := [.any] }),
 (34, { kind := .other, size := 1, bytes := 8, ty := none, zero := [.any] }),
 (36, { kind := .other, size := 1, bytes := 8, ty := none, zero := [.any] }),
 (38, { kind := .other, size := 1, bytes := 8, ty := none, zero := [.any] }),
 (39, { kind := .other, size := 1, bytes := 8, ty := none, zero := [.any] }),
 (40, { kind := .other, size := 1, bytes := 8, ty := none, zero := [.any] }),
 (41, { kind := .other, size := 1, bytes := 8, ty := none, zero := [.any] }),
 (42, { kind := .other, size := 1, bytes := 16, ty := none, zero := [.nili] }),
 (43, { kind := .other, size := 1, bytes := 16, ty := none, zero := [.nili] }),
 (45, { kind := .other, size := 1, bytes := 8, ty := none, zero := [.any] }),
 (46, { kind := .other, size := 1, bytes := 8, ty := none, zero := [.any] }),
 (47, { kind := .other, size := 1, bytes := 8, ty := none, zero := [.any] }),
 (48, { kind := .slice 5, size := 1, bytes := 24, ty := some (.slice (.int .u8)), zero := [.emp true] }),
 (49, { kind := .other, size := 1, bytes := 8, ty := none, zero := [.any] }),
 (50, { kind := .other, size := 1, bytes := 8, ty := none, zero := [.any] }),
 (51, { kind := .other, size := 1, bytes := 8, ty := none, zero := [.any] }),
 (52, { kind := .other, size := 1, bytes := 8, ty := none, zero := [.any] }),
 (53, { kind := .other, size := 1, bytes := 8, ty := none, zero := [.any] }),
 (54, { kind := .scalar, size := 1, bytes := 8, ty := some (.int .u64), zero := [.d (.int .u64) 0] }),
 (55, { kind := .other, size := 1, bytes := 8, ty := none, zero := [.any] }),
 (56, { kind := .other, size := 1, bytes := 8, ty := none, zero := [.any] }),
 (59, { kind := .struct [(0, 1, 57), (1, 1, 48)], size := 2, bytes := 32, ty := none, zero := [.any, .emp true] }),
 (60, { kind := .other, size := 1, bytes := 8, ty := none, zero := [.any] }),
 (61, { kind := .other, size := 1, bytes := 8, ty := none, zero := [.any] }),
 (62, { kind := .other, size := 1, bytes := 8, ty := none, zero := [.any] }),
 (63, { kind := .other, size := 1, bytes := 8, ty := none, zero := [.any] }),
 (64, { kind := .other, size := 1, bytes := 8, ty := none, zero := [.any] }),
 (65, { kind := .scalar, size := 1, bytes := 8, ty := some (.int .i64), zero := [.d (.int .i64) 0] }),
 (67, { kind := .other, size := 1, bytes := 8, ty := none, zero := [.any] }),
 (71, { kind := .other, size := 1, bytes := 8, ty := none, zero := [.any] }),
 (72, { kind := .slice 20, size := 1, bytes := 24, ty := some (.slice .any), zero := [.emp true] }),
 (73, { kind := .other, size := 1, bytes := 8, ty := none, zero := [.any] }),
 (75, { kind := .other, size := 1, bytes := 8, ty := none, zero := [.any] }),
 (76, { kind := .other, size := 1, bytes := 8, ty := none, zero := [.any] }),
 (77, { kind := .other, size := 1, bytes := 8, ty := none, zero := [.any] }),
 (78, { kind := .scalar, size := 1, bytes := 8, ty := some (.int .u64), zero := [.d (.int .u64) 0] }),
 (80, { kind := .other, size := 1, bytes := 8, ty := none, zero := [.any] }),
 (81, { kind := .struct [(0, 1, 9), (1, 1, 9), (2, 1, 43)], size := 3, bytes := 48, ty := none, zero := [.d .str [], .d .str [], .nili] }),
 (82, { kind := .struct [(0, 1, 9), (1, 1, 9), (2, 1, 43)], size := 3, bytes := 48, ty := none, zero := [.d .str [], .d .str [], .nili] }),
 (83, { kind := .other, size := 1, bytes := 8, ty := none, zero := [.any] }),
 (87, { kind := .other, size := 1, bytes := 8, ty := none, zero := [.any] }),
 (89, { kind := .other, size := 1, bytes := 8, ty := none, zero := [.any] }),
 (90, { kind := .other, size := 1, bytes := 8, ty := none, zero := [.any] }),
 (92, { kind := .struct [(0, 1, 9)], size := 1, bytes := 16, ty := some (.pair .str .unit), zero := [.d .str []], eq := true }),
 (93, { kind := .struct [(0, 1, 9)], size := 1, bytes := 16, ty := some (.pair .str .unit), zero := [.d .str []], eq := true }),
 (94, { kind := .other, size := 1, bytes := 8, ty := none, zero := [.any] }),
 (95, { kind := .other, size := 1, bytes := 8, ty := none, zero := [.any] }),
 (97, { kind := .other, size := 1, bytes := 8, ty := none, zero := [.any] }),
 (98, { kind := .other, size := 1, bytes := 8, ty := none, zero := [.any] }),
 (100, { kind := .other, size := 1, bytes := 8, ty := none, zero := [.any] }),
 (102, { kind := .struct [(0, 1, 5), (1, 1, 5)], size := 2, bytes := 2, ty := some (.pair (.int .u8) (.pair (.int .u8) .unit)), zero := [.d (.int .u8) 0, .d (.int .u8) 0], eq := true }),
 (103, { kind := .struct [(0, 1, 5), (1, 1, 5)], size := 2, bytes := 2, ty := some (.pair (.int .u8) (.pair (.int .u8) .unit)), zero := [.d (.int .u8) 0, .d (.int .u8) 0], eq := true }),
 (105, { kind := .scalar, size := 1, bytes := 4, ty := some (.int .u32), zero := [.d (.int .u32) 0] }),
 (107, { kind := .other, size := 1, bytes := 8, ty := none, zero := [.any] }),
 (108, { kind := .other, size := 1, bytes := 8, ty := none, zero := [.any] }),
 (111, { kind := .other, size := 1, bytes := 8, ty := none, zero := [.any] }),
 (112, { kind := .other, size := 1, bytes := 8, ty := none, zero := [.any] }),
 (113, { kind := .other, size := 1, bytes := 8, ty := none, zero := [.any] }),
 (121, { kind := .other, size := 1, bytes := 8, ty := none, zero := [.any] }),
 (129, { kind := .other, size := 1, bytes := 8, ty := none, zero := [.any] }),
 (130, { kind := .struct [(0, 1, 3), (1, 1, 9), (2, 1, 9), (3, 1, 3)], size := 4, bytes := 48, ty := some (.pair (.int .i64) (.pair .str (.pair .str (.pair (.int .i64) .unit)))), zero := [.d (.int .i64) 0, .d .str [], .d .str [], .d (.int .i64) 0], eq := true }),
 (131, { kind := .struct [(0, 1, 3), (1, 1, 9), (2, 1, 9), (3, 1, 3)], size := 4, bytes := 48, ty := some (.pair (.int .i64) (.pair .str (.pair .str (.pair (.int .i64) .unit)))), zero := [.d (.int .i64) 0, .d .str [], .d .str [], .d (.int .i64) 0], eq := true }),
 (132, { kind := .other, size := 1, bytes := 8, ty := none, zero := [.any] })]
def mkE (specs : List (Nat × FSpec)) (clos : List (Nat × CSpec)) (inl : List (Nat × Inl) := []) : Env := { tys := tys, specs := specs, clos := clos, anyB := 4, anyN := 3, anyS := 9, inl := inl }
def E0 : Env := mkE [] []
theorem envOK (specs clos inl) : EnvOK Tryd.prog (mkE specs clos inl) := by
 refine { tys := ?_, distinct := ?_, anyTys := ?_, anyZ := ?_ }
 · show tysOK Tryd.prog (mkE specs clos inl) tys = true
   kernel_rfl
 · exact ⟨by show (4 : Nat) ≠ 3; decide, by show (4 : Nat) ≠ 9; decide, by show (3 : Nat) ≠ 9; decide⟩
 · exact ⟨by kernel_rfl, by kernel_rfl, by kernel_rfl⟩
 · exact ⟨by kernel_rfl, by kernel_rfl, by kernel_rfl⟩
def FO (f : Nat) (sp : FSpec) : Prop := FOK Tryd.prog E0 f sp
def CO (f : Nat) (cl : CSpec) : Prop := COK Tryd.prog E0 f cl
def AllF : List (Nat × FSpec) -> Prop
 | [] => True
 | (f, sp) :: r => FO f sp /\ AllF r
def AllC : List (Nat × CSpec) -> Prop
 | [] => True
 | (f, cl) :: r => CO f cl /\ AllC r
theorem AllF.get : ∀ {l : List (Nat × FSpec)}, AllF l -> ∀ {f sp} , Go.Ab.look l f = some sp -> FO f sp
 | [], _, f, sp, h => by cases h
 | (k, x) :: r, ⟨h1, h2⟩, f, sp, h => by
   simp only [Go.Ab.look] at h
   cases hk : Nat.beq k f with
   | true => rw [hk] at h; cases h; rw [<- Nat.eq_of_beq_eq_true hk]; exact h1
   | false => rw [hk] at h; exact AllF.get h2 h
theorem AllC.get : ∀ {l : List (Nat × CSpec)}, AllC l -> ∀ {f cl} , Go.Ab.look l f = some cl -> CO f cl
 | [], _, f, sp, h => by cases h
 | (k, x) :: r, ⟨h1, h2⟩, f, sp, h => by
   simp only [Go.Ab.look] at h
   cases hk : Nat.beq k f with
   | true => rw [hk] at h; cases h; rw [<- Nat.eq_of_beq_eq_true hk]; exact h1
   | false => rw [hk] at h; exact AllC.get h2 h
theorem eqE (s1 c1 i1 s2 c2 i2) : AnyEq (mkE s1 c1 i1) (mkE s2 c2 i2) := ⟨rfl, rfl, rfl⟩
theorem eqT (s1 c1 i1 s2 c2 i2) : TabLe (mkE s1 c1 i1) (mkE s2 c2 i2) := ⟨fun _ h => h, Nat.le_refl _, fun _ _ h _ => h⟩
def InO (f : Nat) (T : Inl) : Prop := ∀ s c i, InlOK Tryd.prog (mkE s c i) f T
def AllI : List (Nat × Inl) -> Prop
 | [] => True
 | (f, T) :: r => InO f T /\ AllI r
theorem AllI.get : ∀ {l : List (Nat × Inl)}, AllI l -> ∀ {f T} , Go.Ab.look l f = some T -> InO f T
 | [], _, f, T, h => by cases h
 | (k, x) :: r, ⟨h1, h2⟩, f, T, h => by
   simp only [Go.Ab.look] at h
   cases hk : Nat.beq k f with
   | true => rw [hk] at h; cases h; rw [<- Nat.eq_of_beq_eq_true hk]; exact h1
   | false => rw [hk] at h; exact AllI.get h2 h
theorem progOK {specs clos inl} (h1 : AllF specs) (h2 : AllC clos) (h3 : AllI inl) : ProgOK Tryd.prog (mkE specs clos inl) :=
 { env := envOK specs clos inl, specs := fun f sp h => fok_env (eqE ..) (eqT ..) (h1.get h), clos := fun f cl h => cok_env (eqE ..) (h2.get h), inl := fun f T h => h3.get h _ _ _, mixed := by kernel_rfl }
theorem foI {specs clos inl f fn sp} (A : pdens sp.ps -> List (Nat × (St -> LoopAnn))) (h1 : AllF specs) (h2 : AllC clos) (h3 : AllI inl) (hf : Tryd.prog.funcs[f]? = some fn) (hn : (fn.name == "runtime.NumGoroutine") = false) (hb : fn.body.isSome = true) (hv : ∀ x, sp.pre x -> vc (mkE specs clos inl) (A x) fn sp x) : FO f sp :=
 fok_env (eqE ..) (eqT ..) (fok_of_vc (progOK h1 h2 h3) hf hn A hv hb)
theorem fo {specs clos f fn sp} (A : pdens sp.ps -> List (Nat × (St -> LoopAnn))) (h1 : AllF specs) (h2 : AllC clos) (hf : Tryd.prog.funcs[f]? = some fn) (hn : (fn.name == "runtime.NumGoroutine") = false) (hb : fn.body.isSome = true) (hv : ∀ x, sp.pre x -> vc (mkE specs clos) (A x) fn sp x) : FO f sp :=
 foI (inl := []) A h1 h2 trivial hf hn hb hv
theorem inO {specs clos inl f fn} (A : St -> List AV -> List (Nat × (St -> LoopAnn))) (h1 : AllF specs) (h2 : AllC clos) (h3 : AllI inl) (hf : Tryd.prog.funcs[f]? = some fn) (hn : (fn.name == "runtime.NumGoroutine") = false) (hb : fn.body.isSome = true) : InO f (inlT (mkE specs clos inl) A fn) :=
 fun s c i => inlOK_of (progOK h1 h2 h3) (eqE ..) (eqT ..) hf hn hb A
theorem co {f cl} (h : FO f cl.fspec) (hb : cl.b.leafB = true) (hs : cl.b.shares = false) : CO f cl := cok_of_fok h hb hs (fun _ => trivial) rfl
theorem vcOf {p : Prop} (q : Prop) (h : p = q) (hq : q) : p := h ▸ hq
end Go.Proofs.YtkdnelaoagmeaaaDoor
namespace Go.Proofs
open Go.Shelf
def Tryd.lays156_ren : Go.Shelf.Ren := ⟨fun | 156 => 22 | 165 => 37 | 166 => 38 | 169 => 39 | 240 => 54 | 241 => 55 | 276 => 68 | 277 => 69 | n => n, fun | 31 => 30 | 9 => 9 | 3 => 3 | 4 => 4 | 0 => 0 | 20 => 20 | 72 => 59 | 76 => 44 | 70 => 57 | 37 => 48 | 75 => 43 | 127 => 74 | 164 => 85 | 5 => 5 | 80 => 61 | n => n, fun | n => n⟩
theorem Tryd.lays156 : Go.Proofs.Lays.n156 Tryd.prog Tryd.lays156_ren := {
 mixed := by kernel_rfl
 f156 := Tryd.func22.trans (congrArg some (by kernel_rfl))
 f165 := Tryd.func37.trans (congrArg some (by kernel_rfl))
 f166 := Tryd.func38.trans (congrArg some (by kernel_rfl))
 f169 := Tryd.func39.trans (congrArg some (by kernel_rfl))
 f240 := Tryd.func54.trans (congrArg some (by kernel_rfl))
 f241 := Tryd.func55.trans (congrArg some (by kernel_rfl))
 f276 := Tryd.func68.trans (congrArg some (by kernel_rfl))
 f277 := Tryd.func69.trans (congrArg some (by kernel_rfl))
 t0 := Tryd.underlying0
 a0 := Tryd.isAgg0
 z0 := Tryd.sizeOf0
 v0 := Tryd.zeroValue0
 t3 := Tryd.underlying3
 a3 := Tryd.isAgg3
 z3 := Tryd.sizeOf3
 v3 := Tryd.zeroValue3
 t4 := Tryd.underlying4
 a4 := Tryd.isAgg4
 z4 := Tryd.sizeOf4
 v4 := Tryd.zeroValue4
 t9 := Tryd.underlying9
 a9 := Tryd.isAgg9
 z9 := Tryd.sizeOf9
 v9 := Tryd.zeroValue9
 t20 := Tryd.underlying20
 a20 := Tryd.isAgg20
 z20 := Tryd.sizeOf20
 v20 := Tryd.zeroValue20
 t31 := Tryd.underlying30
 a31 := Tryd.isAgg30
 z31 := Tryd.sizeOf30
 v31 := Tryd.zeroValue30
 t37 := Tryd.underlying48
 a37 := Tryd.isAgg48
 z37 := Tryd.sizeOf48
 v37 := Tryd.zeroValue48
 t70 := Tryd.underlying57
 a70 := Tryd.isAgg57
 z70 := Tryd.sizeOf57
 v70 := Tryd.zeroValue57
 t72 := Tryd.underlying59
 a72 := Tryd.isAgg59
 z72 := Tryd.sizeOf59
 v72 := Tryd.zeroValue59
 t75 := Tryd.underlying43
 a75 := Tryd.isAgg43
 z75 := Tryd.sizeOf43
 v75 := Tryd.zeroValue43
 t76 := Tryd.underlying44
 a76 := Tryd.isAgg44
 z76 := Tryd.sizeOf44
 v76 := Tryd.zeroValue44
 t127 := Tryd.underlying74
 a127 := Tryd.isAgg74
 z127 := Tryd.sizeOf74
 v127 := Tryd.zeroValue74
 t164 := Tryd.underlying85
 a164 := Tryd.isAgg85
 z164 := Tryd.sizeOf85
 v164 := Tryd.zeroValue85 }
theorem Tryd.Builder_Extra_156 : Builder.Extra Tryd.prog Tryd.lays156_ren := {
 sizeBuilder := by kernel_rfl
 liesBuilder := by kernel_rfl
 t5 := Tryd.underlying5
 a5 := Tryd.isAgg5
 z5 := Tryd.sizeOf5
 v5 := Tryd.zeroValue5
 infoByte := by kernel_rfl
 cellsByte := by kernel_rfl
 sizeByte := by kernel_rfl
 neB5 := by decide }
open Go.RowKit in
theorem Tryd.strings_Join_none (a : Option Addr) (c : Nat) (sep : ByteArray) (w : World) :
   Calls Tryd.prog 22 #[.slice a 0 c, .string sep] w fun e w' => e = .returned (.string ⟨#[]⟩) /\ w' = w := Any.strings_Join_none Tryd.lays156 Tryd.Builder_Extra_156 a c sep w
open Go.RowKit in
theorem Tryd.strings_Join (bk o c : Nat) (xs : List ByteArray) (sep : ByteArray) (w : World) (hcells : ∀ (j : Nat) x, xs[j]? = some x -> w.cell? ⟨bk, o + j, none⟩ = some (.string x)) (hbk : bk < w.heap.size) (hN : xs.length <= 140737488355328) (hcap : xs.length <= c) (hlen : (Lib.join (xs.map (·.data.toList)) sep.data.toList).length <= 140737488355328) :
   Calls Tryd.prog 22 #[.slice (some ⟨bk, o, none⟩) xs.length c, .string sep] w fun e w' => e = .returned (.string ⟨(Lib.join (xs.map (·.data.toList)) sep.data.toList).toArray⟩) /\ Below w.heap.size w w' := Any.strings_Join Tryd.lays156 Tryd.Builder_Extra_156 bk o c xs sep w hcells hbk hN hcap hlen
def Tryd.laysM171_ren : Go.Shelf.Ren := ⟨fun | 171 => 53 | 243 => 67 | 246 => 76 | 283 => 81 | 284 => 82 | 285 => 83 | 286 => 84 | 129 => 87 | 317 => 86 | 318 => 88 | 319 => 89 | 320 => 90 | 337 => 91 | 338 => 92 | n => n, fun | 3 => 3 | 9 => 9 | 2 => 2 | 4 => 4 | 171 => 96 | 0 => 0 | 53 => 78 | 37 => 48 | 5 => 5 | 173 => 99 | 212 => 109 | 51 => 105 | 20 => 20 | 213 => 110 | 46 => 54 | 232 => 114 | 233 => 115 | n => n, fun | 17 => 5 | 18 => 6 | 19 => 7 | n => n⟩
theorem Tryd.laysM171 : Go.Proofs.LaysM.n171 Tryd.prog Tryd.laysM171_ren := {
 mixed := by kernel_rfl
 f129 := Tryd.func87.trans (congrArg some (by kernel_rfl))
 f171 := Tryd.func53.trans (congrArg some (by kernel_rfl))
 f243 := Tryd.func67.trans (congrArg some (by kernel_rfl))
 f246 := Tryd.func76.trans (congrArg some (by kernel_rfl))
 f283 := Tryd.func81.trans (congrArg some (by kernel_rfl))
 f284 := Tryd.func82.trans (congrArg some (by kernel_rfl))
 f285 := Tryd.func83.trans (congrArg some (by kernel_rfl))
 f286 := Tryd.func84.trans (congrArg some (by kernel_rfl))
 f317 := Tryd.func86.trans (congrArg some (by kernel_rfl))
 f318 := Tryd.func88.trans (congrArg some (by kernel_rfl))
 f319 := Tryd.func89.trans (congrArg some (by kernel_rfl))
 f320 := Tryd.func90.trans (congrArg some (by kernel_rfl))
 f337 := Tryd.func91.trans (congrArg some (by kernel_rfl))
 f338 := Tryd.func92.trans (congrArg some (by kernel_rfl))
 t0 := Tryd.underlying0
 a0 := Tryd.isAgg0
 z0 := Tryd.sizeOf0
 v0 := Tryd.zeroValue0
 t2 := Tryd.underlying2
 a2 := Tryd.isAgg2
 z2 := Tryd.sizeOf2
 v2 := Tryd.zeroValue2
 t3 := Tryd.underlying3
 a3 := Tryd.isAgg3
 z3 := Tryd.sizeOf3
 v3 := Tryd.zeroValue3
 t4 := Tryd.underlying4
 a4 := Tryd.isAgg4
 z4 := Tryd.sizeOf4
 v4 := Tryd.zeroValue4
 t5 := Tryd.underlying5
 a5 := Tryd.isAgg5
 z5 := Tryd.sizeOf5
 v5 := Tryd.zeroValue5
 t9 := Tryd.underlying9
 a9 := Tryd.isAgg9
 z9 := Tryd.sizeOf9
 v9 := Tryd.zeroValue9
 t20 := Tryd.underlying20
 a20 := Tryd.isAgg20
 z20 := Tryd.sizeOf20
 v20 := Tryd.zeroValue20
 t37 := Tryd.underlying48
 a37 := Tryd.isAgg48
 z37 := Tryd.sizeOf48
 v37 := Tryd.zeroValue48
 t46 := Tryd.underlying54
 a46 := Tryd.isAgg54
 z46 := Tryd.sizeOf54
 v46 := Tryd.zeroValue54
 t51 := Tryd.underlying105
 a51 := Tryd.isAgg105
 z51 := Tryd.sizeOf105
 v51 := Tryd.zeroValue105
 t53 := Tryd.underlying78
 a53 := Tryd.isAgg78
 z53 := Tryd.sizeOf78
 v53 := Tryd.zeroValue78
 t171 := Tryd.underlying96
 a171 := Tryd.isAgg96
 z171 := Tryd.sizeOf96
 v171 := Tryd.zeroValue96
 t173 := Tryd.underlying99
 a173 := Tryd.isAgg99
 z173 := Tryd.sizeOf99
 v173 := Tryd.zeroValue99
 t212 := Tryd.underlying109
 a212 := Tryd.isAgg109
 z212 := Tryd.sizeOf109
 v212 := Tryd.zeroValue109
 t213 := Tryd.underlying110
 a213 := Tryd.isAgg110
 z213 := Tryd.sizeOf110
 t232 := Tryd.underlying114
 a232 := Tryd.isAgg114
 z232 := Tryd.sizeOf114
 v232 := Tryd.zeroValue114
 t233 := Tryd.underlying115
 a233 := Tryd.isAgg115
 z233 := Tryd.sizeOf115
 v233 := Tryd.zeroValue115
 g17 := by kernel_rfl
 g18 := by kernel_rfl
 g19 := by kernel_rfl
 i0 := by kernel_rfl
 i2 := by kernel_rfl
 i3 := by kernel_rfl
 i4 := by kernel_rfl
 i5 := by kernel_rfl
 i9 := by kernel_rfl
 i20 := by kernel_rfl
 i37 := by kernel_rfl
 i46 := by kernel_rfl
 i51 := by kernel_rfl
 i53 := by kernel_rfl
 i171 := by kernel_rfl
 i173 := by kernel_rfl
 i212 := by kernel_rfl
 i232 := by kernel_rfl
 i233 := by kernel_rfl
 m17 := by kernel_rfl
 m18 := by kernel_rfl
 m19 := by kernel_rfl }
open Go.RowKit Go.Sort Go.Lib in
theorem Tryd.strconv_Itoa (n : Int) (h0 : -9223372036854775808 <= n) (h1 : n <= 9223372036854775807) (w : World) (htab : Lib.TabIs Tryd.prog w "internal/strconv.uint64pow10" .u64 Lib.pow10Tab) :
   Calls Tryd.prog 53 #[.int .i64 n] w fun e w' => e = .returned (.string ⟨(Lib.itoa n).toArray⟩) /\ ∃ k os, w' = grow (w.drewN k) os := Any.strconv_Itoa Tryd.laysM171 n h0 h1 w htab
def Tryd.laysC172_ren : Go.Shelf.Ren := ⟨fun | 172 => 19 | 244 => 32 | 245 => 33 | 247 => 45 | 279 => 46 | 280 => 47 | 281 => 48 | 282 => 49 | 287 => 62 | 316 => 63 | 171 => 53 | 205 => 64 | 321 => 74 | 322 => 75 | 243 => 67 | 246 => 76 | 283 => 81 | 284 => 82 | 285 => 83 | 286 => 84 | 129 => 87 | 317 => 86 | 318 => 88 | 319 => 89 | 320 => 90 | 337 => 91 | 338 => 92 | n => n, fun | 9 => 9 | 3 => 3 | 75 => 43 | 76 => 44 | 4 => 4 | 5 => 5 | 167 => 65 | 37 => 48 | 0 => 0 | 85 => 66 | 2 => 2 | 168 => 68 | 53 => 78 | 175 => 79 | 46 => 54 | 210 => 82 | 127 => 74 | 145 => 93 | 143 => 91 | 21 => 21 | 171 => 96 | 173 => 99 | 212 => 109 | 51 => 105 | 20 => 20 | 213 => 110 | 232 => 114 | 233 => 115 | 80 => 61 | n => n, fun | 15 => 0 | 16 => 1 | 17 => 5 | 18 => 6 | 19 => 7 | n => n⟩
theorem Tryd.laysC172 : Go.Proofs.LaysC.n172 Tryd.prog Tryd.laysC172_ren := {
 mixed := by kernel_rfl
 f129 := Tryd.func87.trans (congrArg some (by kernel_rfl))
 f171 := Tryd.func53.trans (congrArg some (by kernel_rfl))
 f172 := Tryd.func19.trans (congrArg some (by kernel_rfl))
 f205 := Tryd.func64.trans (congrArg some (by kernel_rfl))
 f243 := Tryd.func67.trans (congrArg some (by kernel_rfl))
 f244 := Tryd.func32.trans (congrArg some (by kernel_rfl))
 f245 := Tryd.func33.trans (congrArg some (by kernel_rfl))
 f246 := Tryd.func76.trans (congrArg some (by kernel_rfl))
 f247 := Tryd.func45.trans (congrArg some (by kernel_rfl))
 f279 := Tryd.func46.trans (congrArg some (by kernel_rfl))
 f280 := Tryd.func47.trans (congrArg some (by kernel_rfl))
 f281 := Tryd.func48.trans (congrArg some (by kernel_rfl))
 f282 := Tryd.func49.trans (congrArg some (by kernel_rfl))
 f283 := Tryd.func81.trans (congrArg some (by kernel_rfl))
 f284 := Tryd.func82.trans (congrArg some (by kernel_rfl))
 f285 := Tryd.func83.trans (congrArg some (by kernel_rfl))
 f286 := Tryd.func84.trans (congrArg some (by kernel_rfl))
 f287 := Tryd.func62.trans (congrArg some (by kernel_rfl))
 f316 := Tryd.func63.trans (congrArg some (by kernel_rfl))
 f317 := Tryd.func86.trans (congrArg some (by kernel_rfl))
 f318 := Tryd.func88.trans (congrArg some (by kernel_rfl))
 f319 := Tryd.func89.trans (congrArg some (by kernel_rfl))
 f320 := Tryd.func90.trans (congrArg some (by kernel_rfl))
 f321 := Tryd.func74.trans (congrArg some (by kernel_rfl))
 f322 := Tryd.func75.trans (congrArg some (by kernel_rfl))
 f337 := Tryd.func91.trans (congrArg some (by kernel_rfl))
 f338 := Tryd.func92.trans (congrArg some (by kernel_rfl))
 t0 := Tryd.underlying0
 a0 := Tryd.isAgg0
 z0 := Tryd.sizeOf0
 v0 := Tryd.zeroValue0
 t2 := Tryd.underlying2
 a2 := Tryd.isAgg2
 z2 := Tryd.sizeOf2
 v2 := Tryd.zeroValue2
 t3 := Tryd.underlying3
 a3 := Tryd.isAgg3
 z3 := Tryd.sizeOf3
 v3 := Tryd.zeroValue3
 t4 := Tryd.underlying4
 a4 := Tryd.isAgg4
 z4 := Tryd.sizeOf4
 v4 := Tryd.zeroValue4
 t5 := Tryd.underlying5
 a5 := Tryd.isAgg5
 z5 := Tryd.sizeOf5
 v5 := Tryd.zeroValue5
 t9 := Tryd.underlying9
 a9 := Tryd.isAgg9
 z9 := Tryd.sizeOf9
 v9 := Tryd.zeroValue9
 t20 := Tryd.underlying20
 a20 := Tryd.isAgg20
 z20 := Tryd.sizeOf20
 v20 := Tryd.zeroValue20
 t21 := Tryd.underlying21
 a21 := Tryd.isAgg21
 z21 := Tryd.sizeOf21
 v21 := Tryd.zeroValue21
 t37 := Tryd.underlying48
 a37 := Tryd.isAgg48
 z37 := Tryd.sizeOf48
 v37 := Tryd.zeroValue48
 t46 := Tryd.underlying54
 a46 := Tryd.isAgg54
 z46 := Tryd.sizeOf54
 v46 := Tryd.zeroValue54
 t51 := Tryd.underlying105
 a51 := Tryd.isAgg105
 z51 := Tryd.sizeOf105
 v51 := Tryd.zeroValue105
 t53 := Tryd.underlying78
 a53 := Tryd.isAgg78
 z53 := Tryd.sizeOf78
 v53 := Tryd.zeroValue78
 t75 := Tryd.underlying43
 a75 := Tryd.isAgg43
 z75 := Tryd.sizeOf43
 v75 := Tryd.zeroValue43
 t76 := Tryd.underlying44
 a76 := Tryd.isAgg44
 z76 := Tryd.sizeOf44
 v76 := Tryd.zeroValue44
 t85 := Tryd.underlying66
 a85 := Tryd.isAgg66
 z85 := Tryd.sizeOf66
 v85 := Tryd.zeroValue66
 t127 := Tryd.underlying74
 a127 := Tryd.isAgg74
 z127 := Tryd.sizeOf74
 v127 := Tryd.zeroValue74
 t143 := Tryd.underlying91
 a143 := Tryd.isAgg91
 z143 := Tryd.sizeOf91
 v143 := Tryd.zeroValue91
 t145 := Tryd.underlying93
 a145 := Tryd.isAgg93
 z145 := Tryd.sizeOf93
 v145 := Tryd.zeroValue93
 t167 := Tryd.underlying65
 a167 := Tryd.isAgg65
 z167 := Tryd.sizeOf65
 v167 := Tryd.zeroValue65
 t168 := Tryd.underlying68
 a168 := Tryd.isAgg68
 z168 := Tryd.sizeOf68
 v168 := Tryd.zeroValue68
 t171 := Tryd.underlying96
 a171 := Tryd.isAgg96
 z171 := Tryd.sizeOf96
 v171 := Tryd.zeroValue96
 t173 := Tryd.underlying99
 a173 := Tryd.isAgg99
 z173 := Tryd.sizeOf99
 v173 := Tryd.zeroValue99
 t175 := Tryd.underlying79
 a175 := Tryd.isAgg79
 z175 := Tryd.sizeOf79
 v175 := Tryd.zeroValue79
 t210 := Tryd.underlying82
 a210 := Tryd.isAgg82
 z210 := Tryd.sizeOf82
 v210 := Tryd.zeroValue82
 t212 := Tryd.underlying109
 a212 := Tryd.isAgg109
 z212 := Tryd.sizeOf109
 v212 := Tryd.zeroValue109
 t213 := Tryd.underlying110
 a213 := Tryd.isAgg110
 z213 := Tryd.sizeOf110
 t232 := Tryd.underlying114
 a232 := Tryd.isAgg114
 z232 := Tryd.sizeOf114
 v232 := Tryd.zeroValue114
 t233 := Tryd.underlying115
 a233 := Tryd.isAgg115
 z233 := Tryd.sizeOf115
 v233 := Tryd.zeroValue115
 g15 := by kernel_rfl
 g16 := by kernel_rfl
 g17 := by kernel_rfl
 g18 := by kernel_rfl
 g19 := by kernel_rfl
 t80 := Tryd.underlying61
 a80 := Tryd.isAgg61
 z80 := Tryd.sizeOf61
 v80 := Tryd.zeroValue61
 i0 := by kernel_rfl
 i2 := by kernel_rfl
 i3 := by kernel_rfl
 i4 := by kernel_rfl
 i5 := by kernel_rfl
 i9 := by kernel_rfl
 i20 := by kernel_rfl
 i21 := by kernel_rfl
 i37 := by kernel_rfl
 i46 := by kernel_rfl
 i51 := by kernel_rfl
 i53 := by kernel_rfl
 i75 := by kernel_rfl
 i76 := by kernel_rfl
 i80 := by kernel_rfl
 i85 := by kernel_rfl
 i127 := by kernel_rfl
 i143 := by kernel_rfl
 i145 := by kernel_rfl
 i167 := by kernel_rfl
 i168 := by kernel_rfl
 i171 := by kernel_rfl
 i173 := by kernel_rfl
 i175 := by kernel_rfl
 i210 := by kernel_rfl
 i212 := by kernel_rfl
 i232 := by kernel_rfl
 i233 := by kernel_rfl
 m15 := by kernel_rfl
 m16 := by kernel_rfl
 m17 := by kernel_rfl
 m18 := by kernel_rfl
 m19 := by kernel_rfl
 c0 := by kernel_rfl
 c2 := by kernel_rfl
 c3 := by kernel_rfl
 c4 := by kernel_rfl
 c5 := by kernel_rfl
 c9 := by kernel_rfl
 c20 := by kernel_rfl
 c21 := by kernel_rfl
 c37 := by kernel_rfl
 c46 := by kernel_rfl
 c51 := by kernel_rfl
 c53 := by kernel_rfl
 c75 := by kernel_rfl
 c76 := by kernel_rfl
 c80 := by kernel_rfl
 c85 := by kernel_rfl
 c127 := by kernel_rfl
 c143 := by kernel_rfl
 c145 := by kernel_rfl
 c167 := by kernel_rfl
 c168 := by kernel_rfl
 c171 := by kernel_rfl
 c173 := by kernel_rfl
 c175 := by kernel_rfl
 c210 := by kernel_rfl
 c212 := by kernel_rfl
 c213 := by kernel_rfl
 c232 := by kernel_rfl
 c233 := by kernel_rfl }
open Go.RowKit in
theorem Tryd.strconv_Atoi_ok (s : ByteArray) (hmax : s.size <= 9223372036854775806) (v : Int) (h : Lib.atoiAll s.data.toList = .ok v) (w : World) :
   Calls Tryd.prog 19 #[.string s] w fun e w' => e = .returned (.tuple #[.int .i64 v, .nilIface]) /\ (w' = w ∨ ∃ t, w' = Lib.bytesWorld w 5 t) := Any.strconv_Atoi_ok Tryd.laysC172 s hmax v h w
open Go.RowKit in
theorem Tryd.strconv_Atoi_syntax (s : ByteArray) (hlim : s.size <= 281474976710656) (h : Lib.atoiAll s.data.toList = Lib.NumEnd.syntax) (ev : Value) (w : World) (hv : w.cell? ⟨0, 0, none⟩ = some ev) (hev : ev = .nilIface ∨ ∃ te pe, ev = .iface te pe) :
   Calls Tryd.prog 19 #[.string s] w fun e w' => ∃ N, e = .returned (.tuple #[.int .i64 (0), .iface 68 (.pointer (some ⟨N, 0, none⟩))]) /\ w.heap.size <= N /\ w'.heap[N]? = some (.cells #[.string ⟨#[65, 116, 111, 105]⟩, .string s, ev] 82 (0, 0)) /\ Below w.heap.size w w' := Any.strconv_Atoi_syntax Tryd.laysC172 s hlim h ev w hv hev
open Go.RowKit in
theorem Tryd.strconv_Atoi_range (s : ByteArray) (hlim : s.size <= 281474976710656) (h : Lib.atoiAll s.data.toList = .range) (ev : Value) (w : World) (hv : w.cell? ⟨1, 0, none⟩ = some ev) (hev : ev = .nilIface ∨ ∃ te pe, ev = .iface te pe) :
   Calls Tryd.prog 19 #[.string s] w fun e w' => ∃ N, e = .returned (.tuple #[.int .i64 (Lib.atoiSat s.data.toList), .iface 68 (.pointer (some ⟨N, 0, none⟩))]) /\ w.heap.size <= N /\ w'.heap[N]? = some (.cells #[.string ⟨#[65, 116, 111, 105]⟩, .string s, ev] 82 (0, 0)) /\ Below w.heap.size w w' := Any.strconv_Atoi_range Tryd.laysC172 s hlim h ev w hv hev
end Go.Proofs
namespace Go.Ab

abbrev I : Ty := .int .i64
abbrev tSlot : Ty := .pair .str (.pair I .unit)
abbrev tInode : Ty := .pair I (.pair .str (.pair .bool .unit))
abbrev tDisk : Ty := .pair (.slice tInode) (.pair (.slice tSlot) (.pair (.slice tSlot) (.pair I .unit)))
abbrev tAct : Ty := .pair I (.pair I (.pair I (.pair I (.pair I (.pair (.slice I) .unit)))))
abbrev tRec : Ty := .pair I (.pair .str (.pair .str (.pair I (.pair .bool .unit))))
abbrev tNode : Ty := .pair I (.pair .str (.pair .str (.pair I .unit)))
abbrev tStep : Ty := .pair I (.pair .str (.pair .str (.pair .str .unit)))
abbrev tPick : Ty := .pair .str (.pair I .unit)
end Go.Ab
namespace Go.Fn
open Go.Ab
abbrev Slot : Type := List UInt8 × Int × Unit
abbrev Inode : Type := Int × List UInt8 × Bool × Unit
abbrev Disk : Type := List Inode × List Slot × List Slot × Int × Unit
abbrev Act : Type := Int × Int × Int × Int × Int × List Int × Unit
abbrev Rec : Type := Int × List UInt8 × List UInt8 × Int × Bool × Unit
instance decSlot : DecidableEq Slot := inferInstanceAs (DecidableEq (List UInt8 × Int × Unit))
instance decInode : DecidableEq Inode := inferInstanceAs (DecidableEq (Int × List UInt8 × Bool × Unit))
instance decDisk : DecidableEq Disk := inferInstanceAs (DecidableEq (List Inode × List Slot × List Slot × Int × Unit))
instance decAct : DecidableEq Act := @instDecidableEqProd _ _ _ (@instDecidableEqProd _ _ _ (@instDecidableEqProd _ _ _ (inferInstanceAs (DecidableEq (Int × Int × List Int × Unit)))))
end Go.Fn
namespace Go.Fn
open Go.Ab
theorem wAdd_in {a b : Int} (h : -9223372036854775808 <= a + b /\ a + b <= 9223372036854775807) : wAdd .i64 a b = a + b := by unfold wAdd; rw [IntKind.wrap_i64]; omega
theorem wSub_in {a b : Int} (h : -9223372036854775808 <= a - b /\ a - b <= 9223372036854775807) : wSub .i64 a b = a - b := by unfold wSub; rw [IntKind.wrap_i64]; omega
theorem wMul_in {a b : Int} (h : -9223372036854775808 <= a * b /\ a * b <= 9223372036854775807) : wMul .i64 a b = a * b := by unfold wMul; rw [IntKind.wrap_i64]; omega
theorem i64_in {a : Int} (h : -9223372036854775808 <= a /\ a <= 9223372036854775807) : IntKind.i64.wrap a = a := by rw [IntKind.wrap_i64]; omega
theorem i64_byte (c : UInt8) : IntKind.i64.wrap (Int.ofNat c.toNat) = (c.toNat : Int) := i64_in ⟨by have := c.toNat_lt; show _ <= (c.toNat : Int); omega, by have := c.toNat_lt; show (c.toNat : Int) <= _; omega⟩
theorem inc_in {k : Nat} {α : Type} {l : List α} (h : fits (lenL l)) (hk : k <= l.length) : wAdd .i64 (Int.ofNat k) 1 = Int.ofNat (k + 1) := by
 have : l.length < 1099511627776 := h
 rw [wAdd_in]
 · rfl
 · simp only [Int.ofNat_eq_natCast]; omega
theorem lt_iff {k n : Nat} : decide (Int.ofNat k < iOf n) = decide (k < n) := by unfold iOf; simp
theorem len_bne {a b : Nat} : (iOf a != iOf b) = !(decide (a = b)) := by unfold iOf; by_cases h : a = b <;> simp [h] <;> omega
theorem eqI_dec (a b : Int) : (a == b) = decide (a = b) := by by_cases h : a = b <;> simp [h]
theorem nthI_nat {α : Type} (l : List α) (k : Nat) : nthI l (Int.ofNat k) = l[k]? := rfl
theorem bnd_iff {k n : Nat} : bnd (Int.ofNat k) n ↔ k < n := ⟨fun h => Int.ofNat_lt.1 h.2, fun h => ⟨Int.natCast_nonneg _, Int.ofNat_lt.2 h⟩⟩
theorem bnd_nat {k n : Nat} (h : k < n) : bnd (Int.ofNat k) n := ⟨Int.natCast_nonneg _, Int.ofNat_lt.2 h⟩
theorem below_succ {α : Type} {P : α -> Prop} {l : List α} {k : Nat} {x : α} (h : ∀ j y, j < k -> l[j]? = some y -> P y) (hk : l[k]? = some x) (hx : P x) : ∀ j y, j < k + 1 -> l[j]? = some y -> P y := by
 intro j y hj hy
 rcases Nat.lt_or_ge j k with h1 | h1
 · exact h j y h1 hy
 · obtain rfl : j = k := by omega
   rw [hk] at hy; cases hy; exact hx
def idx {α : Type} (p : α -> Bool) (l : List α) : Int := match l.findIdx? p with | some i => (i : Int) | none => -1
theorem idx_none {α : Type} {p : α -> Bool} {l : List α} (h : ∀ x ∈ l, p x = false) : idx p l = -1 := by
 unfold idx; rw [List.findIdx?_eq_none_iff.2 h]
theorem idx_at {α : Type} {p : α -> Bool} {l : List α} {k : Nat} {x : α} (h : ∀ j y, j < k -> l[j]? = some y -> p y = false) (hk : l[k]? = some x) (hx : p x = true) : idx p l = Int.ofNat k := by
 unfold idx
 have : l.findIdx? p = some k := by
   rw [List.findIdx?_eq_some_iff_getElem]
   obtain ⟨hlt, e⟩ := List.getElem?_eq_some_iff.1 hk
   refine ⟨hlt, by rw [e]; exact hx, fun j hj => ?_⟩
   have := h j (l[j]'(by omega)) hj (List.getElem?_eq_getElem _)
   simp [this]
 rw [this]; rfl
theorem idx_end {α : Type} {p : α -> Bool} {l : List α} {k : Nat} (h : ∀ j y, j < k -> l[j]? = some y -> p y = false) (hk : ¬ k < l.length) : idx p l = -1 := by
 refine idx_none fun x hx => ?_
 obtain ⟨j, hj, rfl⟩ := List.getElem_of_mem hx
 exact h j _ (by omega) (List.getElem?_eq_getElem hj)
theorem idx_nonneg {α : Type} {p : α -> Bool} {l : List α} : decide (idx p l ≥ 0) = l.any p := by
 unfold idx
 cases h : l.findIdx? p with
 | none =>
   rw [List.findIdx?_eq_none_iff] at h
   have : l.any p = false := by rw [List.any_eq_false]; intro x hx; simp [h x hx]
   rw [this]; rfl
 | some i =>
   rw [List.findIdx?_eq_some_iff_getElem] at h
   obtain ⟨hi, hp, _⟩ := h
   have : l.any p = true := List.any_eq_true.2 ⟨l[i], List.getElem_mem hi, hp⟩
   rw [this]
   simp
end Go.Fn
namespace Go.Fn
open Go.Ab
def sum (l : List UInt8) : Int := l.foldl (fun n c => (n * 263 + c.toNat + 1) % 65521) 1
end Go.Fn
namespace Go.Fn
open Go.Ab
def short (t : List UInt8) : Bool := decide (t.length <= 65536)
theorem short_iff {t : List UInt8} : decide (iOf t.length <= 65536) = short t := by unfold short iOf; simp; omega
end Go.Fn
namespace Go.Fn
open Go.Ab
theorem all_not {α : Type} (l : List α) (p : α -> Bool) : (!(l.any fun x => !(p x))) = l.all p := by
 induction l with
 | nil => rfl
 | cons x l ih => simp only [List.any_cons, List.all_cons, Bool.not_or, Bool.not_not, ih]
end Go.Fn
namespace Go.Fn
open Go.Ab
theorem drop_at {α : Type} {l : List α} {k : Nat} {x : α} (h : l[k]? = some x) : l.drop k = x :: l.drop (k + 1) := by
 obtain ⟨hk, rfl⟩ := List.getElem?_eq_some_iff.1 h
 exact List.drop_eq_getElem_cons hk
end Go.Fn
namespace Go.Fn
open Go.Ab
def eqD {α : Type} [DecidableEq α] (a b : α) : Bool := decide (a = b)
theorem eqD_bne {α : Type} [DecidableEq α] {a b : α} : (!eqD a b) = decide (a ≠ b) := by unfold eqD; simp
end Go.Fn
namespace Go.Fn
open Go.Ab
def within (n lo hi : Int) : Bool := decide (lo <= n) && decide (n <= hi)
def nameIs (n : List UInt8) (s : Slot) : Bool := s.1 == n
end Go.Fn
namespace Go.Fn
open Go.Ab
def anyB : AnyV -> Bool
 | .b x => x
 | _ => false
def anyN : AnyV -> Int
 | .n x => x
 | _ => 0
def first : List AnyV -> Int
 | x :: y :: r => if anyB x then anyN y else first r
 | _ => 0
end Go.Fn
namespace Go.Fn
open Go.Ab
theorem NS : (∀ n : Nat, n <= n) /\ (∀ n : Nat, Nat.succ n = n + 1) /\ (∀ n : Nat, 0 <= n) /\ (∀ {α : Type} (p : α × Unit), (p.1, ()) = p) /\ (∀ {α β : Type} (p : α × β), (p.1, p.2) = p) /\
   (∀ {a b : Nat}, (iOf a != iOf b) = !(decide (a = b))) /\ (∀ {α : Type} [DecidableEq α] {a b : α}, (!eqD a b) = decide (a ≠ b)) /\
   (∀ {α : Type} [BEq α] [LawfulBEq α] {a b : α}, (a != b) = true ↔ a ≠ b) /\ (∀ {α : Type} [BEq α] [LawfulBEq α] {a b : α}, (a != b) = false ↔ a = b) /\
   (∀ {α : Type} [BEq α] [LawfulBEq α] {a b : α}, (a == b) = true ↔ a = b) /\ (∀ {α : Type} [BEq α] [LawfulBEq α] {a b : α}, (a == b) = false ↔ a ≠ b) /\
   (∀ p : Prop, (True /\ p) = p) /\ (∀ p : Prop, (p /\ True) = p) /\ (∀ p : Prop, (p /\ p) = p) /\
   (∀ {k n : Nat}, decide (Int.ofNat k < iOf n) = decide (k < n)) /\ (∀ {α : Type} (l : List α) (k : Nat), nthI l (Int.ofNat k) = l[k]?) /\ (∀ {k n : Nat}, bnd (Int.ofNat k) n ↔ k < n) /\
   (∀ {p : Prop} [Decidable p], (decide p = true) = p) /\ (∀ {p : Prop} [Decidable p], decide p = false ↔ ¬ p) /\ (∀ {n m : Nat}, Nat.sub n m = n - m) /\
   ((¬ (False : Prop)) = True) /\ ((¬ (false = true)) = True) /\
   (∀ {α β : Type} (a : α) (b : β) (c : α) (d : β), ((a, b) = (c, d)) = (a = c /\ b = d)) /\
   (∀ {α : Type} [BEq α] [LawfulBEq α] (a : α), (a != a) = false) /\ ((true = false) = False) /\ ((false = true) = False) /\ (∀ p : Prop, (False -> p) = True) /\
   ((!true) = false) /\ ((!false) = true) /\ (∀ {α : Type} {p : α -> Bool} {a : α} {l : List α}, (a :: l).all p = (p a && l.all p)) /\ (∀ {α : Type} {p : α -> Bool}, ([] : List α).all p = true) /\ (∀ b : Bool, (b && true) = b) /\
   (∀ {b : Bool}, (¬ b = true) = (b = false)) /\ (∀ {b : Bool}, (¬ b = false) = (b = true)) /\ (∀ {b : Bool}, ((!b) = true) = (b = false)) /\ (∀ {b : Bool}, ((!b) = false) = (b = true)) /\ (∀ {p : Prop} [Decidable p], ¬ ¬ p ↔ p) := by
 refine ⟨Nat.le_refl, fun _ => rfl, Nat.zero_le, fun _ => rfl, fun _ => rfl, len_bne, eqD_bne, bne_iff_ne, bne_eq_false_iff_eq, beq_iff_eq, beq_eq_false_iff_ne, true_and, and_true, and_self, lt_iff, nthI_nat, bnd_iff, decide_eq_true_eq, decide_eq_false_iff_not, rfl, not_false_eq_true, by simp, by simp, bne_self_eq_false, by simp, by simp, false_implies, rfl, rfl, List.all_cons, List.all_nil, Bool.and_true, by simp, by simp, by simp, by simp, Decidable.not_not⟩
end Go.Fn
namespace Go.Fn
open Go.Ab
theorem first_step {l : List AnyV} {k : Nat} {x y : AnyV} (hx : l[k]? = some x) (hy : l[k + 1]? = some y) : first (l.drop k) = if anyB x then anyN y else first (l.drop (k + 2)) := by
 rw [drop_at hx, drop_at hy]; rfl
theorem first_end {l : List AnyV} {k : Nat} (h : ¬ k + 1 < l.length) : first (l.drop k) = 0 := by
 match hd : l.drop k with
 | [] => rfl
 | [x] => rfl
 | x :: y :: r =>
   have := congrArg List.length hd
   simp only [List.length_drop, List.length_cons] at this
   omega
end Go.Fn
namespace Go.Fn
open Go.Ab
def kept {α : Type} (p : α -> Bool) (xs : List α) (k : Nat) : List α := (xs.take k).filter (fun x => !(p x))
theorem kept_del {α : Type} {p : α -> Bool} {xs : List α} {k : Nat} {x : α} (hx : xs[k]? = some x) (h : p x = true) : kept p xs (k + 1) = kept p xs k := by
 unfold kept; rw [List.take_add_one, hx]; simp [h]
theorem kept_keep {α : Type} {p : α -> Bool} {xs : List α} {k : Nat} {x : α} (hx : xs[k]? = some x) (h : p x = false) : kept p xs (k + 1) = kept p xs k ++ [x] := by
 unfold kept; rw [List.take_add_one, hx]; simp [h]
theorem kept_end {α : Type} {p : α -> Bool} {xs : List α} {k : Nat} (h : ¬ k < xs.length) : kept p xs k = xs.filter (fun x => !(p x)) := by
 unfold kept; rw [List.take_of_length_le (by omega)]
def DelAt {α : Type} (p : α -> Bool) (xs : List α) (j : Nat) (cur : List α) : Prop := j <= xs.length /\ cur.length = xs.length /\ (kept p xs j).length < j /\ cur.take (kept p xs j).length = kept p xs j /\ cur.drop j = xs.drop j
theorem idx_some {α : Type} {p : α -> Bool} {xs : List α} (h : ¬ idx p xs = -1) : ∃ k x, idx p xs = Int.ofNat k /\ xs[k]? = some x /\ p x = true /\ ∀ j y, j < k -> xs[j]? = some y -> p y = false := by
 unfold idx at h ⊢
 cases hf : xs.findIdx? p with
 | none => rw [hf] at h; exact absurd rfl h
 | some k =>
   rw [List.findIdx?_eq_some_iff_getElem] at hf
   obtain ⟨hk, hp, hn⟩ := hf
   refine ⟨k, xs[k], rfl, List.getElem?_eq_getElem hk, hp, fun j y hj hy => ?_⟩
   have hjl : j < xs.length := by omega
   rw [List.getElem?_eq_getElem hjl] at hy
   cases hy
   simpa using hn j hj
theorem kept_first {α : Type} {p : α -> Bool} {xs : List α} : ∀ {k : Nat}, k <= xs.length -> (∀ j y, j < k -> xs[j]? = some y -> p y = false) -> kept p xs k = xs.take k
 | 0, _, _ => by simp [kept]
 | k + 1, hk, h => by
   have hx : xs[k]? = some xs[k] := List.getElem?_eq_getElem (by omega)
   rw [kept_keep hx (h k _ (by omega) hx), kept_first (by omega) (fun j y hj hy => h j y (by omega) hy), List.take_add_one, hx]; rfl
theorem del_start {α : Type} {p : α -> Bool} {xs : List α} {k : Nat} {x : α} (hx : xs[k]? = some x) (hp : p x = true) (h : ∀ j y, j < k -> xs[j]? = some y -> p y = false) : DelAt p xs (k + 1) xs /\ (kept p xs (k + 1)).length = k := by
 have hk : k < xs.length := by
   rcases Nat.lt_or_ge k xs.length with h | h
   · exact h
   · rw [List.getElem?_eq_none h] at hx; cases hx
 have e : kept p xs (k + 1) = xs.take k := by rw [kept_del hx hp, kept_first (by omega) h]
 have e2 : (xs.take k).length = k := by rw [List.length_take]; omega
 refine ⟨⟨by omega, rfl, ?_, ?_, rfl⟩, ?_⟩
 · rw [e, e2]; omega
 · rw [e, e2]
 · rw [e, e2]
theorem del_read {α : Type} {p : α -> Bool} {xs cur : List α} {j : Nat} (h : DelAt p xs j cur) : cur[j]? = xs[j]? := by
 have := congrArg (fun l => l[0]?) h.2.2.2.2
 simpa using this
theorem del_skip {α : Type} {p : α -> Bool} {xs cur : List α} {j : Nat} {x : α} (h : DelAt p xs j cur) (hx : xs[j]? = some x) (hp : p x = true) : DelAt p xs (j + 1) cur /\ (kept p xs (j + 1)).length = (kept p xs j).length := by
 obtain ⟨h1, h2, h3, h4, h5⟩ := h
 have hj : j < xs.length := by
   rcases Nat.lt_or_ge j xs.length with h | h
   · exact h
   · rw [List.getElem?_eq_none h] at hx; cases hx
 rw [DelAt, kept_del hx hp]
 refine ⟨⟨hj, h2, by omega, h4, ?_⟩, rfl⟩
 have := congrArg (List.drop 1) h5
 simpa [List.drop_drop, Nat.add_comm] using this
theorem del_put {α : Type} {p : α -> Bool} {xs cur : List α} {j : Nat} {x : α} (h : DelAt p xs j cur) (hx : xs[j]? = some x) (hp : p x = false) : DelAt p xs (j + 1) (cur.set (kept p xs j).length x) /\ (kept p xs (j + 1)).length = (kept p xs j).length + 1 := by
 obtain ⟨h1, h2, h3, h4, h5⟩ := h
 have hj : j < xs.length := by
   rcases Nat.lt_or_ge j xs.length with h | h
   · exact h
   · rw [List.getElem?_eq_none h] at hx; cases hx
 rw [DelAt, kept_keep hx hp]
 have e : (kept p xs j ++ [x]).length = (kept p xs j).length + 1 := by simp
 refine ⟨⟨hj, by rw [List.length_set]; exact h2, by rw [e]; omega, ?_, ?_⟩, e⟩
 · rw [e, List.take_add_one, List.getElem?_set_self (by omega), List.take_set_of_le (Nat.le_refl _), h4]; rfl
 · rw [List.drop_set_of_lt (by omega)]
   have := congrArg (List.drop 1) h5
   simpa [List.drop_drop, Nat.add_comm] using this
theorem del_lt {α : Type} {p : α -> Bool} {xs cur : List α} {j : Nat} (h : DelAt p xs j cur) : (kept p xs j).length < xs.length := Nat.lt_of_lt_of_le h.2.2.1 h.1
theorem copyL_take {α : Type} (xs : List α) (lo hi : Nat) (ys : List α) (h : lo <= xs.length) : (copyL xs lo hi ys).take lo = xs.take lo := by
 unfold copyL
 rw [List.append_assoc, List.take_append_of_le_length (by rw [List.length_take]; omega), List.take_take, Nat.min_self]
theorem del_end {α : Type} {p : α -> Bool} {xs cur : List α} {j : Nat} (h : DelAt p xs j cur) (he : ¬ j < xs.length) (hi : Nat) (ys : List α) : subL (copyL cur (kept p xs j).length hi ys) 0 (kept p xs j).length = xs.filter (fun x => !(p x)) := by
 have hl := del_lt h
 obtain ⟨h1, h2, h3, h4, h5⟩ := h
 unfold subL
 rw [List.drop_zero, copyL_take _ _ _ _ (by omega), h4, kept_end he]
end Go.Fn
namespace Go.Fn
open Go.Ab
theorem tN_nat (n : Nat) : tN (Int.ofNat n) = n := rfl
end Go.Fn
namespace Go.Fn
open Go.Ab
theorem inc_small {k : Nat} (h : k <= 1000000) : wAdd .i64 (Int.ofNat k) 1 = Int.ofNat (k + 1) := by
 rw [wAdd_in (by simp only [Int.ofNat_eq_natCast]; omega)]; rfl
end Go.Fn
namespace Go.Fn
open Go.Ab
def itoaS (n : Int) : List UInt8 := Lib.itoa n
def joinS (l : List (List UInt8)) (u : List UInt8) : List UInt8 := Lib.join l u
def inI (n : Int) : Prop := -9223372036854775808 <= n /\ n <= 9223372036854775807
def dm (n : Int) : Nat := 2 * n.natAbs + (if n < 0 then 1 else 0)
theorem itoa_len {n : Int} (h : inI n) : (itoaS n).length <= 21 := Lib.itoa_length_le n h.1 h.2
end Go.Fn
namespace Go.Fn
open Go.Ab
def anyText : AnyV -> Option (List UInt8)
 | .n x => some (itoaS x)
 | .s t => some t
 | .b _ => none
def texts (l : List AnyV) : List (List UInt8) := l.filterMap anyText
def said (l : List AnyV) : List UInt8 := joinS (texts l) [32]
def saidOK (l : List AnyV) : Prop := (∀ n, AnyV.n n ∈ l -> inI n) /\ (said l).length <= 100000000 /\ l.length <= 100000000
theorem texts_zero (l : List AnyV) : texts (l.take 0) = [] := by simp [texts]
theorem texts_n {l : List AnyV} {k : Nat} {n : Int} (h : l[k]? = some (.n n)) : texts (l.take k) ++ [itoaS n] = texts (l.take (k + 1)) := by
 unfold texts; rw [List.take_add_one, h, List.filterMap_append]; rfl
theorem texts_s {l : List AnyV} {k : Nat} {s : List UInt8} (h : l[k]? = some (.s s)) : texts (l.take k) ++ [s] = texts (l.take (k + 1)) := by
 unfold texts; rw [List.take_add_one, h, List.filterMap_append]; rfl
theorem texts_b {l : List AnyV} {k : Nat} {x : AnyV} (h : l[k]? = some x) (h1 : ∀ a, x ≠ .n a) (h2 : ∀ a, x ≠ .s a) : texts (l.take k) = texts (l.take (k + 1)) := by
 unfold texts; rw [List.take_add_one, h, List.filterMap_append]
 cases x with
 | n a => exact absurd rfl (h1 a)
 | s a => exact absurd rfl (h2 a)
 | b a => simp [anyText]
theorem texts_end {l : List AnyV} {k : Nat} (h : ¬ k < l.length) : texts (l.take k) = texts l := by rw [List.take_of_length_le (by omega)]
theorem texts_len (l : List AnyV) (k : Nat) : (texts (l.take k)).length <= l.length := by
 unfold texts
 exact Nat.le_trans (List.length_filterMap_le _ _) (by rw [List.length_take]; omega)
end Go.Fn
namespace Go.Fn
open Go.Ab
theorem join2 (a b : List UInt8) : joinS [a, b] [32] = a ++ ([32] ++ b) := by simp [joinS, Lib.join, List.intercalate, List.intersperse]
theorem join3 (a b c : List UInt8) : joinS [a, b, c] [32] = a ++ ([32] ++ (b ++ ([32] ++ c))) := by simp [joinS, Lib.join, List.intercalate, List.intersperse]
theorem join4 (a b c d : List UInt8) : joinS [a, b, c, d] [32] = a ++ ([32] ++ (b ++ ([32] ++ (c ++ ([32] ++ d))))) := by simp [joinS, Lib.join, List.intercalate, List.intersperse]
theorem said_ss (w a : List UInt8) : said [.s w, .s a] = w ++ ([32] ++ a) := join2 w a
theorem said_sss (w a b : List UInt8) : said [.s w, .s a, .s b] = w ++ ([32] ++ (a ++ ([32] ++ b))) := join3 w a b
theorem said_ssn (w a : List UInt8) (n : Int) : said [.s w, .s a, .n n] = w ++ ([32] ++ (a ++ ([32] ++ itoaS n))) := join3 w a (itoaS n)
theorem said_ssns (w a b : List UInt8) (n : Int) : said [.s w, .s a, .n n, .s b] = w ++ ([32] ++ (a ++ ([32] ++ (itoaS n ++ ([32] ++ b))))) := join4 w a (itoaS n) b
theorem sok_ss {w a : List UInt8} (h1 : w.length <= 100) (h2 : a.length <= 10000) : saidOK [.s w, .s a] := by
 refine ⟨fun n hn => by simp at hn, ?_, by simp⟩
 rw [said_ss]; simp; omega
theorem sok_sss {w a b : List UInt8} (h1 : w.length <= 100) (h2 : a.length <= 10000) (h3 : b.length <= 10000) : saidOK [.s w, .s a, .s b] := by
 refine ⟨fun n hn => by simp at hn, ?_, by simp⟩
 rw [said_sss]; simp; omega
theorem sok_ssn {w a : List UInt8} {n : Int} (h1 : w.length <= 100) (h2 : a.length <= 10000) (hn : inI n) : saidOK [.s w, .s a, .n n] := by
 refine ⟨fun m hm => by simp at hm; rw [hm]; exact hn, ?_, by simp⟩
 have := itoa_len hn
 rw [said_ssn]; simp; omega
theorem sok_ssns {w a b : List UInt8} {n : Int} (h1 : w.length <= 100) (h2 : a.length <= 10000) (hn : inI n) (h3 : b.length <= 10000) : saidOK [.s w, .s a, .n n, .s b] := by
 refine ⟨fun m hm => by simp at hm; rw [hm]; exact hn, ?_, by simp⟩
 have := itoa_len hn
 rw [said_ssns]; simp; omega
end Go.Fn
namespace Go.Proofs.YtkdnelaoagmeaaaDoor
open Go.Ab Go.Fn
def tabP (w : World) : Prop := Lib.TabIs Tryd.prog w "internal/strconv.uint64pow10" .u64 Lib.pow10Tab
theorem gPow : Tryd.prog.globalNamed "internal/strconv.uint64pow10" = some 5 := by kernel_rfl
def mkT (specs : List (Nat × FSpec)) (clos : List (Nat × CSpec)) : Env := { tys := tys, specs := specs, clos := clos, anyB := 4, anyN := 3, anyS := 9, gl := 5 + 1, tab := tabP }
theorem tabT (specs clos) : TabS (mkT specs clos) := by
 intro w w' h hb
 have hb0 : w'.heap[5]? = w.heap[5]? := hb 5 (Nat.lt_succ_self _)
 have h : w.var? Tryd.prog "internal/strconv.uint64pow10" = _ := h
 show w'.var? Tryd.prog "internal/strconv.uint64pow10" = _
 rw [<- h]
 unfold World.var?
 rw [gPow]
 simp only [Option.bind_some, hb0]
theorem envT (specs clos) : EnvOK Tryd.prog (mkT specs clos) :=
 { tys := (envOK specs clos []).tys, distinct := (envOK specs clos []).distinct, anyTys := (envOK specs clos []).anyTys, anyZ := (envOK specs clos []).anyZ }
def FT (f : Nat) (sp : FSpec) : Prop := FOK Tryd.prog (mkT [] []) f sp
theorem toT {f : Nat} {sp : FSpec} (h : FO f sp) : FT f sp := fok_env (E := E0) (E' := mkT [] []) ⟨rfl, rfl, rfl⟩ ⟨fun _ _ => trivial, Nat.zero_le _, fun _ _ _ _ => trivial⟩ h
def AllT : List (Nat × FSpec) -> Prop
 | [] => True
 | (f, sp) :: r => FT f sp /\ AllT r
theorem AllT.get : ∀ {l : List (Nat × FSpec)}, AllT l -> ∀ {f sp} , Go.Ab.look l f = some sp -> FT f sp
 | [], _, f, sp, h => by cases h
 | (k, x) :: r, ⟨h1, h2⟩, f, sp, h => by
   simp only [Go.Ab.look] at h
   cases hk : Nat.beq k f with
   | true => rw [hk] at h; cases h; rw [<- Nat.eq_of_beq_eq_true hk]; exact h1
   | false => rw [hk] at h; exact AllT.get h2 h
theorem progT {specs clos} (h1 : AllT specs) (h2 : AllC clos) : ProgOK Tryd.prog (mkT specs clos) :=
 { env := envT specs clos, specs := fun f sp h => fok_env (E := mkT [] []) (E' := mkT specs clos) ⟨rfl, rfl, rfl⟩ ⟨fun _ h => h, Nat.le_refl _, tabT [] []⟩ (h1.get h), clos := fun f cl h => cok_env (E := E0) (E' := mkT specs clos) ⟨rfl, rfl, rfl⟩ (h2.get h), inl := fun f T h => (by cases h), mixed := by kernel_rfl }
theorem foT {specs clos f fn sp} (A : pdens sp.ps -> List (Nat × (St -> LoopAnn))) (h1 : AllT specs) (h2 : AllC clos) (hf : Tryd.prog.funcs[f]? = some fn) (hn : (fn.name == "runtime.NumGoroutine") = false) (hb : fn.body.isSome = true) (hv : ∀ x, sp.pre x -> vc (mkT specs clos) (A x) fn sp x) : FT f sp :=
 fok_env (E := mkT specs clos) (E' := mkT [] []) ⟨rfl, rfl, rfl⟩ ⟨fun _ h => h, Nat.le_refl _, tabT specs clos⟩ (fok_of_vc (progT h1 h2) hf hn A hv hb)
end Go.Proofs.YtkdnelaoagmeaaaDoor
namespace Go.Proofs.YtkdnelaoagmeaaaDoor
open Go.Ab Go.Fn
def s_Itoa : FSpec := { ps := [.v I], rs := [.v .str], pre := fun x => Fn.inI x.1, fn := fun x => (Fn.itoaS x.1, ()), upd := fun _ => () }
theorem ft_Itoa : FT 53 s_Itoa := by
 refine fok_raw (ps := [.v I]) (fn := fun x => Fn.itoaS x.1) rfl ⟨_, Tryd.func53, rfl, rfl⟩ ?_
 rintro ⟨(n : Int), ⟨⟩⟩ c vs hE hT ⟨h1, h2⟩ hV
 have h1 : -9223372036854775808 <= n := h1
 have h2 : n <= 9223372036854775807 := h2
 have hV : VRelL c [.d (.int .i64) n] vs := hV
 simp only [VRelL] at hV
 obtain ⟨v, q, rfl, r, rfl⟩ := hV
 have hv := int_ok (k := .i64) (n := n) r
 subst hv
 refine Calls.mono (Tryd.strconv_Itoa n h1 h2 c.w hT) fun e w' he => ?_
 obtain ⟨rfl, k, os, rfl⟩ := he
 refine ⟨rfl, ?_, keep_of rfl rfl rfl ?_ ?_⟩
 · have := Lib.itoa_length_le n h1 h2
   show (Lib.itoa n).length < lim
   unfold lim
   omega
 · unfold Sort.grow World.drewN; simp
 · intro b hb
   unfold Sort.grow World.drewN
   simp only
   rw [Array.getElem?_append_left hb]
end Go.Proofs.YtkdnelaoagmeaaaDoor
namespace Go.Proofs.YtkdnelaoagmeaaaDoor
open Go.Ab Go.Fn
def s_Join : FSpec := { ps := [.v (.slice .str), .v .str], rs := [.v .str], pre := fun x => (Fn.joinS x.1 x.2.1).length <= 100000000 /\ List.length (α := List UInt8) x.1 <= 100000000, fn := fun x => (Fn.joinS x.1 x.2.1, ()), upd := fun _ => () }
theorem fo_Join : FO 22 s_Join := by
 refine fok_raw (ps := [.v (.slice .str), .v .str]) (fn := fun x => Fn.joinS x.1 x.2.1) rfl ⟨_, Tryd.func22, rfl, rfl⟩ ?_
 rintro ⟨(l : List (List UInt8)), (u : List UInt8), ⟨⟩⟩ c vs hE - ⟨h1, h2⟩ hV
 have h1 : (Lib.join l u).length <= 100000000 := h1
 have h2 : l.length <= 100000000 := h2
 have hV : VRelL c [.d (.slice .str) l, .d .str u] vs := hV
 simp only [VRelL] at hV
 obtain ⟨v, q, rfl, r, v2, q2, rfl, r2, rfl⟩ := hV
 have hu := (str_ok (s := u) r2).1
 subst hu
 have r' : Rep c.E c.X c.w (.slice .str) l [v] := r.2
 obtain ⟨ad, n, cap, e, hn, hc, hlm, hr⟩ := r'
 simp only [List.cons.injEq, and_true] at e
 subst e
 have hn : n = l.length := hn
 subst hn
 have hlim : (Lib.join l u).length < lim := by unfold lim; omega
 rcases hr with hr | ⟨b, off, rfl, hb, hX, hr⟩
 · have hr : l = [] := hr
   subst hr
   refine Calls.mono (Tryd.strings_Join_none ad cap ⟨u.toArray⟩ c.w) fun e w' he => ?_
   obtain ⟨rfl, rfl⟩ := he
   exact ⟨rfl, hlim, Keep.refl _ _⟩
 · have hc : l.length <= cap := hc
   have e1 : (l.map fun s => (⟨s.toArray⟩ : ByteArray)).map (fun x => x.data.toList) = l := by
     rw [List.map_map]
     have : ((fun x : ByteArray => x.data.toList) ∘ fun s : List UInt8 => (⟨s.toArray⟩ : ByteArray)) = id := rfl
     rw [this, List.map_id]
   have := Tryd.strings_Join b off cap (l.map fun s => ⟨s.toArray⟩) ⟨u.toArray⟩ c.w (fun j x hx => ?_) hb (by rw [List.length_map]; omega) (by rw [List.length_map]; exact hc) (by rw [e1]; show (Lib.join l u).length <= _; omega)
   · rw [List.length_map, e1] at this
     refine Calls.mono this fun e w' he => ?_
     obtain ⟨rfl, hk⟩ := he
     exact ⟨rfl, hlim, keep_below hk⟩
   · rw [List.getElem?_map] at hx
     cases hj : l[j]? with
     | none => rw [hj] at hx; cases hx
     | some s =>
       rw [hj] at hx
       cases hx
       obtain ⟨cells, hc1, hc2⟩ := hr j s hj
       have hc2 : cells = [.string ⟨s.toArray⟩] /\ s.length < lim := by simpa [Rep] using hc2
       have := hc1 0 _ (by rw [hc2.1]; rfl)
       simpa [Ty.size] using this
end Go.Proofs.YtkdnelaoagmeaaaDoor
namespace Go.Proofs.YtkdnelaoagmeaaaDoor
open Go.Ab Go.Fn
def s_IndexFunc_str : FSpec := { ps := [.v (.slice .str), .f [.str] .bool], rs := [.v I], pre := fun x => ∀ y, y ∈ x.1 -> x.2.1.2 (y, ()), fn := fun x => (idx (fun y => x.2.1.1 (y, ())) x.1, ()), upd := fun _ => () }
def L_IndexFunc_str (xs : List (.str : Ty).den) (p : dens [.str] -> Bool) : LoopAnn := { ι := Nat, inv := fun k => k <= List.length (α := (.str : Ty).den) xs /\ ∀ (j : Nat) (y : (.str : Ty).den), j < k -> xs[j]? = some y -> p (y, ()) = false, slots := fun k => [(8, .d I (Int.ofNat k))], objs := fun _ => [], μ := fun k => List.length (α := (.str : Ty).den) xs - k }
theorem fo_IndexFunc_str : FO 42 s_IndexFunc_str := by
 refine fo (specs := []) (clos := []) (fun x => [(2, .lv [0, 1, 7, 8] <| fun _ => L_IndexFunc_str x.1 x.2.1.1)]) trivial trivial Tryd.func42 rfl rfl ?_
 rintro ⟨xs, ⟨p, q⟩, ⟨⟩⟩ hp
 refine vcOf (fits (lenL xs) -> (∃ (i : Nat), (i <= List.length xs /\ ∀ (j : Nat) (y : List UInt8), j < i -> xs[j]? = some y -> p (y, ()) = false) /\ (xs = xs /\ (p, q) = (p, q) /\ iOf (lenL xs) = iOf (lenL xs) /\ (0 : Int) = Int.ofNat i /\ True) /\ True /\ True) /\ ∀ (i : Nat), (i <= List.length xs /\ ∀ (j : Nat) (y : List UInt8), j < i -> xs[j]? = some y -> p (y, ()) = false) -> (decide (Int.ofNat i < iOf (lenL xs)) = true -> bnd (Int.ofNat i) (lenL xs) /\ ∀ (x : List UInt8), nthI xs (Int.ofNat i) = some x -> 1 <= 1 /\ q (x, ()) /\ (p (x, ()) = true -> (Int.ofNat i, ()) = (idx (fun (y : List UInt8) => p (y, ())) xs, ()) /\ () = ()) /\ (p (x, ()) = false -> ∃ (j : Nat), (j <= List.length xs /\ ∀ (j_1 : Nat) (y : List UInt8), j_1 < j -> xs[j_1]? = some y -> p (y, ()) = false) /\ (List.length xs).sub j < (List.length xs).sub i /\ (xs = xs /\ (p, q) = (p, q) /\ iOf (lenL xs) = iOf (lenL xs) /\ wAdd .i64 (Int.ofNat i) (1 : Int) = Int.ofNat j /\ True) /\ True /\ True)) /\ (decide (Int.ofNat i < iOf (lenL xs)) = false -> ((-1 : Int), ()) = (idx (fun (y : List UInt8) => p (y, ())) xs, ()) /\ () = ())) (by kernel_rfl) ?_
 simp only [NS, eq_self, ne_eq, forall_const, implies_true, Nat.reduceAdd, Nat.reduceLeDiff, nz, Int.reduceEq, Nat.reduceEqDiff, reduceCtorEq]; try simp only [lenL]
 refine fun hf => ⟨⟨0, ⟨Nat.zero_le _, fun j y hj => absurd hj (Nat.not_lt_zero _)⟩, rfl⟩, fun k ⟨hk, hi⟩ => ⟨fun h => ⟨h, fun x hx => ⟨hp x (List.mem_of_getElem? hx), fun h1 => (idx_at hi hx h1).symm, fun h1 => ⟨k + 1, ⟨h, below_succ (P := fun y => p (y, ()) = false) hi hx h1⟩, by omega, inc_in hf hk⟩⟩⟩, fun h => (idx_end hi h).symm⟩⟩
end Go.Proofs.YtkdnelaoagmeaaaDoor
namespace Go.Proofs.YtkdnelaoagmeaaaDoor
open Go.Ab Go.Fn
def s_ContainsFunc_str : FSpec := { ps := [.v (.slice .str), .f [.str] .bool], rs := [.v .bool], pre := fun x => ∀ y, y ∈ x.1 -> x.2.1.2 (y, ()), fn := fun x => (x.1.any (fun y => x.2.1.1 (y, ())), ()), upd := fun _ => () }
theorem fo_ContainsFunc_str : FO 26 s_ContainsFunc_str := by
 refine fo (specs := [(42, s_IndexFunc_str)]) (clos := []) (fun x => []) ⟨fo_IndexFunc_str, trivial⟩ trivial Tryd.func26 rfl rfl ?_
 rintro ⟨xs, ⟨p, q⟩, ⟨⟩⟩ hp
 refine vcOf (true = true /\ (∀ (y : List UInt8), y ∈ xs -> q (y, ())) /\ (decide (idx (fun (y : List UInt8) => p (y, ())) xs ≥ (0 : Int)), ()) = (List.any xs fun (y : List UInt8) => p (y, ()), ()) /\ () = ()) (by kernel_rfl) ?_
 simp only [NS, eq_self, ne_eq, forall_const, implies_true, Nat.reduceAdd, Nat.reduceLeDiff, nz, Int.reduceEq, Nat.reduceEqDiff, reduceCtorEq]; try simp only [lenL]
 exact ⟨hp, idx_nonneg⟩
end Go.Proofs.YtkdnelaoagmeaaaDoor
namespace Go.Proofs.YtkdnelaoagmeaaaDoor
open Go.Ab Go.Fn
def c_all_str : CSpec := { ats := [.str], b := .bool, cs := [.rf [.str] .bool], pre := fun c a => c.1.2 a, fn := fun c a => !c.1.1 a }
theorem fo_allc_str : FO 27 c_all_str.fspec := by
 refine fo (specs := []) (clos := []) (fun x => []) trivial trivial Tryd.func27 rfl rfl ?_
 rintro ⟨y, ⟨p, q⟩, ⟨⟩⟩ hp
 refine vcOf (1 <= 1 /\ q (y, ()) /\ (!p (y, ()), ()) = (match p (y, ()) with | true => false | false => true, ()) /\ () = ()) (by kernel_rfl) ?_
 simp only [NS, eq_self, ne_eq, forall_const, implies_true, Nat.reduceAdd, Nat.reduceLeDiff, nz, Int.reduceEq, Nat.reduceEqDiff, reduceCtorEq]; try simp only [lenL]
 exact ⟨hp, rfl⟩
def s_all_str : FSpec := { ps := [.v (.slice .str), .f [.str] .bool], rs := [.v .bool], pre := fun x => ∀ y, y ∈ x.1 -> x.2.1.2 (y, ()), fn := fun x => (x.1.all (fun y => x.2.1.1 (y, ())), ()), upd := fun _ => () }
theorem fo_all_str : FO 15 s_all_str := by
 refine fo (specs := [(26, s_ContainsFunc_str)]) (clos := [(27, c_all_str)]) (fun x => []) ⟨fo_ContainsFunc_str, trivial⟩ ⟨co fo_allc_str rfl rfl, trivial⟩ Tryd.func15 rfl rfl ?_
 rintro ⟨xs, ⟨p, q⟩, ⟨⟩⟩ hp
 refine vcOf (true = true /\ (∀ (y : List UInt8), y ∈ xs -> q (y, ())) /\ (!List.any xs fun (y : List UInt8) => (fun (a : List UInt8 × Unit) => !p a, fun (a : List UInt8 × Unit) => q a).fst (y, ()), ()) = (List.all xs fun (y : List UInt8) => p (y, ()), ()) /\ () = ()) (by kernel_rfl) ?_
 simp only [NS, eq_self, ne_eq, forall_const, implies_true, Nat.reduceAdd, Nat.reduceLeDiff, nz, Int.reduceEq, Nat.reduceEqDiff, reduceCtorEq]; try simp only [lenL]
 exact ⟨hp, all_not _ _⟩
end Go.Proofs.YtkdnelaoagmeaaaDoor
namespace Go.Proofs.YtkdnelaoagmeaaaDoor
open Go.Ab Go.Fn
def c_isLong : CSpec := { ats := [.str], b := .bool, cs := [], pre := fun _ _ => True, fn := fun _ a => Fn.short a.1 }
theorem fo_isLongc : FO 16 c_isLong.fspec := by
 refine fo (specs := []) (clos := []) (fun x => []) trivial trivial Tryd.func16 rfl rfl ?_
 rintro ⟨t, ⟨⟩⟩ -
 refine vcOf (fits (lenL t) -> (decide (iOf (lenL t) <= (65536 : Int)), ()) = (short t, ()) /\ () = ()) (by kernel_rfl) ?_
 simp only [NS, eq_self, ne_eq, forall_const, implies_true, Nat.reduceAdd, Nat.reduceLeDiff, nz, Int.reduceEq, Nat.reduceEqDiff, reduceCtorEq]; try simp only [lenL]
 exact fun _ => short_iff
def s_isLong : FSpec := { ps := [.v (.slice .str)], rs := [.v .bool], pre := fun x => True, fn := fun x => (!(x.1.all Fn.short), ()), upd := fun _ => () }
theorem fo_isLong : FO 9 s_isLong := by
 refine fo (specs := [(15, s_all_str)]) (clos := [(16, c_isLong)]) (fun x => []) ⟨fo_all_str, trivial⟩ ⟨co fo_isLongc rfl rfl, trivial⟩ Tryd.func9 rfl rfl ?_
 rintro ⟨l, ⟨⟩⟩ -
 refine vcOf (true = true /\ (∀ (y : List UInt8), y ∈ l -> True) /\ (!List.all l fun (y : List UInt8) => (fun (a : List UInt8 × Unit) => short a.fst, fun (x : List UInt8 × Unit) => True).fst (y, ()), ()) = (!List.all l short, ()) /\ () = ()) (by kernel_rfl) ?_
 simp only [NS, eq_self, ne_eq, forall_const, implies_true, Nat.reduceAdd, Nat.reduceLeDiff, nz, Int.reduceEq, Nat.reduceEqDiff, reduceCtorEq]; try simp only [lenL]
end Go.Proofs.YtkdnelaoagmeaaaDoor
namespace Go.Proofs.YtkdnelaoagmeaaaDoor
open Go.Ab Go.Fn
def s_within : FSpec := { ps := [.v I, .v I, .v I], rs := [.v .bool], pre := fun x => True, fn := fun x => (Fn.within x.1 x.2.1 x.2.2.1, ()), upd := fun _ => () }
theorem fo_within : FO 51 s_within := by
 refine fo (specs := []) (clos := []) (fun x => []) trivial trivial Tryd.func51 rfl rfl ?_
 rintro ⟨a, b, c, ⟨⟩⟩ -
 refine vcOf ((decide (b <= a) = true -> (decide (a <= c), ()) = (within a b c, ()) /\ () = ()) /\ (decide (b <= a) = false -> (false, ()) = (within a b c, ()) /\ () = ())) (by kernel_rfl) ?_
 simp only [NS, eq_self, ne_eq, forall_const, implies_true, Nat.reduceAdd, Nat.reduceLeDiff, nz, Int.reduceEq, Nat.reduceEqDiff, reduceCtorEq]; try simp only [lenL]
 (try simp only [iOf, eqI_dec, Int.ofNat_eq_natCast]); repeat' (first | apply And.intro | intro _)
 all_goals simp only [*, iOf, Fn.within, eqI_dec, nBool, ite_true, ite_false, reduceIte, Int.reduceEq, decide_true, decide_false, Bool.and_true, Bool.true_and, Bool.false_and, Bool.and_false, Bool.or_true, Bool.true_or, Bool.false_or, Bool.or_false, Bool.not_true, Bool.not_false, Bool.not_not, Int.ofNat_eq_natCast] <;> rfl
end Go.Proofs.YtkdnelaoagmeaaaDoor
namespace Go.Proofs.YtkdnelaoagmeaaaDoor
open Go.Ab Go.Fn
theorem fo_l01In : FO 40 s_within := by
 refine fo (specs := []) (clos := []) (fun x => []) trivial trivial Tryd.func40 rfl rfl ?_
 rintro ⟨a, b, c, ⟨⟩⟩ -
 refine vcOf ((decide (a ≥ b) = true -> (decide (a <= c), ()) = (within a b c, ()) /\ () = ()) /\ (decide (a ≥ b) = false -> (false, ()) = (within a b c, ()) /\ () = ())) (by kernel_rfl) ?_
 simp only [NS, eq_self, ne_eq, forall_const, implies_true, Nat.reduceAdd, Nat.reduceLeDiff, nz, Int.reduceEq, Nat.reduceEqDiff, reduceCtorEq]; try simp only [lenL]
 (try simp only [iOf, eqI_dec, Int.ofNat_eq_natCast]); repeat' (first | apply And.intro | intro _)
 all_goals simp only [*, iOf, Fn.within, ge_iff_le, eqI_dec, nBool, ite_true, ite_false, reduceIte, Int.reduceEq, decide_true, decide_false, Bool.and_true, Bool.true_and, Bool.false_and, Bool.and_false, Bool.or_true, Bool.true_or, Bool.false_or, Bool.or_false, Bool.not_true, Bool.not_false, Bool.not_not, Int.ofNat_eq_natCast] <;> rfl
end Go.Proofs.YtkdnelaoagmeaaaDoor
namespace Go.Proofs.YtkdnelaoagmeaaaDoor
open Go.Ab Go.Fn
def s_said : FSpec := { ps := [.v (.slice .any)], rs := [.v .str], pre := fun x => Fn.saidOK x.1, fn := fun x => (Fn.said x.1, ()), upd := fun _ => () }
def L_said (l : List AnyV) : LoopAnn := { ι := Nat, inv := fun k => k <= l.length, slots := fun k => [(3, .os 0), (11, .d I (Int.ofNat k))], objs := fun k => [(0, .arr .str (Fn.texts (l.take k)) false)], μ := fun k => l.length - k }
theorem ft_said : FT 35 s_said := by
 refine foT (specs := [(53, s_Itoa), (22, s_Join)]) (clos := []) (fun x => [(3, .lv [3, 9, 10, 11] <| fun _ => L_said x.1)]) ⟨ft_Itoa, toT fo_Join, trivial⟩ trivial Tryd.func35 rfl rfl ?_
 rintro ⟨l, ⟨⟩⟩ hp
 refine vcOf (fits (lenL l) -> (∃ (i : Nat), i <= List.length l /\ (0 = (0 : Nat) /\ l = l /\ iOf (lenL l) = iOf (lenL l) /\ (0 : Int) = Int.ofNat i /\ True) /\ ((([] : List (List UInt8)) = texts (List.take i l) /\ false = false) /\ True) /\ True) /\ ∀ (i : Nat), i <= List.length l -> (decide (Int.ofNat i < iOf (lenL l)) = true -> bnd (Int.ofNat i) (lenL l) /\ ∀ (x : AnyV), nthI l (Int.ofNat i) = some x -> 1 <= 1 /\ (∀ (a : Int), x = AnyV.n a -> true = true /\ inI a /\ fits (lenL (texts (List.take i l)) + lenL (itoaS a :: ([] : List (List UInt8)))) /\ ∃ (j : Nat), j <= List.length l /\ (List.length l).sub j < (List.length l).sub i /\ ((0 : Nat) = 0 /\ l = l /\ iOf (lenL l) = iOf (lenL l) /\ wAdd .i64 (Int.ofNat i) (1 : Int) = Int.ofNat j /\ True) /\ ((texts (List.take i l) ++ itoaS a :: ([] : List (List UInt8)) = texts (List.take j l) /\ false = false) /\ True) /\ True) /\ ((∀ (a : Int), x ≠ AnyV.n a) -> (∀ (a : List UInt8), x = AnyV.s a -> fits (lenL (texts (List.take i l)) + lenL (a :: ([] : List (List UInt8)))) /\ ∃ (j : Nat), j <= List.length l /\ (List.length l).sub j < (List.length l).sub i /\ ((0 : Nat) = 0 /\ l = l /\ iOf (lenL l) = iOf (lenL l) /\ wAdd .i64 (Int.ofNat i) (1 : Int) = Int.ofNat j /\ True) /\ ((texts (List.take i l) ++ a :: ([] : List (List UInt8)) = texts (List.take j l) /\ false = false) /\ True) /\ True) /\ ((∀ (a : List UInt8), x ≠ AnyV.s a) -> ∃ (j : Nat), j <= List.length l /\ (List.length l).sub j < (List.length l).sub i /\ ((0 : Nat) = 0 /\ l = l /\ iOf (lenL l) = iOf (lenL l) /\ wAdd .i64 (Int.ofNat i) (1 : Int) = Int.ofNat j /\ True) /\ ((texts (List.take i l) = texts (List.take j l) /\ false = false) /\ True) /\ True))) /\ (decide (Int.ofNat i < iOf (lenL l)) = false -> true = true /\ ((joinS (texts (List.take i l)) (([32] : List UInt8))).length <= (100000000 : Nat) /\ (texts (List.take i l)).length <= (100000000 : Nat)) /\ (joinS (texts (List.take i l)) (([32] : List UInt8)), ()) = (said l, ()) /\ () = ())) (by kernel_rfl) ?_
 simp only [NS, eq_self, ne_eq, forall_const, implies_true, Nat.reduceAdd, Nat.reduceLeDiff, nz, Int.reduceEq, Nat.reduceEqDiff, reduceCtorEq]; try simp only [lenL]
 obtain ⟨hp1, hp2, hp3⟩ := hp
 have hp3 : List.length l <= 100000000 := hp3
 refine fun hf => ⟨⟨0, Nat.zero_le _, rfl, (texts_zero l).symm⟩, fun i hi => ⟨fun h => ⟨h, fun x hx => ⟨?_, fun hn => ⟨?_, fun hs => ⟨i + 1, h, Nat.sub_lt_sub_left h (Nat.lt_succ_self i), inc_in hf hi, texts_b hx hn hs⟩⟩⟩⟩, fun h => ?_⟩⟩
 · rintro a rfl
   have := texts_len l i
   have hf' : List.length l < 1099511627776 := hf
   refine ⟨hp1 a (List.mem_of_getElem? hx), by show (texts (l.take i)).length + 1 < 1099511627776; omega, i + 1, h, Nat.sub_lt_sub_left h (Nat.lt_succ_self i), inc_in hf hi, texts_n hx⟩
 · rintro a rfl
   have := texts_len l i
   refine ⟨by show (texts (l.take i)).length + 1 < 1099511627776; omega, i + 1, h, Nat.sub_lt_sub_left h (Nat.lt_succ_self i), inc_in hf hi, texts_s hx⟩
 · rw [texts_end h]
   have := texts_len l l.length
   rw [List.take_length] at this
   exact ⟨⟨hp2, by omega⟩, rfl⟩
end Go.Proofs.YtkdnelaoagmeaaaDoor
namespace Go.Fn
open Go.Ab
def bOf (c : Int) : UInt8 := c.toNat.toUInt8
def countB (t : List UInt8) (c : Int) : Int := (t.count (bOf c) : Int)
def indexB (t : List UInt8) (c : Int) : Int := Go.Lib.indexByte t (bOf c)
theorem count_run {P : Program} {f : FuncId} {fn : Func} (hf : P.funcs[f]? = some fn) (h1 : (fn.name == "runtime.NumGoroutine") = false) (h2 : fn.body.isNone = true) (h3 : Extern.findNext fn = none) (h4 : Extern.find fn = some Extern.BytealgCount.count) (t : List UInt8) (c : Int) (w : World) :
   (callFunc f #[.string ⟨t.toArray⟩, .int .u8 c]).run P w = .ok (.value (.int .i64 (countB t c))) w := by
 rw [run_callFunc_extern hf h1 h2 h3 h4, Go.Lib.run_countString]
 rfl
theorem index_run {P : Program} {f : FuncId} {fn : Func} (hf : P.funcs[f]? = some fn) (h1 : (fn.name == "runtime.NumGoroutine") = false) (h2 : fn.body.isNone = true) (h3 : Extern.findNext fn = none) (h4 : Extern.find fn = some Extern.BytealgIndexByte.indexByte) (t : List UInt8) (c : Int) (w : World) :
   (callFunc f #[.string ⟨t.toArray⟩, .int .u8 c]).run P w = .ok (.value (.int .i64 (indexB t c))) w := by
 rw [run_callFunc_extern hf h1 h2 h3 h4, Go.Lib.run_indexByteString]
 rfl
def indexS (t u : List UInt8) : Int := match u with | [c] => Go.Lib.indexByte t c | _ => 0
def countS (t u : List UInt8) : Int := match u with | [c] => (t.count c : Int) | _ => 0
theorem bOf_nat (c : UInt8) : bOf (Int.ofNat c.toNat) = c := by unfold bOf; simp
theorem bnd_one (c : UInt8) : bnd 0 [c].length := ⟨Int.le_refl _, Int.zero_lt_one⟩
end Go.Fn
namespace Go.Fn
open Go.Ab
def split (c : UInt8) : List UInt8 -> List (List UInt8)
 | [] => [[]]
 | x :: r => if x = c then [] :: split c r else match split c r with
   | [] => [[x]]
   | y :: ys => (x :: y) :: ys
theorem split_len (c : UInt8) : ∀ t : List UInt8, (split c t).length = t.count c + 1
 | [] => rfl
 | x :: r => by
   have ih := split_len c r
   unfold split
   split
   · rename_i h; subst h; simp [ih]
   · rename_i h
     rw [List.count_cons_of_ne (by simpa using h)]
     split
     · rename_i e; rw [e] at ih; simp at ih
     · rename_i e; rw [e] at ih; simpa using ih
theorem index_none (c : UInt8) : ∀ t : List UInt8, Go.Lib.indexByte t c < 0 -> split c t = [t]
 | [], _ => rfl
 | x :: r, h => by
   unfold Go.Lib.indexByte at h
   by_cases hx : x = c
   · subst hx; simp at h
   · have hb : (x == c) = false := by simpa using hx
     rw [hb] at h
     have hg := Go.Lib.indexByte_ge r c
     have hr : Go.Lib.indexByte r c < 0 := by
       by_cases he : Go.Lib.indexByte r c = -1
       · omega
       · simp [he] at h; omega
     unfold split
     rw [if_neg hx, index_none c r hr]
theorem index_some (c : UInt8) : ∀ t : List UInt8, ¬ Go.Lib.indexByte t c < 0 -> ∃ k, Go.Lib.indexByte t c = Int.ofNat k /\ k < t.length /\ split c t = t.take k :: split c (t.drop (k + 1))
 | [], h => by simp [Go.Lib.indexByte] at h
 | x :: r, h => by
   by_cases hx : x = c
   · subst hx
     exact ⟨0, by simp [Go.Lib.indexByte], by simp, by simp [split]⟩
   · have hb : (x == c) = false := by simpa using hx
     have hr : ¬ Go.Lib.indexByte r c < 0 := by
       intro hr
       apply h
       unfold Go.Lib.indexByte
       have hg := Go.Lib.indexByte_ge r c
       have : Go.Lib.indexByte r c = -1 := by omega
       simp [hb, this]
     obtain ⟨k, h1, h2, h3⟩ := index_some c r hr
     refine ⟨k + 1, ?_, by simpa using h2, ?_⟩
     · unfold Go.Lib.indexByte
       rw [h1]
       simp [hb]
     · have e : split c (x :: r) = if x = c then [] :: split c r else match split c r with
         | [] => [[x]]
         | y :: ys => (x :: y) :: ys := rfl
       rw [e, if_neg hx, h3]
       rfl
def splitS (t u : List UInt8) : List (List UInt8) := match u with | [c] => split c t | _ => []
theorem split_pos (c : UInt8) (t : List UInt8) : 0 < (split c t).length := by rw [split_len]; omega
theorem split_le (c : UInt8) (t : List UInt8) : (split c t).length <= t.length + 1 := by rw [split_len]; have := List.count_le_length (a := c) (l := t); omega
def fillL (l : List (List UInt8)) (n : Nat) : List (List UInt8) := l ++ List.replicate (n - l.length) []
theorem fillL_len {l : List (List UInt8)} {n : Nat} (h : l.length <= n) : (fillL l n).length = n := by unfold fillL; simp; omega
theorem fillL_set {l : List (List UInt8)} {n : Nat} (h : l.length < n) (x : List UInt8) : (fillL l n).set l.length x = fillL (l ++ [x]) n := by
 unfold fillL
 rw [List.set_append_right _ _ (Nat.le_refl _), Nat.sub_self]
 have : n - l.length = (n - (l ++ [x]).length) + 1 := by simp; omega
 rw [this, List.replicate_succ]
 simp
theorem fillL_last {l : List (List UInt8)} {n : Nat} (h : l.length + 1 = n) (x : List UInt8) : subL ((fillL l n).set l.length x) 0 (l.length + 1) = l ++ [x] := by
 rw [fillL_set (by omega)]
 unfold fillL subL
 have : n - (l ++ [x]).length = 0 := by simp; omega
 rw [this, List.replicate_zero, List.append_nil, List.drop_zero]
 exact List.take_of_length_le (by simp)
theorem parts_n {c : UInt8} {t : List UInt8} (h : t.length <= 100000000) : mm false (wAdd .i64 (countS t [c]) 1) (wAdd .i64 (iOf t.length) 1) = Int.ofNat (split c t).length := by
 have h1 := split_len c t
 have h2 := List.count_le_length (a := c) (l := t)
 have e1 : wAdd .i64 (countS t [c]) 1 = Int.ofNat (split c t).length := by
   unfold countS
   simp only
   rw [wAdd_in (by omega), h1]
   rfl
 have e2 : wAdd .i64 (iOf t.length) 1 = Int.ofNat (t.length + 1) := by
   unfold iOf
   rw [wAdd_in (by omega)]
   rfl
 rw [e1, e2]
 unfold mm
 simp only [Bool.false_eq_true, if_false, Int.ofNat_eq_natCast]
 split <;> omega
end Go.Fn
namespace Go.Fn
open Go.Ab
theorem byte_iff {a b : UInt8} : (Int.ofNat a.toNat = Int.ofNat b.toNat) = (a = b) := by
 refine propext ⟨fun h => UInt8.toNat_inj.1 (Int.ofNat.inj h), fun h => by rw [h]⟩
def joinHead (a : List UInt8) (l : List (List UInt8)) : List (List UInt8) := match l with | [] => [a] | y :: ys => (a ++ y) :: ys
theorem split_cons (c x : UInt8) (r : List UInt8) : split c (x :: r) = if x = c then [] :: split c r else joinHead [x] (split c r) := by
 show (if x = c then [] :: split c r else match split c r with | [] => [[x]] | y :: ys => (x :: y) :: ys) = _
 split
 · rfl
 · unfold joinHead; cases split c r <;> rfl
theorem joinHead_nil {c : UInt8} {t : List UInt8} : joinHead [] (split c t) = split c t := by
 have := split_pos c t
 unfold joinHead
 cases h : split c t with
 | nil => rw [h] at this; cases this
 | cons y ys => rfl
theorem joinHead_app (a b : List UInt8) (l : List (List UInt8)) : joinHead a (joinHead b l) = joinHead (a ++ b) l := by
 unfold joinHead; cases l <;> simp
def CutAt (c : UInt8) (t : List UInt8) (out : List (List UInt8)) (k i : Nat) : Prop := k <= i /\ i <= t.length /\ out ++ joinHead (subL t k i) (split c (t.drop i)) = split c t /\ out.length <= i
theorem cut_start (c : UInt8) (t : List UInt8) : CutAt c t [] 0 0 := ⟨Nat.le_refl _, Nat.zero_le _, by simp [subL, joinHead_nil], Nat.le_refl _⟩
theorem subL_snoc {t : List UInt8} {k i : Nat} {x : UInt8} (hk : k <= i) (h : t[i]? = some x) : subL t k (i + 1) = subL t k i ++ [x] := by
 have hi : i < t.length := get_lt h
 unfold subL
 rw [List.take_add_one, h, List.drop_append_of_le_length (by rw [List.length_take]; omega)]
 rfl
theorem cut_skip {c : UInt8} {t : List UInt8} {out : List (List UInt8)} {k i : Nat} {x : UInt8} (h : CutAt c t out k i) (hx : t[i]? = some x) (hn : ¬ x = c) : CutAt c t out k (i + 1) := by
 obtain ⟨h1, h2, h3, h4⟩ := h
 refine ⟨by omega, get_lt hx, ?_, by omega⟩
 rw [<- h3, drop_at hx, split_cons, if_neg hn, joinHead_app, subL_snoc h1 hx]
theorem cut_take {c : UInt8} {t : List UInt8} {out : List (List UInt8)} {k i : Nat} {x : UInt8} (h : CutAt c t out k i) (hx : t[i]? = some x) (he : x = c) : CutAt c t (out ++ [subL t k i]) (i + 1) (i + 1) := by
 obtain ⟨h1, h2, h3, h4⟩ := h
 refine ⟨Nat.le_refl _, get_lt hx, ?_, by simp; omega⟩
 rw [<- h3, drop_at hx, split_cons, if_pos he]
 have : subL t (i + 1) (i + 1) = [] := by unfold subL; rw [List.drop_eq_nil_of_le]; rw [List.length_take]; omega
 rw [this, joinHead_nil]
 simp [joinHead]
theorem cut_end {c : UInt8} {t : List UInt8} {out : List (List UInt8)} {k i : Nat} (h : CutAt c t out k i) (he : ¬ i < t.length) : out ++ [subL t k t.length] = split c t := by
 obtain ⟨h1, h2, h3, h4⟩ := h
 have : i = t.length := by omega
 subst this
 rw [<- h3, List.drop_length]
 simp [split, joinHead]
end Go.Fn
namespace Go.Fn
open Go.Ab
def partB (x : UInt8) : Bool := within (Int.ofNat x.toNat) 33 126 && !(decide (x.toNat = 47))
def partOK (t : List UInt8) : Bool := within (t.length : Int) 1 8 && (!(t == [46]) && !(t == [46, 46])) && t.all partB
theorem partOK_out {t : List UInt8} (h : within (iOf t.length) 1 8 = false) : false = partOK t := by
 unfold partOK; rw [show within (t.length : Int) 1 8 = false from h]; rfl
theorem partOK_dot {t : List UInt8} (h : t = [46]) : false = partOK t := by subst h; rfl
theorem partOK_dots {t : List UInt8} (h : t = [46, 46]) : false = partOK t := by subst h; rfl
theorem partOK_bad {t : List UInt8} {i : Nat} {c : UInt8} (hc : t[i]? = some c) (h : partB c = false) : false = partOK t := by
 have : t.all partB = false := by
   rw [List.all_eq_false]
   exact ⟨c, List.mem_of_getElem? hc, by rw [h]; simp⟩
 unfold partOK; rw [this, Bool.and_false]
theorem partOK_end {t : List UInt8} {i : Nat} (hw : within (iOf t.length) 1 8 = true) (h1 : ¬ t = [46]) (h2 : ¬ t = [46, 46]) (hi : ∀ (j : Nat) (x : UInt8), j < i -> t[j]? = some x -> partB x = true) (h : ¬ i < t.length) : true = partOK t := by
 have ha : t.all partB = true := by
   rw [List.all_eq_true]
   intro x hx
   obtain ⟨j, hj, rfl⟩ := List.getElem_of_mem hx
   exact hi j _ (by omega) (List.getElem?_eq_getElem hj)
 have e1 : (t == [46]) = false := by simpa using h1
 have e2 : (t == [46, 46]) = false := by simpa using h2
 unfold partOK; rw [ha, e1, e2, show within (t.length : Int) 1 8 = true from hw]; rfl
theorem partB_low {c : UInt8} (h : Int.ofNat c.toNat < 33) : partB c = false := by
 unfold partB within; rw [decide_eq_false (p := 33 <= Int.ofNat c.toNat) (by omega)]; rfl
theorem partB_high {c : UInt8} (h : Int.ofNat c.toNat > 126) : partB c = false := by
 unfold partB within; rw [decide_eq_false (p := Int.ofNat c.toNat <= 126) (by omega)]; simp
theorem partB_slash {c : UInt8} (h : Int.ofNat c.toNat = 47) : partB c = false := by
 unfold partB; rw [decide_eq_true (p := c.toNat = 47) (by simp only [Int.ofNat_eq_natCast] at h; omega)]; simp
theorem partB_ok {c : UInt8} (h1 : ¬ Int.ofNat c.toNat < 33) (h2 : ¬ Int.ofNat c.toNat > 126) (h3 : ¬ Int.ofNat c.toNat = 47) : partB c = true := by
 unfold partB within
 rw [decide_eq_true (p := 33 <= Int.ofNat c.toNat) (by omega), decide_eq_true (p := Int.ofNat c.toNat <= 126) (by omega), decide_eq_false (p := c.toNat = 47) (by simp only [Int.ofNat_eq_natCast] at h3; omega)]
 rfl
theorem parts_step {t : List UInt8} {i : Nat} {c : UInt8} (hi : ∀ (j : Nat) (x : UInt8), j < i -> t[j]? = some x -> partB x = true) (hc : t[i]? = some c) (h : partB c = true) : ∀ (j : Nat) (x : UInt8), j < i + 1 -> t[j]? = some x -> partB x = true := by
 intro j x hj hx
 rcases Nat.lt_or_ge j i with hlt | hge
 · exact hi j x hlt hx
 · have : j = i := by omega
   subst this
   rw [hc] at hx; cases hx; exact h
def pathOK (t : List UInt8) : Bool := decide (t.length <= 36) && decide ((split 47 t).length <= 4) && (split 47 t).all partOK
theorem partB_i64 {c : UInt8} (h : within (IntKind.i64.wrap (Int.ofNat c.toNat)) 33 126 = false) : partB c = false := by
 rw [i64_byte] at h
 unfold partB; rw [show within (Int.ofNat c.toNat) 33 126 = false from h]; rfl
theorem partB_i64' {c : UInt8} (h : within (IntKind.i64.wrap (Int.ofNat c.toNat)) 33 126 = true) (h2 : ¬ Int.ofNat c.toNat = 47) : partB c = true := by
 rw [i64_byte] at h
 unfold partB; rw [show within (Int.ofNat c.toNat) 33 126 = true from h, decide_eq_false (p := c.toNat = 47) (by simp only [Int.ofNat_eq_natCast] at h2; omega)]; rfl
theorem partOK_fin {t : List UInt8} {i : Nat} (hw : within (iOf t.length) 1 8 = true) (h1 : ¬ t = [46]) (hi : ∀ (j : Nat) (x : UInt8), j < i -> t[j]? = some x -> partB x = true) (h : ¬ i < t.length) : (!(t == [46, 46])) = partOK t := by
 by_cases h2 : t = [46, 46]
 · rw [<- partOK_dots h2]; subst h2; rfl
 · rw [<- partOK_end hw h1 h2 hi h]; simpa using h2
theorem pathOK_long {t : List UInt8} (h : iOf t.length > 36) : false = pathOK t := by
 have h : (t.length : Int) > 36 := h
 unfold pathOK; rw [decide_eq_false (p := t.length <= 36) (by omega)]; rfl
theorem pathOK_many {t : List UInt8} (h : iOf (split 47 t).length > 4) : false = pathOK t := by
 have h : ((split 47 t).length : Int) > 4 := h
 unfold pathOK; rw [decide_eq_false (p := (split 47 t).length <= 4) (by omega)]; simp
theorem pathOK_bad {t x : List UInt8} {i : Nat} (hx : (split 47 t)[i]? = some x) (h : partOK x = false) : false = pathOK t := by
 have : (split 47 t).all partOK = false := by
   rw [List.all_eq_false]
   exact ⟨x, List.mem_of_getElem? hx, by rw [h]; simp⟩
 unfold pathOK; rw [this, Bool.and_false]
theorem pathOK_end {t : List UInt8} {i : Nat} (h1 : ¬ iOf t.length > 36) (h2 : ¬ iOf (split 47 t).length > 4) (hi : ∀ (j : Nat) (x : List UInt8), j < i -> (split 47 t)[j]? = some x -> partOK x = true) (h : ¬ i < (split 47 t).length) : true = pathOK t := by
 have h1 : ¬ (t.length : Int) > 36 := h1
 have h2 : ¬ ((split 47 t).length : Int) > 4 := h2
 have ha : (split 47 t).all partOK = true := by
   rw [List.all_eq_true]
   intro x hx
   obtain ⟨j, hj, rfl⟩ := List.getElem_of_mem hx
   exact hi j _ (by omega) (List.getElem?_eq_getElem hj)
 unfold pathOK; rw [ha, decide_eq_true (p := t.length <= 36) (by omega), decide_eq_true (p := (split 47 t).length <= 4) (by omega)]; rfl
theorem path_step {l : List (List UInt8)} {i : Nat} {c : List UInt8} (hi : ∀ (j : Nat) (x : List UInt8), j < i -> l[j]? = some x -> partOK x = true) (hc : l[i]? = some c) (h : partOK c = true) : ∀ (j : Nat) (x : List UInt8), j < i + 1 -> l[j]? = some x -> partOK x = true := by
 intro j x hj hx
 rcases Nat.lt_or_ge j i with hlt | hge
 · exact hi j x hlt hx
 · have : j = i := by omega
   subst this
   rw [hc] at hx; cases hx; exact h
def total : List (List UInt8) -> Nat
 | [] => 0
 | x :: r => x.length + 1 + total r
theorem split_total (c : UInt8) : ∀ t : List UInt8, total (split c t) = t.length + 1
 | [] => rfl
 | x :: r => by
   have ih := split_total c r
   rw [split_cons]
   split
   · simp [total, ih]; omega
   · have := split_pos c r
     unfold joinHead
     cases h : split c r with
     | nil => rw [h] at this; cases this
     | cons y ys => rw [h] at ih; simp [total] at ih ⊢; omega
theorem total_le : ∀ {l : List (List UInt8)}, l.all partOK = true -> total l <= 9 * l.length
 | [], _ => Nat.le_refl _
 | x :: r, h => by
   simp only [List.all_cons, Bool.and_eq_true] at h
   have ih := total_le h.2
   have hx : x.length <= 8 := by
     have := h.1
     unfold partOK within at this
     simp only [Bool.and_eq_true, decide_eq_true_eq] at this
     omega
   simp only [total, List.length_cons]
   omega
theorem pathOK_36 {t : List UInt8} (h : ¬ iOf t.length < 36) : false = pathOK t := by
 have h : ¬ (t.length : Int) < 36 := h
 cases hp : pathOK t with
 | false => rfl
 | true =>
   unfold pathOK at hp
   simp only [Bool.and_eq_true, decide_eq_true_eq] at hp
   have h1 := total_le hp.2
   have h2 := split_total 47 t
   omega
theorem pathOK_few {t : List UInt8} (h : iOf t.length < 36) (h2 : iOf (split 47 t).length <= 4) : ((split 47 t).all fun y => partOK y) = pathOK t := by
 have h : (t.length : Int) < 36 := h
 have h2 : ((split 47 t).length : Int) <= 4 := h2
 unfold pathOK; rw [decide_eq_true (p := t.length <= 36) (by omega), decide_eq_true (p := (split 47 t).length <= 4) (by omega)]; rfl
end Go.Fn
namespace Go.Fn
open Go.Ab
def bad8 (k : Int) (b : List UInt8) : Bool := decide ((b.length : Int) > 20) || (decide (k = 2) && decide (b = []))
def bad3 (k : Int) (b : List UInt8) (o : Bool) : Bool := (!(decide (b = [])) && (decide (k = 3) || decide (k = 4))) || (o && !(decide (k = 3)))
def bad4 (k m : Int) : Bool := !(within m 0 511) || (!(decide (m = 0)) && (decide (k = 4) || decide (k = 2)))
def bare (k : Int) : Bool := decide (k = 3) || decide (k = 4)
def recFault (r : Rec) : Int := if within r.1 1 4 = false then 9 else if pathOK r.2.1 = false then 10
 else if bad8 r.1 r.2.2.1 = true then 8 else if bad3 r.1 r.2.2.1 r.2.2.2.2.1 = true then 3 else if bad4 r.1 r.2.2.2.1 = true then 4 else 0
theorem bad8_long {k : Int} {b : List UInt8} (h : iOf b.length > 20) : true = bad8 k b := by
 unfold bad8; rw [decide_eq_true (p := (b.length : Int) > 20) h]; rfl
theorem bad8_link {k : Int} {b : List UInt8} (h : ¬ iOf b.length > 20) (hk : k = 2) : (b == []) = bad8 k b := by
 unfold bad8; rw [decide_eq_false (p := (b.length : Int) > 20) h, decide_eq_true hk]; cases b <;> rfl
theorem bad8_no {k : Int} {b : List UInt8} (h : ¬ iOf b.length > 20) (hk : ¬ k = 2) : false = bad8 k b := by
 unfold bad8; rw [decide_eq_false (p := (b.length : Int) > 20) h, decide_eq_false hk]; rfl
theorem first_rec {k : Int} {p b : List UInt8} {m : Int} {o : Bool} : first [.b (!within k 1 4), .n 9, .b (!pathOK p), .n 10, .b (bad8 k b), .n 8, .b (bad3 k b o), .n 3, .b (bad4 k m), .n 4] = recFault (k, p, b, m, o, ()) := by
 unfold recFault
 cases within k 1 4 <;> cases pathOK p <;> cases bad8 k b <;> cases bad3 k b o <;> cases bad4 k m <;> rfl
end Go.Fn
namespace Go.Proofs.YtkdnelaoagmeaaaDoor
open Go.Ab Go.Fn
def n_CountString : Inl := natT [.str, .int .u8] I (fun _ => True) (fun x => Fn.countB x.1 x.2.1)
theorem in_CountString : InO 72 n_CountString := fun s c i => natOK rfl (by
 rintro ⟨t, c, ⟨⟩⟩ vs w ⟨_, _, rfl, ⟨rfl, h⟩, _, _, rfl, rfl, rfl⟩ -
 refine ⟨_, w, ?_, rfl, Keep.refl _ _⟩
 exact Fn.count_run Tryd.func72 (by kernel_rfl) (by kernel_rfl) (by kernel_rfl) (by kernel_rfl) t c w)
end Go.Proofs.YtkdnelaoagmeaaaDoor
namespace Go.Proofs.YtkdnelaoagmeaaaDoor
open Go.Ab Go.Fn
def n_IndexByteString : Inl := natT [.str, .int .u8] I (fun _ => True) (fun x => Fn.indexB x.1 x.2.1)
theorem in_IndexByteString : InO 61 n_IndexByteString := fun s c i => natOK rfl (by
 rintro ⟨t, c, ⟨⟩⟩ vs w ⟨_, _, rfl, ⟨rfl, h⟩, _, _, rfl, rfl, rfl⟩ -
 refine ⟨_, w, ?_, rfl, Keep.refl _ _⟩
 exact Fn.index_run Tryd.func61 (by kernel_rfl) (by kernel_rfl) (by kernel_rfl) (by kernel_rfl) t c w)
end Go.Proofs.YtkdnelaoagmeaaaDoor
namespace Go.Proofs.YtkdnelaoagmeaaaDoor
open Go.Ab Go.Fn
def s_IndexByte : FSpec := { ps := [.v .str, .v (.int .u8)], rs := [.v I], pre := fun _ => True, fn := fun x => (Fn.indexB x.1 x.2.1, ()), upd := fun _ => () }
theorem fo_IndexByte : FO 44 s_IndexByte := by
 refine foI (specs := []) (clos := []) (inl := [(61, n_IndexByteString)]) (fun x => []) trivial trivial ⟨in_IndexByteString, trivial⟩ Tryd.func44 rfl rfl ?_
 rintro ⟨t, c, ⟨⟩⟩ -
 refine vcOf (True /\ (indexB t c, ()) = (indexB t c, ()) /\ () = ()) (by kernel_rfl) ?_
 simp only [NS, eq_self, ne_eq, forall_const, implies_true, Nat.reduceAdd, Nat.reduceLeDiff, nz, Int.reduceEq, Nat.reduceEqDiff, reduceCtorEq]; try simp only [lenL]
end Go.Proofs.YtkdnelaoagmeaaaDoor
namespace Go.Proofs.YtkdnelaoagmeaaaDoor
open Go.Ab Go.Fn
def s_Index1 : FSpec := { ps := [.v .str, .v .str], rs := [.v I], pre := fun x => ∃ c : UInt8, x.2.1 = [c], fn := fun x => (Fn.indexS x.1 x.2.1, ()), upd := fun _ => () }
theorem fo_sIndex : FO 73 s_Index1 := by
 refine fo (specs := [(44, s_IndexByte)]) (clos := []) (fun x => []) ⟨fo_IndexByte, trivial⟩ trivial Tryd.func73 rfl rfl ?_
 rintro ⟨t, u, ⟨⟩⟩ ⟨c, rfl⟩
 refine vcOf (fits (lenL (c :: ([] : List UInt8))) -> ((iOf (lenL (c :: ([] : List UInt8))) == (0 : Int)) = false -> ((c :: ([] : List UInt8) == t) = true -> ((0 : Int), ()) = (indexS t (c :: ([] : List UInt8)), ()) /\ () = ()) /\ ((c :: ([] : List UInt8) == t) = false -> ((iOf (lenL (c :: ([] : List UInt8))) == (1 : Int)) = true -> bnd (0 : Int) (lenL (c :: ([] : List UInt8))) /\ ∀ (c_1 : UInt8), nthI (c :: ([] : List UInt8)) (0 : Int) = some c_1 -> true = true /\ True /\ (indexB t (Int.ofNat c_1.toNat), ()) = (indexS t (c :: ([] : List UInt8)), ()) /\ () = ()) /\ ((iOf (lenL (c :: ([] : List UInt8))) == (1 : Int)) = false -> fits (lenL t) -> (decide (iOf (lenL (c :: ([] : List UInt8))) ≥ iOf (lenL t)) = true -> ((-1 : Int), ()) = (indexS t (c :: ([] : List UInt8)), ()) /\ () = ()) /\ (decide (iOf (lenL (c :: ([] : List UInt8))) ≥ iOf (lenL t)) = false -> False)))) /\ ((iOf (lenL (c :: ([] : List UInt8))) == (0 : Int)) = true -> ((0 : Int), ()) = (indexS t (c :: ([] : List UInt8)), ()) /\ () = ())) (by kernel_rfl) ?_
 simp only [NS, eq_self, ne_eq, forall_const, implies_true, Nat.reduceAdd, Nat.reduceLeDiff, nz, Int.reduceEq, Nat.reduceEqDiff, reduceCtorEq]; try simp only [lenL]
 have h1 : iOf [c].length = 1 := rfl
 refine fun _ => ⟨fun _ => ⟨fun e => ?_, fun _ => ⟨fun _ => ⟨bnd_one c, fun x hx => ?_⟩, fun h => absurd h1 h⟩⟩, fun h => absurd (h1.symm.trans h) (by decide)⟩
 · subst e; simp [indexS, Go.Lib.indexByte]
 · cases hx
   unfold indexB indexS
   rw [bOf_nat]
end Go.Proofs.YtkdnelaoagmeaaaDoor
namespace Go.Proofs.YtkdnelaoagmeaaaDoor
open Go.Ab Go.Fn
theorem fo_Index : FO 60 s_Index1 := by
 refine fo (specs := [(73, s_Index1)]) (clos := []) (fun x => []) ⟨fo_sIndex, trivial⟩ trivial Tryd.func60 rfl rfl ?_
 rintro ⟨t, u, ⟨⟩⟩ hp
 refine vcOf (true = true /\ (∃ (c : UInt8), u = c :: ([] : List UInt8)) /\ (indexS t u, ()) = (indexS t u, ()) /\ () = ()) (by kernel_rfl) ?_
 simp only [NS, eq_self, ne_eq, forall_const, implies_true, Nat.reduceAdd, Nat.reduceLeDiff, nz, Int.reduceEq, Nat.reduceEqDiff, reduceCtorEq]; try simp only [lenL]
 exact hp
end Go.Proofs.YtkdnelaoagmeaaaDoor
namespace Go.Proofs.YtkdnelaoagmeaaaDoor
open Go.Ab Go.Fn
def s_Count1 : FSpec := { ps := [.v .str, .v .str], rs := [.v I], pre := fun x => ∃ c : UInt8, x.2.1 = [c], fn := fun x => (Fn.countS x.1 x.2.1, ()), upd := fun _ => () }
theorem fo_Count : FO 59 s_Count1 := by
 refine foI (specs := []) (clos := []) (inl := [(72, n_CountString)]) (fun x => []) trivial trivial ⟨in_CountString, trivial⟩ Tryd.func59 rfl rfl ?_
 rintro ⟨t, u, ⟨⟩⟩ ⟨c, rfl⟩
 refine vcOf (fits (lenL (c :: ([] : List UInt8))) -> ((iOf (lenL (c :: ([] : List UInt8))) == (0 : Int)) = true -> False) /\ ((iOf (lenL (c :: ([] : List UInt8))) == (0 : Int)) = false -> fits (lenL (c :: ([] : List UInt8))) -> ((iOf (lenL (c :: ([] : List UInt8))) == (1 : Int)) = true -> bnd (0 : Int) (lenL (c :: ([] : List UInt8))) /\ ∀ (c_1 : UInt8), nthI (c :: ([] : List UInt8)) (0 : Int) = some c_1 -> True /\ (countB t (Int.ofNat c_1.toNat), ()) = (countS t (c :: ([] : List UInt8)), ()) /\ () = ()) /\ ((iOf (lenL (c :: ([] : List UInt8))) == (1 : Int)) = false -> False))) (by kernel_rfl) ?_
 simp only [NS, eq_self, ne_eq, forall_const, implies_true, Nat.reduceAdd, Nat.reduceLeDiff, nz, Int.reduceEq, Nat.reduceEqDiff, reduceCtorEq]; try simp only [lenL]
 have h1 : iOf [c].length = 1 := rfl
 refine fun _ => ⟨fun h => absurd (h1.symm.trans h) (by decide), fun _ _ => ⟨fun _ => ⟨bnd_one c, fun x hx => ?_⟩, fun h => h h1⟩⟩
 cases hx
 unfold countB countS
 rw [bOf_nat]
end Go.Proofs.YtkdnelaoagmeaaaDoor
namespace Go.Proofs.YtkdnelaoagmeaaaDoor
open Go.Ab Go.Fn
def s_genSplit : FSpec := { ps := [.v .str, .v .str, .v I, .v I], rs := [.o (.slice .str)], pre := fun x => (∃ c : UInt8, x.2.1 = [c]) /\ x.2.2.1 = (0 : Int) /\ x.2.2.2.1 = (-1 : Int) /\ List.length (α := UInt8) x.1 <= 100000000, fn := fun x => (Fn.splitS x.1 x.2.1, ()), upd := fun _ => () }
def L_genSplit (t : List UInt8) (c : UInt8) : LoopAnn := { ι := List (List UInt8) × List UInt8, inv := fun q => q.1 ++ split c q.2 = split c t /\ q.2.length <= t.length, slots := fun q => [(10, .d I (Int.ofNat q.1.length)), (0, .d .str q.2)], objs := fun q => [(1, .arr .str (fillL q.1 (split c t).length) false)], μ := fun q => q.2.length }
theorem fo_genSplit : FO 43 s_genSplit := by
 refine fo (specs := [(60, s_Index1), (59, s_Count1)]) (clos := []) (fun x => [(11, .lv [0, 1, 2, 3, 9, 10] <| fun _ => L_genSplit x.1 (x.2.1.headD 0))]) ⟨fo_Index, fo_Count, trivial⟩ trivial Tryd.func43 rfl rfl ?_
 rintro ⟨t, u, sv, n, ⟨⟩⟩ ⟨⟨c, hu⟩, hs, hn, hl⟩
 have hu : u = [c] := hu
 have hs : sv = (0 : Int) := hs
 have hn : n = (-1 : Int) := hn
 subst hu hs hn
 have hl : List.length t <= 100000000 := hl
 refine vcOf ((((-1 : Int) == (0 : Int)) = true -> (([] : List (List UInt8)), ()) = (splitS t (c :: ([] : List UInt8)), ()) /\ () = ()) /\ (((-1 : Int) == (0 : Int)) = false -> (false = true -> False) /\ (false = false -> (decide ((-1 : Int) < (0 : Int)) = true -> true = true /\ (∃ (c_1 : UInt8), c :: ([] : List UInt8) = c_1 :: ([] : List UInt8)) /\ (fits (lenL t) -> IntKind.i64 = IntKind.i64 /\ mkOK (mm false (wAdd .i64 (countS t (c :: ([] : List UInt8))) (1 : Int)) (wAdd .i64 (iOf (lenL t)) (1 : Int))) (mm false (wAdd .i64 (countS t (c :: ([] : List UInt8))) (1 : Int)) (wAdd .i64 (iOf (lenL t)) (1 : Int))) /\ (∃ (i : List (List UInt8) × List UInt8), (i.fst ++ split c i.snd = split c t /\ i.snd.length <= List.length t) /\ (t = i.snd /\ c :: ([] : List UInt8) = c :: ([] : List UInt8) /\ (0 : Int) = 0 /\ wSub .i64 (mm false (wAdd .i64 (countS t (c :: ([] : List UInt8))) (1 : Int)) (wAdd .i64 (iOf (lenL t)) (1 : Int))) (1 : Int) = wSub .i64 (mm false (wAdd .i64 (countS t (c :: ([] : List UInt8))) (1 : Int)) (wAdd .i64 (iOf (lenL t)) (1 : Int))) (1 : Int) /\ 1 = 1 /\ (0 : Int) = Int.ofNat i.fst.length /\ True) /\ ((([] : List (List UInt8)) = ([] : List (List UInt8)) /\ false = false) /\ (List.replicate (tN (mm false (wAdd .i64 (countS t (c :: ([] : List UInt8))) (1 : Int)) (wAdd .i64 (iOf (lenL t)) (1 : Int)))) ([] : List UInt8) = fillL i.fst (split c t).length /\ false = false) /\ True) /\ True) /\ ∀ (i : List (List UInt8) × List UInt8), i.fst ++ split c i.snd = split c t /\ i.snd.length <= List.length t -> (decide (Int.ofNat i.fst.length < wSub .i64 (mm false (wAdd .i64 (countS t (c :: ([] : List UInt8))) (1 : Int)) (wAdd .i64 (iOf (lenL t)) (1 : Int))) (1 : Int)) = true -> true = true /\ (∃ (c_1 : UInt8), c :: ([] : List UInt8) = c_1 :: ([] : List UInt8)) /\ (decide (indexS i.snd (c :: ([] : List UInt8)) < (0 : Int)) = true -> bnd (Int.ofNat i.fst.length) (lenL (fillL i.fst (split c t).length)) /\ ((0 : Nat) = 0 /\ tN (Int.ofNat i.fst.length) < lenL (fillL i.fst (split c t).length)) /\ boundLo (wAdd .i64 (Int.ofNat i.fst.length) (1 : Int)) (lenL ((fillL i.fst (split c t).length).set (tN (Int.ofNat i.fst.length)) i.snd)) /\ tN (wAdd .i64 (Int.ofNat i.fst.length) (1 : Int)) <= lenL ((fillL i.fst (split c t).length).set (tN (Int.ofNat i.fst.length)) i.snd) /\ (subL ((fillL i.fst (split c t).length).set (tN (Int.ofNat i.fst.length)) i.snd) (0 : Nat) (tN (wAdd .i64 (Int.ofNat i.fst.length) (1 : Int))), ()) = (splitS t (c :: ([] : List UInt8)), ()) /\ () = ()) /\ (decide (indexS i.snd (c :: ([] : List UInt8)) < (0 : Int)) = false -> boundLo (wAdd .i64 (indexS i.snd (c :: ([] : List UInt8))) (0 : Int)) (lenL i.snd) /\ bnd (Int.ofNat i.fst.length) (lenL (fillL i.fst (split c t).length)) /\ ((0 : Nat) = 0 /\ tN (Int.ofNat i.fst.length) < lenL (fillL i.fst (split c t).length)) /\ (fits (lenL (c :: ([] : List UInt8))) -> boundLo (wAdd .i64 (indexS i.snd (c :: ([] : List UInt8))) (iOf (lenL (c :: ([] : List UInt8))))) (lenL i.snd) /\ ∃ (j : List (List UInt8) × List UInt8), (j.fst ++ split c j.snd = split c t /\ j.snd.length <= List.length t) /\ j.snd.length < i.snd.length /\ (subL i.snd (tN (wAdd .i64 (indexS i.snd (c :: ([] : List UInt8))) (iOf (lenL (c :: ([] : List UInt8)))))) (lenL i.snd) = j.snd /\ c :: ([] : List UInt8) = c :: ([] : List UInt8) /\ (0 : Int) = 0 /\ wSub .i64 (mm false (wAdd .i64 (countS t (c :: ([] : List UInt8))) (1 : Int)) (wAdd .i64 (iOf (lenL t)) (1 : Int))) (1 : Int) = wSub .i64 (mm false (wAdd .i64 (countS t (c :: ([] : List UInt8))) (1 : Int)) (wAdd .i64 (iOf (lenL t)) (1 : Int))) (1 : Int) /\ 1 = 1 /\ wAdd .i64 (Int.ofNat i.fst.length) (1 : Int) = Int.ofNat j.fst.length /\ True) /\ ((([] : List (List UInt8)) = ([] : List (List UInt8)) /\ false = false) /\ ((fillL i.fst (split c t).length).set (tN (Int.ofNat i.fst.length)) (subL i.snd (0 : Nat) (tN (wAdd .i64 (indexS i.snd (c :: ([] : List UInt8))) (0 : Int)))) = fillL j.fst (split c t).length /\ false = false) /\ True) /\ True))) /\ (decide (Int.ofNat i.fst.length < wSub .i64 (mm false (wAdd .i64 (countS t (c :: ([] : List UInt8))) (1 : Int)) (wAdd .i64 (iOf (lenL t)) (1 : Int))) (1 : Int)) = false -> bnd (Int.ofNat i.fst.length) (lenL (fillL i.fst (split c t).length)) /\ ((0 : Nat) = 0 /\ tN (Int.ofNat i.fst.length) < lenL (fillL i.fst (split c t).length)) /\ boundLo (wAdd .i64 (Int.ofNat i.fst.length) (1 : Int)) (lenL ((fillL i.fst (split c t).length).set (tN (Int.ofNat i.fst.length)) i.snd)) /\ tN (wAdd .i64 (Int.ofNat i.fst.length) (1 : Int)) <= lenL ((fillL i.fst (split c t).length).set (tN (Int.ofNat i.fst.length)) i.snd) /\ (subL ((fillL i.fst (split c t).length).set (tN (Int.ofNat i.fst.length)) i.snd) (0 : Nat) (tN (wAdd .i64 (Int.ofNat i.fst.length) (1 : Int))), ()) = (splitS t (c :: ([] : List UInt8)), ()) /\ () = ()))) /\ (decide ((-1 : Int) < (0 : Int)) = false -> fits (lenL t) -> IntKind.i64 = IntKind.i64 /\ mkOK (mm false (-1 : Int) (wAdd .i64 (iOf (lenL t)) (1 : Int))) (mm false (-1 : Int) (wAdd .i64 (iOf (lenL t)) (1 : Int))) /\ (∃ (i : List (List UInt8) × List UInt8), (i.fst ++ split c i.snd = split c t /\ i.snd.length <= List.length t) /\ (t = i.snd /\ c :: ([] : List UInt8) = c :: ([] : List UInt8) /\ (0 : Int) = 0 /\ wSub .i64 (mm false (-1 : Int) (wAdd .i64 (iOf (lenL t)) (1 : Int))) (1 : Int) = wSub .i64 (mm false (-1 : Int) (wAdd .i64 (iOf (lenL t)) (1 : Int))) (1 : Int) /\ 1 = 1 /\ (0 : Int) = Int.ofNat i.fst.length /\ True) /\ ((([] : List (List UInt8)) = ([] : List (List UInt8)) /\ false = false) /\ (List.replicate (tN (mm false (-1 : Int) (wAdd .i64 (iOf (lenL t)) (1 : Int)))) ([] : List UInt8) = fillL i.fst (split c t).length /\ false = false) /\ True) /\ True) /\ ∀ (i : List (List UInt8) × List UInt8), i.fst ++ split c i.snd = split c t /\ i.snd.length <= List.length t -> (decide (Int.ofNat i.fst.length < wSub .i64 (mm false (-1 : Int) (wAdd .i64 (iOf (lenL t)) (1 : Int))) (1 : Int)) = true -> true = true /\ (∃ (c_1 : UInt8), c :: ([] : List UInt8) = c_1 :: ([] : List UInt8)) /\ (decide (indexS i.snd (c :: ([] : List UInt8)) < (0 : Int)) = true -> bnd (Int.ofNat i.fst.length) (lenL (fillL i.fst (split c t).length)) /\ ((0 : Nat) = 0 /\ tN (Int.ofNat i.fst.length) < lenL (fillL i.fst (split c t).length)) /\ boundLo (wAdd .i64 (Int.ofNat i.fst.length) (1 : Int)) (lenL ((fillL i.fst (split c t).length).set (tN (Int.ofNat i.fst.length)) i.snd)) /\ tN (wAdd .i64 (Int.ofNat i.fst.length) (1 : Int)) <= lenL ((fillL i.fst (split c t).length).set (tN (Int.ofNat i.fst.length)) i.snd) /\ (subL ((fillL i.fst (split c t).length).set (tN (Int.ofNat i.fst.length)) i.snd) (0 : Nat) (tN (wAdd .i64 (Int.ofNat i.fst.length) (1 : Int))), ()) = (splitS t (c :: ([] : List UInt8)), ()) /\ () = ()) /\ (decide (indexS i.snd (c :: ([] : List UInt8)) < (0 : Int)) = false -> boundLo (wAdd .i64 (indexS i.snd (c :: ([] : List UInt8))) (0 : Int)) (lenL i.snd) /\ bnd (Int.ofNat i.fst.length) (lenL (fillL i.fst (split c t).length)) /\ ((0 : Nat) = 0 /\ tN (Int.ofNat i.fst.length) < lenL (fillL i.fst (split c t).length)) /\ (fits (lenL (c :: ([] : List UInt8))) -> boundLo (wAdd .i64 (indexS i.snd (c :: ([] : List UInt8))) (iOf (lenL (c :: ([] : List UInt8))))) (lenL i.snd) /\ ∃ (j : List (List UInt8) × List UInt8), (j.fst ++ split c j.snd = split c t /\ j.snd.length <= List.length t) /\ j.snd.length < i.snd.length /\ (subL i.snd (tN (wAdd .i64 (indexS i.snd (c :: ([] : List UInt8))) (iOf (lenL (c :: ([] : List UInt8)))))) (lenL i.snd) = j.snd /\ c :: ([] : List UInt8) = c :: ([] : List UInt8) /\ (0 : Int) = 0 /\ wSub .i64 (mm false (-1 : Int) (wAdd .i64 (iOf (lenL t)) (1 : Int))) (1 : Int) = wSub .i64 (mm false (-1 : Int) (wAdd .i64 (iOf (lenL t)) (1 : Int))) (1 : Int) /\ 1 = 1 /\ wAdd .i64 (Int.ofNat i.fst.length) (1 : Int) = Int.ofNat j.fst.length /\ True) /\ ((([] : List (List UInt8)) = ([] : List (List UInt8)) /\ false = false) /\ ((fillL i.fst (split c t).length).set (tN (Int.ofNat i.fst.length)) (subL i.snd (0 : Nat) (tN (wAdd .i64 (indexS i.snd (c :: ([] : List UInt8))) (0 : Int)))) = fillL j.fst (split c t).length /\ false = false) /\ True) /\ True))) /\ (decide (Int.ofNat i.fst.length < wSub .i64 (mm false (-1 : Int) (wAdd .i64 (iOf (lenL t)) (1 : Int))) (1 : Int)) = false -> bnd (Int.ofNat i.fst.length) (lenL (fillL i.fst (split c t).length)) /\ ((0 : Nat) = 0 /\ tN (Int.ofNat i.fst.length) < lenL (fillL i.fst (split c t).length)) /\ boundLo (wAdd .i64 (Int.ofNat i.fst.length) (1 : Int)) (lenL ((fillL i.fst (split c t).length).set (tN (Int.ofNat i.fst.length)) i.snd)) /\ tN (wAdd .i64 (Int.ofNat i.fst.length) (1 : Int)) <= lenL ((fillL i.fst (split c t).length).set (tN (Int.ofNat i.fst.length)) i.snd) /\ (subL ((fillL i.fst (split c t).length).set (tN (Int.ofNat i.fst.length)) i.snd) (0 : Nat) (tN (wAdd .i64 (Int.ofNat i.fst.length) (1 : Int))), ()) = (splitS t (c :: ([] : List UInt8)), ()) /\ () = ()))))) (by kernel_rfl) ?_
 simp only [NS, eq_self, ne_eq, forall_const, implies_true, Nat.reduceAdd, Nat.reduceLeDiff, nz, Int.reduceEq, Nat.reduceEqDiff, reduceCtorEq]; try simp only [lenL]
 have hN := split_pos c t
 have hM := split_le c t
 simp only [parts_n hl]
 have hsub : wSub .i64 (Int.ofNat (split c t).length) 1 = Int.ofNat ((split c t).length - 1) := by
   rw [wSub_in (by simp only [Int.ofNat_eq_natCast]; omega)]; simp only [Int.ofNat_eq_natCast]; omega
 simp only [hsub]
 refine ⟨fun _ => ⟨⟨c, rfl⟩, fun _ => ⟨⟨Int.natCast_nonneg _, Int.le_refl _, by simp only [Int.ofNat_eq_natCast]; omega⟩, ⟨([], t), ⟨rfl, Nat.le_refl _⟩, ⟨rfl, rfl⟩, by simp [fillL, tN]⟩, ?_⟩⟩, fun h => absurd (by decide) h⟩
 rintro ⟨l, s⟩ ⟨he, hsl⟩
 have he : l ++ split c s = split c t := he
 have hsl : s.length <= List.length t := hsl
 have hlen : l.length + (split c s).length = (split c t).length := by rw [<- he, List.length_append]
 have hp := split_pos c s
 have hll : l.length < (split c t).length := by omega
 have hfl := fillL_len (Nat.le_of_lt hll)
 have hi : wAdd .i64 (Int.ofNat l.length) 1 = Int.ofNat (l.length + 1) := by rw [wAdd_in (by simp only [Int.ofNat_eq_natCast]; omega)]; rfl
 simp only [hfl, List.length_set, hi]
 have last : l.length + 1 = (split c t).length -> split c s = [s] -> subL ((fillL l (split c t).length).set l.length s) 0 (l.length + 1) = splitS t [c] := fun h1 h2 => by
   rw [fillL_last h1]
   show l ++ [s] = split c t
   rw [<- he, h2]
 have bl : boundLo (Int.ofNat (l.length + 1)) (split c t).length := ⟨Int.natCast_nonneg _, Int.ofNat_le.2 hll⟩
 refine ⟨fun hlt => ⟨⟨c, rfl⟩, fun hneg => ?_, fun hpos => ?_⟩, fun hge => ?_⟩
 · exfalso
   have := index_none c s hneg
   rw [this] at hlen
   have hlt := Int.ofNat_lt.1 hlt
   simp at hlen
   omega
 · obtain ⟨k, h1, h2, h3⟩ := index_some c s hpos
   have e1 : indexS s [c] = Int.ofNat k := h1
   have e2 : wAdd .i64 (Int.ofNat k) 0 = Int.ofNat k := by rw [wAdd_in (by simp only [Int.ofNat_eq_natCast]; omega)]; exact Int.add_zero _
   have e3 : wAdd .i64 (Int.ofNat k) (iOf [c].length) = Int.ofNat (k + 1) := by
     have : iOf [c].length = 1 := rfl
     rw [this, wAdd_in (by simp only [Int.ofNat_eq_natCast]; omega)]; rfl
   rw [e1, e2, e3]
   refine ⟨⟨Int.natCast_nonneg _, Int.ofNat_le.2 (Nat.le_of_lt h2)⟩, hll, hll, fun _ => ⟨⟨Int.natCast_nonneg _, Int.ofNat_le.2 h2⟩, (l ++ [s.take k], s.drop (k + 1)), ⟨?_, ?_⟩, ?_, ⟨?_, ?_⟩, ?_⟩⟩
   · show (l ++ [s.take k]) ++ split c (s.drop (k + 1)) = split c t
     rw [<- he, h3]; simp
   · show (s.drop (k + 1)).length <= List.length t
     rw [List.length_drop]; omega
   · show (s.drop (k + 1)).length < s.length
     rw [List.length_drop]; omega
   · show subL s (k + 1) s.length = s.drop (k + 1)
     unfold subL; rw [List.take_length]
   · show Int.ofNat (l.length + 1) = Int.ofNat (l ++ [s.take k]).length
     simp
   · exact fillL_set hll _
 · have hge : l.length + 1 = (split c t).length := by
     have : ¬ l.length < (split c t).length - 1 := fun h => hge (Int.ofNat_lt.2 h)
     omega
   have h1 : split c s = [s] := by
     by_cases hneg : Go.Lib.indexByte s c < 0
     · exact index_none c s hneg
     · exfalso
       obtain ⟨k, _, _, h3⟩ := index_some c s hneg
       have h4 := split_pos c (s.drop (k + 1))
       rw [h3] at hlen
       simp only [List.length_cons] at hlen
       omega
   exact ⟨hll, hll, bl, hll, last hge h1⟩
end Go.Proofs.YtkdnelaoagmeaaaDoor
namespace Go.Proofs.YtkdnelaoagmeaaaDoor
open Go.Ab Go.Fn
def s_Split : FSpec := { ps := [.v .str, .v .str], rs := [.o (.slice .str)], pre := fun x => (∃ c : UInt8, x.2.1 = [c]) /\ List.length (α := UInt8) x.1 <= 100000000, fn := fun x => (Fn.splitS x.1 x.2.1, ()), upd := fun _ => () }
theorem fo_Split : FO 29 s_Split := by
 refine fo (specs := [(43, s_genSplit)]) (clos := []) (fun x => []) ⟨fo_genSplit, trivial⟩ trivial Tryd.func29 rfl rfl ?_
 rintro ⟨t, u, ⟨⟩⟩ ⟨h1, h2⟩
 refine vcOf (true = true /\ ((∃ (c : UInt8), u = c :: ([] : List UInt8)) /\ (0 : Int) = 0 /\ (-1 : Int) = (-1 : Int) /\ List.length t <= (100000000 : Nat)) /\ (splitS t u, ()) = (splitS t u, ()) /\ () = ()) (by kernel_rfl) ?_
 simp only [NS, eq_self, ne_eq, forall_const, implies_true, Nat.reduceAdd, Nat.reduceLeDiff, nz, Int.reduceEq, Nat.reduceEqDiff, reduceCtorEq]; try simp only [lenL]
 exact ⟨h1, h2⟩
end Go.Proofs.YtkdnelaoagmeaaaDoor
namespace Go.Proofs.YtkdnelaoagmeaaaDoor
open Go.Ab Go.Fn
def s_first : FSpec := { ps := [.v (.slice .any)], rs := [.v I], pre := fun _ => True, fn := fun x => (Fn.first x.1, ()), upd := fun _ => () }
def L_first (l : List AnyV) : LoopAnn := { ι := Nat, inv := fun k => k <= l.length + 1 /\ Fn.first l = Fn.first (l.drop k), slots := fun k => [(3, .d I (Int.ofNat k))], objs := fun _ => [], μ := fun k => l.length + 1 - k }
theorem fo_first : FO 50 s_first := by
 refine fo (specs := []) (clos := []) (fun x => [(2, .lv [0, 3] <| fun _ => L_first x.1)]) trivial trivial Tryd.func50 rfl rfl ?_
 rintro ⟨l, ⟨⟩⟩ -
 refine vcOf ((∃ (i : Nat), (i <= ((List.length l).add (0)).succ /\ first l = first (List.drop i l)) /\ (l = l /\ (0 : Int) = Int.ofNat i /\ True) /\ True /\ True) /\ ∀ (i : Nat), i <= ((List.length l).add (0)).succ /\ first l = first (List.drop i l) -> fits (lenL l) -> (decide (wAdd .i64 (Int.ofNat i) (1 : Int) < iOf (lenL l)) = true -> bnd (Int.ofNat i) (lenL l) /\ ∀ (x : AnyV), nthI l (Int.ofNat i) = some x -> 1 <= 1 /\ (∀ (b : Bool), x = AnyV.b b -> (b = true -> bnd (wAdd .i64 (Int.ofNat i) (1 : Int)) (lenL l) /\ ∀ (x : AnyV), nthI l (wAdd .i64 (Int.ofNat i) (1 : Int)) = some x -> 1 <= 1 /\ (∀ (a : Int), x = AnyV.n a -> (a, ()) = (first l, ()) /\ () = ()) /\ ((∀ (a : Int), x ≠ AnyV.n a) -> ((0 : (Ty.int .i64).den), ()) = (first l, ()) /\ () = ())) /\ (b = false -> ∃ (j : Nat), (j <= ((List.length l).add (0)).succ /\ first l = first (List.drop j l)) /\ ((List.length l).add (0)).succ.sub j < ((List.length l).add (0)).succ.sub i /\ (l = l /\ wAdd .i64 (Int.ofNat i) (2 : Int) = Int.ofNat j /\ True) /\ True /\ True)) /\ ((∀ (b : Bool), x ≠ AnyV.b b) -> ∃ (j : Nat), (j <= ((List.length l).add (0)).succ /\ first l = first (List.drop j l)) /\ ((List.length l).add (0)).succ.sub j < ((List.length l).add (0)).succ.sub i /\ (l = l /\ wAdd .i64 (Int.ofNat i) (2 : Int) = Int.ofNat j /\ True) /\ True /\ True)) /\ (decide (wAdd .i64 (Int.ofNat i) (1 : Int) < iOf (lenL l)) = false -> ((0 : Int), ()) = (first l, ()) /\ () = ())) (by kernel_rfl) ?_
 simp only [NS, eq_self, ne_eq, forall_const, implies_true, Nat.reduceAdd, Nat.reduceLeDiff, nz, Int.reduceEq, Nat.reduceEqDiff, reduceCtorEq]; try simp only [lenL]
 refine ⟨⟨0, ⟨by omega, rfl⟩, rfl⟩, fun k ⟨hk, he⟩ hf => ⟨fun h => ?_, fun h => ?_⟩⟩
 · have hf' : l.length < 1099511627776 := hf
   have e1 : wAdd .i64 (Int.ofNat k) 1 = Int.ofNat (k + 1) := by rw [wAdd_in (by simp only [Int.ofNat_eq_natCast]; omega)]; rfl
   have e2 : wAdd .i64 (Int.ofNat k) 2 = Int.ofNat (k + 2) := by rw [wAdd_in (by simp only [Int.ofNat_eq_natCast]; omega)]; rfl
   rw [e1] at h ⊢
   rw [e2]
   have h1 : k + 1 < l.length := Int.ofNat_lt.1 h
   have hy := List.getElem?_eq_getElem h1
   refine ⟨by omega, fun x hx => ⟨?_, fun hx2 => ⟨k + 2, ⟨by omega, ?_⟩, by omega, rfl⟩⟩⟩
   · rintro b rfl
     refine ⟨?_, fun hb => ⟨k + 2, ⟨by omega, ?_⟩, by omega, rfl⟩⟩
     · rintro rfl
       refine ⟨bnd_nat h1, fun y hy2 => ?_⟩
       rw [nthI_nat] at hy2
       have e3 : Fn.first l = Fn.anyN y := by rw [he, first_step hx hy2]; rfl
       rw [e3]
       refine ⟨?_, fun hn => ?_⟩
       · rintro a rfl; rfl
       · cases y with
         | n a => exact absurd rfl (hn a)
         | b _ => rfl
         | s _ => rfl
     · rw [he, first_step hx hy, hb]; rfl
   · rw [he, first_step hx hy]
     cases x with
     | b b => exact absurd rfl (hx2 b)
     | n _ => rfl
     | s _ => rfl
 · rw [he, first_end]
   intro hlt
   have hf' : l.length < 1099511627776 := hf
   apply h
   rw [wAdd_in (by simp only [Int.ofNat_eq_natCast]; omega)]
   unfold iOf; simp only [Int.ofNat_eq_natCast]; omega
end Go.Proofs.YtkdnelaoagmeaaaDoor
namespace Go.Proofs.YtkdnelaoagmeaaaDoor
open Go.Ab Go.Fn
def s_l00Cut : FSpec := { ps := [.v .str, .v (.int .u8)], rs := [.o (.slice .str)], pre := fun x => (∃ c : UInt8, x.2.1 = (Int.ofNat c.toNat)) /\ List.length (α := UInt8) x.1 <= 100000000, fn := fun x => (Fn.split (bOf x.2.1) x.1, ()), upd := fun _ => () }
def L_l00Cut (t : List UInt8) (c : Int) : LoopAnn := { ι := List (List UInt8) × Nat × Nat, inv := fun q => CutAt (bOf c) t q.1 q.2.1 q.2.2, slots := fun q => [(5, .os 1), (6, .d I (Int.ofNat q.2.1)), (7, .d I (Int.ofNat q.2.2))], objs := fun q => [(1, .arr .str q.1 false)], μ := fun q => t.length - q.2.2 }
theorem fo_l00Cut : FO 56 s_l00Cut := by
 refine fo (specs := []) (clos := []) (fun x => [(4, .lv [0, 1, 5, 6, 7] <| fun _ => L_l00Cut x.1 x.2.1)]) trivial trivial Tryd.func56 rfl rfl ?_
 rintro ⟨t, c, ⟨⟩⟩ ⟨⟨b, hb⟩, hl⟩
 have hl : List.length t <= 100000000 := hl
 have hb : c = Int.ofNat b.toNat := hb
 subst hb
 refine vcOf ((∃ (i : List (List UInt8) × Nat × Nat), CutAt (bOf (Int.ofNat b.toNat)) t i.fst i.snd.fst i.snd.snd /\ (t = t /\ Int.ofNat b.toNat = Int.ofNat b.toNat /\ 1 = (1 : Nat) /\ (0 : Int) = Int.ofNat i.snd.fst /\ (0 : Int) = Int.ofNat i.snd.snd /\ True) /\ ((([] : List (List UInt8)) = ([] : List (List UInt8)) /\ false = false) /\ (([] : List (List UInt8)) = i.fst /\ false = false) /\ True) /\ True) /\ ∀ (i : List (List UInt8) × Nat × Nat), CutAt (bOf (Int.ofNat b.toNat)) t i.fst i.snd.fst i.snd.snd -> fits (lenL t) -> (decide (Int.ofNat i.snd.snd < iOf (lenL t)) = true -> bnd (Int.ofNat i.snd.snd) (lenL t) /\ ∀ (c : UInt8), nthI t (Int.ofNat i.snd.snd) = some c -> ((Int.ofNat c.toNat == Int.ofNat b.toNat) = true -> boundLH (Int.ofNat i.snd.fst) (Int.ofNat i.snd.snd) (lenL t) /\ fits (lenL i.fst + lenL (subL t (tN (Int.ofNat i.snd.fst)) (tN (Int.ofNat i.snd.snd)) :: ([] : List (List UInt8)))) /\ ∃ (j : List (List UInt8) × Nat × Nat), CutAt (bOf (Int.ofNat b.toNat)) t j.fst j.snd.fst j.snd.snd /\ (List.length t).sub j.snd.snd < (List.length t).sub i.snd.snd /\ (t = t /\ Int.ofNat b.toNat = Int.ofNat b.toNat /\ (1 : Nat) = 1 /\ wAdd .i64 (Int.ofNat i.snd.snd) (1 : Int) = Int.ofNat j.snd.fst /\ wAdd .i64 (Int.ofNat i.snd.snd) (1 : Int) = Int.ofNat j.snd.snd /\ True) /\ ((([] : List (List UInt8)) = ([] : List (List UInt8)) /\ false = false) /\ (i.fst ++ subL t (tN (Int.ofNat i.snd.fst)) (tN (Int.ofNat i.snd.snd)) :: ([] : List (List UInt8)) = j.fst /\ false = false) /\ True) /\ True) /\ ((Int.ofNat c.toNat == Int.ofNat b.toNat) = false -> ∃ (j : List (List UInt8) × Nat × Nat), CutAt (bOf (Int.ofNat b.toNat)) t j.fst j.snd.fst j.snd.snd /\ (List.length t).sub j.snd.snd < (List.length t).sub i.snd.snd /\ (t = t /\ Int.ofNat b.toNat = Int.ofNat b.toNat /\ (1 : Nat) = 1 /\ Int.ofNat i.snd.fst = Int.ofNat j.snd.fst /\ wAdd .i64 (Int.ofNat i.snd.snd) (1 : Int) = Int.ofNat j.snd.snd /\ True) /\ ((([] : List (List UInt8)) = ([] : List (List UInt8)) /\ false = false) /\ (i.fst = j.fst /\ false = false) /\ True) /\ True)) /\ (decide (Int.ofNat i.snd.snd < iOf (lenL t)) = false -> boundLo (Int.ofNat i.snd.fst) (lenL t) /\ fits (lenL i.fst + lenL (subL t (tN (Int.ofNat i.snd.fst)) (lenL t) :: ([] : List (List UInt8)))) /\ (i.fst ++ subL t (tN (Int.ofNat i.snd.fst)) (lenL t) :: ([] : List (List UInt8)), ()) = (split (bOf (Int.ofNat b.toNat)) t, ()) /\ () = ())) (by kernel_rfl) ?_
 simp only [NS, eq_self, ne_eq, forall_const, implies_true, Nat.reduceAdd, Nat.reduceLeDiff, nz, Int.reduceEq, Nat.reduceEqDiff, reduceCtorEq]; try simp only [lenL]
 simp only [bOf_nat, tN_nat, byte_iff]
 refine ⟨⟨([], 0, 0), cut_start b t, ⟨rfl, rfl⟩, rfl⟩, ?_⟩
 rintro ⟨out, k, i⟩ hc hf
 have hc : CutAt b t out k i := hc
 obtain ⟨h1, h2, h3, h4⟩ := id hc
 refine ⟨fun hlt => ⟨hlt, fun x hx => ⟨fun he => ⟨⟨Int.natCast_nonneg _, Int.ofNat_le.2 h1, Int.ofNat_le.2 h2⟩, ?_, (out ++ [subL t k i], i + 1, i + 1), cut_take hc hx he, Nat.sub_lt_sub_left hlt (Nat.lt_succ_self i), ⟨inc_in hf h2, inc_in hf h2⟩, rfl⟩, fun hn => ⟨(out, k, i + 1), cut_skip hc hx hn, Nat.sub_lt_sub_left hlt (Nat.lt_succ_self i), ⟨rfl, inc_in hf h2⟩, rfl⟩⟩⟩, fun hge => ⟨⟨Int.natCast_nonneg _, Int.ofNat_le.2 (Nat.le_trans h1 h2)⟩, ?_, cut_end hc hge⟩⟩
 · show out.length + 1 < 1099511627776; omega
 · show out.length + 1 < 1099511627776; omega
end Go.Proofs.YtkdnelaoagmeaaaDoor
namespace Go.Proofs.YtkdnelaoagmeaaaDoor
open Go.Ab Go.Fn
def s_PartOK : FSpec := { ps := [.v .str], rs := [.v .bool], pre := fun _ => True, fn := fun x => (Fn.partOK x.1, ()), upd := fun _ => () }
def L_l01Part (t : List UInt8) : LoopAnn := { ι := Nat, inv := fun k => k <= t.length /\ ∀ (j : Nat) (x : UInt8), j < k -> t[j]? = some x -> Fn.partB x = true, slots := fun k => [(3, .d I (Int.ofNat k))], objs := fun _ => [], μ := fun k => t.length - k }
theorem fo_l01Part : FO 57 s_PartOK := by
 refine fo (specs := [(40, s_within)]) (clos := []) (fun x => [(4, .lv [0, 3] <| fun _ => L_l01Part x.1)]) ⟨fo_l01In, trivial⟩ trivial Tryd.func57 rfl rfl ?_
 rintro ⟨t, ⟨⟩⟩ -
 refine vcOf (fits (lenL t) -> true = true /\ True /\ ((!within (iOf (lenL t)) (1 : Int) (8 : Int)) = false -> ((t == ([46] : List UInt8)) = false -> ((t == ([46, 46] : List UInt8)) = true -> (false, ()) = (partOK t, ()) /\ () = ()) /\ ((t == ([46, 46] : List UInt8)) = false -> (∃ (i : Nat), (i <= List.length t /\ ∀ (j : Nat) (x : UInt8), j < i -> t[j]? = some x -> partB x = true) /\ (t = t /\ (0 : Int) = Int.ofNat i /\ True) /\ True /\ True) /\ ∀ (i : Nat), (i <= List.length t /\ ∀ (j : Nat) (x : UInt8), j < i -> t[j]? = some x -> partB x = true) -> fits (lenL t) -> (decide (Int.ofNat i < iOf (lenL t)) = true -> bnd (Int.ofNat i) (lenL t) /\ ∀ (c : UInt8), nthI t (Int.ofNat i) = some c -> (decide (Int.ofNat c.toNat < (33 : Int)) = false -> bnd (Int.ofNat i) (lenL t) /\ ∀ (c : UInt8), nthI t (Int.ofNat i) = some c -> (decide (Int.ofNat c.toNat > (126 : Int)) = false -> bnd (Int.ofNat i) (lenL t) /\ ∀ (c : UInt8), nthI t (Int.ofNat i) = some c -> ((Int.ofNat c.toNat == (47 : Int)) = true -> (false, ()) = (partOK t, ()) /\ () = ()) /\ ((Int.ofNat c.toNat == (47 : Int)) = false -> ∃ (j : Nat), (j <= List.length t /\ ∀ (j_1 : Nat) (x : UInt8), j_1 < j -> t[j_1]? = some x -> partB x = true) /\ (List.length t).sub j < (List.length t).sub i /\ (t = t /\ wAdd .i64 (Int.ofNat i) (1 : Int) = Int.ofNat j /\ True) /\ True /\ True)) /\ (decide (Int.ofNat c.toNat > (126 : Int)) = true -> (false, ()) = (partOK t, ()) /\ () = ())) /\ (decide (Int.ofNat c.toNat < (33 : Int)) = true -> (false, ()) = (partOK t, ()) /\ () = ())) /\ (decide (Int.ofNat i < iOf (lenL t)) = false -> (true, ()) = (partOK t, ()) /\ () = ()))) /\ ((t == ([46] : List UInt8)) = true -> (false, ()) = (partOK t, ()) /\ () = ())) /\ ((!within (iOf (lenL t)) (1 : Int) (8 : Int)) = true -> (false, ()) = (partOK t, ()) /\ () = ())) (by kernel_rfl) ?_
 simp only [NS, eq_self, ne_eq, forall_const, implies_true, Nat.reduceAdd, Nat.reduceLeDiff, nz, Int.reduceEq, Nat.reduceEqDiff, reduceCtorEq]; try simp only [lenL]
 refine fun _ => ⟨fun hw => ⟨fun h1 => ⟨fun h => partOK_dots h, fun h2 => ⟨⟨0, ⟨Nat.zero_le _, fun j x hj => absurd hj (Nat.not_lt_zero _)⟩, rfl⟩, fun i ⟨hi, hp⟩ hf => ⟨fun hlt => ⟨hlt, fun x hx => ⟨fun hlo => ⟨hlt, fun y hy => ?_⟩, fun h => partOK_bad hx (partB_low h)⟩⟩, fun hge => partOK_end hw h1 h2 hp hge⟩⟩⟩, fun h => partOK_dot h⟩, fun h => partOK_out h⟩
 rw [hx] at hy; cases hy
 refine ⟨fun hhi => ⟨hlt, fun z hz => ?_⟩, fun h => partOK_bad hx (partB_high h)⟩
 rw [hx] at hz; cases hz
 exact ⟨fun h => partOK_bad hx (partB_slash h), fun hs => ⟨i + 1, ⟨hlt, parts_step hp hx (partB_ok hlo hhi hs)⟩, Nat.sub_lt_sub_left hlt (Nat.lt_succ_self i), inc_in hf hi⟩⟩
end Go.Proofs.YtkdnelaoagmeaaaDoor
namespace Go.Proofs.YtkdnelaoagmeaaaDoor
open Go.Ab Go.Fn
def L_PartOK (t : List UInt8) : LoopAnn := { ι := Nat, inv := fun k => k <= t.length /\ ∀ (j : Nat) (x : UInt8), j < k -> t[j]? = some x -> Fn.partB x = true, slots := fun k => [(6, .d I (Int.ofNat k))], objs := fun _ => [], μ := fun k => t.length - k }
theorem fo_PartOK : FO 66 s_PartOK := by
 refine fo (specs := [(51, s_within)]) (clos := []) (fun x => [(2, .lv [0, 5, 6] <| fun _ => L_PartOK x.1)]) ⟨fo_within, trivial⟩ trivial Tryd.func66 rfl rfl ?_
 rintro ⟨t, ⟨⟩⟩ -
 refine vcOf (fits (lenL t) -> (∃ (i : Nat), (i <= List.length t /\ ∀ (j : Nat) (x : UInt8), j < i -> t[j]? = some x -> partB x = true) /\ (t = t /\ iOf (lenL t) = iOf (lenL t) /\ (0 : Int) = Int.ofNat i /\ True) /\ True /\ True) /\ ∀ (i : Nat), (i <= List.length t /\ ∀ (j : Nat) (x : UInt8), j < i -> t[j]? = some x -> partB x = true) -> (decide (Int.ofNat i < iOf (lenL t)) = true -> bnd (Int.ofNat i) (lenL t) /\ ∀ (c : UInt8), nthI t (Int.ofNat i) = some c -> true = true /\ True /\ ((!within (IntKind.i64.wrap (Int.ofNat c.toNat)) (33 : Int) (126 : Int)) = false -> bnd (Int.ofNat i) (lenL t) /\ ∀ (c : UInt8), nthI t (Int.ofNat i) = some c -> ((Int.ofNat c.toNat == (47 : Int)) = true -> (false, ()) = (partOK t, ()) /\ () = ()) /\ ((Int.ofNat c.toNat == (47 : Int)) = false -> ∃ (j : Nat), (j <= List.length t /\ ∀ (j_1 : Nat) (x : UInt8), j_1 < j -> t[j_1]? = some x -> partB x = true) /\ (List.length t).sub j < (List.length t).sub i /\ (t = t /\ iOf (lenL t) = iOf (lenL t) /\ wAdd .i64 (Int.ofNat i) (1 : Int) = Int.ofNat j /\ True) /\ True /\ True)) /\ ((!within (IntKind.i64.wrap (Int.ofNat c.toNat)) (33 : Int) (126 : Int)) = true -> (false, ()) = (partOK t, ()) /\ () = ())) /\ (decide (Int.ofNat i < iOf (lenL t)) = false -> fits (lenL t) -> true = true /\ True /\ (within (iOf (lenL t)) (1 : Int) (8 : Int) = true -> ((!t == ([46] : List UInt8)) = true -> (!t == ([46, 46] : List UInt8), ()) = (partOK t, ()) /\ () = ()) /\ ((!t == ([46] : List UInt8)) = false -> (false, ()) = (partOK t, ()) /\ () = ())) /\ (within (iOf (lenL t)) (1 : Int) (8 : Int) = false -> (false, ()) = (partOK t, ()) /\ () = ()))) (by kernel_rfl) ?_
 simp only [NS, eq_self, ne_eq, forall_const, implies_true, Nat.reduceAdd, Nat.reduceLeDiff, nz, Int.reduceEq, Nat.reduceEqDiff, reduceCtorEq]; try simp only [lenL]
 refine fun hf => ⟨⟨0, ⟨Nat.zero_le _, fun j x hj => absurd hj (Nat.not_lt_zero _)⟩, rfl⟩, fun i ⟨hi, hp⟩ => ⟨fun hlt => ⟨hlt, fun x hx => ⟨fun hw => ⟨hlt, fun y hy => ?_⟩, fun h => partOK_bad hx (partB_i64 h)⟩⟩, fun hge _ => ⟨fun hw => ⟨fun h1 => partOK_fin hw h1 hp hge, fun h => partOK_dot h⟩, fun h => partOK_out h⟩⟩⟩
 rw [hx] at hy; cases hy
 exact ⟨fun h => partOK_bad hx (partB_slash h), fun hs => ⟨i + 1, ⟨hlt, parts_step hp hx (partB_i64' hw hs)⟩, Nat.sub_lt_sub_left hlt (Nat.lt_succ_self i), inc_in hf hi⟩⟩
end Go.Proofs.YtkdnelaoagmeaaaDoor
namespace Go.Proofs.YtkdnelaoagmeaaaDoor
open Go.Ab Go.Fn
def s_PathOK : FSpec := { ps := [.v .str], rs := [.v .bool], pre := fun x => List.length (α := UInt8) x.1 <= 100000000, fn := fun x => (Fn.pathOK x.1, ()), upd := fun _ => () }
def L_l01OK (l : List (List UInt8)) : LoopAnn := { ι := Nat, inv := fun k => k <= l.length /\ ∀ (j : Nat) (x : List UInt8), j < k -> l[j]? = some x -> Fn.partOK x = true, slots := fun k => [(4, .d I (Int.ofNat k))], objs := fun _ => [], μ := fun k => l.length - k }
theorem fo_l01OK : FO 41 s_PathOK := by
 refine fo (specs := [(56, s_l00Cut), (57, s_PartOK)]) (clos := []) (fun x => [(7, .lv [3, 4] <| fun _ => L_l01OK (split 47 x.1))]) ⟨fo_l00Cut, fo_l01Part, trivial⟩ trivial Tryd.func41 rfl rfl ?_
 rintro ⟨t, ⟨⟩⟩ hl
 refine vcOf (fits (lenL t) -> (decide (iOf (lenL t) > (36 : Int)) = true -> (false, ()) = (pathOK t, ()) /\ () = ()) /\ (decide (iOf (lenL t) > (36 : Int)) = false -> true = true /\ ((∃ (c : UInt8), (47 : Int) = Int.ofNat c.toNat) /\ List.length t <= (100000000 : Nat)) /\ (fits (lenL (split (bOf (47 : Int)) t)) -> (decide (iOf (lenL (split (bOf (47 : Int)) t)) > (4 : Int)) = true -> (false, ()) = (pathOK t, ()) /\ () = ()) /\ (decide (iOf (lenL (split (bOf (47 : Int)) t)) > (4 : Int)) = false -> (∃ (i : Nat), (i <= (split (47 : UInt8) t).length /\ ∀ (j : Nat) (x : List UInt8), j < i -> (split (47 : UInt8) t)[j]? = some x -> partOK x = true) /\ (0 = 0 /\ (0 : Int) = Int.ofNat i /\ True) /\ ((split (bOf (47 : Int)) t = split (bOf (47 : Int)) t /\ false = false) /\ True) /\ True) /\ ∀ (i : Nat), (i <= (split (47 : UInt8) t).length /\ ∀ (j : Nat) (x : List UInt8), j < i -> (split (47 : UInt8) t)[j]? = some x -> partOK x = true) -> fits (lenL (split (bOf (47 : Int)) t)) -> (decide (Int.ofNat i < iOf (lenL (split (bOf (47 : Int)) t))) = true -> bnd (Int.ofNat i) (lenL (split (bOf (47 : Int)) t)) /\ 1 = 1 /\ 1 <= 1 /\ tN (Int.ofNat i) < lenL (split (bOf (47 : Int)) t) /\ ∀ (x : List UInt8), nth (split (bOf (47 : Int)) t) (tN (Int.ofNat i)) = some x -> true = true /\ True /\ ((!partOK x) = true -> (false, ()) = (pathOK t, ()) /\ () = ()) /\ ((!partOK x) = false -> ∃ (j : Nat), (j <= (split (47 : UInt8) t).length /\ ∀ (j_1 : Nat) (x : List UInt8), j_1 < j -> (split (47 : UInt8) t)[j_1]? = some x -> partOK x = true) /\ (split (47 : UInt8) t).length.sub j < (split (47 : UInt8) t).length.sub i /\ (0 = 0 /\ wAdd .i64 (Int.ofNat i) (1 : Int) = Int.ofNat j /\ True) /\ ((split (bOf (47 : Int)) t = split (bOf (47 : Int)) t /\ false = false) /\ True) /\ True)) /\ (decide (Int.ofNat i < iOf (lenL (split (bOf (47 : Int)) t))) = false -> (true, ()) = (pathOK t, ()) /\ () = ()))))) (by kernel_rfl) ?_
 simp only [NS, eq_self, ne_eq, forall_const, implies_true, Nat.reduceAdd, Nat.reduceLeDiff, nz, Int.reduceEq, Nat.reduceEqDiff, reduceCtorEq]; try simp only [lenL]
 have hl : List.length t <= 100000000 := hl
 have e : bOf 47 = 47 := rfl
 simp only [e, tN_nat]
 exact fun _ => ⟨fun h => pathOK_long h, fun h => ⟨⟨⟨47, rfl⟩, hl⟩, fun hf => ⟨fun h4 => pathOK_many h4, fun h4 => ⟨⟨0, ⟨Nat.zero_le _, fun j x hj => absurd hj (Nat.not_lt_zero _)⟩, rfl⟩, fun i ⟨hi, hp⟩ _ => ⟨fun hlt => ⟨hlt, hlt, fun x hx => ⟨fun hb => pathOK_bad hx hb, fun hb => ⟨i + 1, ⟨hlt, path_step hp hx hb⟩, Nat.sub_lt_sub_left hlt (Nat.lt_succ_self i), inc_in hf hi⟩⟩⟩, fun hge => pathOK_end h h4 hp hge⟩⟩⟩⟩⟩
end Go.Proofs.YtkdnelaoagmeaaaDoor
namespace Go.Proofs.YtkdnelaoagmeaaaDoor
open Go.Ab Go.Fn
def s_parts : FSpec := { ps := [.v .str], rs := [.o (.slice .str)], pre := fun x => List.length (α := UInt8) x.1 <= 100000000, fn := fun x => (Fn.split 47 x.1, ()), upd := fun _ => () }
theorem fo_parts : FO 65 s_parts := by
 refine fo (specs := [(29, s_Split)]) (clos := []) (fun x => []) ⟨fo_Split, trivial⟩ trivial Tryd.func65 rfl rfl ?_
 rintro ⟨t, ⟨⟩⟩ hl
 refine vcOf (true = true /\ ((∃ (c : UInt8), ([47] : List UInt8) = c :: ([] : List UInt8)) /\ List.length t <= (100000000 : Nat)) /\ (splitS t (([47] : List UInt8)), ()) = (split (47 : UInt8) t, ()) /\ () = ()) (by kernel_rfl) ?_
 simp only [NS, eq_self, ne_eq, forall_const, implies_true, Nat.reduceAdd, Nat.reduceLeDiff, nz, Int.reduceEq, Nat.reduceEqDiff, reduceCtorEq]; try simp only [lenL]
 exact ⟨⟨⟨47, rfl⟩, hl⟩, rfl⟩
end Go.Proofs.YtkdnelaoagmeaaaDoor
namespace Go.Proofs.YtkdnelaoagmeaaaDoor
open Go.Ab Go.Fn
def c_PartOK : CSpec := { ats := [.str], b := .bool, cs := [], pre := fun _ _ => True, fn := fun _ a => Fn.partOK a.1 }
theorem fo_PartOKc : FO 66 c_PartOK.fspec := fo_PartOK
theorem fo_PathOK : FO 52 s_PathOK := by
 refine fo (specs := [(65, s_parts), (15, s_all_str)]) (clos := [(66, c_PartOK)]) (fun x => []) ⟨fo_parts, fo_all_str, trivial⟩ ⟨co fo_PartOKc rfl rfl, trivial⟩ Tryd.func52 rfl rfl ?_
 rintro ⟨t, ⟨⟩⟩ hl
 refine vcOf (fits (lenL t) -> (decide (iOf (lenL t) < (36 : Int)) = true -> true = true /\ List.length t <= (100000000 : Nat) /\ (fits (lenL (split (47 : UInt8) t)) -> (decide (iOf (lenL (split (47 : UInt8) t)) <= (4 : Int)) = true -> true = true /\ List.length t <= (100000000 : Nat) /\ true = true /\ (∀ (y : List UInt8), y ∈ split (47 : UInt8) t -> True) /\ ((split (47 : UInt8) t).all fun (y : List UInt8) => (fun (a : List UInt8 × Unit) => partOK a.fst, fun (x : List UInt8 × Unit) => True).fst (y, ()), ()) = (pathOK t, ()) /\ () = ()) /\ (decide (iOf (lenL (split (47 : UInt8) t)) <= (4 : Int)) = false -> (false, ()) = (pathOK t, ()) /\ () = ()))) /\ (decide (iOf (lenL t) < (36 : Int)) = false -> (false, ()) = (pathOK t, ()) /\ () = ())) (by kernel_rfl) ?_
 simp only [NS, eq_self, ne_eq, forall_const, implies_true, Nat.reduceAdd, Nat.reduceLeDiff, nz, Int.reduceEq, Nat.reduceEqDiff, reduceCtorEq]; try simp only [lenL]
 have hl : List.length t <= 100000000 := hl
 exact fun _ => ⟨fun h => ⟨hl, fun _ => ⟨fun h2 => ⟨hl, pathOK_few h h2⟩, fun h2 => pathOK_many (Int.not_le.1 h2)⟩⟩, fun h => pathOK_36 h⟩
end Go.Proofs.YtkdnelaoagmeaaaDoor
namespace Go.Proofs.YtkdnelaoagmeaaaDoor
open Go.Ab Go.Fn
def s_fault : FSpec := { ps := [.v tRec], rs := [.v I], pre := fun x => List.length (α := UInt8) x.1.2.1 <= 100000000, fn := fun x => (Fn.recFault x.1, ()), upd := fun _ => () }
theorem fo_l02Fault : FO 25 s_fault := by
 refine fo (specs := [(40, s_within), (41, s_PathOK)]) (clos := []) (fun x => [(1000006, .lv [1, 3, 17] <| .ofCut fun s => [(17, .d .bool (Fn.bad8 (s.cellOf 1 0).getI (s.cellOf 1 2).getS))]), (1000008, .lv [1, 32] <| .ofCut fun s => [(32, .d .bool (Fn.bad3 (s.cellOf 1 0).getI (s.cellOf 1 2).getS (s.cellOf 1 4).getB))]), (1000010, .lv [52] <| .ofCut fun s => [(52, .d .bool (Fn.bad4 (s.cellOf 1 0).getI (s.cellOf 1 3).getI))])]) ⟨fo_l01In, fo_l01OK, trivial⟩ trivial Tryd.func25 rfl rfl ?_
 rintro ⟨⟨k, p, b, m, o, ⟨⟩⟩, ⟨⟩⟩ hl
 refine vcOf (1 <= (5) /\ 1 <= (5) /\ true = true /\ True /\ ((!within k (1 : Int) (4 : Int)) = true -> ((9 : Int), ()) = (recFault (k, p, b, m, o, ()), ()) /\ () = ()) /\ ((!within k (1 : Int) (4 : Int)) = false -> 2 <= (5) /\ true = true /\ List.length p <= (100000000 : Nat) /\ ((!pathOK p) = true -> ((10 : Int), ()) = (recFault (k, p, b, m, o, ()), ()) /\ () = ()) /\ ((!pathOK p) = false -> (3 <= (5) /\ (fits (lenL b) -> (decide (iOf (lenL b) > (20 : Int)) = false -> 1 <= (5) /\ ((k == (2 : Int)) = true -> 3 <= (5) /\ ((0 = 0 /\ (0 : Nat) = 0) /\ (k == (3 : Int)) = (k == (3 : Int)) /\ (b == ([] : List UInt8)) = bad8 k b /\ True) /\ ((k = k /\ p = p /\ b = b /\ m = m /\ o = o /\ True) /\ True) /\ True) /\ ((k == (2 : Int)) = false -> ((0 = 0 /\ (0 : Nat) = 0) /\ (k == (3 : Int)) = (k == (3 : Int)) /\ false = bad8 k b /\ True) /\ ((k = k /\ p = p /\ b = b /\ m = m /\ o = o /\ True) /\ True) /\ True)) /\ (decide (iOf (lenL b) > (20 : Int)) = true -> ((0 = 0 /\ (0 : Nat) = 0) /\ (k == (3 : Int)) = (k == (3 : Int)) /\ true = bad8 k b /\ True) /\ ((k = k /\ p = p /\ b = b /\ m = m /\ o = o /\ True) /\ True) /\ True))) /\ (bad8 k b = true -> ((8 : Int), ()) = (recFault (k, p, b, m, o, ()), ()) /\ () = ()) /\ (bad8 k b = false -> (3 <= (5) /\ ((!b == ([] : List UInt8)) = true -> ((k == (3 : Int)) = false -> 1 <= (5) /\ ((k == (4 : Int)) = false -> 5 <= (5) /\ (o = true -> ((0 = 0 /\ (0 : Nat) = 0) /\ (!k == (3 : Int)) = bad3 k b o /\ True) /\ ((k = k /\ p = p /\ b = b /\ m = m /\ o = o /\ True) /\ True) /\ True) /\ (o = false -> ((0 = 0 /\ (0 : Nat) = 0) /\ false = bad3 k b o /\ True) /\ ((k = k /\ p = p /\ b = b /\ m = m /\ o = o /\ True) /\ True) /\ True)) /\ ((k == (4 : Int)) = true -> ((0 = 0 /\ (0 : Nat) = 0) /\ true = bad3 k b o /\ True) /\ ((k = k /\ p = p /\ b = b /\ m = m /\ o = o /\ True) /\ True) /\ True)) /\ ((k == (3 : Int)) = true -> ((0 = 0 /\ (0 : Nat) = 0) /\ true = bad3 k b o /\ True) /\ ((k = k /\ p = p /\ b = b /\ m = m /\ o = o /\ True) /\ True) /\ True)) /\ ((!b == ([] : List UInt8)) = false -> 5 <= (5) /\ (o = true -> ((0 = 0 /\ (0 : Nat) = 0) /\ (!k == (3 : Int)) = bad3 k b o /\ True) /\ ((k = k /\ p = p /\ b = b /\ m = m /\ o = o /\ True) /\ True) /\ True) /\ (o = false -> ((0 = 0 /\ (0 : Nat) = 0) /\ false = bad3 k b o /\ True) /\ ((k = k /\ p = p /\ b = b /\ m = m /\ o = o /\ True) /\ True) /\ True))) /\ (bad3 k b o = true -> ((3 : Int), ()) = (recFault (k, p, b, m, o, ()), ()) /\ () = ()) /\ (bad3 k b o = false -> (4 <= (5) /\ true = true /\ True /\ ((!within m (0 : Int) (511 : Int)) = false -> 4 <= (5) /\ ((m != (0 : Int)) = true -> 1 <= (5) /\ ((k == (4 : Int)) = false -> 1 <= (5) /\ ((k == (2 : Int)) = bad4 k m /\ True) /\ ((k = k /\ p = p /\ b = b /\ m = m /\ o = o /\ True) /\ True) /\ True) /\ ((k == (4 : Int)) = true -> (true = bad4 k m /\ True) /\ ((k = k /\ p = p /\ b = b /\ m = m /\ o = o /\ True) /\ True) /\ True)) /\ ((m != (0 : Int)) = false -> (false = bad4 k m /\ True) /\ ((k = k /\ p = p /\ b = b /\ m = m /\ o = o /\ True) /\ True) /\ True)) /\ ((!within m (0 : Int) (511 : Int)) = true -> (true = bad4 k m /\ True) /\ ((k = k /\ p = p /\ b = b /\ m = m /\ o = o /\ True) /\ True) /\ True)) /\ (bad4 k m = true -> ((4 : Int), ()) = (recFault (k, p, b, m, o, ()), ()) /\ () = ()) /\ (bad4 k m = false -> ((0 : Int), ()) = (recFault (k, p, b, m, o, ()), ()) /\ () = ())))))) (by kernel_rfl) ?_
 simp only [NS, eq_self, ne_eq, forall_const, implies_true, Nat.reduceAdd, Nat.reduceLeDiff, nz, Int.reduceEq, Nat.reduceEqDiff, reduceCtorEq]; try simp only [lenL]
 have hl : List.length p <= 100000000 := hl
 repeat' (first | apply And.intro | intro _)
 all_goals first
   | exact hl
   | exact first_rec
   | rfl
   | (simp only [Fn.recFault, *]; rfl)
   | exact bad8_long (by assumption)
   | exact bad8_link (by assumption) (by assumption)
   | exact bad8_no (by assumption) (by assumption)
   | (unfold Fn.bad8; grind)
   | (simp only [Fn.bad3, Fn.bare]; grind)
   | (simp only [Fn.bad3, Fn.bare] at *; grind)
   | (simp only [Fn.bad4]; grind)
   | grind [Fn.bare]
end Go.Proofs.YtkdnelaoagmeaaaDoor
namespace Go.Proofs.YtkdnelaoagmeaaaDoor
open Go.Ab Go.Fn
theorem fo_RecordFault : FO 34 s_fault := by
 refine fo (specs := [(51, s_within), (52, s_PathOK), (50, s_first)]) (clos := []) (fun x => [(1000001, .lv [1, 3] <| .ofCut fun s => [(3, .d .bool (Fn.bare (s.cellOf 1 0).getI))]), (2000002, .ofSegs fun _ => [(17, ([18,19,20,21,22,23,24,25], fun s => [(37, .d .bool (Fn.bad8 (s.cellOf 1 0).getI (s.cellOf 1 2).getS))])), (30, ([31,32,33,34,35,36,37,38,39,40,41,42], fun s => [(54, .d .bool (Fn.bad3 (s.cellOf 1 0).getI (s.cellOf 1 2).getS (s.cellOf 1 4).getB))])), (50, ([51,52,53,54,55,56,57,58,59,60,61,62,63], fun s => [(75, .d .bool (Fn.bad4 (s.cellOf 1 0).getI (s.cellOf 1 3).getI))]))])]) ⟨fo_within, fo_PathOK, fo_first, trivial⟩ trivial Tryd.func34 rfl rfl ?_
 rintro ⟨⟨k, p, b, m, o, ⟨⟩⟩, ⟨⟩⟩ hl
 refine vcOf ((1 <= (5) /\ ((k == (3 : Int)) = false -> 1 <= (5) /\ ((0 = 0 /\ (0 : Nat) = 0) /\ (k == (4 : Int)) = bare k /\ True) /\ ((k = k /\ p = p /\ b = b /\ m = m /\ o = o /\ True) /\ True) /\ True) /\ ((k == (3 : Int)) = true -> ((0 = 0 /\ (0 : Nat) = 0) /\ true = bare k /\ True) /\ ((k = k /\ p = p /\ b = b /\ m = m /\ o = o /\ True) /\ True) /\ True)) /\ 1 <= (5) /\ 2 <= (5) /\ 3 <= (5) /\ (fits (lenL b) -> 4 <= (5) /\ true = true /\ True /\ true = true /\ List.length p <= (100000000 : Nat) /\ ((decide (iOf (lenL b) > (20 : Int)) = false -> 1 <= (5) /\ ((k == (2 : Int)) = true -> 3 <= (5) /\ ((0 = 0 /\ (0 : Nat) = 0) /\ bare k = bare k /\ (0 = 0 /\ 0 = 0) /\ k = k /\ within k (1 : Int) (4 : Int) = within k (1 : Int) (4 : Int) /\ (!within k (1 : Int) (4 : Int)) = !within k (1 : Int) (4 : Int) /\ ((4 : Nat) = 4 /\ (!within k (1 : Int) (4 : Int)) = !within k (1 : Int) (4 : Int)) /\ ((3 : Nat) = 3 /\ (9 : Int) = 9) /\ (0 = 0 /\ 1 = 1) /\ p = p /\ pathOK p = pathOK p /\ (!pathOK p) = !pathOK p /\ ((4 : Nat) = 4 /\ (!pathOK p) = !pathOK p) /\ ((3 : Nat) = 3 /\ (10 : Int) = 10) /\ (0 = 0 /\ 2 = 2) /\ b = b /\ iOf (lenL b) = iOf (lenL b) /\ decide (iOf (lenL b) > (20 : Int)) = decide (iOf (lenL b) > (20 : Int)) /\ false = decide (iOf (lenL b) > (20 : Int)) /\ (b == ([] : List UInt8)) = bad8 k b /\ ((3 : Nat) = 3 /\ (8 : Int) = 8) /\ bare k = bare k /\ ((3 : Nat) = 3 /\ (3 : Int) = 3) /\ (0 = 0 /\ 3 = 3) /\ m = m /\ ((3 : Nat) = 3 /\ (4 : Int) = 4) /\ True) /\ ((k = k /\ p = p /\ b = b /\ m = m /\ o = o /\ True) /\ True) /\ True) /\ ((k == (2 : Int)) = false -> ((0 = 0 /\ (0 : Nat) = 0) /\ bare k = bare k /\ (0 = 0 /\ 0 = 0) /\ k = k /\ within k (1 : Int) (4 : Int) = within k (1 : Int) (4 : Int) /\ (!within k (1 : Int) (4 : Int)) = !within k (1 : Int) (4 : Int) /\ ((4 : Nat) = 4 /\ (!within k (1 : Int) (4 : Int)) = !within k (1 : Int) (4 : Int)) /\ ((3 : Nat) = 3 /\ (9 : Int) = 9) /\ (0 = 0 /\ 1 = 1) /\ p = p /\ pathOK p = pathOK p /\ (!pathOK p) = !pathOK p /\ ((4 : Nat) = 4 /\ (!pathOK p) = !pathOK p) /\ ((3 : Nat) = 3 /\ (10 : Int) = 10) /\ (0 = 0 /\ 2 = 2) /\ b = b /\ iOf (lenL b) = iOf (lenL b) /\ decide (iOf (lenL b) > (20 : Int)) = decide (iOf (lenL b) > (20 : Int)) /\ false = decide (iOf (lenL b) > (20 : Int)) /\ false = bad8 k b /\ ((3 : Nat) = 3 /\ (8 : Int) = 8) /\ bare k = bare k /\ ((3 : Nat) = 3 /\ (3 : Int) = 3) /\ (0 = 0 /\ 3 = 3) /\ m = m /\ ((3 : Nat) = 3 /\ (4 : Int) = 4) /\ True) /\ ((k = k /\ p = p /\ b = b /\ m = m /\ o = o /\ True) /\ True) /\ True)) /\ (decide (iOf (lenL b) > (20 : Int)) = true -> ((0 = 0 /\ (0 : Nat) = 0) /\ bare k = bare k /\ (0 = 0 /\ 0 = 0) /\ k = k /\ within k (1 : Int) (4 : Int) = within k (1 : Int) (4 : Int) /\ (!within k (1 : Int) (4 : Int)) = !within k (1 : Int) (4 : Int) /\ ((4 : Nat) = 4 /\ (!within k (1 : Int) (4 : Int)) = !within k (1 : Int) (4 : Int)) /\ ((3 : Nat) = 3 /\ (9 : Int) = 9) /\ (0 = 0 /\ 1 = 1) /\ p = p /\ pathOK p = pathOK p /\ (!pathOK p) = !pathOK p /\ ((4 : Nat) = 4 /\ (!pathOK p) = !pathOK p) /\ ((3 : Nat) = 3 /\ (10 : Int) = 10) /\ (0 = 0 /\ 2 = 2) /\ b = b /\ iOf (lenL b) = iOf (lenL b) /\ decide (iOf (lenL b) > (20 : Int)) = decide (iOf (lenL b) > (20 : Int)) /\ true = decide (iOf (lenL b) > (20 : Int)) /\ true = bad8 k b /\ ((3 : Nat) = 3 /\ (8 : Int) = 8) /\ bare k = bare k /\ ((3 : Nat) = 3 /\ (3 : Int) = 3) /\ (0 = 0 /\ 3 = 3) /\ m = m /\ ((3 : Nat) = 3 /\ (4 : Int) = 4) /\ True) /\ ((k = k /\ p = p /\ b = b /\ m = m /\ o = o /\ True) /\ True) /\ True)) /\ ((bare k = true -> 3 <= (5) /\ ((!b == ([] : List UInt8)) = false -> 1 <= (5) /\ ((k != (3 : Int)) = true -> 5 <= (5) /\ ((0 = 0 /\ (0 : Nat) = 0) /\ bare k = bare k /\ (0 = 0 /\ 0 = 0) /\ k = k /\ within k (1 : Int) (4 : Int) = within k (1 : Int) (4 : Int) /\ (!within k (1 : Int) (4 : Int)) = !within k (1 : Int) (4 : Int) /\ ((4 : Nat) = 4 /\ (!within k (1 : Int) (4 : Int)) = !within k (1 : Int) (4 : Int)) /\ ((3 : Nat) = 3 /\ (9 : Int) = 9) /\ (0 = 0 /\ 1 = 1) /\ p = p /\ pathOK p = pathOK p /\ (!pathOK p) = !pathOK p /\ ((4 : Nat) = 4 /\ (!pathOK p) = !pathOK p) /\ ((3 : Nat) = 3 /\ (10 : Int) = 10) /\ (0 = 0 /\ 2 = 2) /\ b = b /\ iOf (lenL b) = iOf (lenL b) /\ decide (iOf (lenL b) > (20 : Int)) = decide (iOf (lenL b) > (20 : Int)) /\ decide (iOf (lenL b) > (20 : Int)) = decide (iOf (lenL b) > (20 : Int)) /\ bad8 k b = bad8 k b /\ ((4 : Nat) = 4 /\ bad8 k b = bad8 k b) /\ ((3 : Nat) = 3 /\ (8 : Int) = 8) /\ bare k = bare k /\ true = bare k /\ o = bad3 k b o /\ ((3 : Nat) = 3 /\ (3 : Int) = 3) /\ (0 = 0 /\ 3 = 3) /\ m = m /\ ((3 : Nat) = 3 /\ (4 : Int) = 4) /\ True) /\ ((k = k /\ p = p /\ b = b /\ m = m /\ o = o /\ True) /\ True) /\ True) /\ ((k != (3 : Int)) = false -> ((0 = 0 /\ (0 : Nat) = 0) /\ bare k = bare k /\ (0 = 0 /\ 0 = 0) /\ k = k /\ within k (1 : Int) (4 : Int) = within k (1 : Int) (4 : Int) /\ (!within k (1 : Int) (4 : Int)) = !within k (1 : Int) (4 : Int) /\ ((4 : Nat) = 4 /\ (!within k (1 : Int) (4 : Int)) = !within k (1 : Int) (4 : Int)) /\ ((3 : Nat) = 3 /\ (9 : Int) = 9) /\ (0 = 0 /\ 1 = 1) /\ p = p /\ pathOK p = pathOK p /\ (!pathOK p) = !pathOK p /\ ((4 : Nat) = 4 /\ (!pathOK p) = !pathOK p) /\ ((3 : Nat) = 3 /\ (10 : Int) = 10) /\ (0 = 0 /\ 2 = 2) /\ b = b /\ iOf (lenL b) = iOf (lenL b) /\ decide (iOf (lenL b) > (20 : Int)) = decide (iOf (lenL b) > (20 : Int)) /\ decide (iOf (lenL b) > (20 : Int)) = decide (iOf (lenL b) > (20 : Int)) /\ bad8 k b = bad8 k b /\ ((4 : Nat) = 4 /\ bad8 k b = bad8 k b) /\ ((3 : Nat) = 3 /\ (8 : Int) = 8) /\ bare k = bare k /\ true = bare k /\ false = bad3 k b o /\ ((3 : Nat) = 3 /\ (3 : Int) = 3) /\ (0 = 0 /\ 3 = 3) /\ m = m /\ ((3 : Nat) = 3 /\ (4 : Int) = 4) /\ True) /\ ((k = k /\ p = p /\ b = b /\ m = m /\ o = o /\ True) /\ True) /\ True)) /\ ((!b == ([] : List UInt8)) = true -> ((0 = 0 /\ (0 : Nat) = 0) /\ bare k = bare k /\ (0 = 0 /\ 0 = 0) /\ k = k /\ within k (1 : Int) (4 : Int) = within k (1 : Int) (4 : Int) /\ (!within k (1 : Int) (4 : Int)) = !within k (1 : Int) (4 : Int) /\ ((4 : Nat) = 4 /\ (!within k (1 : Int) (4 : Int)) = !within k (1 : Int) (4 : Int)) /\ ((3 : Nat) = 3 /\ (9 : Int) = 9) /\ (0 = 0 /\ 1 = 1) /\ p = p /\ pathOK p = pathOK p /\ (!pathOK p) = !pathOK p /\ ((4 : Nat) = 4 /\ (!pathOK p) = !pathOK p) /\ ((3 : Nat) = 3 /\ (10 : Int) = 10) /\ (0 = 0 /\ 2 = 2) /\ b = b /\ iOf (lenL b) = iOf (lenL b) /\ decide (iOf (lenL b) > (20 : Int)) = decide (iOf (lenL b) > (20 : Int)) /\ decide (iOf (lenL b) > (20 : Int)) = decide (iOf (lenL b) > (20 : Int)) /\ bad8 k b = bad8 k b /\ ((4 : Nat) = 4 /\ bad8 k b = bad8 k b) /\ ((3 : Nat) = 3 /\ (8 : Int) = 8) /\ bare k = bare k /\ true = bare k /\ true = bad3 k b o /\ ((3 : Nat) = 3 /\ (3 : Int) = 3) /\ (0 = 0 /\ 3 = 3) /\ m = m /\ ((3 : Nat) = 3 /\ (4 : Int) = 4) /\ True) /\ ((k = k /\ p = p /\ b = b /\ m = m /\ o = o /\ True) /\ True) /\ True)) /\ (bare k = false -> 1 <= (5) /\ ((k != (3 : Int)) = true -> 5 <= (5) /\ ((0 = 0 /\ (0 : Nat) = 0) /\ bare k = bare k /\ (0 = 0 /\ 0 = 0) /\ k = k /\ within k (1 : Int) (4 : Int) = within k (1 : Int) (4 : Int) /\ (!within k (1 : Int) (4 : Int)) = !within k (1 : Int) (4 : Int) /\ ((4 : Nat) = 4 /\ (!within k (1 : Int) (4 : Int)) = !within k (1 : Int) (4 : Int)) /\ ((3 : Nat) = 3 /\ (9 : Int) = 9) /\ (0 = 0 /\ 1 = 1) /\ p = p /\ pathOK p = pathOK p /\ (!pathOK p) = !pathOK p /\ ((4 : Nat) = 4 /\ (!pathOK p) = !pathOK p) /\ ((3 : Nat) = 3 /\ (10 : Int) = 10) /\ (0 = 0 /\ 2 = 2) /\ b = b /\ iOf (lenL b) = iOf (lenL b) /\ decide (iOf (lenL b) > (20 : Int)) = decide (iOf (lenL b) > (20 : Int)) /\ decide (iOf (lenL b) > (20 : Int)) = decide (iOf (lenL b) > (20 : Int)) /\ bad8 k b = bad8 k b /\ ((4 : Nat) = 4 /\ bad8 k b = bad8 k b) /\ ((3 : Nat) = 3 /\ (8 : Int) = 8) /\ bare k = bare k /\ false = bare k /\ o = bad3 k b o /\ ((3 : Nat) = 3 /\ (3 : Int) = 3) /\ (0 = 0 /\ 3 = 3) /\ m = m /\ ((3 : Nat) = 3 /\ (4 : Int) = 4) /\ True) /\ ((k = k /\ p = p /\ b = b /\ m = m /\ o = o /\ True) /\ True) /\ True) /\ ((k != (3 : Int)) = false -> ((0 = 0 /\ (0 : Nat) = 0) /\ bare k = bare k /\ (0 = 0 /\ 0 = 0) /\ k = k /\ within k (1 : Int) (4 : Int) = within k (1 : Int) (4 : Int) /\ (!within k (1 : Int) (4 : Int)) = !within k (1 : Int) (4 : Int) /\ ((4 : Nat) = 4 /\ (!within k (1 : Int) (4 : Int)) = !within k (1 : Int) (4 : Int)) /\ ((3 : Nat) = 3 /\ (9 : Int) = 9) /\ (0 = 0 /\ 1 = 1) /\ p = p /\ pathOK p = pathOK p /\ (!pathOK p) = !pathOK p /\ ((4 : Nat) = 4 /\ (!pathOK p) = !pathOK p) /\ ((3 : Nat) = 3 /\ (10 : Int) = 10) /\ (0 = 0 /\ 2 = 2) /\ b = b /\ iOf (lenL b) = iOf (lenL b) /\ decide (iOf (lenL b) > (20 : Int)) = decide (iOf (lenL b) > (20 : Int)) /\ decide (iOf (lenL b) > (20 : Int)) = decide (iOf (lenL b) > (20 : Int)) /\ bad8 k b = bad8 k b /\ ((4 : Nat) = 4 /\ bad8 k b = bad8 k b) /\ ((3 : Nat) = 3 /\ (8 : Int) = 8) /\ bare k = bare k /\ false = bare k /\ false = bad3 k b o /\ ((3 : Nat) = 3 /\ (3 : Int) = 3) /\ (0 = 0 /\ 3 = 3) /\ m = m /\ ((3 : Nat) = 3 /\ (4 : Int) = 4) /\ True) /\ ((k = k /\ p = p /\ b = b /\ m = m /\ o = o /\ True) /\ True) /\ True))) /\ true = true /\ True /\ (((!within m (0 : Int) (511 : Int)) = false -> 1 <= (5) /\ ((k == (2 : Int)) = false -> 1 <= (5) /\ ((k == (4 : Int)) = true -> 4 <= (5) /\ ((0 = 0 /\ (0 : Nat) = 0) /\ bare k = bare k /\ (0 = 0 /\ 0 = 0) /\ k = k /\ within k (1 : Int) (4 : Int) = within k (1 : Int) (4 : Int) /\ (!within k (1 : Int) (4 : Int)) = !within k (1 : Int) (4 : Int) /\ ((4 : Nat) = 4 /\ (!within k (1 : Int) (4 : Int)) = !within k (1 : Int) (4 : Int)) /\ ((3 : Nat) = 3 /\ (9 : Int) = 9) /\ (0 = 0 /\ 1 = 1) /\ p = p /\ pathOK p = pathOK p /\ (!pathOK p) = !pathOK p /\ ((4 : Nat) = 4 /\ (!pathOK p) = !pathOK p) /\ ((3 : Nat) = 3 /\ (10 : Int) = 10) /\ (0 = 0 /\ 2 = 2) /\ b = b /\ iOf (lenL b) = iOf (lenL b) /\ decide (iOf (lenL b) > (20 : Int)) = decide (iOf (lenL b) > (20 : Int)) /\ decide (iOf (lenL b) > (20 : Int)) = decide (iOf (lenL b) > (20 : Int)) /\ bad8 k b = bad8 k b /\ ((4 : Nat) = 4 /\ bad8 k b = bad8 k b) /\ ((3 : Nat) = 3 /\ (8 : Int) = 8) /\ bare k = bare k /\ bare k = bare k /\ bad3 k b o = bad3 k b o /\ ((4 : Nat) = 4 /\ bad3 k b o = bad3 k b o) /\ ((3 : Nat) = 3 /\ (3 : Int) = 3) /\ (0 = 0 /\ 3 = 3) /\ m = m /\ within m (0 : Int) (511 : Int) = within m (0 : Int) (511 : Int) /\ (!within m (0 : Int) (511 : Int)) = !within m (0 : Int) (511 : Int) /\ false = !within m (0 : Int) (511 : Int) /\ (m != (0 : Int)) = bad4 k m /\ ((3 : Nat) = 3 /\ (4 : Int) = 4) /\ True) /\ ((k = k /\ p = p /\ b = b /\ m = m /\ o = o /\ True) /\ True) /\ True) /\ ((k == (4 : Int)) = false -> ((0 = 0 /\ (0 : Nat) = 0) /\ bare k = bare k /\ (0 = 0 /\ 0 = 0) /\ k = k /\ within k (1 : Int) (4 : Int) = within k (1 : Int) (4 : Int) /\ (!within k (1 : Int) (4 : Int)) = !within k (1 : Int) (4 : Int) /\ ((4 : Nat) = 4 /\ (!within k (1 : Int) (4 : Int)) = !within k (1 : Int) (4 : Int)) /\ ((3 : Nat) = 3 /\ (9 : Int) = 9) /\ (0 = 0 /\ 1 = 1) /\ p = p /\ pathOK p = pathOK p /\ (!pathOK p) = !pathOK p /\ ((4 : Nat) = 4 /\ (!pathOK p) = !pathOK p) /\ ((3 : Nat) = 3 /\ (10 : Int) = 10) /\ (0 = 0 /\ 2 = 2) /\ b = b /\ iOf (lenL b) = iOf (lenL b) /\ decide (iOf (lenL b) > (20 : Int)) = decide (iOf (lenL b) > (20 : Int)) /\ decide (iOf (lenL b) > (20 : Int)) = decide (iOf (lenL b) > (20 : Int)) /\ bad8 k b = bad8 k b /\ ((4 : Nat) = 4 /\ bad8 k b = bad8 k b) /\ ((3 : Nat) = 3 /\ (8 : Int) = 8) /\ bare k = bare k /\ bare k = bare k /\ bad3 k b o = bad3 k b o /\ ((4 : Nat) = 4 /\ bad3 k b o = bad3 k b o) /\ ((3 : Nat) = 3 /\ (3 : Int) = 3) /\ (0 = 0 /\ 3 = 3) /\ m = m /\ within m (0 : Int) (511 : Int) = within m (0 : Int) (511 : Int) /\ (!within m (0 : Int) (511 : Int)) = !within m (0 : Int) (511 : Int) /\ false = !within m (0 : Int) (511 : Int) /\ false = bad4 k m /\ ((3 : Nat) = 3 /\ (4 : Int) = 4) /\ True) /\ ((k = k /\ p = p /\ b = b /\ m = m /\ o = o /\ True) /\ True) /\ True)) /\ ((k == (2 : Int)) = true -> 4 <= (5) /\ ((0 = 0 /\ (0 : Nat) = 0) /\ bare k = bare k /\ (0 = 0 /\ 0 = 0) /\ k = k /\ within k (1 : Int) (4 : Int) = within k (1 : Int) (4 : Int) /\ (!within k (1 : Int) (4 : Int)) = !within k (1 : Int) (4 : Int) /\ ((4 : Nat) = 4 /\ (!within k (1 : Int) (4 : Int)) = !within k (1 : Int) (4 : Int)) /\ ((3 : Nat) = 3 /\ (9 : Int) = 9) /\ (0 = 0 /\ 1 = 1) /\ p = p /\ pathOK p = pathOK p /\ (!pathOK p) = !pathOK p /\ ((4 : Nat) = 4 /\ (!pathOK p) = !pathOK p) /\ ((3 : Nat) = 3 /\ (10 : Int) = 10) /\ (0 = 0 /\ 2 = 2) /\ b = b /\ iOf (lenL b) = iOf (lenL b) /\ decide (iOf (lenL b) > (20 : Int)) = decide (iOf (lenL b) > (20 : Int)) /\ decide (iOf (lenL b) > (20 : Int)) = decide (iOf (lenL b) > (20 : Int)) /\ bad8 k b = bad8 k b /\ ((4 : Nat) = 4 /\ bad8 k b = bad8 k b) /\ ((3 : Nat) = 3 /\ (8 : Int) = 8) /\ bare k = bare k /\ bare k = bare k /\ bad3 k b o = bad3 k b o /\ ((4 : Nat) = 4 /\ bad3 k b o = bad3 k b o) /\ ((3 : Nat) = 3 /\ (3 : Int) = 3) /\ (0 = 0 /\ 3 = 3) /\ m = m /\ within m (0 : Int) (511 : Int) = within m (0 : Int) (511 : Int) /\ (!within m (0 : Int) (511 : Int)) = !within m (0 : Int) (511 : Int) /\ false = !within m (0 : Int) (511 : Int) /\ (m != (0 : Int)) = bad4 k m /\ ((3 : Nat) = 3 /\ (4 : Int) = 4) /\ True) /\ ((k = k /\ p = p /\ b = b /\ m = m /\ o = o /\ True) /\ True) /\ True)) /\ ((!within m (0 : Int) (511 : Int)) = true -> ((0 = 0 /\ (0 : Nat) = 0) /\ bare k = bare k /\ (0 = 0 /\ 0 = 0) /\ k = k /\ within k (1 : Int) (4 : Int) = within k (1 : Int) (4 : Int) /\ (!within k (1 : Int) (4 : Int)) = !within k (1 : Int) (4 : Int) /\ ((4 : Nat) = 4 /\ (!within k (1 : Int) (4 : Int)) = !within k (1 : Int) (4 : Int)) /\ ((3 : Nat) = 3 /\ (9 : Int) = 9) /\ (0 = 0 /\ 1 = 1) /\ p = p /\ pathOK p = pathOK p /\ (!pathOK p) = !pathOK p /\ ((4 : Nat) = 4 /\ (!pathOK p) = !pathOK p) /\ ((3 : Nat) = 3 /\ (10 : Int) = 10) /\ (0 = 0 /\ 2 = 2) /\ b = b /\ iOf (lenL b) = iOf (lenL b) /\ decide (iOf (lenL b) > (20 : Int)) = decide (iOf (lenL b) > (20 : Int)) /\ decide (iOf (lenL b) > (20 : Int)) = decide (iOf (lenL b) > (20 : Int)) /\ bad8 k b = bad8 k b /\ ((4 : Nat) = 4 /\ bad8 k b = bad8 k b) /\ ((3 : Nat) = 3 /\ (8 : Int) = 8) /\ bare k = bare k /\ bare k = bare k /\ bad3 k b o = bad3 k b o /\ ((4 : Nat) = 4 /\ bad3 k b o = bad3 k b o) /\ ((3 : Nat) = 3 /\ (3 : Int) = 3) /\ (0 = 0 /\ 3 = 3) /\ m = m /\ within m (0 : Int) (511 : Int) = within m (0 : Int) (511 : Int) /\ (!within m (0 : Int) (511 : Int)) = !within m (0 : Int) (511 : Int) /\ true = !within m (0 : Int) (511 : Int) /\ true = bad4 k m /\ ((3 : Nat) = 3 /\ (4 : Int) = 4) /\ True) /\ ((k = k /\ p = p /\ b = b /\ m = m /\ o = o /\ True) /\ True) /\ True)) /\ true = true /\ True /\ (first ((AnyV.b !within k (1 : Int) (4 : Int)) :: AnyV.n (9 : Int) :: (AnyV.b !pathOK p) :: AnyV.n (10 : Int) :: AnyV.b (bad8 k b) :: AnyV.n (8 : Int) :: AnyV.b (bad3 k b o) :: AnyV.n (3 : Int) :: AnyV.b (bad4 k m) :: AnyV.n (4 : Int) :: ([] : List AnyV)), ()) = (recFault (k, p, b, m, o, ()), ()) /\ () = ())) (by kernel_rfl) ?_
 simp only [NS, eq_self, ne_eq, forall_const, implies_true, Nat.reduceAdd, Nat.reduceLeDiff, nz, Int.reduceEq, Nat.reduceEqDiff, reduceCtorEq]; try simp only [lenL]
 have hl : List.length p <= 100000000 := hl
 repeat' (first | apply And.intro | intro _)
 all_goals first
   | exact hl
   | exact first_rec
   | rfl
   | (simp only [Fn.recFault, *]; rfl)
   | exact bad8_long (by assumption)
   | exact bad8_link (by assumption) (by assumption)
   | exact bad8_no (by assumption) (by assumption)
   | (unfold Fn.bad8; grind)
   | (simp only [Fn.bad3, Fn.bare]; grind)
   | (simp only [Fn.bad3, Fn.bare] at *; grind)
   | (simp only [Fn.bad4]; grind)
   | grind [Fn.bare]
end Go.Proofs.YtkdnelaoagmeaaaDoor
namespace Go.Fn
open Go.Ab
theorem rec_ok {k : Int} {p b : List UInt8} {m : Int} {o : Bool} (h : recFault (k, p, b, m, o, ()) = 0) : pathOK p = true /\ bad8 k b = false /\ bad3 k b o = false /\ bad4 k m = false /\ within k 1 4 = true := by
 unfold recFault at h
 simp only at h
 cases h1 : within k 1 4 <;> cases h2 : pathOK p <;> cases h3 : bad8 k b <;> cases h4 : bad3 k b o <;> cases h5 : bad4 k m <;> simp [h1, h2, h3, h4, h5] at h ⊢
theorem path_len {p : List UInt8} (h : pathOK p = true) : p.length <= 36 := by
 unfold pathOK at h
 simp only [Bool.and_eq_true, decide_eq_true_eq] at h
 exact h.1.1
theorem body_len {k : Int} {b : List UInt8} (h : bad8 k b = false) : b.length <= 20 := by
 unfold bad8 at h
 simp only [Bool.or_eq_false_iff, decide_eq_false_iff_not] at h
 have := h.1
 omega
theorem mode_in {k m : Int} (h : bad4 k m = false) : 0 <= m /\ m <= 511 := by
 unfold bad4 within at h
 simp only [Bool.or_eq_false_iff, Bool.not_eq_false', Bool.and_eq_true, decide_eq_true_eq] at h
 exact h.1
def b8 (n : Int) : UInt8 := UInt8.ofNat (IntKind.u8.wrap n).toNat
def two (n : Int) : List UInt8 := [UInt8.ofNat (n / 256).toNat, UInt8.ofNat (n % 256).toNat]
def enc (r : Rec) : List UInt8 := catS (catS (catS (catS [b8 (if r.2.2.2.2.1 = true then 5 else r.1), b8 (iOf (lenL r.2.1))] r.2.1) (two r.2.2.2.1)) [b8 (iOf (lenL r.2.2.1))]) r.2.2.1
end Go.Fn
namespace Go.Fn
open Go.Ab
def rec0 : Rec := (0, [], [], 0, false, ())
def byteN (t : List UInt8) (i : Nat) : Nat := (t.getD i 0).toNat
def n1 (t : List UInt8) : Nat := 2 + byteN t 1
def n2 (t : List UInt8) : Nat := n1 t + 3 + byteN t (n1 t + 2)
def decL (t : List UInt8) : Nat := if t.length < 2 then 0 else if t.length < n1 t + 3 then 0 else if t.length < n2 t then 0 else n2 t
def mode2 (t : List UInt8) (i : Nat) : Int := Int.ofNat (256 * byteN t i + byteN t (i + 1))
def decK (t : List UInt8) : Rec := (if byteN t 0 = 5 then 3 else Int.ofNat (byteN t 0), subL t 2 (n1 t), subL t (n1 t + 3) (n2 t), mode2 t (n1 t), decide (byteN t 0 = 5), ())
def decR (t : List UInt8) : Rec := if decL t = 0 then rec0 else decK t
end Go.Fn
namespace Go.Fn
open Go.Ab
def eqRec (a b : Rec) : Bool := decide (a.1 = b.1) && (decide (a.2.1 = b.2.1) && (decide (a.2.2.1 = b.2.2.1) && (decide (a.2.2.2.1 = b.2.2.2.1) && decide (a.2.2.2.2.1 = b.2.2.2.2.1))))
theorem eqRec_self (a : Rec) : eqRec a a = true := by unfold eqRec; simp
end Go.Fn
namespace Go.Proofs.YtkdnelaoagmeaaaDoor
open Go.Ab Go.Fn
def s_recOK : FSpec := { ps := [.v tRec], rs := [.v .bool], pre := fun x => List.length (α := UInt8) x.1.2.1 <= 100000000, fn := fun x => (decide (Fn.recFault x.1 = 0), ()), upd := fun _ => () }
theorem fo_RecordOK : FO 20 s_recOK := by
 refine fo (specs := [(34, s_fault)]) (clos := []) (fun x => []) ⟨fo_RecordFault, trivial⟩ trivial Tryd.func20 rfl rfl ?_
 rintro ⟨⟨k, p, b, m, o, ⟨⟩⟩, ⟨⟩⟩ hl
 refine vcOf (5 <= (5) /\ true = true /\ List.length p <= (100000000 : Nat) /\ (recFault (k, p, b, m, o, ()) == (0 : Int), ()) = (decide (recFault (k, p, b, m, o, ()) = (0 : Int)), ()) /\ () = ()) (by kernel_rfl) ?_
 simp only [NS, eq_self, ne_eq, forall_const, implies_true, Nat.reduceAdd, Nat.reduceLeDiff, nz, Int.reduceEq, Nat.reduceEqDiff, reduceCtorEq]; try simp only [lenL]
 exact ⟨hl, eqI_dec _ _⟩
end Go.Proofs.YtkdnelaoagmeaaaDoor
namespace Go.Proofs.YtkdnelaoagmeaaaDoor
open Go.Ab Go.Fn
theorem fo_l02OK : FO 14 s_recOK := by
 refine fo (specs := [(25, s_fault)]) (clos := []) (fun x => []) ⟨fo_l02Fault, trivial⟩ trivial Tryd.func14 rfl rfl ?_
 rintro ⟨⟨k, p, b, m, o, ⟨⟩⟩, ⟨⟩⟩ hl
 refine vcOf (5 <= (5) /\ true = true /\ List.length p <= (100000000 : Nat) /\ (recFault (k, p, b, m, o, ()) == (0 : Int), ()) = (decide (recFault (k, p, b, m, o, ()) = (0 : Int)), ()) /\ () = ()) (by kernel_rfl) ?_
 simp only [NS, eq_self, ne_eq, forall_const, implies_true, Nat.reduceAdd, Nat.reduceLeDiff, nz, Int.reduceEq, Nat.reduceEqDiff, reduceCtorEq]; try simp only [lenL]
 exact ⟨hl, eqI_dec _ _⟩
end Go.Proofs.YtkdnelaoagmeaaaDoor
namespace Go.Fn
open Go.Ab
def hexD (n : Nat) : UInt8 := [48, 49, 50, 51, 52, 53, 54, 55, 56, 57, 97, 98, 99, 100, 101, 102].getD n 48
def plainB (c : UInt8) (i : Nat) : Bool := decide (32 < c.toNat) && (decide (c.toNat < 127) && (!(decide (c = 37)) && (!(decide (c = 45)) || decide (0 < i))))
def hexB (c : UInt8) : List UInt8 := [37, hexD (c.toNat / 16), hexD (c.toNat % 16)]
def wordB (c : UInt8) (i : Nat) : List UInt8 := if plainB c i = true then [c] else hexB c
def wordTo (t : List UInt8) : Nat -> List UInt8
 | 0 => []
 | k + 1 => wordTo t k ++ wordB (t.getD k 0) k
def word (t : List UInt8) : List UInt8 := if t = [] then [45] else wordTo t t.length
def plainAt (t : List UInt8) (i : Int) : Bool := plainB (t.getD i.toNat 0) i.toNat
theorem getD_at {t : List UInt8} {i : Nat} {c : UInt8} (h : t[i]? = some c) : t.getD i 0 = c := by rw [List.getD_eq_getElem?_getD, h]; rfl
theorem plainAt_at {t : List UInt8} {i : Nat} {c : UInt8} (h : t[i]? = some c) : plainAt t (Int.ofNat i) = plainB c i := by
 unfold plainAt; rw [show (Int.ofNat i).toNat = i from rfl, getD_at h]
theorem wordTo_at {t : List UInt8} {i : Nat} {c : UInt8} (h : t[i]? = some c) : wordTo t (i + 1) = wordTo t i ++ wordB c i := by
 show wordTo t i ++ wordB (t.getD i 0) i = _
 rw [getD_at h]
theorem wordTo_len (t : List UInt8) : ∀ k, (wordTo t k).length <= 3 * k
 | 0 => Nat.le_refl _
 | k + 1 => by
   have := wordTo_len t k
   show (wordTo t k ++ wordB (t.getD k 0) k).length <= _
   rw [List.length_append]
   have h2 : (wordB (t.getD k 0) k).length <= 3 := by
     unfold wordB hexB
     split <;> simp
   omega
theorem word_len {t : List UInt8} : (word t).length <= 3 * t.length + 1 := by
 unfold word
 split
 · simp
 · have := wordTo_len t t.length
   omega
theorem back_map (l : List UInt8) : (l.map fun c => Int.ofNat c.toNat).map (fun n => UInt8.ofNat n.toNat) = l := by
 rw [List.map_map]
 have : ((fun n : Int => UInt8.ofNat n.toNat) ∘ fun c : UInt8 => Int.ofNat c.toNat) = id := by funext c; simp
 rw [this, List.map_id]
theorem word_end {t : List UInt8} {i : Nat} (hi : i <= t.length) (h : ¬ i < t.length) (hn : ¬ t = []) : (((wordTo t i).map fun c => Int.ofNat c.toNat).map fun n => UInt8.ofNat n.toNat) = word t := by
 rw [back_map]
 unfold word
 rw [if_neg hn, show i = t.length by omega]
theorem word_plain {t : List UInt8} {i : Nat} {c : UInt8} (h : t[i]? = some c) (hp : plainAt t (Int.ofNat i) = true) : ((wordTo t i).map fun c => Int.ofNat c.toNat) ++ [Int.ofNat c.toNat] = (wordTo t (i + 1)).map fun c => Int.ofNat c.toNat := by
 rw [plainAt_at h] at hp
 rw [wordTo_at h, List.map_append]
 unfold wordB
 rw [if_pos hp]; rfl
theorem word_hex {t : List UInt8} {i : Nat} {c a b : UInt8} (h : t[i]? = some c) (hp : plainAt t (Int.ofNat i) = false) (ha : a = hexD (c.toNat / 16)) (hb : b = hexD (c.toNat % 16)) : ((wordTo t i).map fun c => Int.ofNat c.toNat) ++ [37, Int.ofNat a.toNat, Int.ofNat b.toNat] = (wordTo t (i + 1)).map fun c => Int.ofNat c.toNat := by
 rw [plainAt_at h] at hp
 rw [wordTo_at h, List.map_append]
 unfold wordB hexB
 rw [if_neg (by rw [hp]; exact Bool.false_ne_true), ha, hb]; rfl
theorem hex_quo (c : UInt8) : wQuo .u8 (Int.ofNat c.toNat) 16 = Int.ofNat (c.toNat / 16) := by
 have h := c.toNat_lt
 unfold wQuo
 rw [show Int.tdiv (Int.ofNat c.toNat) 16 = Int.ofNat (c.toNat / 16) from rfl, IntKind.wrap_u8]
 simp only [Int.ofNat_eq_natCast]
 omega
theorem hex_rem (c : UInt8) : wRem (Int.ofNat c.toNat) 16 = Int.ofNat (c.toNat % 16) := rfl
theorem hex_shr (c : UInt8) : wShr .u8 (Int.ofNat c.toNat) 4 = Int.ofNat (c.toNat / 16) := rfl
theorem hex_and (c : UInt8) : wBits .and .u8 (Int.ofNat c.toNat) 15 = Int.ofNat (c.toNat % 16) := by
 have h := c.toNat_lt
 show IntKind.u8.wrap ((BitVec.ofInt 8 ((c.toNat : Nat) : Int) &&& BitVec.ofInt 8 ((15 : Nat) : Int)).toNat : Int) = _
 rw [BitVec.ofInt_natCast, BitVec.ofInt_natCast, BitVec.toNat_and, BitVec.toNat_ofNat, BitVec.toNat_ofNat, Nat.mod_eq_of_lt (by omega), Nat.mod_eq_of_lt (by decide)]
 rw [show (15 : Nat) = 2 ^ 4 - 1 from rfl, Nat.and_two_pow_sub_one_eq_mod, IntKind.wrap_u8]
 simp only [Int.ofNat_eq_natCast]
 omega
theorem hexD_at {n : Nat} {d : UInt8} (h : [48, 49, 50, 51, 52, 53, 54, 55, 56, 57, 97, 98, 99, 100, 101, 102][n]? = some d) : d = hexD n := by
 unfold hexD; rw [List.getD_eq_getElem?_getD, h]; rfl
theorem pb_low {t : List UInt8} {i : Nat} {c : UInt8} (h : t[i]? = some c) (hc : ¬ Int.ofNat c.toNat > 32) : false = plainAt t (Int.ofNat i) := by
 rw [plainAt_at h]; unfold plainB; rw [decide_eq_false (p := 32 < c.toNat) (by simp only [Int.ofNat_eq_natCast] at hc; omega)]; rfl
theorem pb_high {t : List UInt8} {i : Nat} {c : UInt8} (h : t[i]? = some c) (hc : ¬ Int.ofNat c.toNat < 127) : false = plainAt t (Int.ofNat i) := by
 rw [plainAt_at h]; unfold plainB; rw [decide_eq_false (p := c.toNat < 127) (by simp only [Int.ofNat_eq_natCast] at hc; omega)]; simp
theorem b_iff {c d : UInt8} : (Int.ofNat c.toNat = Int.ofNat d.toNat) = (c = d) := propext ⟨fun h => UInt8.toNat_inj.1 (Int.ofNat.inj h), fun h => by rw [h]⟩
theorem pb_pct {t : List UInt8} {i : Nat} {c : UInt8} (h : t[i]? = some c) (hc : Int.ofNat c.toNat = 37) : false = plainAt t (Int.ofNat i) := by
 have hc : c = 37 := b_iff.mp (show Int.ofNat c.toNat = Int.ofNat (37 : UInt8).toNat from hc)
 rw [plainAt_at h, hc]; unfold plainB; simp
theorem pb_rest {t : List UInt8} {i : Nat} {c : UInt8} (h : t[i]? = some c) (h1 : Int.ofNat c.toNat > 32) (h2 : Int.ofNat c.toNat < 127) (h3 : ¬ Int.ofNat c.toNat = 37) : plainAt t (Int.ofNat i) = (!(decide (c = 45)) || decide (0 < i)) := by
 have h3 : ¬ c = 37 := fun e => h3 (by rw [e]; rfl)
 rw [plainAt_at h]; unfold plainB
 rw [decide_eq_true (p := 32 < c.toNat) (by simp only [Int.ofNat_eq_natCast] at h1; omega), decide_eq_true (p := c.toNat < 127) (by simp only [Int.ofNat_eq_natCast] at h2; omega), decide_eq_false h3]; rfl
theorem pb_dash {t : List UInt8} {i : Nat} {c : UInt8} (h : t[i]? = some c) (h1 : Int.ofNat c.toNat > 32) (h2 : Int.ofNat c.toNat < 127) (h3 : ¬ Int.ofNat c.toNat = 37) (h4 : Int.ofNat c.toNat = 45) : decide (Int.ofNat i > 0) = plainAt t (Int.ofNat i) := by
 have h4 : c = 45 := b_iff.mp (show Int.ofNat c.toNat = Int.ofNat (45 : UInt8).toNat from h4)
 rw [pb_rest h h1 h2 h3, h4]
 simp
theorem pb_ok {t : List UInt8} {i : Nat} {c : UInt8} (h : t[i]? = some c) (h1 : Int.ofNat c.toNat > 32) (h2 : Int.ofNat c.toNat < 127) (h3 : ¬ Int.ofNat c.toNat = 37) (h4 : ¬ Int.ofNat c.toNat = 45) : true = plainAt t (Int.ofNat i) := by
 have h4 : ¬ c = 45 := fun e => h4 (by rw [e]; rfl)
 rw [pb_rest h h1 h2 h3, decide_eq_false h4]; rfl
theorem in_33 {c : UInt8} (h : within (IntKind.i64.wrap (Int.ofNat c.toNat)) 33 126 = true) : Int.ofNat c.toNat > 32 /\ Int.ofNat c.toNat < 127 := by
 rw [i64_byte] at h
 unfold within at h
 simp only [Bool.and_eq_true, decide_eq_true_eq] at h
 simp only [Int.ofNat_eq_natCast]
 omega
theorem out_33 {t : List UInt8} {i : Nat} {c : UInt8} (ht : t[i]? = some c) (h : within (IntKind.i64.wrap (Int.ofNat c.toNat)) 33 126 = false) : false = plainAt t (Int.ofNat i) := by
 rw [i64_byte] at h
 by_cases h1 : Int.ofNat c.toNat > 32
 · refine pb_high ht fun h2 => ?_
   unfold within at h
   simp only [Int.ofNat_eq_natCast] at h1 h2
   rw [decide_eq_true (p := (33 : Int) <= (c.toNat : Int)) (by omega), decide_eq_true (p := (c.toNat : Int) <= 126) (by omega)] at h
   cases h
 · exact pb_low ht h1
end Go.Fn
namespace Go.Fn
open Go.Ab
def recT (r : Rec) : List UInt8 := if r.1 = 1 then said [.s [102, 105, 108, 101], .s r.2.1, .n r.2.2.2.1, .s (word r.2.2.1)] else if r.1 = 2 then said [.s [108, 105, 110, 107], .s r.2.1, .s (word r.2.2.1)]
 else if r.1 = 4 then said [.s [119, 104, 105, 116, 101], .s r.2.1] else if r.2.2.2.2.1 = true then said [.s [111, 112, 97, 113, 117, 101], .s r.2.1, .n r.2.2.2.1] else said [.s [100, 105, 114], .s r.2.1, .n r.2.2.2.1]
theorem rt_opq {k : Int} {p b : List UInt8} {m : Int} (h1 : ¬k = 1) (h2 : ¬k = 2) (h3 : ¬k = 4) : recT (k, p, b, m, true, ()) = said [.s [111, 112, 97, 113, 117, 101], .s p, .n m] := by unfold recT; rw [if_neg h1, if_neg h2, if_neg h3]; rfl
theorem rt_dir {k : Int} {p b : List UInt8} {m : Int} (h1 : ¬k = 1) (h2 : ¬k = 2) (h3 : ¬k = 4) : recT (k, p, b, m, false, ()) = said [.s [100, 105, 114], .s p, .n m] := by unfold recT; rw [if_neg h1, if_neg h2, if_neg h3]; rfl
end Go.Fn
namespace Go.Proofs.YtkdnelaoagmeaaaDoor
open Go.Ab Go.Fn
def s_word : FSpec := { ps := [.v .str], rs := [.v .str], pre := fun x => List.length (α := UInt8) x.1 <= 100000000, fn := fun x => (Fn.word x.1, ()), upd := fun _ => () }
def L_hex (s : Nat) (t : List UInt8) : LoopAnn := { ι := Nat, inv := fun k => k <= t.length, slots := fun k => [(3, .os 0), (s, .d I (Int.ofNat k))], objs := fun k => [(0, .arr (.int .u8) ((Fn.wordTo t k).map fun c => Int.ofNat c.toNat) false)], μ := fun k => t.length - k }
theorem fo_l14Hex : FO 24 s_word := by
 refine fo (specs := []) (clos := []) (fun x => [(5, .lv [0, 3, 4] <| fun _ => L_hex 4 x.1), (1000007, .lv [0, 3, 4, 39] <| .ofCut fun s => [(39, .d .bool (Fn.plainAt x.1 (s.tI 4)))])]) trivial trivial Tryd.func24 rfl rfl ?_
 rintro ⟨t, ⟨⟩⟩ hl
 refine vcOf (((t == ([] : List UInt8)) = true -> (([45] : List UInt8), ()) = (word t, ()) /\ () = ()) /\ ((t == ([] : List UInt8)) = false -> (∃ (i : Nat), i <= List.length t /\ (t = t /\ 0 = (0 : Nat) /\ (0 : Int) = Int.ofNat i /\ True) /\ ((([] : List Int) = List.map (fun (c : UInt8) => Int.ofNat c.toNat) (wordTo t i) /\ false = false) /\ True) /\ True) /\ ∀ (i : Nat), i <= List.length t -> fits (lenL t) -> (decide (Int.ofNat i < iOf (lenL t)) = true -> (bnd (Int.ofNat i) (lenL t) /\ ∀ (c : UInt8), nthI t (Int.ofNat i) = some c -> (decide (Int.ofNat c.toNat > (32 : Int)) = true -> bnd (Int.ofNat i) (lenL t) /\ ∀ (c : UInt8), nthI t (Int.ofNat i) = some c -> (decide (Int.ofNat c.toNat < (127 : Int)) = true -> bnd (Int.ofNat i) (lenL t) /\ ∀ (c : UInt8), nthI t (Int.ofNat i) = some c -> ((Int.ofNat c.toNat != (37 : Int)) = true -> bnd (Int.ofNat i) (lenL t) /\ ∀ (c : UInt8), nthI t (Int.ofNat i) = some c -> ((Int.ofNat c.toNat != (45 : Int)) = false -> (t = t /\ (0 : Nat) = 0 /\ Int.ofNat i = Int.ofNat i /\ decide (Int.ofNat i > (0 : Int)) = plainAt t (Int.ofNat i) /\ True) /\ ((List.map (fun (c : UInt8) => Int.ofNat c.toNat) (wordTo t i) = List.map (fun (c : UInt8) => Int.ofNat c.toNat) (wordTo t i) /\ false = false) /\ True) /\ True) /\ ((Int.ofNat c.toNat != (45 : Int)) = true -> (t = t /\ (0 : Nat) = 0 /\ Int.ofNat i = Int.ofNat i /\ true = plainAt t (Int.ofNat i) /\ True) /\ ((List.map (fun (c : UInt8) => Int.ofNat c.toNat) (wordTo t i) = List.map (fun (c : UInt8) => Int.ofNat c.toNat) (wordTo t i) /\ false = false) /\ True) /\ True)) /\ ((Int.ofNat c.toNat != (37 : Int)) = false -> (t = t /\ (0 : Nat) = 0 /\ Int.ofNat i = Int.ofNat i /\ false = plainAt t (Int.ofNat i) /\ True) /\ ((List.map (fun (c : UInt8) => Int.ofNat c.toNat) (wordTo t i) = List.map (fun (c : UInt8) => Int.ofNat c.toNat) (wordTo t i) /\ false = false) /\ True) /\ True)) /\ (decide (Int.ofNat c.toNat < (127 : Int)) = false -> (t = t /\ (0 : Nat) = 0 /\ Int.ofNat i = Int.ofNat i /\ false = plainAt t (Int.ofNat i) /\ True) /\ ((List.map (fun (c : UInt8) => Int.ofNat c.toNat) (wordTo t i) = List.map (fun (c : UInt8) => Int.ofNat c.toNat) (wordTo t i) /\ false = false) /\ True) /\ True)) /\ (decide (Int.ofNat c.toNat > (32 : Int)) = false -> (t = t /\ (0 : Nat) = 0 /\ Int.ofNat i = Int.ofNat i /\ false = plainAt t (Int.ofNat i) /\ True) /\ ((List.map (fun (c : UInt8) => Int.ofNat c.toNat) (wordTo t i) = List.map (fun (c : UInt8) => Int.ofNat c.toNat) (wordTo t i) /\ false = false) /\ True) /\ True)) /\ (plainAt t (Int.ofNat i) = true -> bnd (Int.ofNat i) (lenL t) /\ ∀ (c : UInt8), nthI t (Int.ofNat i) = some c -> fits (lenL (List.map (fun (c : UInt8) => Int.ofNat c.toNat) (wordTo t i)) + lenL (Int.ofNat c.toNat :: ([] : List Int))) /\ ∃ (j : Nat), j <= List.length t /\ (List.length t).sub j < (List.length t).sub i /\ (t = t /\ (0 : Nat) = 0 /\ wAdd .i64 (Int.ofNat i) (1 : Int) = Int.ofNat j /\ True) /\ ((List.map (fun (c : UInt8) => Int.ofNat c.toNat) (wordTo t i) ++ Int.ofNat c.toNat :: ([] : List Int) = List.map (fun (c : UInt8) => Int.ofNat c.toNat) (wordTo t j) /\ false = false) /\ True) /\ True) /\ (plainAt t (Int.ofNat i) = false -> bnd (Int.ofNat i) (lenL t) /\ ∀ (c : UInt8), nthI t (Int.ofNat i) = some c -> nz (16 : Int) /\ bnd (wQuo .u8 (Int.ofNat c.toNat) (16 : Int)) (lenL (([48, 49, 50, 51, 52, 53, 54, 55, 56, 57, 97, 98, 99, 100, 101, 102] : List UInt8))) /\ ∀ (c_1 : UInt8), nthI (([48, 49, 50, 51, 52, 53, 54, 55, 56, 57, 97, 98, 99, 100, 101, 102] : List UInt8)) (wQuo .u8 (Int.ofNat c.toNat) (16 : Int)) = some c_1 -> bnd (Int.ofNat i) (lenL t) /\ ∀ (c : UInt8), nthI t (Int.ofNat i) = some c -> nz (16 : Int) /\ bnd (wRem (Int.ofNat c.toNat) (16 : Int)) (lenL (([48, 49, 50, 51, 52, 53, 54, 55, 56, 57, 97, 98, 99, 100, 101, 102] : List UInt8))) /\ ∀ (c_2 : UInt8), nthI (([48, 49, 50, 51, 52, 53, 54, 55, 56, 57, 97, 98, 99, 100, 101, 102] : List UInt8)) (wRem (Int.ofNat c.toNat) (16 : Int)) = some c_2 -> fits (lenL (List.map (fun (c : UInt8) => Int.ofNat c.toNat) (wordTo t i)) + lenL ((37 : Int) :: Int.ofNat c_1.toNat :: Int.ofNat c_2.toNat :: ([] : List Int))) /\ ∃ (j : Nat), j <= List.length t /\ (List.length t).sub j < (List.length t).sub i /\ (t = t /\ (0 : Nat) = 0 /\ wAdd .i64 (Int.ofNat i) (1 : Int) = Int.ofNat j /\ True) /\ ((List.map (fun (c : UInt8) => Int.ofNat c.toNat) (wordTo t i) ++ (37 : Int) :: Int.ofNat c_1.toNat :: Int.ofNat c_2.toNat :: ([] : List Int) = List.map (fun (c : UInt8) => Int.ofNat c.toNat) (wordTo t j) /\ false = false) /\ True) /\ True)) /\ (decide (Int.ofNat i < iOf (lenL t)) = false -> (List.map (fun (n : Int) => UInt8.ofNat n.toNat) (List.map (fun (c : UInt8) => Int.ofNat c.toNat) (wordTo t i)), ()) = (word t, ()) /\ () = ()))) (by kernel_rfl) ?_
 simp only [NS, eq_self, ne_eq, forall_const, implies_true, Nat.reduceAdd, Nat.reduceLeDiff, nz, Int.reduceEq, Nat.reduceEqDiff, reduceCtorEq]; try simp only [lenL]
 have hl : List.length t <= 100000000 := hl
 refine ⟨fun h => by unfold Fn.word; rw [if_pos h], fun hne => ⟨⟨0, Nat.zero_le _, rfl, rfl⟩, fun i hi hf => ⟨fun h => ⟨⟨h, fun c hc => ⟨fun h1 => ⟨h, fun c2 hc2 => ?_⟩, fun h1 => pb_low hc h1⟩⟩, fun hp => ⟨h, fun c hc => ⟨?_, i + 1, h, Nat.sub_lt_sub_left h (Nat.lt_succ_self i), inc_in hf hi, word_plain hc hp⟩⟩, fun hp => ⟨h, fun c hc => ?_⟩⟩, fun h => word_end hi h hne⟩⟩⟩
 · rw [hc] at hc2; cases hc2
   refine ⟨fun h2 => ⟨h, fun c3 hc3 => ?_⟩, fun h2 => pb_high hc h2⟩
   rw [hc] at hc3; cases hc3
   refine ⟨fun h3 => ⟨h, fun c4 hc4 => ?_⟩, fun h3 => pb_pct hc h3⟩
   rw [hc] at hc4; cases hc4
   exact ⟨fun h4 => pb_dash hc h1 h2 h3 h4, fun h4 => pb_ok hc h1 h2 h3 h4⟩
 · have := wordTo_len t i
   show (List.map (fun c : UInt8 => Int.ofNat c.toNat) (wordTo t i)).length + 1 < 1099511627776
   rw [List.length_map]; omega
 · have hb := c.toNat_lt
   simp only [hex_quo, hex_rem]
   refine ⟨bnd_nat (by show c.toNat / 16 < 16; omega), fun a ha => ⟨h, fun c2 hc2 => ?_⟩⟩
   rw [hc] at hc2; cases hc2
   refine ⟨bnd_nat (by show c.toNat % 16 < 16; omega), fun b hb2 => ⟨?_, i + 1, h, Nat.sub_lt_sub_left h (Nat.lt_succ_self i), inc_in hf hi, word_hex hc hp (hexD_at ha) (hexD_at hb2)⟩⟩
   have := wordTo_len t i
   show (List.map (fun c : UInt8 => Int.ofNat c.toNat) (wordTo t i)).length + 3 < 1099511627776
   rw [List.length_map]; omega
end Go.Proofs.YtkdnelaoagmeaaaDoor
namespace Go.Proofs.YtkdnelaoagmeaaaDoor
open Go.Ab Go.Fn
theorem fo_bodyWord : FO 36 s_word := by
 refine fo (specs := [(51, s_within)]) (clos := []) (fun x => [(5, .lv [0, 3, 10, 11] <| fun _ => L_hex 11 x.1), (1000008, .lv [0, 3, 5, 10, 11, 32] <| .ofCut fun s => [(32, .d .bool (!(Fn.plainAt x.1 (s.tI 4))))])]) ⟨fo_within, trivial⟩ trivial Tryd.func36 rfl rfl ?_
 rintro ⟨t, ⟨⟩⟩ hl
 refine vcOf (((t == ([] : List UInt8)) = true -> (([45] : List UInt8), ()) = (word t, ()) /\ () = ()) /\ ((t == ([] : List UInt8)) = false -> fits (lenL t) -> (∃ (i : Nat), i <= List.length t /\ (t = t /\ 0 = (0 : Nat) /\ iOf (lenL t) = iOf (lenL t) /\ (0 : Int) = Int.ofNat i /\ True) /\ ((([] : List Int) = List.map (fun (c : UInt8) => Int.ofNat c.toNat) (wordTo t i) /\ false = false) /\ True) /\ True) /\ ∀ (i : Nat), i <= List.length t -> (decide (Int.ofNat i < iOf (lenL t)) = true -> bnd (Int.ofNat i) (lenL t) /\ ∀ (c : UInt8), nthI t (Int.ofNat i) = some c -> (true = true /\ True /\ ((!within (IntKind.i64.wrap (Int.ofNat c.toNat)) (33 : Int) (126 : Int)) = false -> ((Int.ofNat c.toNat == (37 : Int)) = false -> ((Int.ofNat c.toNat == (45 : Int)) = true -> (t = t /\ (0 : Nat) = 0 /\ Int.ofNat c.toNat = Int.ofNat c.toNat /\ iOf (lenL t) = iOf (lenL t) /\ Int.ofNat i = Int.ofNat i /\ (Int.ofNat i == (0 : Int)) = !plainAt t (Int.ofNat i) /\ True) /\ ((List.map (fun (c : UInt8) => Int.ofNat c.toNat) (wordTo t i) = List.map (fun (c : UInt8) => Int.ofNat c.toNat) (wordTo t i) /\ false = false) /\ True) /\ True) /\ ((Int.ofNat c.toNat == (45 : Int)) = false -> (t = t /\ (0 : Nat) = 0 /\ Int.ofNat c.toNat = Int.ofNat c.toNat /\ iOf (lenL t) = iOf (lenL t) /\ Int.ofNat i = Int.ofNat i /\ false = !plainAt t (Int.ofNat i) /\ True) /\ ((List.map (fun (c : UInt8) => Int.ofNat c.toNat) (wordTo t i) = List.map (fun (c : UInt8) => Int.ofNat c.toNat) (wordTo t i) /\ false = false) /\ True) /\ True)) /\ ((Int.ofNat c.toNat == (37 : Int)) = true -> (t = t /\ (0 : Nat) = 0 /\ Int.ofNat c.toNat = Int.ofNat c.toNat /\ iOf (lenL t) = iOf (lenL t) /\ Int.ofNat i = Int.ofNat i /\ true = !plainAt t (Int.ofNat i) /\ True) /\ ((List.map (fun (c : UInt8) => Int.ofNat c.toNat) (wordTo t i) = List.map (fun (c : UInt8) => Int.ofNat c.toNat) (wordTo t i) /\ false = false) /\ True) /\ True)) /\ ((!within (IntKind.i64.wrap (Int.ofNat c.toNat)) (33 : Int) (126 : Int)) = true -> (t = t /\ (0 : Nat) = 0 /\ Int.ofNat c.toNat = Int.ofNat c.toNat /\ iOf (lenL t) = iOf (lenL t) /\ Int.ofNat i = Int.ofNat i /\ true = !plainAt t (Int.ofNat i) /\ True) /\ ((List.map (fun (c : UInt8) => Int.ofNat c.toNat) (wordTo t i) = List.map (fun (c : UInt8) => Int.ofNat c.toNat) (wordTo t i) /\ false = false) /\ True) /\ True)) /\ ((!plainAt t (Int.ofNat i)) = true -> shOK (4 : Int) /\ bnd (wShr .u8 (Int.ofNat c.toNat) (4 : Int)) (lenL (([48, 49, 50, 51, 52, 53, 54, 55, 56, 57, 97, 98, 99, 100, 101, 102] : List UInt8))) /\ ∀ (c_1 : UInt8), nthI (([48, 49, 50, 51, 52, 53, 54, 55, 56, 57, 97, 98, 99, 100, 101, 102] : List UInt8)) (wShr .u8 (Int.ofNat c.toNat) (4 : Int)) = some c_1 -> bnd (wBits BinOp.and IntKind.u8 (Int.ofNat c.toNat) (15 : Int)) (lenL (([48, 49, 50, 51, 52, 53, 54, 55, 56, 57, 97, 98, 99, 100, 101, 102] : List UInt8))) /\ ∀ (c_2 : UInt8), nthI (([48, 49, 50, 51, 52, 53, 54, 55, 56, 57, 97, 98, 99, 100, 101, 102] : List UInt8)) (wBits BinOp.and IntKind.u8 (Int.ofNat c.toNat) (15 : Int)) = some c_2 -> fits (lenL (List.map (fun (c : UInt8) => Int.ofNat c.toNat) (wordTo t i)) + lenL ((37 : Int) :: Int.ofNat c_1.toNat :: Int.ofNat c_2.toNat :: ([] : List Int))) /\ ∃ (j : Nat), j <= List.length t /\ (List.length t).sub j < (List.length t).sub i /\ (t = t /\ (0 : Nat) = 0 /\ iOf (lenL t) = iOf (lenL t) /\ wAdd .i64 (Int.ofNat i) (1 : Int) = Int.ofNat j /\ True) /\ ((List.map (fun (c : UInt8) => Int.ofNat c.toNat) (wordTo t i) ++ (37 : Int) :: Int.ofNat c_1.toNat :: Int.ofNat c_2.toNat :: ([] : List Int) = List.map (fun (c : UInt8) => Int.ofNat c.toNat) (wordTo t j) /\ false = false) /\ True) /\ True) /\ ((!plainAt t (Int.ofNat i)) = false -> fits (lenL (List.map (fun (c : UInt8) => Int.ofNat c.toNat) (wordTo t i)) + lenL (Int.ofNat c.toNat :: ([] : List Int))) /\ ∃ (j : Nat), j <= List.length t /\ (List.length t).sub j < (List.length t).sub i /\ (t = t /\ (0 : Nat) = 0 /\ iOf (lenL t) = iOf (lenL t) /\ wAdd .i64 (Int.ofNat i) (1 : Int) = Int.ofNat j /\ True) /\ ((List.map (fun (c : UInt8) => Int.ofNat c.toNat) (wordTo t i) ++ Int.ofNat c.toNat :: ([] : List Int) = List.map (fun (c : UInt8) => Int.ofNat c.toNat) (wordTo t j) /\ false = false) /\ True) /\ True)) /\ (decide (Int.ofNat i < iOf (lenL t)) = false -> (List.map (fun (n : Int) => UInt8.ofNat n.toNat) (List.map (fun (c : UInt8) => Int.ofNat c.toNat) (wordTo t i)), ()) = (word t, ()) /\ () = ()))) (by kernel_rfl) ?_
 simp only [NS, eq_self, ne_eq, forall_const, implies_true, Nat.reduceAdd, Nat.reduceLeDiff, nz, Int.reduceEq, Nat.reduceEqDiff, reduceCtorEq]; try simp only [lenL]
 have hl : List.length t <= 100000000 := hl
 refine ⟨fun h => by unfold Fn.word; rw [if_pos h], fun hne hf => ⟨⟨0, Nat.zero_le _, rfl, rfl⟩, fun i hi => ⟨fun h => ⟨h, fun c hc => ⟨⟨fun hw => ?_, fun hw => by rw [<- out_33 hc hw]; rfl⟩, fun hp => ?_, fun hp => ⟨?_, i + 1, h, Nat.sub_lt_sub_left h (Nat.lt_succ_self i), inc_in hf hi, word_plain hc hp⟩⟩⟩, fun h => word_end hi h hne⟩⟩⟩
 · obtain ⟨h1, h2⟩ := in_33 hw
   refine ⟨fun h3 => ⟨fun h4 => ?_, fun h4 => by rw [<- pb_ok hc h1 h2 h3 h4]; rfl⟩, fun h3 => by rw [<- pb_pct hc h3]; rfl⟩
   rw [<- pb_dash hc h1 h2 h3 h4]
   cases i with
   | zero => rfl
   | succ i => simp; omega
 · have hb := c.toNat_lt
   simp only [hex_shr, hex_and]
   refine ⟨by show (0 : Int) <= 4; decide, bnd_nat (by show c.toNat / 16 < 16; omega), fun a ha => ⟨bnd_nat (by show c.toNat % 16 < 16; omega), fun b hb2 => ⟨?_, i + 1, h, Nat.sub_lt_sub_left h (Nat.lt_succ_self i), inc_in hf hi, word_hex hc hp (hexD_at ha) (hexD_at hb2)⟩⟩⟩
   have := wordTo_len t i
   show (List.map (fun c : UInt8 => Int.ofNat c.toNat) (wordTo t i)).length + 3 < 1099511627776
   rw [List.length_map]; omega
 · have := wordTo_len t i
   show (List.map (fun c : UInt8 => Int.ofNat c.toNat) (wordTo t i)).length + 1 < 1099511627776
   rw [List.length_map]; omega
end Go.Proofs.YtkdnelaoagmeaaaDoor
namespace Go.Proofs.YtkdnelaoagmeaaaDoor
open Go.Ab Go.Fn
def s_recT : FSpec := { ps := [.v tRec], rs := [.v .str], pre := fun x => Fn.recFault x.1 = 0, fn := fun x => (Fn.recT x.1, ()), upd := fun _ => () }
end Go.Proofs.YtkdnelaoagmeaaaDoor
namespace Go.Proofs.YtkdnelaoagmeaaaDoor
open Go.Ab Go.Fn
theorem ft_recordText : FT 21 s_recT := by
 refine foT (specs := [(35, s_said), (36, s_word)]) (clos := []) (fun x => []) ⟨ft_said, toT fo_bodyWord, trivial⟩ trivial Tryd.func21 rfl rfl ?_
 rintro ⟨⟨k, p, b, m, o, ⟨⟩⟩, ⟨⟩⟩ hr
 refine vcOf (1 <= (5) /\ ((k == (1 : Int)) = true -> 2 <= (5) /\ 4 <= (5) /\ 3 <= (5) /\ true = true /\ List.length b <= (100000000 : Nat) /\ true = true /\ saidOK (AnyV.s (([102, 105, 108, 101] : List UInt8)) :: AnyV.s p :: AnyV.n m :: AnyV.s (word b) :: ([] : List AnyV)) /\ (said (AnyV.s (([102, 105, 108, 101] : List UInt8)) :: AnyV.s p :: AnyV.n m :: AnyV.s (word b) :: ([] : List AnyV)), ()) = (recT (k, p, b, m, o, ()), ()) /\ () = ()) /\ ((k == (1 : Int)) = false -> 1 <= (5) /\ ((k == (2 : Int)) = true -> 2 <= (5) /\ 3 <= (5) /\ true = true /\ List.length b <= (100000000 : Nat) /\ true = true /\ saidOK (AnyV.s (([108, 105, 110, 107] : List UInt8)) :: AnyV.s p :: AnyV.s (word b) :: ([] : List AnyV)) /\ (said (AnyV.s (([108, 105, 110, 107] : List UInt8)) :: AnyV.s p :: AnyV.s (word b) :: ([] : List AnyV)), ()) = (recT (k, p, b, m, o, ()), ()) /\ () = ()) /\ ((k == (2 : Int)) = false -> 1 <= (5) /\ ((k == (4 : Int)) = true -> 2 <= (5) /\ true = true /\ saidOK (AnyV.s (([119, 104, 105, 116, 101] : List UInt8)) :: AnyV.s p :: ([] : List AnyV)) /\ (said (AnyV.s (([119, 104, 105, 116, 101] : List UInt8)) :: AnyV.s p :: ([] : List AnyV)), ()) = (recT (k, p, b, m, o, ()), ()) /\ () = ()) /\ ((k == (4 : Int)) = false -> 5 <= (5) /\ (o = true -> 2 <= (5) /\ 4 <= (5) /\ true = true /\ saidOK (AnyV.s (([111, 112, 97, 113, 117, 101] : List UInt8)) :: AnyV.s p :: AnyV.n m :: ([] : List AnyV)) /\ (said (AnyV.s (([111, 112, 97, 113, 117, 101] : List UInt8)) :: AnyV.s p :: AnyV.n m :: ([] : List AnyV)), ()) = (recT (k, p, b, m, o, ()), ()) /\ () = ()) /\ (o = false -> 2 <= (5) /\ 4 <= (5) /\ true = true /\ saidOK (AnyV.s (([100, 105, 114] : List UInt8)) :: AnyV.s p :: AnyV.n m :: ([] : List AnyV)) /\ (said (AnyV.s (([100, 105, 114] : List UInt8)) :: AnyV.s p :: AnyV.n m :: ([] : List AnyV)), ()) = (recT (k, p, b, m, o, ()), ()) /\ () = ()))))) (by kernel_rfl) ?_
 simp only [NS, eq_self, ne_eq, forall_const, implies_true, Nat.reduceAdd, Nat.reduceLeDiff, nz, Int.reduceEq, Nat.reduceEqDiff, reduceCtorEq]; try simp only [lenL]
 have hr : recFault (k, p, b, m, o, ()) = 0 := hr
 obtain ⟨hp, h8, -, h4, -⟩ := rec_ok hr
 have lp := path_len hp
 have lb := body_len h8
 have hm := mode_in h4
 have hi : inI m := by unfold inI; omega
 have hit := itoa_len hi
 have hw := word_len (t := b)
 refine ⟨fun h => ?_, fun h1 => ⟨fun h => ?_, fun h2 => ⟨fun h => ?_, fun h3 => ⟨fun h => ?_, fun h => ?_⟩⟩⟩⟩
 · subst h
   exact ⟨by omega, sok_ssns (by decide) (by omega) hi (by omega), rfl⟩
 · subst h
   exact ⟨by omega, sok_sss (by decide) (by omega) (by omega), rfl⟩
 · subst h
   exact ⟨sok_ss (by decide) (by omega), rfl⟩
 · subst h
   exact ⟨sok_ssn (by decide) (by omega) hi, (rt_opq h1 h2 h3).symm⟩
 · have h : o = false := by cases o <;> simp_all
   subst h
   exact ⟨sok_ssn (by decide) (by omega) hi, (rt_dir h1 h2 h3).symm⟩
end Go.Proofs.YtkdnelaoagmeaaaDoor
namespace Go.Fn
open Go.Ab
def digV (c : UInt8) : Int := if 48 <= c.toNat /\ c.toNat <= 57 then (c.toNat : Int) - 48 else if 97 <= c.toNat /\ c.toNat <= 102 then (c.toNat : Int) - 87 else -1
def hexV (a b : UInt8) : UInt8 := UInt8.ofNat (16 * (digV a).toNat + (digV b).toNat)
def unF : List UInt8 -> Option (List UInt8)
 | [] => some []
 | c :: r => if c = 37 then (match r with
   | a :: b :: r' => if digV a < 0 ∨ digV b < 0 then none else (unF r').map (hexV a b :: ·)
   | _ => none) else (unF r).map (c :: ·)
def bodyF : Nat -> List UInt8 -> List UInt8
 | 0, _ => []
 | _ + 1, [] => []
 | n + 1, c :: r => if c = 37 then (match r with
   | a :: b :: r' => hexV a b :: bodyF n r'
   | _ => c :: bodyF n r) else c :: bodyF n r
def wordR : List UInt8 -> Nat -> List UInt8
 | [], _ => []
 | c :: r, i => wordB c i ++ wordR r (i + 1)
theorem wordTo_drop (t : List UInt8) : ∀ (k : Nat), k <= t.length -> wordTo t k ++ wordR (t.drop k) k = wordR t 0
 | 0, _ => by simp [wordTo]
 | k + 1, h => by
   rw [<- wordTo_drop t k (Nat.le_of_succ_le h)]
   have hk : t[k]? = some t[k] := List.getElem?_eq_getElem h
   have hd : t.drop k = t[k] :: t.drop (k + 1) := List.drop_eq_getElem_cons h
   rw [hd, wordR, <- List.append_assoc, <- wordTo_at hk]
theorem wordTo_all (t : List UInt8) : wordTo t t.length = wordR t 0 := by
 rw [<- wordTo_drop t t.length (Nat.le_refl _), List.drop_length]
 simp [wordR]
theorem hexD_dig : ∀ n, n < 16 -> digV (hexD n) = n := by decide
theorem hexV_hex (c : UInt8) : hexV (hexD (c.toNat / 16)) (hexD (c.toNat % 16)) = c := by
 have h := c.toNat_lt
 unfold hexV
 rw [hexD_dig _ (by omega), hexD_dig _ (by omega)]
 have : 16 * ((c.toNat / 16 : Nat) : Int).toNat + ((c.toNat % 16 : Nat) : Int).toNat = c.toNat := by omega
 rw [this]
 exact UInt8.ofNat_toNat
theorem plain_pct {c : UInt8} {i : Nat} (h : plainB c i = true) : ¬ c = 37 := by
 intro e
 subst e
 unfold plainB at h
 simp at h
theorem un_plain {c : UInt8} {r : List UInt8} (h : ¬ c = 37) : unF (c :: r) = (unF r).map (c :: ·) := by
 rw [unF.eq_def]
 exact if_neg h
theorem un_pct {a b : UInt8} {r : List UInt8} : unF (37 :: a :: b :: r) = if digV a < 0 ∨ digV b < 0 then none else (unF r).map (hexV a b :: ·) := by
 rw [unF.eq_def]
 exact if_pos rfl
theorem body_plain {n : Nat} {c : UInt8} {r : List UInt8} (h : ¬ c = 37) : bodyF (n + 1) (c :: r) = c :: bodyF n r := by
 rw [bodyF.eq_def]
 exact if_neg h
theorem body_pct {n : Nat} {a b : UInt8} {r : List UInt8} : bodyF (n + 1) (37 :: a :: b :: r) = hexV a b :: bodyF n r := by
 rw [bodyF.eq_def]
 exact if_pos rfl
theorem un_word (c : UInt8) (i : Nat) (r : List UInt8) : unF (wordB c i ++ r) = (unF r).map (c :: ·) := by
 unfold wordB
 split
 · rename_i hp
   show unF (c :: r) = _
   rw [un_plain (plain_pct hp)]
 · unfold hexB
   show unF (37 :: hexD (c.toNat / 16) :: hexD (c.toNat % 16) :: r) = _
   have h := c.toNat_lt
   rw [un_pct, if_neg (by rw [hexD_dig _ (by omega), hexD_dig _ (by omega)]; omega), hexV_hex]
theorem un_wordR : ∀ (t : List UInt8) (i : Nat), unF (wordR t i) = some t
 | [], _ => rfl
 | c :: r, i => by rw [wordR, un_word, un_wordR r (i + 1)]; rfl
theorem body_word (n : Nat) (c : UInt8) (i : Nat) (r : List UInt8) : bodyF (n + 1) (wordB c i ++ r) = c :: bodyF n r := by
 unfold wordB
 split
 · rename_i hp
   show bodyF (n + 1) (c :: r) = _
   rw [body_plain (plain_pct hp)]
 · unfold hexB
   show bodyF (n + 1) (37 :: hexD (c.toNat / 16) :: hexD (c.toNat % 16) :: r) = _
   rw [body_pct, hexV_hex]
theorem body_wordR : ∀ (t : List UInt8) (i n : Nat), t.length <= n -> bodyF n (wordR t i) = t
 | [], _, 0, _ => rfl
 | [], _, n + 1, _ => rfl
 | c :: r, i, 0, h => by simp at h
 | c :: r, i, n + 1, h => by rw [wordR, body_word, body_wordR r (i + 1) n (by simpa using h)]
def unW (w : List UInt8) : Option (List UInt8) := if w = [45] then some [] else match unF w with
 | some b => if word b = w then some b else none
 | none => none
def bodyW (w : List UInt8) : List UInt8 := if w = [45] then [] else bodyF 21 w
theorem wordR_ne {t : List UInt8} (h : ¬ t = []) : ¬ wordR t 0 = [45] /\ ¬ wordR t 0 = [] := by
 cases t with
 | nil => exact absurd rfl h
 | cons c r =>
   rw [wordR]
   unfold wordB
   split
   · rename_i hp
     refine ⟨fun e => ?_, by simp⟩
     have : c = 45 := by simpa using congrArg (fun l => l.getD 0 0) e
     subst this
     unfold plainB at hp
     simp at hp
   · unfold hexB
     refine ⟨fun e => ?_, by simp⟩
     have := congrArg (fun l => l.getD 0 0) e
     simp at this
theorem word_eq (t : List UInt8) : word t = if t = [] then [45] else wordR t 0 := by unfold word; rw [wordTo_all]
theorem un_of_word (t : List UInt8) : unW (word t) = some t := by
 rw [word_eq]
 split
 · rename_i h; subst h; rfl
 · rename_i h
   unfold unW
   rw [if_neg (wordR_ne h).1, un_wordR]
   simp only
   rw [word_eq, if_neg h, if_pos rfl]
theorem body_of_word {t : List UInt8} (h : t.length <= 20) : bodyW (word t) = t := by
 rw [word_eq]
 split
 · rename_i h; subst h; rfl
 · rename_i hn
   unfold bodyW
   rw [if_neg (wordR_ne hn).1, body_wordR _ _ _ (by omega)]
theorem word_of_un {w b : List UInt8} (h : unW w = some b) : word b = w := by
 unfold unW at h
 split at h
 · rename_i e; cases h; rw [e]; rfl
 · split at h
   · split at h
     · cases h; assumption
     · cases h
   · cases h
end Go.Fn
namespace Go.Fn
open Go.Ab
def valD : List UInt8 -> Nat -> Option Nat
 | [], n => some n
 | c :: r, n => if c.toNat < 48 ∨ 57 < c.toNat then none else valD r (n * 10 + (c.toNat - 48))
def numF : List UInt8 -> Option Int
 | [] => none
 | c :: r => if c = 45 then (if r = [] ∨ 18 < r.length ∨ r.head? = some 48 then none else (valD r 0).map fun n : Nat => -(n : Int))
   else if 18 < r.length + 1 ∨ (c = 48 /\ ¬ r = []) then none else (valD (c :: r) 0).map fun n : Nat => (n : Int)
theorem valD_ge : ∀ {r : List UInt8} {n v : Nat}, valD r n = some v -> n * 10 ^ r.length <= v
 | [], n, v, h => by cases h; simp
 | c :: r, n, v, h => by
   rw [valD] at h
   split at h
   · cases h
   · have := valD_ge h
     rw [List.length_cons, Nat.pow_succ]
     have e : n * (10 ^ r.length * 10) = n * 10 * 10 ^ r.length := by rw [Nat.mul_comm (10 ^ r.length) 10, Nat.mul_assoc]
     rw [e]
     exact Nat.le_trans (Nat.mul_le_mul_right _ (Nat.le_add_right _ _)) this
def dg (n : Nat) : UInt8 := UInt8.ofNat (48 + n)
theorem dg_nat {n : Nat} (h : n < 10) : (dg n).toNat = 48 + n := by
 unfold dg
 rw [UInt8.toNat_ofNat_of_lt' (by show 48 + n < 256; omega)]
theorem dg_of {c : UInt8} (h : ¬ (c.toNat < 48 ∨ 57 < c.toNat)) : dg (c.toNat - 48) = c := by
 apply UInt8.toNat_inj.1
 rw [dg_nat (by omega)]
 omega
def itoa3 (m : Nat) : List UInt8 := if m < 10 then [dg m] else if m < 100 then [dg (m / 10), dg (m % 10)] else [dg (m / 10 / 10), dg (m / 10 % 10), dg (m % 10)]
theorem itoa3_eq {m : Nat} (h : m < 1000) : itoaS (m : Int) = itoa3 m := by
 unfold itoaS Lib.itoa itoa3
 rw [if_neg (by omega)]
 rw [Int.toNat_natCast]
 split
 · rename_i h1; exact Lib.decDigits_one h1
 · rename_i h1
   split
   · rename_i h2; exact Lib.decDigits_two h1 h2
   · rename_i h2
     rw [Lib.decDigits, dif_neg h1, Lib.decDigits_two (by omega) (by omega)]
     rfl
theorem digit_ok {n : Nat} (h : n < 10) : ¬ ((dg n).toNat < 48 ∨ 57 < (dg n).toNat) := by rw [dg_nat h]; omega
theorem dg_45 {n : Nat} (h : n < 10) : ¬ dg n = 45 := fun e => by have := dg_nat h; rw [e] at this; simp at this; omega
theorem dg_48 {n : Nat} (h : n < 10) (h0 : ¬ n = 0) : ¬ dg n = 48 := fun e => by have := dg_nat h; rw [e] at this; simp at this; omega
theorem num_itoa {m : Nat} (h : m < 1000) : numF (itoa3 m) = some (m : Int) := by
 unfold itoa3
 split
 · rename_i h1
   rw [numF]
   rw [if_neg (dg_45 h1), if_neg (by simp)]
   simp only [valD]
   rw [if_neg (digit_ok h1), dg_nat h1]
   simp
 · rename_i h1
   split
   · rename_i h2
     have a1 : m / 10 < 10 := by omega
     have a2 : m % 10 < 10 := by omega
     rw [numF]
     rw [if_neg (dg_45 a1), if_neg (by have := dg_48 a1 (by omega); simp [this])]
     simp only [valD]
     rw [if_neg (digit_ok a1), if_neg (digit_ok a2), dg_nat a1, dg_nat a2]
     simp only [Option.map_some, Option.some.injEq]
     omega
   · rename_i h2
     have a0 : m / 10 / 10 < 10 := by omega
     have a1 : m / 10 % 10 < 10 := by omega
     have a2 : m % 10 < 10 := by omega
     rw [numF]
     rw [if_neg (dg_45 a0), if_neg (by have := dg_48 a0 (by omega); simp [this])]
     simp only [valD]
     rw [if_neg (digit_ok a0), if_neg (digit_ok a1), if_neg (digit_ok a2), dg_nat a0, dg_nat a1, dg_nat a2]
     simp only [Option.map_some, Option.some.injEq]
     omega
theorem itoa_num {w : List UInt8} {m : Nat} (h : numF w = some (m : Int)) (hm : m < 1000) : w = itoa3 m := by
 cases w with
 | nil => cases h
 | cons c r =>
   rw [numF] at h
   split at h
   · rename_i hc
     split at h
     · cases h
     · rename_i hr
       exfalso
       cases r with
       | nil => exact hr (.inl rfl)
       | cons d s =>
         cases hv : valD (d :: s) 0 with
         | none => rw [hv] at h; cases h
         | some v =>
           rw [hv] at h
           simp only [Option.map_some, Option.some.injEq] at h
           have hd : ¬ d = 48 := fun e => hr (.inr (.inr (by rw [e]; rfl)))
           rw [valD] at hv
           split at hv
           · cases hv
           · rename_i hdig
             have h1 := valD_ge hv
             have h2 : ¬ d.toNat = 48 := fun e => hd (UInt8.toNat_inj.1 e)
             have h3 : 0 < 10 ^ s.length := Nat.pow_pos (by decide)
             have h4 : 1 * 10 ^ s.length <= (0 * 10 + (d.toNat - 48)) * 10 ^ s.length := Nat.mul_le_mul_right _ (by omega)
             omega
   · rename_i hc
     split at h
     · cases h
     · rename_i hl
       cases hv : valD (c :: r) 0 with
       | none => rw [hv] at h; cases h
       | some v =>
         rw [hv] at h
         simp only [Option.map_some, Option.some.injEq] at h
         have hvm : v = m := by omega
         subst hvm
         rw [valD] at hv
         split at hv
         · cases hv
         · rename_i hdc
           have ec := dg_of hdc
           match r, hv, hl with
           | [], hv, _ =>
             simp only [valD, Option.some.injEq] at hv
             unfold itoa3
             rw [if_pos (by omega), <- hv]
             simp [ec]
           | [d], hv, hl =>
             have hc0 : ¬ c.toNat = 48 := fun e => hl (.inr ⟨UInt8.toNat_inj.1 e, by simp⟩)
             simp only [valD] at hv
             split at hv
             · cases hv
             · rename_i hdd
               have ed := dg_of hdd
               simp only [Option.some.injEq] at hv
               unfold itoa3
               rw [if_neg (by omega), if_pos (by omega), show v / 10 = c.toNat - 48 by omega, show v % 10 = d.toNat - 48 by omega, ec, ed]
           | [d, e], hv, hl =>
             have hc0 : ¬ c.toNat = 48 := fun e => hl (.inr ⟨UInt8.toNat_inj.1 e, by simp⟩)
             simp only [valD] at hv
             split at hv
             · cases hv
             · rename_i hdd
               split at hv
               · cases hv
               · rename_i hde
                 have ed := dg_of hdd
                 have ee := dg_of hde
                 simp only [Option.some.injEq] at hv
                 unfold itoa3
                 rw [if_neg (by omega), if_neg (by omega), show v / 10 / 10 = c.toNat - 48 by omega, show v / 10 % 10 = d.toNat - 48 by omega, show v % 10 = e.toNat - 48 by omega, ec, ed, ee]
           | d :: e :: f :: s, hv, hl =>
             exfalso
             have hc0 : ¬ c.toNat = 48 := fun e => hl (.inr ⟨UInt8.toNat_inj.1 e, by simp⟩)
             have h1 := valD_ge hv
             simp only [List.length_cons] at h1
             have h3 : 0 < 10 ^ s.length := Nat.pow_pos (by decide)
             have h5 : 10 ^ (s.length + 1 + 1 + 1) = 1000 * 10 ^ s.length := by rw [Nat.pow_succ, Nat.pow_succ, Nat.pow_succ]; omega
             have h4 : 1 * 10 ^ (s.length + 1 + 1 + 1) <= (0 * 10 + (c.toNat - 48)) * 10 ^ (s.length + 1 + 1 + 1) := Nat.mul_le_mul_right _ (by omega)
             omega
end Go.Fn
namespace Go.Fn
open Go.Ab
def drop (n : List UInt8) (l : List Slot) : List Slot := l.filter (fun s => !(nameIs n s))
theorem del_none {α : Type} {p : α -> Bool} {xs : List α} (h : idx p xs = -1) : xs = xs.filter (fun x => !(p x)) := by
 symm
 rw [List.filter_eq_self]
 intro x hx
 unfold idx at h
 cases hf : xs.findIdx? p with
 | none => rw [List.findIdx?_eq_none_iff] at hf; simp [hf x hx]
 | some k => rw [hf] at h; cases h
end Go.Fn
namespace Go.Fn
open Go.Ab
def lessL : List (List UInt8) -> List (List UInt8) -> Bool
 | [], [] => false
 | [], _ :: _ => true
 | _ :: _, [] => false
 | x :: v, y :: w => if x = y then lessL v w else Op.bytesLess x y
def pathLess (a b : List UInt8) : Bool := pathOK a && (pathOK b && lessL (split 47 a) (split 47 b))
end Go.Fn
namespace Go.Fn
open Go.Ab
def lastI (c : UInt8) : List UInt8 -> Int
 | [] => -1
 | x :: r => if lastI c r ≥ 0 then lastI c r + 1 else if x = c then 0 else -1
def lastS (t u : List UInt8) : Int := match u with | [c] => lastI c t | _ => 0
def parentS (t : List UInt8) : List UInt8 := subL t 0 (lastI 47 t).toNat
end Go.Fn
namespace Go.Fn
open Go.Ab
def hasPre (s p : List UInt8) : Bool := decide (p.length <= s.length) && decide (s.take p.length = p)
end Go.Fn
namespace Go.Fn
open Go.Ab
def atPath (p : List UInt8) (r : Rec) : Bool := decide (r.2.1 = p)
end Go.Fn
namespace Go.Fn
open Go.Ab
def recAt (l : List Rec) (i : Nat) : Rec := l.getD i rec0
def upOf (l : List Rec) (i : Nat) : Int := if parentS (recAt l i).2.1 = [] then 0 else idx (atPath (parentS (recAt l i).2.1)) (l.take i)
def sameB (l : List Rec) (i : Int) : Bool := decide (i > 0) && decide ((recAt l (i.toNat - 1)).2.1 = (recAt l i.toNat).2.1)
def orderB (l : List Rec) (i : Int) : Bool := decide (i > 0) && !(pathLess (recAt l (i.toNat - 1)).2.1 (recAt l i.toNat).2.1)
def dirB (l : List Rec) (i : Int) : Bool := !(decide (parentS (recAt l i.toNat).2.1 = [])) && !(decide ((recAt l (upOf l i.toNat).toNat).1 = 3))
def faultAt (l : List Rec) (i : Nat) : Int := if 16 <= i then 6 else if ¬ recFault (recAt l i) = 0 then recFault (recAt l i) else if sameB l (Int.ofNat i) = true then 18 else if orderB l (Int.ofNat i) = true then 11 else if upOf l i < 0 then 12 else if dirB l (Int.ofNat i) = true then 13 else 0
def okL (l : List Rec) : Prop := ∀ r ∈ l, r.2.1.length <= 100000000
end Go.Fn
namespace Go.Fn
open Go.Ab
def stepBad (t : List UInt8) (k : Nat) : Bool := decide (decL (t.drop k) = 0) || decide (t.length < k + decL (t.drop k) + 2)
def stepSum (t : List UInt8) (k : Nat) : Bool := decide (subL t (k + decL (t.drop k)) (k + decL (t.drop k) + 2) = two (sum (subL t k (k + decL (t.drop k)))))
def readL (t : List UInt8) : Nat -> List Rec -> Nat -> List Rec × Int × Int
 | 0, out, k => if ¬ t.length = k + 2 then ([], Int.ofNat k, 3) else if ¬ t.drop k = two (sum (t.take k)) then ([], Int.ofNat k, 15) else (out, 0, 0)
 | n + 1, out, k => if stepBad t k = true then ([], Int.ofNat k, 3) else if stepSum t k = false then ([], Int.ofNat k, 15)
   else if ¬ faultAt (out ++ [decR (t.drop k)]) out.length = 0 then ([], Int.ofNat k, faultAt (out ++ [decR (t.drop k)]) out.length)
   else readL t n (out ++ [decR (t.drop k)]) (k + decL (t.drop k) + 2)
def headBad (t : List UInt8) : Bool := decide (t.length < 4) || !(hasPre t [76, 89, 82])
def whole (t : List UInt8) : List Rec × Int × Int := if headBad t = true then ([], 0, 3) else readL t (byteN t 3) [] 4
theorem sub_all {α : Type} {l : List α} {k : Nat} : subL l k l.length = l.drop k := by unfold subL; rw [List.take_length]
end Go.Fn
namespace Go.Fn
open Go.Ab
theorem split_no (c : UInt8) : ∀ (t x : List UInt8), x ∈ split c t -> ∀ b ∈ x, ¬ b = c
 | [], x, h, b, hb => by
   simp only [split, List.mem_singleton] at h
   subst h; cases hb
 | a :: r, x, h, b, hb => by
   rw [split_cons] at h
   split at h
   · rcases List.mem_cons.1 h with rfl | h
     · cases hb
     · exact split_no c r x h b hb
   · rename_i ha
     cases hs : split c r with
     | nil => have := split_pos c r; rw [hs] at this; cases this
     | cons y ys =>
       rw [hs] at h
       rcases List.mem_cons.1 h with rfl | h
       · rcases List.mem_append.1 hb with hb | hb
         · rw [List.mem_singleton.1 hb]; exact ha
         · exact split_no c r y (by rw [hs]; exact List.mem_cons_self ..) b hb
       · exact split_no c r x (by rw [hs]; exact List.mem_cons_of_mem _ h) b hb
theorem split_plain {c : UInt8} : ∀ {x : List UInt8}, (∀ b ∈ x, ¬ b = c) -> split c x = [x]
 | [], _ => rfl
 | a :: r, h => by
   rw [split_cons, if_neg (h a (List.mem_cons_self ..)), split_plain (fun b hb => h b (List.mem_cons_of_mem _ hb))]; rfl
theorem split_sep {c : UInt8} {s : List UInt8} : ∀ {x : List UInt8}, (∀ b ∈ x, ¬ b = c) -> split c (x ++ c :: s) = x :: split c s
 | [], _ => by show split c (c :: s) = _; rw [split_cons, if_pos rfl]
 | a :: r, h => by
   show split c (a :: (r ++ c :: s)) = _
   rw [split_cons, if_neg (h a (List.mem_cons_self ..)), split_sep (fun b hb => h b (List.mem_cons_of_mem _ hb))]; rfl
theorem joinS_cons2 (x y : List UInt8) (r : List (List UInt8)) : joinS (x :: y :: r) [32] = x ++ 32 :: joinS (y :: r) [32] := by
 unfold joinS
 rw [Lib.join_cons, Lib.join_cons]
 simp [Lib.joinTail]
theorem split_joinS : ∀ {l : List (List UInt8)}, ¬ l = [] -> (∀ x ∈ l, ∀ b ∈ x, ¬ b = 32) -> split 32 (joinS l [32]) = l
 | [], h, _ => absurd rfl h
 | [x], _, h => by
   unfold joinS
   rw [Lib.join_one]
   exact split_plain (h x (List.mem_cons_self ..))
 | x :: y :: r, _, h => by
   rw [joinS_cons2, split_sep (h x (List.mem_cons_self ..)), split_joinS (by simp) (fun z hz => h z (List.mem_cons_of_mem _ hz))]
theorem joinS_inj {l w : List (List UInt8)} (hl : ¬ l = []) (hw : ¬ w = []) (nl : ∀ x ∈ l, ∀ b ∈ x, ¬ b = 32) (nw : ∀ x ∈ w, ∀ b ∈ x, ¬ b = 32) (h : joinS l [32] = joinS w [32]) : l = w := by
 rw [<- split_joinS hl nl, h, split_joinS hw nw]
def wordsS (t : List UInt8) : List (List UInt8) := (split 32 t).filter (fun s => !(decide (s = [])))
theorem words_no {t x : List UInt8} (h : x ∈ wordsS t) : ∀ b ∈ x, ¬ b = 32 := split_no 32 t x (List.mem_filter.1 h).1
end Go.Fn
namespace Go.Fn
open Go.Ab
def kFile : List UInt8 := [102, 105, 108, 101]
def kLink : List UInt8 := [108, 105, 110, 107]
def kWhite : List UInt8 := [119, 104, 105, 116, 101]
def kOpq : List UInt8 := [111, 112, 97, 113, 117, 101]
def kDir : List UInt8 := [100, 105, 114]
def wAt (w : List (List UInt8)) (i : Nat) : List UInt8 := w.getD i []
def atoiV (w : List UInt8) : Int := match Lib.atoiAll w with | .ok v => v | Lib.NumEnd.syntax => 0 | .range => Lib.atoiSat w
def recL (w : List (List UInt8)) : Rec :=
 if wAt w 0 = kFile /\ w.length = 4 then (1, wAt w 1, bodyW (wAt w 3), atoiV (wAt w 2), false, ())
 else if wAt w 0 = kLink /\ w.length = 3 then (2, wAt w 1, bodyW (wAt w 2), 0, false, ())
 else if wAt w 0 = kWhite then (4, wAt w 1, [], 0, false, ())
 else if wAt w 0 = kDir ∨ wAt w 0 = kOpq then (3, wAt w 1, [], if 2 < w.length then atoiV (wAt w 2) else 0, decide (wAt w 0 = kOpq), ())
 else (0, wAt w 1, [], 0, false, ())
def laxB (w : List (List UInt8)) : Bool := decide (2 <= w.length) && (decide (recFault (recL w) = 0) && decide (recT (recL w) = joinS w [32]))
def nW (k : List UInt8) : Nat := if k = kFile then 4 else if k = kLink ∨ k = kDir ∨ k = kOpq then 3 else if k = kWhite then 2 else 0
def recR (w : List (List UInt8)) : Option Rec :=
 if wAt w 0 = kFile then (match numF (wAt w 2), unW (wAt w 3) with | some m, some b => some (1, wAt w 1, b, m, false, ()) | _, _ => none)
 else if wAt w 0 = kLink then (match unW (wAt w 2) with | some b => some (2, wAt w 1, b, 0, false, ()) | none => none)
 else if wAt w 0 = kWhite then some (4, wAt w 1, [], 0, false, ())
 else (match numF (wAt w 2) with | some m => some (3, wAt w 1, [], m, decide (wAt w 0 = kOpq), ()) | none => none)
def recS (w : List (List UInt8)) : Option Rec := if w = [] ∨ ¬ w.length = nW (wAt w 0) then none else match recR w with
 | some r => if recFault r = 0 then some r else none
 | none => none
def canW (r : Rec) : List (List UInt8) := if r.1 = 1 then [kFile, r.2.1, itoaS r.2.2.2.1, word r.2.2.1] else if r.1 = 2 then [kLink, r.2.1, word r.2.2.1]
 else if r.1 = 4 then [kWhite, r.2.1] else if r.2.2.2.2.1 = true then [kOpq, r.2.1, itoaS r.2.2.2.1] else [kDir, r.2.1, itoaS r.2.2.2.1]
theorem recT_can (r : Rec) : recT r = joinS (canW r) [32] := by
 unfold recT canW
 split
 · rfl
 · split
   · rfl
   · split
     · rfl
     · split <;> rfl
theorem rec_facts {r : Rec} (h : recFault r = 0) : (r.1 = 1 ∨ r.1 = 2 ∨ r.1 = 3 ∨ r.1 = 4) /\ pathOK r.2.1 = true /\ r.2.2.1.length <= 20 /\ (r.1 = 3 ∨ r.1 = 4 -> r.2.2.1 = []) /\ (¬ r.1 = 3 -> r.2.2.2.2.1 = false) /\ (0 <= r.2.2.2.1 /\ r.2.2.2.1 <= 511) /\ (r.1 = 4 ∨ r.1 = 2 -> r.2.2.2.1 = 0) := by
 obtain ⟨k, p, b, m, o, ⟨⟩⟩ := r
 unfold recFault at h
 split at h
 · cases h
 · rename_i h1
   split at h
   · cases h
   · rename_i h2
     split at h
     · cases h
     · rename_i h3
       split at h
       · cases h
       · rename_i h4
         split at h
         · cases h
         · rename_i h5
           simp only [Bool.not_eq_false, Bool.not_eq_true] at h1 h2 h3 h4 h5
           unfold within at h1
           unfold bad8 at h3
           unfold bad3 at h4
           unfold bad4 within at h5
           simp only [Bool.and_eq_true, Bool.or_eq_false_iff, Bool.and_eq_false_iff, decide_eq_true_eq, decide_eq_false_iff_not, Bool.not_eq_false', Bool.not_eq_false, Bool.not_eq_true'] at h1 h3 h4 h5
           refine ⟨by show k = 1 ∨ k = 2 ∨ k = 3 ∨ k = 4; omega, h2, by show b.length <= 20; omega, fun hk => ?_, fun hk => ?_, ?_, fun hk => ?_⟩
           · rcases h4.1 with hb | hb
             · exact hb
             · exact absurd hk (fun hk => hk.elim hb.1 hb.2)
           · rcases h4.2 with ho | ho
             · exact ho
             · exact absurd ho hk
           · have := h5.1; show 0 <= m /\ m <= 511; omega
           · rcases h5.2 with hm | hm
             · exact hm
             · exact absurd hk (fun hk => hk.elim hm.1 hm.2)
end Go.Fn
namespace Go.Fn
open Go.Ab
theorem pu_digit {n acc : Nat} (h : n < 10) (ha : acc < 1000) (r : List UInt8) : Lib.parseUint10 acc (dg n :: r) = Lib.parseUint10 (acc * 10 + n) r := by
 have e := dg_nat h
 rw [Lib.parseUint10, if_pos (by omega), if_neg (by omega), if_neg (by omega), e, Nat.add_sub_cancel_left]
theorem sign_no {n : Nat} (h : n < 10) : ¬ ((dg n).toNat = 43 ∨ (dg n).toNat = 45) := by rw [dg_nat h]; omega
theorem atoi_go {n v : Nat} {r : List UInt8} (h : n < 10) (hv : Lib.parseUint10 0 (dg n :: r) = .ok v) (hs : v < 1000) : Lib.atoiAll (dg n :: r) = .ok (v : Int) := by
 have e := dg_nat h
 unfold Lib.atoiAll
 simp only
 rw [if_neg (sign_no h)]
 unfold Lib.parseMag
 rw [if_neg (by simp), hv]
 simp only
 rw [if_neg (by omega), if_neg (by omega), if_neg (by omega)]
theorem atoi_itoa {m : Nat} (h : m < 1000) : Lib.atoiAll (itoa3 m) = .ok (m : Int) := by
 unfold itoa3
 split
 · rename_i h1
   refine atoi_go h1 ?_ h
   rw [pu_digit h1 (by omega)]
   simp [Lib.parseUint10]
 · rename_i h1
   split
   · rename_i h2
     refine atoi_go (by omega) ?_ h
     rw [pu_digit (by omega) (by omega), pu_digit (by omega) (by omega)]
     simp only [Lib.parseUint10]
     congr 1; omega
   · rename_i h2
     refine atoi_go (by omega) ?_ h
     rw [pu_digit (by omega) (by omega), pu_digit (by omega) (by omega), pu_digit (by omega) (by omega)]
     simp only [Lib.parseUint10]
     congr 1; omega
theorem atoiV_itoa {m : Int} (h0 : 0 <= m) (h : m <= 511) : atoiV (itoaS m) = m := by
 obtain ⟨k, rfl⟩ := Int.eq_ofNat_of_zero_le h0
 rw [itoa3_eq (by omega)]
 unfold atoiV
 rw [atoi_itoa (by omega)]
theorem numF_itoa {m : Int} (h0 : 0 <= m) (h : m <= 511) : numF (itoaS m) = some m := by
 obtain ⟨k, rfl⟩ := Int.eq_ofNat_of_zero_le h0
 rw [itoa3_eq (by omega)]
 exact num_itoa (by omega)
theorem itoa_of_num {w : List UInt8} {m : Int} (hw : numF w = some m) (h0 : 0 <= m) (h : m <= 511) : w = itoaS m := by
 obtain ⟨k, rfl⟩ := Int.eq_ofNat_of_zero_le h0
 rw [itoa3_eq (by omega)]
 exact itoa_num hw (by omega)
theorem dg_32 {n : Nat} (h : n < 10) : ¬ dg n = 32 := fun e => by have := dg_nat h; rw [e] at this; simp at this; omega
theorem itoa_no {m : Int} (h0 : 0 <= m) (h : m <= 511) : ∀ b ∈ itoaS m, ¬ b = 32 := by
 obtain ⟨k, rfl⟩ := Int.eq_ofNat_of_zero_le h0
 rw [itoa3_eq (by omega)]
 unfold itoa3
 intro b hb
 split at hb
 · rename_i h1
   rw [List.mem_singleton.1 hb]; exact dg_32 h1
 · split at hb
   · rcases List.mem_cons.1 hb with rfl | hb
     · exact dg_32 (by omega)
     · rw [List.mem_singleton.1 hb]; exact dg_32 (by omega)
   · rcases List.mem_cons.1 hb with rfl | hb
     · exact dg_32 (by omega)
     · rcases List.mem_cons.1 hb with rfl | hb
       · exact dg_32 (by omega)
       · rw [List.mem_singleton.1 hb]; exact dg_32 (by omega)
end Go.Fn
namespace Go.Fn
open Go.Ab
theorem hexD_no : ∀ n, n < 16 -> ¬ hexD n = 32 := by decide
theorem wordB_no {c : UInt8} {i : Nat} : ∀ b ∈ wordB c i, ¬ b = 32 := by
 intro b hb
 have h := c.toNat_lt
 unfold wordB at hb
 split at hb
 · rename_i hp
   rw [List.mem_singleton.1 hb]
   intro e
   subst e
   unfold plainB at hp
   simp at hp
 · unfold hexB at hb
   rcases List.mem_cons.1 hb with rfl | hb
   · decide
   · rcases List.mem_cons.1 hb with rfl | hb
     · exact hexD_no _ (by omega)
     · rw [List.mem_singleton.1 hb]; exact hexD_no _ (by omega)
theorem wordR_no : ∀ (t : List UInt8) (i : Nat), ∀ b ∈ wordR t i, ¬ b = 32
 | [], _, b, hb => by cases hb
 | c :: r, i, b, hb => by
   rw [wordR] at hb
   rcases List.mem_append.1 hb with hb | hb
   · exact wordB_no b hb
   · exact wordR_no r (i + 1) b hb
theorem word_no {t : List UInt8} : ∀ b ∈ word t, ¬ b = 32 := by
 rw [word_eq]
 split
 · intro b hb; rw [List.mem_singleton.1 hb]; decide
 · exact wordR_no t 0
end Go.Fn
namespace Go.Fn
open Go.Ab
theorem can_ne (r : Rec) : ¬ canW r = [] := by
 unfold canW
 split
 · simp
 · split
   · simp
   · split
     · simp
     · split <;> simp
theorem k_no : (∀ b ∈ kFile, ¬ b = 32) /\ (∀ b ∈ kLink, ¬ b = 32) /\ (∀ b ∈ kWhite, ¬ b = 32) /\ (∀ b ∈ kOpq, ¬ b = 32) /\ (∀ b ∈ kDir, ¬ b = 32) := by decide
theorem can_no {r : Rec} (h : recFault r = 0) (hp : ∀ b ∈ r.2.1, ¬ b = 32) : ∀ x ∈ canW r, ∀ b ∈ x, ¬ b = 32 := by
 obtain ⟨f1, f2, f3, f4, f5, f6, f7⟩ := rec_facts h
 have hi := itoa_no f6.1 f6.2
 unfold canW
 intro x hx
 split at hx
 · simp only [List.mem_cons, List.not_mem_nil, or_false] at hx
   rcases hx with rfl | rfl | rfl | rfl
   · exact k_no.1
   · exact hp
   · exact hi
   · exact word_no
 · split at hx
   · simp only [List.mem_cons, List.not_mem_nil, or_false] at hx
     rcases hx with rfl | rfl | rfl
     · exact k_no.2.1
     · exact hp
     · exact word_no
   · split at hx
     · simp only [List.mem_cons, List.not_mem_nil, or_false] at hx
       rcases hx with rfl | rfl
       · exact k_no.2.2.1
       · exact hp
     · split at hx
       · simp only [List.mem_cons, List.not_mem_nil, or_false] at hx
         rcases hx with rfl | rfl | rfl
         · exact k_no.2.2.2.1
         · exact hp
         · exact hi
       · simp only [List.mem_cons, List.not_mem_nil, or_false] at hx
         rcases hx with rfl | rfl | rfl
         · exact k_no.2.2.2.2
         · exact hp
         · exact hi
theorem can_read {r : Rec} (h : recFault r = 0) : recL (canW r) = r /\ recS (canW r) = some r /\ 2 <= (canW r).length := by
 obtain ⟨f1, f2, f3, f4, f5, f6, f7⟩ := rec_facts h
 have hn := numF_itoa f6.1 f6.2
 have ha := atoiV_itoa f6.1 f6.2
 have hu := un_of_word r.2.2.1
 have hb := body_of_word f3
 obtain ⟨k, p, b, m, o, ⟨⟩⟩ := r
 simp only at f1 f4 f5 f6 f7 hn ha hu hb
 have hr : ∀ {w : List (List UInt8)} {q : Rec}, ¬ w = [] -> w.length = nW (wAt w 0) -> recR w = some q -> recFault q = 0 -> recS w = some q := fun h1 h2 h3 h4 => by
   unfold recS
   rw [if_neg (fun e => e.elim h1 (fun e => e h2)), h3]
   simp only
   rw [if_pos h4]
 rcases f1 with rfl | rfl | rfl | rfl
 · obtain rfl : o = false := f5 (by decide)
   refine ⟨?_, hr (by simp [canW]) rfl ?_ h, Nat.le_of_ble_eq_true rfl⟩
   · show (1, p, bodyW (word b), atoiV (itoaS m), false, ()) = _
     rw [hb, ha]
   · show (match numF (itoaS m), unW (word b) with | some m, some b => some ((1, p, b, m, false, ()) : Rec) | _, _ => none) = _
     rw [hn, hu]
 · obtain rfl : o = false := f5 (by decide)
   obtain rfl : m = 0 := f7 (.inr rfl)
   refine ⟨?_, hr (by simp [canW]) rfl ?_ h, Nat.le_of_ble_eq_true rfl⟩
   · show (2, p, bodyW (word b), 0, false, ()) = _
     rw [hb]
   · show (match unW (word b) with | some b => some ((2, p, b, 0, false, ()) : Rec) | none => none) = _
     rw [hu]
 · obtain rfl : b = [] := f4 (.inl rfl)
   cases o with
   | true =>
     refine ⟨?_, hr (by simp [canW]) rfl ?_ h, Nat.le_of_ble_eq_true rfl⟩
     · show (3, p, [], atoiV (itoaS m), true, ()) = _
       rw [ha]
     · show (match numF (itoaS m) with | some m => some ((3, p, [], m, true, ()) : Rec) | none => none) = _
       rw [hn]
   | false =>
     refine ⟨?_, hr (by simp [canW]) rfl ?_ h, Nat.le_of_ble_eq_true rfl⟩
     · show (3, p, [], atoiV (itoaS m), false, ()) = _
       rw [ha]
     · show (match numF (itoaS m) with | some m => some ((3, p, [], m, false, ()) : Rec) | none => none) = _
       rw [hn]
 · obtain rfl : b = [] := f4 (.inr rfl)
   obtain rfl : o = false := f5 (by decide)
   obtain rfl : m = 0 := f7 (.inl rfl)
   exact ⟨rfl, hr (by simp [canW]) rfl rfl h, Nat.le_of_ble_eq_true rfl⟩
theorem lax_can {w : List (List UInt8)} (nw : ∀ x ∈ w, ∀ b ∈ x, ¬ b = 32) (h : laxB w = true) : recFault (recL w) = 0 /\ w = canW (recL w) := by
 unfold laxB at h
 simp only [Bool.and_eq_true, decide_eq_true_eq] at h
 obtain ⟨h1, h2, h3⟩ := h
 refine ⟨h2, ?_⟩
 have hw : ¬ w = [] := fun e => by rw [e] at h1; simp at h1
 have hp : ∀ b ∈ (recL w).2.1, ¬ b = 32 := by
   have e : (recL w).2.1 = wAt w 1 := by
     unfold recL
     split
     · rfl
     · split
       · rfl
       · split
         · rfl
         · split <;> rfl
   rw [e]
   have hl : 1 < w.length := by omega
   have : wAt w 1 = w[1] := by unfold wAt; rw [List.getD_eq_getElem?_getD, List.getElem?_eq_getElem hl]; rfl
   rw [this]
   exact nw _ (List.getElem_mem hl)
 rw [recT_can] at h3
 exact (joinS_inj (can_ne _) hw (can_no h2 hp) nw h3).symm
end Go.Fn
namespace Go.Fn
open Go.Ab
theorem rr_file {w : List (List UInt8)} (h : wAt w 0 = kFile) : recR w = match numF (wAt w 2), unW (wAt w 3) with | some m, some b => some (1, wAt w 1, b, m, false, ()) | _, _ => none := by
 unfold recR; rw [if_pos h] <;> rfl
theorem rr_link {w : List (List UInt8)} (h1 : ¬ wAt w 0 = kFile) (h : wAt w 0 = kLink) : recR w = match unW (wAt w 2) with | some b => some (2, wAt w 1, b, 0, false, ()) | none => none := by
 unfold recR; rw [if_neg h1, if_pos h] <;> rfl
theorem rr_white {w : List (List UInt8)} (h1 : ¬ wAt w 0 = kFile) (h2 : ¬ wAt w 0 = kLink) (h : wAt w 0 = kWhite) : recR w = some (4, wAt w 1, [], 0, false, ()) := by
 unfold recR; rw [if_neg h1, if_neg h2, if_pos h]
theorem rr_dir {w : List (List UInt8)} (h1 : ¬ wAt w 0 = kFile) (h2 : ¬ wAt w 0 = kLink) (h3 : ¬ wAt w 0 = kWhite) : recR w = match numF (wAt w 2) with | some m => some (3, wAt w 1, [], m, decide (wAt w 0 = kOpq), ()) | none => none := by
 unfold recR; rw [if_neg h1, if_neg h2, if_neg h3] <;> rfl
theorem strict_can {w : List (List UInt8)} {r : Rec} (h : recS w = some r) : recFault r = 0 /\ w = canW r := by
 unfold recS at h
 split at h
 · cases h
 · rename_i hn
   have hw : ¬ w = [] := fun e => hn (.inl e)
   have hl : w.length = nW (wAt w 0) := Classical.byContradiction fun e => hn (.inr e)
   split at h
   · rename_i q hq
     split at h
     · rename_i hf
       cases h
       refine ⟨hf, ?_⟩
       by_cases k1 : wAt w 0 = kFile
       · rw [rr_file k1] at hq
         rw [k1, show nW kFile = 4 from rfl] at hl
         match w, hl with
         | [a, p, c, d], _ =>
           have k1 : a = kFile := k1
           subst k1
           cases h1 : numF (wAt [kFile, p, c, d] 2) with
           | none => rw [h1] at hq; cases hq
           | some m =>
             cases h2 : unW (wAt [kFile, p, c, d] 3) with
             | none => rw [h1, h2] at hq; cases hq
             | some b =>
               rw [h1, h2] at hq
               cases hq
               have f6 := (rec_facts hf).2.2.2.2.2.1
               have e1 : c = itoaS m := itoa_of_num h1 f6.1 f6.2
               have e2 : word b = d := word_of_un h2
               subst e1; subst e2
               rfl
       · by_cases k2 : wAt w 0 = kLink
         · rw [rr_link k1 k2] at hq
           rw [k2, show nW kLink = 3 from rfl] at hl
           match w, hl with
           | [a, p, c], _ =>
             have k2 : a = kLink := k2
             subst k2
             cases h2 : unW (wAt [kLink, p, c] 2) with
             | none => rw [h2] at hq; cases hq
             | some b =>
               rw [h2] at hq
               cases hq
               have e2 : word b = c := word_of_un h2
               subst e2
               rfl
         · by_cases k3 : wAt w 0 = kWhite
           · rw [rr_white k1 k2 k3] at hq
             rw [k3, show nW kWhite = 2 from rfl] at hl
             match w, hl with
             | [a, p], _ =>
               have k3 : a = kWhite := k3
               subst k3
               cases hq
               rfl
           · rw [rr_dir k1 k2 k3] at hq
             have hk : wAt w 0 = kDir ∨ wAt w 0 = kOpq := by
               unfold nW at hl
               rw [if_neg k1] at hl
               split at hl
               · rename_i h; exact h.elim (fun h => absurd h k2) id
               · exact absurd (List.length_eq_zero_iff.1 hl) hw
             have hl3 : w.length = 3 := by
               unfold nW at hl
               rw [if_neg k1, if_pos (.inr hk)] at hl
               exact hl
             match w, hl3 with
             | [a, p, c], _ =>
               cases h1 : numF (wAt [a, p, c] 2) with
               | none => rw [h1] at hq; cases hq
               | some m =>
                 rw [h1] at hq
                 cases hq
                 have f6 := (rec_facts hf).2.2.2.2.2.1
                 have e1 : c = itoaS m := itoa_of_num h1 f6.1 f6.2
                 subst e1
                 rcases hk with hk | hk
                 · have hk : a = kDir := hk
                   subst hk
                   rfl
                 · have hk : a = kOpq := hk
                   subst hk
                   rfl
     · cases h
   · cases h
theorem lax_strict {w : List (List UInt8)} (nw : ∀ x ∈ w, ∀ b ∈ x, ¬ b = 32) : (if laxB w = true then some (recL w) else none) = recS w := by
 cases hL : laxB w with
 | true =>
   obtain ⟨h1, h2⟩ := lax_can nw hL
   have := (can_read h1).2.1
   rw [<- h2] at this
   rw [this]; rfl
 | false =>
   cases hS : recS w with
   | none => rfl
   | some r =>
     exfalso
     obtain ⟨h1, h2⟩ := strict_can hS
     obtain ⟨q1, _, q3⟩ := can_read h1
     rw [<- h2] at q1 q3
     have : laxB w = true := by
       unfold laxB
       rw [q1, decide_eq_true q3, decide_eq_true h1, recT_can, <- h2, decide_eq_true rfl]; rfl
     rw [this] at hL; cases hL
def rrC (t : List UInt8) : Int := if short t = false then 2 else if laxB (wordsS t) = true then 0 else 3
def rrR (t : List UInt8) : Rec := if rrC t = 0 then recL (wordsS t) else rec0
end Go.Fn
namespace Go.Fn
open Go.Ab
def keepW (l : List (List UInt8)) : List (List UInt8) := l.filter (fun s => !(decide (s = [])))
theorem keepW_app (a b : List (List UInt8)) : keepW (a ++ b) = keepW a ++ keepW b := List.filter_append ..
theorem keepW_one {x : List UInt8} (h : ¬ x = []) : keepW [x] = [x] := by unfold keepW; simp [h]
theorem keepW_nil : keepW [[]] = [] := rfl
def WordAt (t : List UInt8) (out : List (List UInt8)) (k i : Nat) : Prop :=
 (i <= t.length /\ k <= i /\ out.length <= i /\ ∃ full, CutAt 32 t full k i /\ keepW full = out) ∨ (i = t.length + 1 /\ k = t.length + 1 /\ out.length <= i /\ out = wordsS t)
theorem wd_start (t : List UInt8) : WordAt t [] 0 0 := .inl ⟨Nat.zero_le _, Nat.le_refl _, Nat.le_refl _, [], cut_start 32 t, rfl⟩
theorem sub_pos {t : List UInt8} {k i : Nat} (hk : k < i) (hi : i <= t.length) : ¬ subL t k i = [] := by
 intro e
 have := congrArg List.length e
 unfold subL at this
 rw [List.length_drop, List.length_take] at this
 simp at this
 omega
theorem sub_none {t : List UInt8} {i : Nat} : subL t i i = [] := by
 unfold subL
 rw [List.drop_eq_nil_of_le]
 rw [List.length_take]; omega
theorem wd_le {t : List UInt8} {out : List (List UInt8)} {k i : Nat} (h : WordAt t out k i) : k <= i /\ i <= t.length + 1 /\ out.length <= i := by
 rcases h with ⟨h1, h2, h3, _⟩ | ⟨h1, h2, h3, _⟩
 · exact ⟨h2, by omega, h3⟩
 · exact ⟨by omega, by omega, h3⟩
theorem wd_skip {t : List UInt8} {out : List (List UInt8)} {k i : Nat} {x : UInt8} (h : WordAt t out k i) (hx : t[i]? = some x) (hn : ¬ x = 32) : WordAt t out k (i + 1) := by
 have hi := get_lt hx
 rcases h with ⟨h1, h2, h3, full, hc, e⟩ | ⟨h1, _⟩
 · exact .inl ⟨hi, by omega, by omega, full, cut_skip hc hx hn, e⟩
 · omega
theorem wd_take {t : List UInt8} {out : List (List UInt8)} {k i : Nat} {x : UInt8} (h : WordAt t out k i) (hx : t[i]? = some x) (he : x = 32) (hk : k < i) : WordAt t (out ++ [subL t k i]) (i + 1) (i + 1) := by
 have hi := get_lt hx
 rcases h with ⟨h1, h2, h3, full, hc, e⟩ | ⟨h1, _⟩
 · exact .inl ⟨hi, Nat.le_refl _, by rw [List.length_append, List.length_singleton]; omega, full ++ [subL t k i], cut_take hc hx he, by rw [keepW_app, e, keepW_one (sub_pos hk h1)]⟩
 · omega
theorem wd_pass {t : List UInt8} {out : List (List UInt8)} {k i : Nat} {x : UInt8} (h : WordAt t out k i) (hx : t[i]? = some x) (he : x = 32) (hk : ¬ k < i) : WordAt t out (i + 1) (i + 1) := by
 have hi := get_lt hx
 rcases h with ⟨h1, h2, h3, full, hc, e⟩ | ⟨h1, _⟩
 · obtain rfl : k = i := by omega
   have h5 := cut_take hc hx he
   rw [sub_none] at h5
   exact .inl ⟨hi, Nat.le_refl _, by omega, full ++ [[]], h5, by rw [keepW_app, e, keepW_nil, List.append_nil]⟩
 · omega
theorem wd_last {t : List UInt8} {out : List (List UInt8)} {k i : Nat} (h : WordAt t out k i) (hi : i = t.length) : (k < i -> WordAt t (out ++ [subL t k i]) (i + 1) (i + 1)) /\ (¬ k < i -> WordAt t out (i + 1) (i + 1)) := by
 rcases h with ⟨h1, h2, h3, full, hc, e⟩ | ⟨h1, _⟩
 · have hend := cut_end hc (by omega)
   have hw : wordsS t = out ++ keepW [subL t k t.length] := by
     show keepW (split 32 t) = _
     rw [<- hend, keepW_app, e]
   subst hi
   refine ⟨fun hk => .inr ⟨rfl, rfl, by rw [List.length_append, List.length_singleton]; omega, ?_⟩, fun hk => .inr ⟨rfl, rfl, by omega, ?_⟩⟩
   · rw [hw, keepW_one (sub_pos hk (Nat.le_refl _))]
   · obtain rfl : k = t.length := by omega
     rw [hw, sub_none, keepW_nil, List.append_nil]
 · omega
theorem wd_end {t : List UInt8} {out : List (List UInt8)} {k i : Nat} (h : WordAt t out k i) (hi : ¬ i <= t.length) : out = wordsS t := by
 rcases h with ⟨h1, _⟩ | ⟨_, _, _, h4⟩
 · omega
 · exact h4
end Go.Fn
namespace Go.Fn
open Go.Ab
theorem body_c {n : Nat} {c : UInt8} {r : List UInt8} (h : c = 37 -> r.length < 2) : bodyF (n + 1) (c :: r) = c :: bodyF n r := by
 by_cases hc : c = 37
 · have := h hc
   subst hc
   match r, this with
   | [], _ => rfl
   | [a], _ => rfl
 · exact body_plain hc
def BodyAt (w out : List UInt8) (i : Nat) : Prop := out.length <= 21 /\ i <= w.length /\ out ++ bodyF (21 - out.length) (w.drop i) = bodyF 21 w
theorem bd_start (w : List UInt8) : BodyAt w [] 0 := ⟨Nat.zero_le _, Nat.zero_le _, rfl⟩
theorem bd_c {w out : List UInt8} {i : Nat} {c : UInt8} (h : BodyAt w out i) (hl : out.length <= 20) (hc : w[i]? = some c) (hn : c = 37 -> ¬ i + 2 < w.length) : BodyAt w (out ++ [c]) (i + 1) := by
 obtain ⟨h1, h2, h3⟩ := h
 have hi := get_lt hc
 refine ⟨by rw [List.length_append, List.length_singleton]; omega, hi, ?_⟩
 rw [<- h3, drop_at hc, show 21 - out.length = 21 - (out ++ [c]).length + 1 by rw [List.length_append, List.length_singleton]; omega,
   body_c (fun e => by have := hn e; rw [List.length_drop]; omega)]
 simp
theorem bd_hex {w out : List UInt8} {i : Nat} {a b : UInt8} (h : BodyAt w out i) (hl : out.length <= 20) (hc : w[i]? = some 37) (ha : w[i + 1]? = some a) (hb : w[i + 2]? = some b) : BodyAt w (out ++ [hexV a b]) (i + 3) := by
 obtain ⟨h1, h2, h3⟩ := h
 have hi := get_lt hb
 refine ⟨by rw [List.length_append, List.length_singleton]; omega, hi, ?_⟩
 rw [<- h3, drop_at hc, drop_at ha, drop_at hb, show 21 - out.length = 21 - (out ++ [hexV a b]).length + 1 by rw [List.length_append, List.length_singleton]; omega, body_pct]
 simp
theorem bd_end {w out : List UInt8} {i : Nat} (h : BodyAt w out i) (he : ¬ (i < w.length /\ out.length <= 20)) : out = bodyF 21 w := by
 obtain ⟨h1, h2, h3⟩ := h
 rw [<- h3]
 by_cases hi : i < w.length
 · have : out.length = 21 := by
     have : ¬ out.length <= 20 := fun e => he ⟨hi, e⟩
     omega
   rw [this]
   simp [bodyF]
 · rw [List.drop_eq_nil_of_le (by omega)]
   cases 21 - out.length <;> simp [bodyF]
end Go.Fn
namespace Go.Fn
open Go.Ab
def UnAt (t out : List UInt8) (i : Nat) : Prop := i <= t.length /\ out.length <= i /\ (unF (t.drop i)).map (out ++ ·) = unF t
theorem ua_start (t : List UInt8) : UnAt t [] 0 := ⟨Nat.zero_le _, Nat.le_refl _, by cases h : unF t <;> simp [h]⟩
theorem ua_c {t out : List UInt8} {i : Nat} {c : UInt8} (h : UnAt t out i) (hc : t[i]? = some c) (hn : ¬ c = 37) : UnAt t (out ++ [c]) (i + 1) := by
 obtain ⟨h1, h2, h3⟩ := h
 refine ⟨get_lt hc, by rw [List.length_append, List.length_singleton]; omega, ?_⟩
 rw [<- h3, drop_at hc, un_plain hn]
 cases unF (t.drop (i + 1)) <;> simp
theorem ua_short {t out : List UInt8} {i : Nat} (h : UnAt t out i) (hc : t[i]? = some 37) (hl : ¬ i + 2 < t.length) : unF t = none := by
 obtain ⟨h1, h2, h3⟩ := h
 rw [<- h3, drop_at hc]
 have : (t.drop (i + 1)).length < 2 := by rw [List.length_drop]; omega
 match hd : t.drop (i + 1), this with
 | [], _ => rfl
 | [a], _ => rfl
theorem ua_bad {t out : List UInt8} {i : Nat} {a b : UInt8} (h : UnAt t out i) (hc : t[i]? = some 37) (ha : t[i + 1]? = some a) (hb : t[i + 2]? = some b) (hd : digV a < 0 ∨ digV b < 0) : unF t = none := by
 obtain ⟨h1, h2, h3⟩ := h
 rw [<- h3, drop_at hc, drop_at ha, drop_at hb, un_pct, if_pos hd]; rfl
theorem ua_hex {t out : List UInt8} {i : Nat} {a b : UInt8} (h : UnAt t out i) (hc : t[i]? = some 37) (ha : t[i + 1]? = some a) (hb : t[i + 2]? = some b) (hd : ¬ (digV a < 0 ∨ digV b < 0)) : UnAt t (out ++ [hexV a b]) (i + 3) := by
 obtain ⟨h1, h2, h3⟩ := h
 refine ⟨get_lt hb, by rw [List.length_append, List.length_singleton]; omega, ?_⟩
 rw [<- h3, drop_at hc, drop_at ha, drop_at hb, un_pct, if_neg hd]
 cases unF (t.drop (i + 2 + 1)) <;> simp
theorem ua_end {t out : List UInt8} {i : Nat} (h : UnAt t out i) (he : ¬ i < t.length) : unF t = some out := by
 obtain ⟨h1, h2, h3⟩ := h
 rw [<- h3, List.drop_eq_nil_of_le (by omega)]
 simp [unF]
def unS (t : List UInt8) : List UInt8 := if t = [45] then [] else (unF t).getD []
def unO (t : List UInt8) : Bool := if t = [45] then true else match unF t with | some b => decide (word b = t) | none => false
theorem unW_iff {t : List UInt8} : unW t = if unO t = true then some (unS t) else none := by
 unfold unW unO unS
 split
 · simp
 · cases h : unF t with
   | none => rfl
   | some b => simp
end Go.Fn
namespace Go.Fn
open Go.Ab
def numS (w : List UInt8) : Int := (numF w).getD 0
def numO (w : List UInt8) : Bool := (numF w).isSome
def DigAt (t : List UInt8) (i : Nat) (n : Nat) : Prop := i <= t.length /\ n < 10 ^ i /\ valD (t.drop i) n = valD t 0
theorem dt_start (t : List UInt8) : DigAt t 0 0 := ⟨Nat.zero_le _, Nat.one_pos, rfl⟩
theorem dt_bad {t : List UInt8} {i n : Nat} {c : UInt8} (h : DigAt t i n) (hc : t[i]? = some c) (hb : c.toNat < 48 ∨ 57 < c.toNat) : valD t 0 = none := by
 rw [<- h.2.2, drop_at hc, valD, if_pos hb]
theorem dt_step {t : List UInt8} {i n : Nat} {c : UInt8} (h : DigAt t i n) (hc : t[i]? = some c) (hb : ¬ (c.toNat < 48 ∨ 57 < c.toNat)) : DigAt t (i + 1) (n * 10 + (c.toNat - 48)) := by
 refine ⟨get_lt hc, ?_, ?_⟩
 · have := h.2.1
   rw [Nat.pow_succ]
   omega
 · rw [<- h.2.2, drop_at hc, valD, if_neg hb]
theorem dt_end {t : List UInt8} {i n : Nat} (h : DigAt t i n) (he : ¬ i < t.length) : valD t 0 = some n := by
 rw [<- h.2.2, List.drop_eq_nil_of_le (by have := h.1; omega)]; rfl
theorem dt_small {t : List UInt8} {i n : Nat} (h : DigAt t i n) (hl : t.length <= 18) : n < 1000000000000000000 := by
 have h1 := h.1
 have h2 := h.2.1
 have : 10 ^ i <= 10 ^ 18 := Nat.pow_le_pow_right (by decide) (by omega)
 have e : (10 : Nat) ^ 18 = 1000000000000000000 := by decide
 omega
end Go.Fn
namespace Go.Fn
open Go.Ab
def rpR (w : List (List UInt8)) : Rec × Bool :=
 if wAt w 0 = kFile then ((1, wAt w 1, unS (wAt w 3), numS (wAt w 2), false, ()), numO (wAt w 2) && unO (wAt w 3))
 else if wAt w 0 = kLink then ((2, wAt w 1, unS (wAt w 2), 0, false, ()), unO (wAt w 2))
 else if wAt w 0 = kWhite then ((4, wAt w 1, [], 0, false, ()), true)
 else ((3, wAt w 1, [], numS (wAt w 2), decide (wAt w 0 = kOpq), ()), numO (wAt w 2))
def readR (w : List (List UInt8)) : Rec := if w = [] ∨ ¬ w.length = nW (wAt w 0) then rec0 else (rpR w).1
def readO (w : List (List UInt8)) : Bool := if w = [] ∨ ¬ w.length = nW (wAt w 0) then false else (rpR w).2 && decide (recFault (rpR w).1 = 0)
theorem num_iff {w : List UInt8} : numF w = if numO w = true then some (numS w) else none := by
 unfold numO numS
 cases numF w <;> simp
theorem recR_iff {w : List (List UInt8)} : recR w = if (rpR w).2 = true then some (rpR w).1 else none := by
 unfold recR rpR
 split
 · rw [num_iff (w := wAt w 2), unW_iff (t := wAt w 3)]
   cases numO (wAt w 2) <;> cases unO (wAt w 3) <;> rfl
 · split
   · rw [unW_iff (t := wAt w 2)]
     cases unO (wAt w 2) <;> rfl
   · split
     · rfl
     · rw [num_iff (w := wAt w 2)]
       cases numO (wAt w 2) <;> rfl
theorem read_iff {w : List (List UInt8)} : recS w = if readO w = true then some (readR w) else none := by
 unfold recS readO readR
 split
 · rfl
 · rw [recR_iff]
   cases (rpR w).2 with
   | false => rfl
   | true =>
     simp only [if_true, Bool.true_and]
     by_cases h : recFault (rpR w).1 = 0
     · rw [if_pos h, decide_eq_true h]; rfl
     · rw [if_neg h, decide_eq_false h]; rfl
theorem lax_read {t : List UInt8} : laxB (wordsS t) = readO (wordsS t) /\ (laxB (wordsS t) = true -> recL (wordsS t) = readR (wordsS t)) := by
 have h := (lax_strict (w := wordsS t) (fun x hx => words_no hx)).trans read_iff
 cases h1 : laxB (wordsS t) <;> cases h2 : readO (wordsS t) <;> rw [h1, h2] at h
 · exact ⟨rfl, fun h => by cases h⟩
 · cases h
 · cases h
 · exact ⟨rfl, fun _ => by simpa using h⟩
end Go.Fn
namespace Go.Fn
open Go.Ab
theorem map_snoc (l : List UInt8) (c : UInt8) : (l.map fun c => Int.ofNat c.toNat) ++ [Int.ofNat c.toNat] = (l ++ [c]).map fun c => Int.ofNat c.toNat := by rw [List.map_append]; rfl
theorem map_fits {l : List UInt8} {x : Int} (h : l.length <= 65536) : fits ((l.map fun c => Int.ofNat c.toNat).length + [x].length) := by
 rw [List.length_map]
 show l.length + 1 < 1099511627776
 omega
def hxL : List UInt8 := [48, 49, 50, 51, 52, 53, 54, 55, 56, 57, 97, 98, 99, 100, 101, 102]
theorem hx_at {n : Nat} {d : UInt8} (h : hxL[n]? = some d) : n < 16 /\ digV d = (n : Int) := by
 have hn : n < 16 := (List.getElem?_eq_some_iff.1 h).1
 have := hexD_at h
 rw [this]
 exact ⟨hn, hexD_dig n hn⟩
theorem hx_in : ∀ n, n < 16 -> hxL[n]? = some (hexD n) := by decide
theorem hx_lo : ∀ n, n < 10 -> (hexD n).toNat = 48 + n := by decide
theorem hx_hi : ∀ n, n < 16 -> 10 <= n -> (hexD n).toNat = 87 + n := by decide
theorem hx_none {c : UInt8} (h : ∀ j, j < 16 -> ¬ hxL[j]? = some c) : digV c = -1 := by
 have key : ∀ j, j < 16 -> ¬ hexD j = c := fun j hj e => h j hj (by rw [hx_in j hj, e])
 unfold digV
 split
 · rename_i h1
   refine absurd (UInt8.toNat_inj.1 ?_) (key (c.toNat - 48) (by omega))
   rw [hx_lo _ (by omega)]; omega
 · split
   · rename_i h1 h2
     refine absurd (UInt8.toNat_inj.1 ?_) (key (c.toNat - 87) (by omega))
     rw [hx_hi _ (by omega) (by omega)]; omega
   · rfl
theorem dig_all : ∀ n, n < 256 -> mm true (indexB hxL (Int.ofNat n)) 0 = Int.ofNat (digV (UInt8.ofNat n)).toNat /\ (digV (UInt8.ofNat n)).toNat < 16 := by decide +kernel
theorem dig_mm (c : UInt8) : mm true (indexB hxL (Int.ofNat c.toNat)) 0 = Int.ofNat (digV c).toNat /\ (digV c).toNat < 16 := by
 have := dig_all c.toNat c.toNat_lt
 simpa using this
theorem or_all : ∀ x, x < 16 -> ∀ y, y < 16 -> IntKind.u8.wrap (wBits .or .i64 (wShl .i64 (Int.ofNat x) 4) (Int.ofNat y)) = Int.ofNat (UInt8.ofNat (16 * x + y)).toNat := by decide +kernel
theorem or_hex (a b : UInt8) : IntKind.u8.wrap (wBits .or .i64 (wShl .i64 (mm true (indexB hxL (Int.ofNat a.toNat)) 0) 4) (mm true (indexB hxL (Int.ofNat b.toNat)) 0)) = Int.ofNat (hexV a b).toNat := by
 rw [(dig_mm a).1, (dig_mm b).1]
 exact or_all _ (dig_mm a).2 _ (dig_mm b).2
theorem add_all : ∀ x, x < 16 -> ∀ y, y < 16 -> IntKind.u8.wrap (wAdd .i64 (wMul .i64 16 (Int.ofNat x)) (Int.ofNat y)) = Int.ofNat (UInt8.ofNat (16 * x + y)).toNat := by decide +kernel
theorem add_hex {a b : UInt8} (ha : ¬ digV a < 0) (hb : ¬ digV b < 0) : IntKind.u8.wrap (wAdd .i64 (wMul .i64 16 (digV a)) (digV b)) = Int.ofNat (hexV a b).toNat := by
 have e1 : digV a = Int.ofNat (digV a).toNat := (Int.toNat_of_nonneg (Int.not_lt.1 ha)).symm
 have e2 : digV b = Int.ofNat (digV b).toNat := (Int.toNat_of_nonneg (Int.not_lt.1 hb)).symm
 rw [e1, e2]
 exact add_all _ (dig_mm a).2 _ (dig_mm b).2
theorem add2 {k : Nat} (h : k <= 1000000) : wAdd .i64 (Int.ofNat k) 2 = Int.ofNat (k + 2) := by
 rw [wAdd_in (by simp only [Int.ofNat_eq_natCast]; omega)]; rfl
theorem byte_eq {c : UInt8} {n : UInt8} (h : Int.ofNat c.toNat = Int.ofNat n.toNat) : c = n := UInt8.toNat_inj.1 (Int.ofNat.inj h)
theorem ua_none {t : List UInt8} (hne : ¬ t = [45]) (h : unF t = none) : [] = unS t /\ false = unO t := by
 unfold unS unO
 rw [if_neg hne, if_neg hne, h]; exact ⟨rfl, rfl⟩
theorem ua_some {t out : List UInt8} (hne : ¬ t = [45]) (h : unF t = some out) : out = unS t /\ (word out == t) = unO t := by
 unfold unS unO
 rw [if_neg hne, if_neg hne, h]
 refine ⟨rfl, ?_⟩
 show (word out == t) = decide (word out = t)
 by_cases e : word out = t
 · rw [decide_eq_true e]; exact beq_iff_eq.2 e
 · rw [decide_eq_false e]; exact beq_eq_false_iff_ne.2 e
end Go.Fn
namespace Go.Fn
open Go.Ab
theorem nm_bad {t : List UInt8} (h : numF t = none) : 0 = numS t /\ false = numO t := by unfold numS numO; rw [h]; exact ⟨rfl, rfl⟩
theorem nm_ok {t : List UInt8} {m : Int} (h : numF t = some m) : m = numS t /\ true = numO t := by unfold numS numO; rw [h]; exact ⟨rfl, rfl⟩
theorem nm_step {w : List UInt8} {i n : Nat} {c : UInt8} (h : DigAt w i n) (hi : i < w.length) (hl : w.length <= 18) (hb : ¬ (c.toNat < 48 ∨ 57 < c.toNat)) :
   wSub .i64 (wAdd .i64 (wMul .i64 (Int.ofNat n) 10) (IntKind.i64.wrap (Int.ofNat c.toNat))) 48 = Int.ofNat (n * 10 + (c.toNat - 48)) := by
 have h2 := h.2.1
 have : 10 ^ i <= 10 ^ 17 := Nat.pow_le_pow_right (by decide) (by omega)
 have e : (10 : Nat) ^ 17 = 100000000000000000 := by decide
 have hn : n < 100000000000000000 := by omega
 have e1 : IntKind.i64.wrap (Int.ofNat c.toNat) = Int.ofNat c.toNat := by
   rw [IntKind.wrap_i64]; simp only [Int.ofNat_eq_natCast]; omega
 rw [e1]
 simp only [Int.ofNat_eq_natCast]
 rw [wMul_in (by omega), wAdd_in (by omega), wSub_in (by omega)]
 omega
theorem nm_pos {n : Nat} (h : n < 1000000000000000000) : wMul .i64 (Int.ofNat 1) (Int.ofNat n) = (n : Int) := by
 have e : Int.ofNat 1 * Int.ofNat n = (n : Int) := by simp
 rw [wMul_in (by rw [e]; omega), e]
theorem nm_neg {n : Nat} (h : n < 1000000000000000000) : wMul .i64 (Int.neg 1) (Int.ofNat n) = -(n : Int) := by
 have e0 : Int.neg 1 = -1 := rfl
 have e : Int.neg 1 * Int.ofNat n = -(n : Int) := by rw [e0]; simp
 rw [wMul_in (by rw [e]; omega), e]
theorem nm_loop {t w : List UInt8} {sg sg' : Int} (hs : sg = sg') (hl : w.length <= 18) (hbad : valD w 0 = none -> numF t = none) (hok : ∀ n, n < 1000000000000000000 -> valD w 0 = some n -> numF t = some (wMul .i64 sg' (Int.ofNat n))) :
   (∃ i : Nat × Nat, DigAt w i.1 i.2 /\ sg = sg' /\ (0 : Int) = Int.ofNat i.2 /\ (0 : Int) = Int.ofNat i.1) /\
   ∀ i : Nat × Nat, DigAt w i.1 i.2 -> fits w.length ->
     (i.1 < w.length -> i.1 < w.length /\ ∀ c : UInt8, w[i.1]? = some c ->
       (¬ Int.ofNat c.toNat < 48 -> i.1 < w.length /\ ∀ c : UInt8, w[i.1]? = some c ->
         (Int.ofNat c.toNat > 57 -> (0 : Int) = numS t /\ false = numO t) /\
         (¬ Int.ofNat c.toNat > 57 -> i.1 < w.length /\ ∀ c : UInt8, w[i.1]? = some c -> ∃ j : Nat × Nat, DigAt w j.1 j.2 /\ w.length - j.1 < w.length - i.1 /\
           wSub .i64 (wAdd .i64 (wMul .i64 (Int.ofNat i.2) 10) (IntKind.i64.wrap (Int.ofNat c.toNat))) 48 = Int.ofNat j.2 /\ wAdd .i64 (Int.ofNat i.1) 1 = Int.ofNat j.1)) /\
       (Int.ofNat c.toNat < 48 -> (0 : Int) = numS t /\ false = numO t)) /\
     (¬ i.1 < w.length -> wMul .i64 sg' (Int.ofNat i.2) = numS t /\ true = numO t) := by
 refine ⟨⟨(0, 0), dt_start w, hs, rfl, rfl⟩, ?_⟩
 rintro ⟨i, n⟩ hd hf
 have hi : i <= w.length := hd.1
 refine ⟨fun hlt => ⟨hlt, fun c hc => ⟨fun h1 => ⟨hlt, fun c2 hc2 => ⟨fun h2 => nm_bad (hbad (dt_bad hd hc2 (.inr (Int.ofNat_lt.1 h2)))), fun h2 => ⟨hlt, fun c3 hc3 => ?_⟩⟩⟩, fun h1 => nm_bad (hbad (dt_bad hd hc (.inl (Int.ofNat_lt.1 h1))))⟩⟩, fun hge => nm_ok (hok n (dt_small hd hl) (dt_end hd hge))⟩
 have e : c2 = c := Option.some.inj (hc2.symm.trans hc)
 subst e
 have e : c3 = c2 := Option.some.inj (hc3.symm.trans hc2)
 subst e
 have hb : ¬ (c3.toNat < 48 ∨ 57 < c3.toNat) := fun h => h.elim (fun h => h1 (Int.ofNat_lt.2 h)) (fun h => h2 (Int.ofNat_lt.2 h))
 have hlt : i < w.length := hlt
 exact ⟨(i + 1, n * 10 + (c3.toNat - 48)), dt_step hd hc hb, Nat.sub_lt_sub_left hlt (Nat.lt_succ_self i), nm_step hd hlt hl hb, inc_small (by omega)⟩
theorem nm_nil : numF [] = none := rfl
theorem nm_m {c : UInt8} {r : List UInt8} (hc : c = 45) : (r = [] -> numF (c :: r) = none) /\ (18 < r.length -> numF (c :: r) = none) /\ (r.head? = some 48 -> numF (c :: r) = none) /\
   (¬ r = [] -> ¬ 18 < r.length -> ¬ r.head? = some 48 -> numF (c :: r) = (valD r 0).map fun n : Nat => -(n : Int)) := by
 rw [numF, if_pos hc]
 exact ⟨fun h => if_pos (.inl h), fun h => if_pos (.inr (.inl h)), fun h => if_pos (.inr (.inr h)), fun h1 h2 h3 => if_neg (fun h => h.elim h1 fun h => h.elim h2 h3)⟩
theorem nm_p {c : UInt8} {r : List UInt8} (hc : ¬ c = 45) : (18 < r.length + 1 -> numF (c :: r) = none) /\ (c = 48 -> ¬ r = [] -> numF (c :: r) = none) /\
   (¬ 18 < r.length + 1 -> (c = 48 -> r = []) -> numF (c :: r) = (valD (c :: r) 0).map fun n : Nat => (n : Int)) := by
 rw [numF, if_neg hc]
 exact ⟨fun h => if_pos (.inl h), fun h h2 => if_pos (.inr ⟨h, h2⟩), fun h1 h2 => if_neg (fun h => h.elim h1 fun h => h.2 (h2 h.1))⟩
end Go.Fn
namespace Go.Proofs.YtkdnelaoagmeaaaDoor
open Go.Ab Go.Fn
def s_Delete_str : FSpec := { ps := [.o .str, .f [.str] .bool], rs := [.o (.slice .str)], pre := fun x => (∀ y, y ∈ x.1 -> x.2.1.2 (y, ())) /\ List.length (α := (.str : Ty).den) x.1 <= 1000000, fn := fun x => (List.filter (α := (.str : Ty).den) (fun y => !(x.2.1.1 (y, ()))) x.1, ()), upd := fun _ => () }
def L_Delete_str (xs : List (.str : Ty).den) (p : (.str : Ty).den -> Bool) : LoopAnn := { ι := Nat × List (.str : Ty).den, inv := fun q => DelAt p xs q.1 q.2, slots := fun q => [(5, .d I (Int.ofNat (kept p xs q.1).length)), (6, .d I (Int.ofNat q.1))], objs := fun q => [(0, .arr .str q.2 false)], μ := fun q => xs.length - q.1 }
theorem fo_Delete_str : FO 28 s_Delete_str := by
 refine fo (specs := [(42, s_IndexFunc_str)]) (clos := []) (fun x => [(5, .lv [0, 1, 5, 6] <| fun _ => L_Delete_str x.1 (fun y => x.2.1.1 (y, ())))]) ⟨fo_IndexFunc_str, trivial⟩ trivial Tryd.func28 rfl rfl ?_
 rintro ⟨xs, ⟨p, q⟩, ⟨⟩⟩ ⟨hp, ha⟩
 have ha : List.length (α := (.str : Ty).den) xs <= 1000000 := ha
 refine vcOf (true = true /\ (∀ (y : List UInt8), y ∈ xs -> q (y, ())) /\ ((idx (fun (y : List UInt8) => p (y, ())) xs == (-1 : Int)) = true -> (xs, ()) = (List.filter (fun (y : List UInt8) => !p (y, ())) xs, ()) /\ () = ()) /\ ((idx (fun (y : List UInt8) => p (y, ())) xs == (-1 : Int)) = false -> (∃ (i : Nat × List (List UInt8)), DelAt (fun (y : List UInt8) => p (y, ())) xs i.fst i.snd /\ ((0 : Nat) = 0 /\ (p, q) = (p, q) /\ idx (fun (y : List UInt8) => p (y, ())) xs = Int.ofNat (kept (fun (y : List UInt8) => p (y, ())) xs i.fst).length /\ wAdd .i64 (idx (fun (y : List UInt8) => p (y, ())) xs) (1 : Int) = Int.ofNat i.fst /\ True) /\ ((xs = i.snd /\ false = false) /\ (([] : List (List UInt8)) = ([] : List (List UInt8)) /\ false = false) /\ True) /\ True) /\ ∀ (i : Nat × List (List UInt8)), DelAt (fun (y : List UInt8) => p (y, ())) xs i.fst i.snd -> fits (lenL i.snd) -> (decide (Int.ofNat i.fst < iOf (lenL i.snd)) = true -> bnd (Int.ofNat i.fst) (lenL i.snd) /\ 1 = 1 /\ 1 <= 1 /\ tN (Int.ofNat i.fst) < lenL i.snd /\ ∀ (x : List UInt8), nth i.snd (tN (Int.ofNat i.fst)) = some x -> q (x, ()) /\ ((!p (x, ())) = true -> bnd (Int.ofNat (kept (fun (y : List UInt8) => p (y, ())) xs i.fst).length) (lenL i.snd) /\ ((0 : Nat) = 0 /\ tN (Int.ofNat (kept (fun (y : List UInt8) => p (y, ())) xs i.fst).length) < lenL i.snd) /\ ∃ (j : Nat × List (List UInt8)), DelAt (fun (y : List UInt8) => p (y, ())) xs j.fst j.snd /\ (List.length xs).sub j.fst < (List.length xs).sub i.fst /\ ((0 : Nat) = 0 /\ (p, q) = (p, q) /\ wAdd .i64 (Int.ofNat (kept (fun (y : List UInt8) => p (y, ())) xs i.fst).length) (1 : Int) = Int.ofNat (kept (fun (y : List UInt8) => p (y, ())) xs j.fst).length /\ wAdd .i64 (Int.ofNat i.fst) (1 : Int) = Int.ofNat j.fst /\ True) /\ ((i.snd.set (tN (Int.ofNat (kept (fun (y : List UInt8) => p (y, ())) xs i.fst).length)) x = j.snd /\ false = false) /\ (([] : List (List UInt8)) = ([] : List (List UInt8)) /\ false = false) /\ True) /\ True) /\ ((!p (x, ())) = false -> ∃ (j : Nat × List (List UInt8)), DelAt (fun (y : List UInt8) => p (y, ())) xs j.fst j.snd /\ (List.length xs).sub j.fst < (List.length xs).sub i.fst /\ ((0 : Nat) = 0 /\ (p, q) = (p, q) /\ Int.ofNat (kept (fun (y : List UInt8) => p (y, ())) xs i.fst).length = Int.ofNat (kept (fun (y : List UInt8) => p (y, ())) xs j.fst).length /\ wAdd .i64 (Int.ofNat i.fst) (1 : Int) = Int.ofNat j.fst /\ True) /\ ((i.snd = j.snd /\ false = false) /\ (([] : List (List UInt8)) = ([] : List (List UInt8)) /\ false = false) /\ True) /\ True)) /\ (decide (Int.ofNat i.fst < iOf (lenL i.snd)) = false -> boundLo (Int.ofNat (kept (fun (y : List UInt8) => p (y, ())) xs i.fst).length) (lenL i.snd) /\ (tN (Int.ofNat (kept (fun (y : List UInt8) => p (y, ())) xs i.fst).length) <= lenL i.snd /\ lenL i.snd <= lenL i.snd) /\ boundLo (Int.ofNat (kept (fun (y : List UInt8) => p (y, ())) xs i.fst).length) (lenL (copyL i.snd (tN (Int.ofNat (kept (fun (y : List UInt8) => p (y, ())) xs i.fst).length)) (lenL i.snd) (List.replicate (lenL i.snd - tN (Int.ofNat (kept (fun (y : List UInt8) => p (y, ())) xs i.fst).length)) ([] : List UInt8)))) /\ tN (Int.ofNat (kept (fun (y : List UInt8) => p (y, ())) xs i.fst).length) <= lenL (copyL i.snd (tN (Int.ofNat (kept (fun (y : List UInt8) => p (y, ())) xs i.fst).length)) (lenL i.snd) (List.replicate (lenL i.snd - tN (Int.ofNat (kept (fun (y : List UInt8) => p (y, ())) xs i.fst).length)) ([] : List UInt8))) /\ (subL (copyL i.snd (tN (Int.ofNat (kept (fun (y : List UInt8) => p (y, ())) xs i.fst).length)) (lenL i.snd) (List.replicate (lenL i.snd - tN (Int.ofNat (kept (fun (y : List UInt8) => p (y, ())) xs i.fst).length)) ([] : List UInt8))) (0 : Nat) (tN (Int.ofNat (kept (fun (y : List UInt8) => p (y, ())) xs i.fst).length)), ()) = (List.filter (fun (y : List UInt8) => !p (y, ())) xs, ()) /\ () = ()))) (by kernel_rfl) ?_
 simp only [NS, eq_self, ne_eq, forall_const, implies_true, Nat.reduceAdd, Nat.reduceLeDiff, nz, Int.reduceEq, Nat.reduceEqDiff, reduceCtorEq]; try simp only [lenL]
 refine ⟨hp, fun h1 => del_none h1, fun h1 => ⟨?_, ?_⟩⟩
 · obtain ⟨k, x, e, hx, hp, hn⟩ := idx_some h1
   have hs := del_start (p := fun y => p (y, ())) hx hp hn
   have hk : k < List.length xs := get_lt hx
   have e2 := hs.2
   rw [e, inc_small (by omega)]
   exact ⟨(k + 1, xs), hs.1, ⟨congrArg Int.ofNat e2.symm, rfl⟩, rfl⟩
 · rintro ⟨j, cur⟩ hd hf
   have hl := hd.2.1
   have hj := hd.1
   have hk := del_lt hd
   simp only at hd hl hj hk ⊢
   simp only [hl, tN_nat]
   refine ⟨fun hlt => ⟨hlt, hlt, fun x hx => ?_⟩, fun hge => ?_⟩
   · have hx2 := hx
     unfold nth at hx2
     rw [del_read hd] at hx2
     rw [inc_small (k := j) (by omega), inc_small (by omega)]
     refine ⟨hp x (List.mem_of_getElem? hx2), fun hu => ?_, fun hu => ?_⟩
     · have hs := del_put hd hx2 hu
       exact ⟨hk, hk, (j + 1, _), hs.1, Nat.sub_lt_sub_left hlt (Nat.lt_succ_self j), ⟨congrArg Int.ofNat hs.2.symm, rfl⟩, rfl⟩
     · have hs := del_skip hd hx2 hu
       exact ⟨(j + 1, cur), hs.1, Nat.sub_lt_sub_left hlt (Nat.lt_succ_self j), ⟨congrArg Int.ofNat hs.2.symm, rfl⟩, rfl⟩
   · rw [copyL_length (Nat.le_of_lt hk) (Nat.le_of_eq hl.symm), hl, del_end hd hge]
     exact ⟨⟨Int.natCast_nonneg _, Int.ofNat_le.2 (Nat.le_of_lt hk)⟩, Nat.le_of_lt hk, ⟨Int.natCast_nonneg _, Int.ofNat_le.2 (Nat.le_of_lt hk)⟩, Nat.le_of_lt hk, rfl⟩
end Go.Proofs.YtkdnelaoagmeaaaDoor
namespace Go.Proofs.YtkdnelaoagmeaaaDoor
open Go.Ab Go.Fn
theorem fo_sIndexByte : FO 31 s_IndexByte := by
 refine fo (specs := [(44, s_IndexByte)]) (clos := []) (fun x => []) ⟨fo_IndexByte, trivial⟩ trivial Tryd.func31 rfl rfl ?_
 rintro ⟨t, c, ⟨⟩⟩ -
 refine vcOf (true = true /\ True /\ (indexB t c, ()) = (indexB t c, ()) /\ () = ()) (by kernel_rfl) ?_
 simp only [NS, eq_self, ne_eq, forall_const, implies_true, Nat.reduceAdd, Nat.reduceLeDiff, nz, Int.reduceEq, Nat.reduceEqDiff, reduceCtorEq]; try simp only [lenL]
end Go.Proofs.YtkdnelaoagmeaaaDoor
namespace Go.Proofs.YtkdnelaoagmeaaaDoor
open Go.Ab Go.Fn
def c_noWord : CSpec := { ats := [.str], b := .bool, cs := [], pre := fun _ _ => True, fn := fun _ a => decide (a.1 = ([] : List UInt8)) }
theorem fo_wordsOfc : FO 30 c_noWord.fspec := by
 refine fo (specs := []) (clos := []) (fun x => []) trivial trivial Tryd.func30 rfl rfl ?_
 rintro ⟨t, ⟨⟩⟩ -
 refine vcOf ((t == ([] : List UInt8), ()) = (Decidable.rec (fun (h : ¬(splitA c_noWord.ats c_noWord.cs (t, ())).fst = ([] : List UInt8)) => false) (fun (h : (splitA c_noWord.ats c_noWord.cs (t, ())).fst = ([] : List UInt8)) => true) (List.instDecidableEqNil t), ()) /\ () = ()) (by kernel_rfl) ?_
 simp only [NS, eq_self, ne_eq, forall_const, implies_true, Nat.reduceAdd, Nat.reduceLeDiff, nz, Int.reduceEq, Nat.reduceEqDiff, reduceCtorEq]; try simp only [lenL]
 show (t == ([] : List UInt8)) = decide (t = ([] : List UInt8))
 cases t <;> rfl
def s_words : FSpec := { ps := [.v .str], rs := [.o (.slice .str)], pre := fun x => List.length (α := UInt8) x.1 <= 65536, fn := fun x => (Fn.wordsS x.1, ()), upd := fun _ => () }
def s_wordsV : FSpec := { ps := [.v .str], rs := [.v (.slice .str)], pre := fun x => List.length (α := UInt8) x.1 <= 65536, fn := fun x => (Fn.wordsS x.1, ()), upd := fun _ => () }
theorem fo_wordsOf : FO 17 s_wordsV := by
 refine fo (specs := [(29, s_Split), (28, s_Delete_str)]) (clos := [(30, c_noWord)]) (fun x => []) ⟨fo_Split, fo_Delete_str, trivial⟩ ⟨co fo_wordsOfc rfl rfl, trivial⟩ Tryd.func17 rfl rfl ?_
 rintro ⟨t, ⟨⟩⟩ hl
 refine vcOf (true = true /\ ((∃ (c : UInt8), ([32] : List UInt8) = c :: ([] : List UInt8)) /\ List.length t <= (100000000 : Nat)) /\ true = true /\ ((∀ (y : List UInt8), y ∈ splitS t (([32] : List UInt8)) -> True) /\ (splitS t (([32] : List UInt8))).length <= (1000000 : Nat)) /\ (List.filter (fun (y : List UInt8) => !(fun (a : List UInt8 × Unit) => decide (a.fst = ([] : List UInt8)), fun (x : List UInt8 × Unit) => True).fst (y, ())) (splitS t (([32] : List UInt8))), ()) = (wordsS t, ()) /\ () = ()) (by kernel_rfl) ?_
 simp only [NS, eq_self, ne_eq, forall_const, implies_true, Nat.reduceAdd, Nat.reduceLeDiff, nz, Int.reduceEq, Nat.reduceEqDiff, reduceCtorEq]; try simp only [lenL]
 have hl : List.length t <= 65536 := hl
 have h2 : (split 32 t).length <= 1000000 := by rw [split_len]; have := List.count_le_length (a := (32 : UInt8)) (l := t); omega
 exact ⟨⟨⟨32, rfl⟩, by omega⟩, h2, rfl⟩
end Go.Proofs.YtkdnelaoagmeaaaDoor
namespace Go.Proofs.YtkdnelaoagmeaaaDoor
open Go.Ab Go.Fn
def L_words (t : List UInt8) : LoopAnn := { ι := List (List UInt8) × Nat × Nat, inv := fun q => WordAt t q.1 q.2.1 q.2.2, slots := fun q => [(3, .os 1), (4, .d I (Int.ofNat q.2.1)), (5, .d I (Int.ofNat q.2.2))], objs := fun q => [(1, .arr .str q.1 false)], μ := fun q => t.length + 1 - q.2.2 }
theorem fo_l00Words : FO 8 s_words := by
 refine fo (specs := []) (clos := []) (fun x => [(4, .lv [0, 3, 4, 5] <| fun _ => L_words x.1)]) trivial trivial Tryd.func8 rfl rfl ?_
 rintro ⟨t, ⟨⟩⟩ hl
 refine vcOf ((∃ (i : List (List UInt8) × Nat × Nat), WordAt t i.fst i.snd.fst i.snd.snd /\ (t = t /\ 1 = (1 : Nat) /\ (0 : Int) = Int.ofNat i.snd.fst /\ (0 : Int) = Int.ofNat i.snd.snd /\ True) /\ ((([] : List (List UInt8)) = ([] : List (List UInt8)) /\ false = false) /\ (([] : List (List UInt8)) = i.fst /\ false = false) /\ True) /\ True) /\ ∀ (i : List (List UInt8) × Nat × Nat), WordAt t i.fst i.snd.fst i.snd.snd -> fits (lenL t) -> (decide (Int.ofNat i.snd.snd <= iOf (lenL t)) = true -> fits (lenL t) -> ((Int.ofNat i.snd.snd == iOf (lenL t)) = false -> bnd (Int.ofNat i.snd.snd) (lenL t) /\ ∀ (c : UInt8), nthI t (Int.ofNat i.snd.snd) = some c -> ((Int.ofNat c.toNat == (32 : Int)) = true -> (decide (Int.ofNat i.snd.snd > Int.ofNat i.snd.fst) = true -> boundLH (Int.ofNat i.snd.fst) (Int.ofNat i.snd.snd) (lenL t) /\ fits (lenL i.fst + lenL (subL t (tN (Int.ofNat i.snd.fst)) (tN (Int.ofNat i.snd.snd)) :: ([] : List (List UInt8)))) /\ ∃ (j : List (List UInt8) × Nat × Nat), WordAt t j.fst j.snd.fst j.snd.snd /\ ((List.length t).add (0)).succ.sub j.snd.snd < ((List.length t).add (0)).succ.sub i.snd.snd /\ (t = t /\ (1 : Nat) = 1 /\ wAdd .i64 (Int.ofNat i.snd.snd) (1 : Int) = Int.ofNat j.snd.fst /\ wAdd .i64 (Int.ofNat i.snd.snd) (1 : Int) = Int.ofNat j.snd.snd /\ True) /\ ((([] : List (List UInt8)) = ([] : List (List UInt8)) /\ false = false) /\ (i.fst ++ subL t (tN (Int.ofNat i.snd.fst)) (tN (Int.ofNat i.snd.snd)) :: ([] : List (List UInt8)) = j.fst /\ false = false) /\ True) /\ True) /\ (decide (Int.ofNat i.snd.snd > Int.ofNat i.snd.fst) = false -> ∃ (j : List (List UInt8) × Nat × Nat), WordAt t j.fst j.snd.fst j.snd.snd /\ ((List.length t).add (0)).succ.sub j.snd.snd < ((List.length t).add (0)).succ.sub i.snd.snd /\ (t = t /\ (1 : Nat) = 1 /\ wAdd .i64 (Int.ofNat i.snd.snd) (1 : Int) = Int.ofNat j.snd.fst /\ wAdd .i64 (Int.ofNat i.snd.snd) (1 : Int) = Int.ofNat j.snd.snd /\ True) /\ ((([] : List (List UInt8)) = ([] : List (List UInt8)) /\ false = false) /\ (i.fst = j.fst /\ false = false) /\ True) /\ True)) /\ ((Int.ofNat c.toNat == (32 : Int)) = false -> ∃ (j : List (List UInt8) × Nat × Nat), WordAt t j.fst j.snd.fst j.snd.snd /\ ((List.length t).add (0)).succ.sub j.snd.snd < ((List.length t).add (0)).succ.sub i.snd.snd /\ (t = t /\ (1 : Nat) = 1 /\ Int.ofNat i.snd.fst = Int.ofNat j.snd.fst /\ wAdd .i64 (Int.ofNat i.snd.snd) (1 : Int) = Int.ofNat j.snd.snd /\ True) /\ ((([] : List (List UInt8)) = ([] : List (List UInt8)) /\ false = false) /\ (i.fst = j.fst /\ false = false) /\ True) /\ True)) /\ ((Int.ofNat i.snd.snd == iOf (lenL t)) = true -> (decide (Int.ofNat i.snd.snd > Int.ofNat i.snd.fst) = true -> boundLH (Int.ofNat i.snd.fst) (Int.ofNat i.snd.snd) (lenL t) /\ fits (lenL i.fst + lenL (subL t (tN (Int.ofNat i.snd.fst)) (tN (Int.ofNat i.snd.snd)) :: ([] : List (List UInt8)))) /\ ∃ (j : List (List UInt8) × Nat × Nat), WordAt t j.fst j.snd.fst j.snd.snd /\ ((List.length t).add (0)).succ.sub j.snd.snd < ((List.length t).add (0)).succ.sub i.snd.snd /\ (t = t /\ (1 : Nat) = 1 /\ wAdd .i64 (Int.ofNat i.snd.snd) (1 : Int) = Int.ofNat j.snd.fst /\ wAdd .i64 (Int.ofNat i.snd.snd) (1 : Int) = Int.ofNat j.snd.snd /\ True) /\ ((([] : List (List UInt8)) = ([] : List (List UInt8)) /\ false = false) /\ (i.fst ++ subL t (tN (Int.ofNat i.snd.fst)) (tN (Int.ofNat i.snd.snd)) :: ([] : List (List UInt8)) = j.fst /\ false = false) /\ True) /\ True) /\ (decide (Int.ofNat i.snd.snd > Int.ofNat i.snd.fst) = false -> ∃ (j : List (List UInt8) × Nat × Nat), WordAt t j.fst j.snd.fst j.snd.snd /\ ((List.length t).add (0)).succ.sub j.snd.snd < ((List.length t).add (0)).succ.sub i.snd.snd /\ (t = t /\ (1 : Nat) = 1 /\ wAdd .i64 (Int.ofNat i.snd.snd) (1 : Int) = Int.ofNat j.snd.fst /\ wAdd .i64 (Int.ofNat i.snd.snd) (1 : Int) = Int.ofNat j.snd.snd /\ True) /\ ((([] : List (List UInt8)) = ([] : List (List UInt8)) /\ false = false) /\ (i.fst = j.fst /\ false = false) /\ True) /\ True))) /\ (decide (Int.ofNat i.snd.snd <= iOf (lenL t)) = false -> (i.fst, ()) = (wordsS t, ()) /\ () = ())) (by kernel_rfl) ?_
 simp only [NS, eq_self, ne_eq, forall_const, implies_true, Nat.reduceAdd, Nat.reduceLeDiff, nz, Int.reduceEq, Nat.reduceEqDiff, reduceCtorEq]; try simp only [lenL]
 have hl : List.length t <= 65536 := hl
 refine ⟨⟨([], 0, 0), wd_start t, ⟨rfl, rfl⟩, rfl⟩, ?_⟩
 rintro ⟨out, k, i⟩ hw hf
 obtain ⟨h1, h2, h3⟩ := wd_le hw
 have hm : i <= List.length t -> List.length t + 1 - (i + 1) < List.length t + 1 - i := fun h => by omega
 have hi : wAdd IntKind.i64 (Int.ofNat i) (1 : Int) = Int.ofNat (i + 1) := inc_small (by simp only at h2; omega)
 refine ⟨fun hle hf2 => ⟨fun hne => ?_, fun he => ?_⟩, fun hge => wd_end hw fun h => hge (Int.ofNat_le.2 h)⟩
 · have hle : i <= List.length t := Int.ofNat_le.1 hle
   have hlt : i < List.length t := Nat.lt_of_le_of_ne hle fun e => hne (congrArg Int.ofNat e)
   refine ⟨hlt, fun c hc => ⟨fun h32 => ?_, fun hn => ⟨(out, k, i + 1), wd_skip hw hc (fun e => hn (by subst e; rfl)), hm hle, ⟨rfl, hi⟩, rfl⟩⟩⟩
   have h32 : c = 32 := UInt8.toNat_inj.1 (Int.ofNat.inj h32)
   refine ⟨fun hk => ?_, fun hk => ⟨(out, i + 1, i + 1), wd_pass hw hc h32 (fun h => hk (Int.ofNat_lt.2 h)), hm hle, ⟨hi, hi⟩, rfl⟩⟩
   have hk : k < i := Int.ofNat_lt.1 hk
   refine ⟨⟨Int.natCast_nonneg _, Int.ofNat_le.2 (Nat.le_of_lt hk), Int.ofNat_le.2 hle⟩, ?_, (out ++ [subL t k i], i + 1, i + 1), wd_take hw hc h32 hk, hm hle, ⟨hi, hi⟩, rfl⟩
   show out.length + 1 < 1099511627776
   simp only at h3 h2; omega
 · have he : i = List.length t := Int.ofNat.inj he
   have hle : i <= List.length t := Nat.le_of_eq he
   refine ⟨fun hk => ?_, fun hk => ⟨(out, i + 1, i + 1), (wd_last hw he).2 (fun h => hk (Int.ofNat_lt.2 h)), hm hle, ⟨hi, hi⟩, rfl⟩⟩
   have hk : k < i := Int.ofNat_lt.1 hk
   refine ⟨⟨Int.natCast_nonneg _, Int.ofNat_le.2 (Nat.le_of_lt hk), Int.ofNat_le.2 (Nat.le_of_eq he)⟩, ?_, (out ++ [subL t k i], i + 1, i + 1), (wd_last hw he).1 hk, hm hle, ⟨hi, hi⟩, rfl⟩
   show out.length + 1 < 1099511627776
   simp only at h3 h2; omega
end Go.Proofs.YtkdnelaoagmeaaaDoor
namespace Go.Proofs.YtkdnelaoagmeaaaDoor
open Go.Ab Go.Fn
def s_dig1 : FSpec := { ps := [.v (.int .u8)], rs := [.v I], pre := fun x => ∃ c : UInt8, x.1 = (Int.ofNat c.toNat), fn := fun x => (Fn.digV (bOf x.1), ()), upd := fun _ => () }
def L_dig1 (c : UInt8) : LoopAnn := { ι := Nat, inv := fun k => k <= 16 /\ ∀ j, j < k -> ¬ hxL[j]? = some c, slots := fun k => [(3, .d I (Int.ofNat k))], objs := fun _ => [], μ := fun k => 16 - k }
theorem fo_l14Digit : FO 23 s_dig1 := by
 refine fo (specs := []) (clos := []) (fun x => [(2, .lv [0, 3] <| fun _ => L_dig1 (bOf x.1))]) trivial trivial Tryd.func23 rfl rfl ?_
 rintro ⟨c, ⟨⟩⟩ ⟨b, hb⟩
 refine vcOf ((∃ (i : Nat), (i <= (16 : Nat) /\ ∀ (j : Nat), j < i -> ¬hxL[j]? = some (bOf c)) /\ (c = c /\ (0 : Int) = Int.ofNat i /\ True) /\ True /\ True) /\ ∀ (i : Nat), (i <= (16 : Nat) /\ ∀ (j : Nat), j < i -> ¬hxL[j]? = some (bOf c)) -> (decide (Int.ofNat i < (16 : Int)) = true -> bnd (Int.ofNat i) (lenL (([48, 49, 50, 51, 52, 53, 54, 55, 56, 57, 97, 98, 99, 100, 101, 102] : List UInt8))) /\ ∀ (c_1 : UInt8), nthI (([48, 49, 50, 51, 52, 53, 54, 55, 56, 57, 97, 98, 99, 100, 101, 102] : List UInt8)) (Int.ofNat i) = some c_1 -> ((Int.ofNat c_1.toNat == c) = true -> (Int.ofNat i, ()) = (digV (bOf c), ()) /\ () = ()) /\ ((Int.ofNat c_1.toNat == c) = false -> ∃ (j : Nat), (j <= (16 : Nat) /\ ∀ (j_1 : Nat), j_1 < j -> ¬hxL[j_1]? = some (bOf c)) /\ Nat.sub (16 : Nat) j < Nat.sub (16 : Nat) i /\ (c = c /\ wAdd .i64 (Int.ofNat i) (1 : Int) = Int.ofNat j /\ True) /\ True /\ True)) /\ (decide (Int.ofNat i < (16 : Int)) = false -> ((-1 : Int), ()) = (digV (bOf c), ()) /\ () = ())) (by kernel_rfl) ?_
 simp only [NS, eq_self, ne_eq, forall_const, implies_true, Nat.reduceAdd, Nat.reduceLeDiff, nz, Int.reduceEq, Nat.reduceEqDiff, reduceCtorEq]; try simp only [lenL]
 have hb : c = Int.ofNat b.toNat := hb
 subst hb
 rw [bOf_nat]
 refine ⟨⟨0, ⟨Nat.zero_le _, fun j hj => absurd hj (Nat.not_lt_zero _)⟩, rfl⟩, fun i ⟨hi, hn⟩ => ⟨fun hlt => ⟨Int.ofNat_lt.1 hlt, fun x hx => ⟨fun he => ?_, fun he => ⟨i + 1, ⟨Int.ofNat_lt.1 hlt, fun j hj => ?_⟩, ?_, inc_small (by omega)⟩⟩⟩, fun hge => (hx_none fun j hj => hn j ?_).symm⟩⟩
 · have e : x = b := UInt8.toNat_inj.1 (Int.ofNat.inj he)
   subst e
   exact (hx_at hx).2.symm
 · rcases Nat.lt_or_eq_of_le (Nat.le_of_lt_succ hj) with h | h
   · exact hn j h
   · subst h
     intro h2
     have h2 : some x = some b := hx.symm.trans h2
     cases h2
     exact he rfl
 · have : i < 16 := Int.ofNat_lt.1 hlt
   omega
 · have : ¬ i < 16 := fun h => hge (Int.ofNat_lt.2 h)
   omega
end Go.Proofs.YtkdnelaoagmeaaaDoor
namespace Go.Proofs.YtkdnelaoagmeaaaDoor
open Go.Ab Go.Fn
def s_nW : FSpec := { ps := [.v .str], rs := [.v I], pre := fun _ => True, fn := fun x => (Int.ofNat (Fn.nW x.1), ()), upd := fun _ => () }
theorem fo_l14Words : FO 11 s_nW := by
 refine fo (specs := []) (clos := []) (fun x => []) trivial trivial Tryd.func11 rfl rfl ?_
 rintro ⟨t, ⟨⟩⟩ -
 refine vcOf (((t == ([102, 105, 108, 101] : List UInt8)) = true -> ((4 : Int), ()) = (Int.ofNat (nW t), ()) /\ () = ()) /\ ((t == ([102, 105, 108, 101] : List UInt8)) = false -> ((t == ([108, 105, 110, 107] : List UInt8)) = true -> ((t == ([108, 105, 110, 107] : List UInt8)) = true -> ((3 : Int), ()) = (Int.ofNat (nW t), ()) /\ () = ()) /\ ((t == ([108, 105, 110, 107] : List UInt8)) = false -> ((t == ([119, 104, 105, 116, 101] : List UInt8)) = true -> ((2 : Int), ()) = (Int.ofNat (nW t), ()) /\ () = ()) /\ ((t == ([119, 104, 105, 116, 101] : List UInt8)) = false -> ((0 : Int), ()) = (Int.ofNat (nW t), ()) /\ () = ()))) /\ ((t == ([108, 105, 110, 107] : List UInt8)) = false -> ((t == ([100, 105, 114] : List UInt8)) = true -> ((t == ([100, 105, 114] : List UInt8)) = true -> ((3 : Int), ()) = (Int.ofNat (nW t), ()) /\ () = ()) /\ ((t == ([100, 105, 114] : List UInt8)) = false -> ((t == ([119, 104, 105, 116, 101] : List UInt8)) = true -> ((2 : Int), ()) = (Int.ofNat (nW t), ()) /\ () = ()) /\ ((t == ([119, 104, 105, 116, 101] : List UInt8)) = false -> ((0 : Int), ()) = (Int.ofNat (nW t), ()) /\ () = ()))) /\ ((t == ([100, 105, 114] : List UInt8)) = false -> ((t == ([111, 112, 97, 113, 117, 101] : List UInt8)) = true -> ((3 : Int), ()) = (Int.ofNat (nW t), ()) /\ () = ()) /\ ((t == ([111, 112, 97, 113, 117, 101] : List UInt8)) = false -> ((t == ([119, 104, 105, 116, 101] : List UInt8)) = true -> ((2 : Int), ()) = (Int.ofNat (nW t), ()) /\ () = ()) /\ ((t == ([119, 104, 105, 116, 101] : List UInt8)) = false -> ((0 : Int), ()) = (Int.ofNat (nW t), ()) /\ () = ())))))) (by kernel_rfl) ?_
 simp only [NS, eq_self, ne_eq, forall_const, implies_true, Nat.reduceAdd, Nat.reduceLeDiff, nz, Int.reduceEq, Nat.reduceEqDiff, reduceCtorEq]; try simp only [lenL]
 unfold nW
 refine ⟨fun h => by rw [if_pos (show t = kFile from h)]; rfl, fun h1 => ?_⟩
 rw [if_neg (show ¬ t = kFile from h1)]
 have hw : ¬ t = kLink -> ¬ t = kDir -> ¬ t = kOpq -> ¬ (t = kLink ∨ t = kDir ∨ t = kOpq) := fun a b c h => h.elim a fun h => h.elim b c
 refine ⟨fun h => ⟨fun _ => by rw [if_pos (.inl h)]; rfl, fun h2 => absurd h h2⟩, fun h2 => ⟨fun h => ⟨fun _ => by rw [if_pos (.inr (.inl h))]; rfl, fun h3 => absurd h h3⟩, fun h3 => ⟨fun h => by rw [if_pos (.inr (.inr h))]; rfl, fun h4 => ?_⟩⟩⟩
 rw [if_neg (hw h2 h3 h4)]
 exact ⟨fun h => by rw [if_pos (show t = kWhite from h)]; rfl, fun h => by rw [if_neg (show ¬ t = kWhite from h)]; rfl⟩
end Go.Proofs.YtkdnelaoagmeaaaDoor
namespace Go.Proofs.YtkdnelaoagmeaaaDoor
open Go.Ab Go.Fn
def s_bodyOf : FSpec := { ps := [.v .str], rs := [.v .str], pre := fun x => List.length (α := UInt8) x.1 <= 65536, fn := fun x => (Fn.bodyW x.1, ()), upd := fun _ => () }
def L_bodyOf (w : List UInt8) : LoopAnn := { ι := List UInt8 × Nat, inv := fun q => BodyAt w q.1 q.2, slots := fun q => [(3, .os 0), (4, .d I (Int.ofNat q.2))], objs := fun q => [(0, .arr (.int .u8) (q.1.map fun c => Int.ofNat c.toNat) false)], μ := fun q => w.length - q.2 }
theorem fo_bodyOf : FO 18 s_bodyOf := by
 refine fo (specs := [(31, s_IndexByte)]) (clos := []) (fun x => [(5, .lv [0, 3, 4] <| fun _ => L_bodyOf x.1)]) ⟨fo_sIndexByte, trivial⟩ trivial Tryd.func18 rfl rfl ?_
 rintro ⟨t, ⟨⟩⟩ hl
 refine vcOf (((t == ([45] : List UInt8)) = true -> (([] : List UInt8), ()) = (bodyW t, ()) /\ () = ()) /\ ((t == ([45] : List UInt8)) = false -> (∃ (i : List UInt8 × Nat), BodyAt t i.fst i.snd /\ (t = t /\ 0 = (0 : Nat) /\ (0 : Int) = Int.ofNat i.snd /\ True) /\ ((([] : List Int) = List.map (fun (c : UInt8) => Int.ofNat c.toNat) i.fst /\ false = false) /\ True) /\ True) /\ ∀ (i : List UInt8 × Nat), BodyAt t i.fst i.snd -> fits (lenL t) -> (decide (Int.ofNat i.snd < iOf (lenL t)) = true -> fits (lenL (List.map (fun (c : UInt8) => Int.ofNat c.toNat) i.fst)) -> (decide (iOf (lenL (List.map (fun (c : UInt8) => Int.ofNat c.toNat) i.fst)) <= (20 : Int)) = true -> bnd (Int.ofNat i.snd) (lenL t) /\ ∀ (c : UInt8), nthI t (Int.ofNat i.snd) = some c -> ((Int.ofNat c.toNat == (37 : Int)) = true -> fits (lenL t) -> (decide (wAdd .i64 (Int.ofNat i.snd) (2 : Int) < iOf (lenL t)) = true -> bnd (wAdd .i64 (Int.ofNat i.snd) (1 : Int)) (lenL t) /\ ∀ (c : UInt8), nthI t (wAdd .i64 (Int.ofNat i.snd) (1 : Int)) = some c -> bnd (wAdd .i64 (Int.ofNat i.snd) (2 : Int)) (lenL t) /\ ∀ (c_1 : UInt8), nthI t (wAdd .i64 (Int.ofNat i.snd) (2 : Int)) = some c_1 -> true = true /\ True /\ true = true /\ True /\ IntKind.i64 = IntKind.i64 /\ shOK (4 : Int) /\ IntKind.i64 = IntKind.i64 /\ fits (lenL (List.map (fun (c : UInt8) => Int.ofNat c.toNat) i.fst) + lenL (IntKind.u8.wrap (wBits BinOp.or IntKind.i64 (wShl .i64 (mm true (indexB (([48, 49, 50, 51, 52, 53, 54, 55, 56, 57, 97, 98, 99, 100, 101, 102] : List UInt8)) (Int.ofNat c.toNat)) (0 : Int)) (4 : Int)) (mm true (indexB (([48, 49, 50, 51, 52, 53, 54, 55, 56, 57, 97, 98, 99, 100, 101, 102] : List UInt8)) (Int.ofNat c_1.toNat)) (0 : Int))) :: ([] : List Int))) /\ ∃ (j : List UInt8 × Nat), BodyAt t j.fst j.snd /\ (List.length t).sub j.snd < (List.length t).sub i.snd /\ (t = t /\ (0 : Nat) = 0 /\ wAdd .i64 (wAdd .i64 (Int.ofNat i.snd) (2 : Int)) (1 : Int) = Int.ofNat j.snd /\ True) /\ ((List.map (fun (c : UInt8) => Int.ofNat c.toNat) i.fst ++ IntKind.u8.wrap (wBits BinOp.or IntKind.i64 (wShl .i64 (mm true (indexB (([48, 49, 50, 51, 52, 53, 54, 55, 56, 57, 97, 98, 99, 100, 101, 102] : List UInt8)) (Int.ofNat c.toNat)) (0 : Int)) (4 : Int)) (mm true (indexB (([48, 49, 50, 51, 52, 53, 54, 55, 56, 57, 97, 98, 99, 100, 101, 102] : List UInt8)) (Int.ofNat c_1.toNat)) (0 : Int))) :: ([] : List Int) = List.map (fun (c : UInt8) => Int.ofNat c.toNat) j.fst /\ false = false) /\ True) /\ True) /\ (decide (wAdd .i64 (Int.ofNat i.snd) (2 : Int) < iOf (lenL t)) = false -> fits (lenL (List.map (fun (c : UInt8) => Int.ofNat c.toNat) i.fst) + lenL (Int.ofNat c.toNat :: ([] : List Int))) /\ ∃ (j : List UInt8 × Nat), BodyAt t j.fst j.snd /\ (List.length t).sub j.snd < (List.length t).sub i.snd /\ (t = t /\ (0 : Nat) = 0 /\ wAdd .i64 (Int.ofNat i.snd) (1 : Int) = Int.ofNat j.snd /\ True) /\ ((List.map (fun (c : UInt8) => Int.ofNat c.toNat) i.fst ++ Int.ofNat c.toNat :: ([] : List Int) = List.map (fun (c : UInt8) => Int.ofNat c.toNat) j.fst /\ false = false) /\ True) /\ True)) /\ ((Int.ofNat c.toNat == (37 : Int)) = false -> fits (lenL (List.map (fun (c : UInt8) => Int.ofNat c.toNat) i.fst) + lenL (Int.ofNat c.toNat :: ([] : List Int))) /\ ∃ (j : List UInt8 × Nat), BodyAt t j.fst j.snd /\ (List.length t).sub j.snd < (List.length t).sub i.snd /\ (t = t /\ (0 : Nat) = 0 /\ wAdd .i64 (Int.ofNat i.snd) (1 : Int) = Int.ofNat j.snd /\ True) /\ ((List.map (fun (c : UInt8) => Int.ofNat c.toNat) i.fst ++ Int.ofNat c.toNat :: ([] : List Int) = List.map (fun (c : UInt8) => Int.ofNat c.toNat) j.fst /\ false = false) /\ True) /\ True)) /\ (decide (iOf (lenL (List.map (fun (c : UInt8) => Int.ofNat c.toNat) i.fst)) <= (20 : Int)) = false -> (List.map (fun (n : Int) => UInt8.ofNat n.toNat) (List.map (fun (c : UInt8) => Int.ofNat c.toNat) i.fst), ()) = (bodyW t, ()) /\ () = ())) /\ (decide (Int.ofNat i.snd < iOf (lenL t)) = false -> (List.map (fun (n : Int) => UInt8.ofNat n.toNat) (List.map (fun (c : UInt8) => Int.ofNat c.toNat) i.fst), ()) = (bodyW t, ()) /\ () = ()))) (by kernel_rfl) ?_
 simp only [NS, eq_self, ne_eq, forall_const, implies_true, Nat.reduceAdd, Nat.reduceLeDiff, nz, Int.reduceEq, Nat.reduceEqDiff, reduceCtorEq]; try simp only [lenL]
 have hl : List.length t <= 65536 := hl
 refine ⟨fun h => by unfold bodyW; rw [if_pos h], fun hne => ⟨⟨([], 0), bd_start t, rfl, rfl⟩, ?_⟩⟩
 have hend : ∀ {out : List UInt8} {i : Nat}, BodyAt t out i -> ¬ (i < t.length /\ out.length <= 20) -> List.map (fun n : Int => UInt8.ofNat n.toNat) (List.map (fun c : UInt8 => Int.ofNat c.toNat) out) = bodyW t := fun hB h => by
   rw [back_map]; unfold bodyW; rw [if_neg hne]; exact bd_end hB h
 rintro ⟨out, i⟩ hB hf
 have h21 : out.length <= 21 := hB.1
 have hi : i <= List.length t := hB.2.1
 have e1 : wAdd IntKind.i64 (Int.ofNat i) (1 : Int) = Int.ofNat (i + 1) := inc_small (by omega)
 have e2 : wAdd IntKind.i64 (Int.ofNat i) (2 : Int) = Int.ofNat (i + 2) := add2 (by omega)
 have e3 : wAdd IntKind.i64 (Int.ofNat (i + 2)) (1 : Int) = Int.ofNat (i + 3) := inc_small (by omega)
 have hfit : ∀ x : Int, fits ((List.map (fun c : UInt8 => Int.ofNat c.toNat) out).length + (x :: ([] : List Int)).length) := fun x => map_fits (by omega)
 have hm : ∀ k, i < List.length t -> 0 < k -> List.length t - (i + k) < List.length t - i := fun k h1 h2 => by omega
 simp only [e1, e2, e3]
 refine ⟨fun hlt hf2 => ⟨fun hle => ?_, fun hgt => hend hB fun h => hgt ?_⟩, fun hge => hend hB fun h => hge h.1⟩
 · have hle : out.length <= 20 := by rw [List.length_map] at hle; exact Int.ofNat_le.1 hle
   refine ⟨hlt, fun c hc => ⟨fun h37 hf3 => ⟨fun h2 => ?_, fun h2 => ⟨hfit _, (out ++ [c], i + 1), bd_c hB hle hc (fun _ h => h2 (Int.ofNat_lt.2 h)), hm 1 hlt (by decide), rfl, map_snoc out c⟩⟩, fun hn => ⟨hfit _, (out ++ [c], i + 1), bd_c hB hle hc (fun e => absurd (by subst e; rfl) hn), hm 1 hlt (by decide), rfl, map_snoc out c⟩⟩⟩
   have h37 : c = 37 := byte_eq (n := 37) h37
   subst h37
   have h2 : i + 2 < List.length t := Int.ofNat_lt.1 h2
   refine ⟨bnd_nat (by omega), fun a ha => ⟨bnd_nat h2, fun b hb => ⟨by show (0 : Int) <= 4; decide, hfit _, (out ++ [hexV a b], i + 3), bd_hex hB hle hc ha hb, hm 3 hlt (by decide), rfl, ?_⟩⟩⟩
   exact (congrArg (fun x : Int => List.map (fun c : UInt8 => Int.ofNat c.toNat) out ++ [x]) (or_hex a b)).trans (map_snoc out _)
 · rw [List.length_map]
   exact Int.ofNat_le.2 h.2
end Go.Proofs.YtkdnelaoagmeaaaDoor
