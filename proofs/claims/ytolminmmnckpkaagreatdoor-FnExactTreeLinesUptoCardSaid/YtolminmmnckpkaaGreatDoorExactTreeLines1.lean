/- Every function that the law FnExactTreeLines reaches does what its specification (a function on plain data) says; the law answers true wherever what it reads is of bulk at most 1048576. Conditions: that bound. -/
import Derived.Test.YtolminmmnckpkaaGreatDoorAb2
import Derived.Deep.DeepHandedRow
import Derived.Deep.DeepLaidRun
import Derived.Laws.BitsLemmas
import Derived.Lib.Bytealg
import Derived.Lib.ItoaLen
import Derived.Lib.ItoaMem
import Derived.Lib.Join
import Derived.Lib.LaidTab
import Derived.OpenShut
import Derived.ProofKit
import Derived.Shelf.LaysM
import Derived.Shelf.Strconv.Itoa3
import Derived.Shelf.Strings.OnBuilder
import Derived.Test.YtolminmmnckpkaaGreatDoorCards
import Derived.Test.YtolminmmnckpkaaGreatDoorRows
import Derived.Test.YtolminmmnckpkaaGreatDoorTie
import Derived.WalkKit
import Derived.Test.YtolminmmnckpkaaGreatDoorExactTreeLines0
set_option autoImplicit true
set_option relaxedAutoImplicit true
set_option maxHeartbeats 4000000
set_option maxRecDepth 4000
set_option linter.unusedVariables false
set_option linter.unusedSimpArgs false
namespace Go.Proofs
open Go.Shelf
def Tryz.lays156_ren : Go.Shelf.Ren := ⟨fun | 156 => 115 | 165 => 147 | 166 => 148 | 169 => 149 | 240 => 177 | 241 => 178 | 276 => 205 | 277 => 206 | n => n, fun | 31 => 24 | 9 => 9 | 3 => 3 | 4 => 4 | 0 => 0 | 20 => 20 | 72 => 163 | 76 => 141 | 70 => 161 | 37 => 112 | 75 => 140 | 127 => 184 | 164 => 206 | 5 => 5 | 80 => 165 | n => n, fun | n => n⟩
theorem Tryz.lays156 : Go.Proofs.Lays.n156 Tryz.prog Tryz.lays156_ren := {
  mixed := by kernel_rfl
  f156 := Tryz.func115.trans (congrArg some (by kernel_rfl))
  f165 := Tryz.func147.trans (congrArg some (by kernel_rfl))
  f166 := Tryz.func148.trans (congrArg some (by kernel_rfl))
  f169 := Tryz.func149.trans (congrArg some (by kernel_rfl))
  f240 := Tryz.func177.trans (congrArg some (by kernel_rfl))
  f241 := Tryz.func178.trans (congrArg some (by kernel_rfl))
  f276 := Tryz.func205.trans (congrArg some (by kernel_rfl))
  f277 := Tryz.func206.trans (congrArg some (by kernel_rfl))
  t0 := Tryz.underlying0
  a0 := Tryz.isAgg0
  z0 := Tryz.sizeOf0
  v0 := Tryz.zeroValue0
  t3 := Tryz.underlying3
  a3 := Tryz.isAgg3
  z3 := Tryz.sizeOf3
  v3 := Tryz.zeroValue3
  t4 := Tryz.underlying4
  a4 := Tryz.isAgg4
  z4 := Tryz.sizeOf4
  v4 := Tryz.zeroValue4
  t9 := Tryz.underlying9
  a9 := Tryz.isAgg9
  z9 := Tryz.sizeOf9
  v9 := Tryz.zeroValue9
  t20 := Tryz.underlying20
  a20 := Tryz.isAgg20
  z20 := Tryz.sizeOf20
  v20 := Tryz.zeroValue20
  t31 := Tryz.underlying24
  a31 := Tryz.isAgg24
  z31 := Tryz.sizeOf24
  v31 := Tryz.zeroValue24
  t37 := Tryz.underlying112
  a37 := Tryz.isAgg112
  z37 := Tryz.sizeOf112
  v37 := Tryz.zeroValue112
  t70 := Tryz.underlying161
  a70 := Tryz.isAgg161
  z70 := Tryz.sizeOf161
  v70 := Tryz.zeroValue161
  t72 := Tryz.underlying163
  a72 := Tryz.isAgg163
  z72 := Tryz.sizeOf163
  v72 := Tryz.zeroValue163
  t75 := Tryz.underlying140
  a75 := Tryz.isAgg140
  z75 := Tryz.sizeOf140
  v75 := Tryz.zeroValue140
  t76 := Tryz.underlying141
  a76 := Tryz.isAgg141
  z76 := Tryz.sizeOf141
  v76 := Tryz.zeroValue141
  t127 := Tryz.underlying184
  a127 := Tryz.isAgg184
  z127 := Tryz.sizeOf184
  v127 := Tryz.zeroValue184
  t164 := Tryz.underlying206
  a164 := Tryz.isAgg206
  z164 := Tryz.sizeOf206
  v164 := Tryz.zeroValue206 }
theorem Tryz.Builder_Extra_156 : Builder.Extra Tryz.prog Tryz.lays156_ren := {
  sizeBuilder := by kernel_rfl
  liesBuilder := by kernel_rfl
  t5 := Tryz.underlying5
  a5 := Tryz.isAgg5
  z5 := Tryz.sizeOf5
  v5 := Tryz.zeroValue5
  infoByte := by kernel_rfl
  cellsByte := by kernel_rfl
  sizeByte := by kernel_rfl
  neB5 := by decide }
open Go.RowKit in
theorem Tryz.strings_Join_none (a : Option Addr) (c : Nat) (sep : ByteArray) (w : World) :
    Calls Tryz.prog 115 #[.slice a 0 c, .string sep] w fun e w' => e = .returned (.string ⟨#[]⟩) ∧ w' = w := Any.strings_Join_none Tryz.lays156 Tryz.Builder_Extra_156 a c sep w
open Go.RowKit in
theorem Tryz.strings_Join (bk o c : Nat) (xs : List ByteArray) (sep : ByteArray) (w : World) (hcells : ∀ (j : Nat) x, xs[j]? = some x → w.cell? ⟨bk, o + j, none⟩ = some (.string x)) (hbk : bk < w.heap.size) (hN : xs.length ≤ 140737488355328) (hcap : xs.length ≤ c) (hlen : (Lib.join (xs.map (·.data.toList)) sep.data.toList).length ≤ 140737488355328) :
    Calls Tryz.prog 115 #[.slice (some ⟨bk, o, none⟩) xs.length c, .string sep] w fun e w' => e = .returned (.string ⟨(Lib.join (xs.map (·.data.toList)) sep.data.toList).toArray⟩) ∧ Below w.heap.size w w' := Any.strings_Join Tryz.lays156 Tryz.Builder_Extra_156 bk o c xs sep w hcells hbk hN hcap hlen
def Tryz.laysM171_ren : Go.Shelf.Ren := ⟨fun | 171 => 137 | 243 => 167 | 246 => 197 | 283 => 213 | 284 => 214 | 285 => 215 | 286 => 216 | 129 => 196 | 317 => 224 | 318 => 225 | 319 => 226 | 320 => 227 | 337 => 232 | 338 => 233 | n => n, fun | 3 => 3 | 9 => 9 | 2 => 2 | 4 => 4 | 171 => 215 | 0 => 0 | 53 => 198 | 37 => 112 | 5 => 5 | 173 => 217 | 212 => 228 | 51 => 186 | 20 => 20 | 213 => 229 | 46 => 159 | 232 => 235 | 233 => 236 | n => n, fun | 17 => 3 | 18 => 6 | 19 => 7 | n => n⟩
theorem Tryz.laysM171 : Go.Proofs.LaysM.n171 Tryz.prog Tryz.laysM171_ren := {
  mixed := by kernel_rfl
  f129 := Tryz.func196.trans (congrArg some (by kernel_rfl))
  f171 := Tryz.func137.trans (congrArg some (by kernel_rfl))
  f243 := Tryz.func167.trans (congrArg some (by kernel_rfl))
  f246 := Tryz.func197.trans (congrArg some (by kernel_rfl))
  f283 := Tryz.func213.trans (congrArg some (by kernel_rfl))
  f284 := Tryz.func214.trans (congrArg some (by kernel_rfl))
  f285 := Tryz.func215.trans (congrArg some (by kernel_rfl))
  f286 := Tryz.func216.trans (congrArg some (by kernel_rfl))
  f317 := Tryz.func224.trans (congrArg some (by kernel_rfl))
  f318 := Tryz.func225.trans (congrArg some (by kernel_rfl))
  f319 := Tryz.func226.trans (congrArg some (by kernel_rfl))
  f320 := Tryz.func227.trans (congrArg some (by kernel_rfl))
  f337 := Tryz.func232.trans (congrArg some (by kernel_rfl))
  f338 := Tryz.func233.trans (congrArg some (by kernel_rfl))
  t0 := Tryz.underlying0
  a0 := Tryz.isAgg0
  z0 := Tryz.sizeOf0
  v0 := Tryz.zeroValue0
  t2 := Tryz.underlying2
  a2 := Tryz.isAgg2
  z2 := Tryz.sizeOf2
  v2 := Tryz.zeroValue2
  t3 := Tryz.underlying3
  a3 := Tryz.isAgg3
  z3 := Tryz.sizeOf3
  v3 := Tryz.zeroValue3
  t4 := Tryz.underlying4
  a4 := Tryz.isAgg4
  z4 := Tryz.sizeOf4
  v4 := Tryz.zeroValue4
  t5 := Tryz.underlying5
  a5 := Tryz.isAgg5
  z5 := Tryz.sizeOf5
  v5 := Tryz.zeroValue5
  t9 := Tryz.underlying9
  a9 := Tryz.isAgg9
  z9 := Tryz.sizeOf9
  v9 := Tryz.zeroValue9
  t20 := Tryz.underlying20
  a20 := Tryz.isAgg20
  z20 := Tryz.sizeOf20
  v20 := Tryz.zeroValue20
  t37 := Tryz.underlying112
  a37 := Tryz.isAgg112
  z37 := Tryz.sizeOf112
  v37 := Tryz.zeroValue112
  t46 := Tryz.underlying159
  a46 := Tryz.isAgg159
  z46 := Tryz.sizeOf159
  v46 := Tryz.zeroValue159
  t51 := Tryz.underlying186
  a51 := Tryz.isAgg186
  z51 := Tryz.sizeOf186
  v51 := Tryz.zeroValue186
  t53 := Tryz.underlying198
  a53 := Tryz.isAgg198
  z53 := Tryz.sizeOf198
  v53 := Tryz.zeroValue198
  t171 := Tryz.underlying215
  a171 := Tryz.isAgg215
  z171 := Tryz.sizeOf215
  v171 := Tryz.zeroValue215
  t173 := Tryz.underlying217
  a173 := Tryz.isAgg217
  z173 := Tryz.sizeOf217
  v173 := Tryz.zeroValue217
  t212 := Tryz.underlying228
  a212 := Tryz.isAgg228
  z212 := Tryz.sizeOf228
  v212 := Tryz.zeroValue228
  t213 := Tryz.underlying229
  a213 := Tryz.isAgg229
  z213 := Tryz.sizeOf229
  t232 := Tryz.underlying235
  a232 := Tryz.isAgg235
  z232 := Tryz.sizeOf235
  v232 := Tryz.zeroValue235
  t233 := Tryz.underlying236
  a233 := Tryz.isAgg236
  z233 := Tryz.sizeOf236
  v233 := Tryz.zeroValue236
  g17 := by kernel_rfl
  g18 := by kernel_rfl
  g19 := by kernel_rfl
  i0 := by kernel_rfl
  i2 := by kernel_rfl
  i3 := by kernel_rfl
  i4 := by kernel_rfl
  i5 := by kernel_rfl
  i9 := by kernel_rfl
  i20 := by kernel_rfl
  i37 := by kernel_rfl
  i46 := by kernel_rfl
  i51 := by kernel_rfl
  i53 := by kernel_rfl
  i171 := by kernel_rfl
  i173 := by kernel_rfl
  i212 := by kernel_rfl
  i232 := by kernel_rfl
  i233 := by kernel_rfl
  m17 := by kernel_rfl
  m18 := by kernel_rfl
  m19 := by kernel_rfl }
open Go.RowKit Go.Sort Go.Lib in
theorem Tryz.strconv_Itoa (n : Int) (h0 : -9223372036854775808 ≤ n) (h1 : n ≤ 9223372036854775807) (w : World) (htab : Lib.TabIs Tryz.prog w "internal/strconv.uint64pow10" .u64 Lib.pow10Tab) :
    Calls Tryz.prog 137 #[.int .i64 n] w fun e w' => e = .returned (.string ⟨(Lib.itoa n).toArray⟩) ∧ ∃ k os, w' = grow (w.drewN k) os := Any.strconv_Itoa Tryz.laysM171 n h0 h1 w htab
end Go.Proofs
namespace Go.Fn
open Go.Ab
def itoaS (n : Int) : List UInt8 := Lib.itoa n
def joinS (l : List (List UInt8)) (u : List UInt8) : List UInt8 := Lib.join l u
def inI (n : Int) : Prop := -9223372036854775808 ≤ n ∧ n ≤ 9223372036854775807
def dm (n : Int) : Nat := 2 * n.natAbs + (if n < 0 then 1 else 0)
theorem itoa_len {n : Int} (h : inI n) : (itoaS n).length ≤ 21 := Lib.itoa_length_le n h.1 h.2
theorem dig_neg {n : Int} (h : inI n) (hm : ¬ n = -9223372036854775808) (hn : n < 0) : wNeg .i64 n = -n ∧ inI (-n) ∧ dm (-n) < dm n ∧ catS [45] (itoaS (-n)) = itoaS n := by
  unfold inI at *
  refine ⟨?_, by omega, ?_, ?_⟩
  · unfold wNeg
    rw [IntKind.wrap_i64]
    omega
  · unfold dm
    rw [if_pos hn, if_neg (by omega)]
    omega
  · obtain ⟨u, rfl⟩ : ∃ u : Nat, n = -(u : Int) := ⟨n.natAbs, by omega⟩
    unfold itoaS catS
    rw [Int.neg_neg, Lib.itoa_nonneg, Lib.itoa_neg u (by omega)]
    rfl
theorem dig_min : ([45, 57, 50, 50, 51, 51, 55, 50, 48, 51, 54, 56, 53, 52, 55, 55, 53, 56, 48, 56] : List UInt8) = itoaS (-9223372036854775808) := by
  have e : (-9223372036854775808 : Int) = -((9223372036854775808 : Nat) : Int) := rfl
  unfold itoaS
  rw [e, Lib.itoa_neg _ (by decide)]
  simp [Lib.decDigits]
theorem dig_small {n : Int} (hn : ¬ n < 0) (h : n < 10) : [UInt8.ofNat (IntKind.u8.wrap (wAdd .i64 48 n)).toNat] = itoaS n := by
  obtain ⟨u, rfl⟩ : ∃ u : Nat, n = (u : Int) := ⟨n.toNat, by omega⟩
  unfold itoaS
  rw [Lib.itoa_nonneg, Lib.decDigits, dif_pos (by omega), wAdd_in (by omega), IntKind.wrap_u8]
  congr 2
  omega
theorem dig_big {n : Int} (h : inI n) (hn : ¬ n < 0) (h10 : ¬ n < 10) : wQuo .i64 n 10 = n / 10 ∧ inI (n / 10) ∧ dm (n / 10) < dm n ∧ catS (itoaS (n / 10)) [UInt8.ofNat (IntKind.u8.wrap (wAdd .i64 48 (wRem n 10))).toNat] = itoaS n := by
  unfold inI at *
  obtain ⟨u, rfl⟩ : ∃ u : Nat, n = (u : Int) := ⟨n.toNat, by omega⟩
  have hq : ((u : Int) / 10) = ((u / 10 : Nat) : Int) := by omega
  refine ⟨?_, by omega, ?_, ?_⟩
  · unfold wQuo
    rw [Int.tdiv_eq_ediv_of_nonneg (by omega), i64_in (by omega)]
  · unfold dm
    rw [if_neg hn, if_neg (by omega)]
    omega
  · unfold itoaS catS
    have e2 : wRem (u : Int) 10 = ((u % 10 : Nat) : Int) := rfl
    rw [hq, Lib.itoa_nonneg, Lib.itoa_nonneg, Lib.decDigits.eq_1 u, dif_neg (by omega), e2, wAdd_in (by omega), IntKind.wrap_u8]
    congr 3
    omega
end Go.Fn
namespace Go.Fn
open Go.Ab
def anyText : AnyV → Option (List UInt8)
  | .n x => some (itoaS x)
  | .s t => some t
  | .b _ => none
def texts (l : List AnyV) : List (List UInt8) := l.filterMap anyText
def said (l : List AnyV) : List UInt8 := joinS (texts l) [32]
def saidOK (l : List AnyV) : Prop := (∀ n, AnyV.n n ∈ l → inI n) ∧ (said l).length ≤ 100000000 ∧ l.length ≤ 100000000
theorem texts_zero (l : List AnyV) : texts (l.take 0) = [] := by simp [texts]
theorem texts_n {l : List AnyV} {k : Nat} {n : Int} (h : l[k]? = some (.n n)) : texts (l.take k) ++ [itoaS n] = texts (l.take (k + 1)) := by
  unfold texts; rw [List.take_add_one, h, List.filterMap_append]; rfl
theorem texts_s {l : List AnyV} {k : Nat} {s : List UInt8} (h : l[k]? = some (.s s)) : texts (l.take k) ++ [s] = texts (l.take (k + 1)) := by
  unfold texts; rw [List.take_add_one, h, List.filterMap_append]; rfl
theorem texts_b {l : List AnyV} {k : Nat} {x : AnyV} (h : l[k]? = some x) (h1 : ∀ a, x ≠ .n a) (h2 : ∀ a, x ≠ .s a) : texts (l.take k) = texts (l.take (k + 1)) := by
  unfold texts; rw [List.take_add_one, h, List.filterMap_append]
  cases x with
  | n a => exact absurd rfl (h1 a)
  | s a => exact absurd rfl (h2 a)
  | b a => simp [anyText]
theorem texts_end {l : List AnyV} {k : Nat} (h : ¬ k < l.length) : texts (l.take k) = texts l := by rw [List.take_of_length_le (by omega)]
theorem texts_len (l : List AnyV) (k : Nat) : (texts (l.take k)).length ≤ l.length := by
  unfold texts
  exact Nat.le_trans (List.length_filterMap_le _ _) (by rw [List.length_take]; omega)
end Go.Fn
namespace Go.Fn
open Go.Ab
def stpBad (k : Int) (a b c : List UInt8) : Bool := !(within k 1 5) || (decide ((a.length : Int) > 12) || (decide ((b.length : Int) > 12) || decide ((c.length : Int) > 4096)))
def stepT (s : Step) : List UInt8 := if s.1 = 1 then said [.s [119, 114, 105, 116, 101], .s s.2.1, .n (iOf (lenL s.2.2.2.1))] else if s.1 = 2 then said [.s [115, 121, 110, 99], .s s.2.1]
  else if s.1 = 3 then said [.s [114, 101, 110, 97, 109, 101], .s s.2.1, .s s.2.2.1] else if s.1 = 4 then said [.s [114, 101, 109, 111, 118, 101], .s s.2.1] else [115, 121, 110, 99, 100, 105, 114]
def stepC (s : Step) : Int := if stpBad s.1 s.2.1 s.2.2.1 s.2.2.2.1 = true then 1 else 0
def stepS (s : Step) : List UInt8 := if stpBad s.1 s.2.1 s.2.2.1 s.2.2.2.1 = true then [] else stepT s
theorem join2 (a b : List UInt8) : joinS [a, b] [32] = a ++ ([32] ++ b) := by simp [joinS, Lib.join, List.intercalate, List.intersperse]
theorem join3 (a b c : List UInt8) : joinS [a, b, c] [32] = a ++ ([32] ++ (b ++ ([32] ++ c))) := by simp [joinS, Lib.join, List.intercalate, List.intersperse]
theorem join4 (a b c d : List UInt8) : joinS [a, b, c, d] [32] = a ++ ([32] ++ (b ++ ([32] ++ (c ++ ([32] ++ d))))) := by simp [joinS, Lib.join, List.intercalate, List.intersperse]
theorem stpBad_no {k : Int} {a b c : List UInt8} (h : stpBad k a b c = false) : a.length ≤ 12 ∧ b.length ≤ 12 ∧ c.length ≤ 4096 := by
  unfold stpBad at h
  simp only [Bool.or_eq_false_iff, decide_eq_false_iff_not] at h
  omega
theorem stpBad_w {k : Int} {a b c : List UInt8} (h : within k 1 5 = false) : true = stpBad k a b c := by unfold stpBad; rw [h]; rfl
theorem stpBad_a {k : Int} {a b c : List UInt8} (h : iOf a.length > 12) : true = stpBad k a b c := by
  unfold stpBad; rw [decide_eq_true (p := (a.length : Int) > 12) h]; simp
theorem stpBad_b {k : Int} {a b c : List UInt8} (h : iOf b.length > 12) : true = stpBad k a b c := by
  unfold stpBad; rw [decide_eq_true (p := (b.length : Int) > 12) h]; simp
theorem stpBad_c {k : Int} {a b c : List UInt8} (hk : within k 1 5 = true) (h1 : ¬ iOf a.length > 12) (h2 : ¬ iOf b.length > 12) : decide (iOf c.length > 4096) = stpBad k a b c := by
  unfold stpBad; rw [hk, decide_eq_false (p := (a.length : Int) > 12) h1, decide_eq_false (p := (b.length : Int) > 12) h2]; rfl
theorem step_bad {s : Step} (h : stpBad s.1 s.2.1 s.2.2.1 s.2.2.2.1 = true) : [] = stepS s ∧ 1 = stepC s := by unfold stepS stepC; rw [if_pos h, if_pos h]; exact ⟨rfl, rfl⟩
theorem step_ok {s : Step} (h : stpBad s.1 s.2.1 s.2.2.1 s.2.2.2.1 = false) : stepT s = stepS s ∧ 0 = stepC s := by unfold stepS stepC; rw [if_neg (by rw [h]; exact Bool.false_ne_true), if_neg (by rw [h]; exact Bool.false_ne_true)]; exact ⟨rfl, rfl⟩
def szStep (s : Step) (n : Int) : Int := if wSub .i64 n (iOf (lenL s.2.1)) < 0 then -1 else if wSub .i64 (wSub .i64 n (iOf (lenL s.2.1))) (iOf (lenL s.2.2.1)) < 0 then -1 else if wSub .i64 (wSub .i64 (wSub .i64 n (iOf (lenL s.2.1))) (iOf (lenL s.2.2.1))) (iOf (lenL s.2.2.2.1)) < 0 then -1 else wSub .i64 (wSub .i64 (wSub .i64 n (iOf (lenL s.2.1))) (iOf (lenL s.2.2.1))) (iOf (lenL s.2.2.2.1))
theorem inI_len {n : Nat} (h : n < 1099511627776) : inI (iOf n) := by unfold inI iOf; omega
theorem said_ss (w a : List UInt8) : said [.s w, .s a] = w ++ ([32] ++ a) := join2 w a
theorem said_sss (w a b : List UInt8) : said [.s w, .s a, .s b] = w ++ ([32] ++ (a ++ ([32] ++ b))) := join3 w a b
theorem said_ssn (w a : List UInt8) (n : Int) : said [.s w, .s a, .n n] = w ++ ([32] ++ (a ++ ([32] ++ itoaS n))) := join3 w a (itoaS n)
theorem said_ssns (w a b : List UInt8) (n : Int) : said [.s w, .s a, .n n, .s b] = w ++ ([32] ++ (a ++ ([32] ++ (itoaS n ++ ([32] ++ b))))) := join4 w a (itoaS n) b
theorem sok_ss {w a : List UInt8} (h1 : w.length ≤ 100) (h2 : a.length ≤ 10000) : saidOK [.s w, .s a] := by
  refine ⟨fun n hn => by simp at hn, ?_, by simp⟩
  rw [said_ss]; simp; omega
theorem sok_sss {w a b : List UInt8} (h1 : w.length ≤ 100) (h2 : a.length ≤ 10000) (h3 : b.length ≤ 10000) : saidOK [.s w, .s a, .s b] := by
  refine ⟨fun n hn => by simp at hn, ?_, by simp⟩
  rw [said_sss]; simp; omega
theorem sok_ssn {w a : List UInt8} {n : Int} (h1 : w.length ≤ 100) (h2 : a.length ≤ 10000) (hn : inI n) : saidOK [.s w, .s a, .n n] := by
  refine ⟨fun m hm => by simp at hm; rw [hm]; exact hn, ?_, by simp⟩
  have := itoa_len hn
  rw [said_ssn]; simp; omega
theorem sok_ssns {w a b : List UInt8} {n : Int} (h1 : w.length ≤ 100) (h2 : a.length ≤ 10000) (hn : inI n) (h3 : b.length ≤ 10000) : saidOK [.s w, .s a, .n n, .s b] := by
  refine ⟨fun m hm => by simp at hm; rw [hm]; exact hn, ?_, by simp⟩
  have := itoa_len hn
  rw [said_ssns]; simp; omega
theorem f_cat {a b : List UInt8} (h : a.length + b.length ≤ 1000000) : fits (a.length + b.length) := by show _ < 1099511627776; omega
end Go.Fn
namespace Go.Proofs.YtolminmmnckpkaaGreatDoor
open Go.Ab Go.Fn
def tabP (w : World) : Prop := Lib.TabIs Tryz.prog w "internal/strconv.uint64pow10" .u64 Lib.pow10Tab
theorem gPow : Tryz.prog.globalNamed "internal/strconv.uint64pow10" = some 3 := by kernel_rfl
def mkT (specs : List (Nat × FSpec)) (clos : List (Nat × CSpec)) : Env := { tys := tys, specs := specs, clos := clos, anyB := 4, anyN := 3, anyS := 9, gl := 3 + 1, tab := tabP }
theorem tabT (specs clos) : TabS (mkT specs clos) := by
  intro w w' h hb
  have hb0 : w'.heap[3]? = w.heap[3]? := hb 3 (Nat.lt_succ_self _)
  have h : w.var? Tryz.prog "internal/strconv.uint64pow10" = _ := h
  show w'.var? Tryz.prog "internal/strconv.uint64pow10" = _
  rw [← h]
  unfold World.var?
  rw [gPow]
  simp only [Option.bind_some, hb0]
theorem envT (specs clos) : EnvOK Tryz.prog (mkT specs clos) :=
  { tys := (envOK specs clos []).tys, distinct := (envOK specs clos []).distinct, anyTys := (envOK specs clos []).anyTys, anyZ := (envOK specs clos []).anyZ }
def FT (f : Nat) (sp : FSpec) : Prop := FOK Tryz.prog (mkT [] []) f sp
theorem toT {f : Nat} {sp : FSpec} (h : FO f sp) : FT f sp := fok_env (E := E0) (E' := mkT [] []) ⟨rfl, rfl, rfl⟩ ⟨fun _ _ => trivial, Nat.zero_le _, fun _ _ _ _ => trivial⟩ h
def AllT : List (Nat × FSpec) → Prop
  | [] => True
  | (f, sp) :: r => FT f sp ∧ AllT r
theorem AllT.get : ∀ {l : List (Nat × FSpec)}, AllT l → ∀ {f sp} , Go.Ab.look l f = some sp → FT f sp
  | [], _, f, sp, h => by cases h
  | (k, x) :: r, ⟨h1, h2⟩, f, sp, h => by
    simp only [Go.Ab.look] at h
    cases hk : Nat.beq k f with
    | true => rw [hk] at h; cases h; rw [← Nat.eq_of_beq_eq_true hk]; exact h1
    | false => rw [hk] at h; exact AllT.get h2 h
theorem progT {specs clos} (h1 : AllT specs) (h2 : AllC clos) : ProgOK Tryz.prog (mkT specs clos) :=
  { env := envT specs clos, specs := fun f sp h => fok_env (E := mkT [] []) (E' := mkT specs clos) ⟨rfl, rfl, rfl⟩ ⟨fun _ h => h, Nat.le_refl _, tabT [] []⟩ (h1.get h), clos := fun f cl h => cok_env (E := E0) (E' := mkT specs clos) ⟨rfl, rfl, rfl⟩ (h2.get h), inl := fun f T h => (by cases h), mixed := by kernel_rfl }
theorem foT {specs clos f fn sp} (A : pdens sp.ps → List (Nat × (St → LoopAnn))) (h1 : AllT specs) (h2 : AllC clos) (hf : Tryz.prog.funcs[f]? = some fn) (hn : (fn.name == "runtime.NumGoroutine") = false) (hb : fn.body.isSome = true) (hv : ∀ x, sp.pre x → vc (mkT specs clos) (A x) fn sp x) : FT f sp :=
  fok_env (E := mkT specs clos) (E' := mkT [] []) ⟨rfl, rfl, rfl⟩ ⟨fun _ h => h, Nat.le_refl _, tabT specs clos⟩ (fok_of_vc (progT h1 h2) hf hn A hv hb)
end Go.Proofs.YtolminmmnckpkaaGreatDoor
namespace Go.Proofs.YtolminmmnckpkaaGreatDoor
open Go.Ab Go.Fn
def s_Itoa : FSpec := { ps := [.v I], rs := [.v .str], pre := fun x => Fn.inI x.1, fn := fun x => (Fn.itoaS x.1, ()), upd := fun _ => () }
theorem ft_Itoa : FT 137 s_Itoa := by
  refine fok_raw (ps := [.v I]) (fn := fun x => Fn.itoaS x.1) rfl ⟨_, Tryz.func137, rfl, rfl⟩ ?_
  rintro ⟨(n : Int), ⟨⟩⟩ c vs hE hT ⟨h1, h2⟩ hV
  have h1 : -9223372036854775808 ≤ n := h1
  have h2 : n ≤ 9223372036854775807 := h2
  have hV : VRelL c [.d (.int .i64) n] vs := hV
  simp only [VRelL] at hV
  obtain ⟨v, q, rfl, r, rfl⟩ := hV
  have hv := int_ok (k := .i64) (n := n) r
  subst hv
  refine Calls.mono (Tryz.strconv_Itoa n h1 h2 c.w hT) fun e w' he => ?_
  obtain ⟨rfl, k, os, rfl⟩ := he
  refine ⟨rfl, ?_, keep_of rfl rfl rfl ?_ ?_⟩
  · have := Lib.itoa_length_le n h1 h2
    show (Lib.itoa n).length < lim
    unfold lim
    omega
  · unfold Sort.grow World.drewN; simp
  · intro b hb
    unfold Sort.grow World.drewN
    simp only
    rw [Array.getElem?_append_left hb]
end Go.Proofs.YtolminmmnckpkaaGreatDoor
namespace Go.Proofs.YtolminmmnckpkaaGreatDoor
open Go.Ab Go.Fn
def s_Join : FSpec := { ps := [.v (.slice .str), .v .str], rs := [.v .str], pre := fun x => (Fn.joinS x.1 x.2.1).length ≤ 100000000 ∧ List.length (α := List UInt8) x.1 ≤ 100000000, fn := fun x => (Fn.joinS x.1 x.2.1, ()), upd := fun _ => () }
theorem fo_Join : FO 115 s_Join := by
  refine fok_raw (ps := [.v (.slice .str), .v .str]) (fn := fun x => Fn.joinS x.1 x.2.1) rfl ⟨_, Tryz.func115, rfl, rfl⟩ ?_
  rintro ⟨(l : List (List UInt8)), (u : List UInt8), ⟨⟩⟩ c vs hE - ⟨h1, h2⟩ hV
  have h1 : (Lib.join l u).length ≤ 100000000 := h1
  have h2 : l.length ≤ 100000000 := h2
  have hV : VRelL c [.d (.slice .str) l, .d .str u] vs := hV
  simp only [VRelL] at hV
  obtain ⟨v, q, rfl, r, v2, q2, rfl, r2, rfl⟩ := hV
  have hu := (str_ok (s := u) r2).1
  subst hu
  have r' : Rep c.E c.X c.w (.slice .str) l [v] := r.2
  obtain ⟨ad, n, cap, e, hn, hc, hlm, hr⟩ := r'
  simp only [List.cons.injEq, and_true] at e
  subst e
  have hn : n = l.length := hn
  subst hn
  have hlim : (Lib.join l u).length < lim := by unfold lim; omega
  rcases hr with hr | ⟨b, off, rfl, hb, hX, hr⟩
  · have hr : l = [] := hr
    subst hr
    refine Calls.mono (Tryz.strings_Join_none ad cap ⟨u.toArray⟩ c.w) fun e w' he => ?_
    obtain ⟨rfl, rfl⟩ := he
    exact ⟨rfl, hlim, Keep.refl _ _⟩
  · have hc : l.length ≤ cap := hc
    have e1 : (l.map fun s => (⟨s.toArray⟩ : ByteArray)).map (fun x => x.data.toList) = l := by
      rw [List.map_map]
      have : ((fun x : ByteArray => x.data.toList) ∘ fun s : List UInt8 => (⟨s.toArray⟩ : ByteArray)) = id := rfl
      rw [this, List.map_id]
    have := Tryz.strings_Join b off cap (l.map fun s => ⟨s.toArray⟩) ⟨u.toArray⟩ c.w (fun j x hx => ?_) hb (by rw [List.length_map]; omega) (by rw [List.length_map]; exact hc) (by rw [e1]; show (Lib.join l u).length ≤ _; omega)
    · rw [List.length_map, e1] at this
      refine Calls.mono this fun e w' he => ?_
      obtain ⟨rfl, hk⟩ := he
      exact ⟨rfl, hlim, keep_below hk⟩
    · rw [List.getElem?_map] at hx
      cases hj : l[j]? with
      | none => rw [hj] at hx; cases hx
      | some s =>
        rw [hj] at hx
        cases hx
        obtain ⟨cells, hc1, hc2⟩ := hr j s hj
        have hc2 : cells = [.string ⟨s.toArray⟩] ∧ s.length < lim := by simpa [Rep] using hc2
        have := hc1 0 _ (by rw [hc2.1]; rfl)
        simpa [Ty.size] using this
end Go.Proofs.YtolminmmnckpkaaGreatDoor
namespace Go.Proofs.YtolminmmnckpkaaGreatDoor
open Go.Ab Go.Fn
def s_dig (N : Nat) : FSpec := { ps := [.v I], rs := [.v .str], pre := fun x => Fn.inI x.1 ∧ Fn.dm x.1 < N, fn := fun x => (Fn.itoaS x.1, ()), upd := fun _ => () }
theorem fo_dig : ∀ N, FO 94 (s_dig N)
  | 0 => ⟨⟨_, Tryz.func94, rfl, rfl⟩, fun _ _ _ _ _ _ hp => absurd hp.2 (Nat.not_lt_zero _)⟩
  | N + 1 => by
    refine fo (specs := [(94, s_dig N)]) (clos := []) (fun x => []) ⟨fo_dig N, trivial⟩ trivial Tryz.func94 rfl rfl ?_
    rintro ⟨n, ⟨⟩⟩ ⟨hi, hd⟩
    refine vcOf (((n == (-9223372036854775808 : Int)) = true → ((45 : UInt8) :: (57 : UInt8) :: (50 : UInt8) :: (50 : UInt8) :: (51 : UInt8) :: (51 : UInt8) :: (55 : UInt8) :: (50 : UInt8) :: (48 : UInt8) :: (51 : UInt8) :: (54 : UInt8) :: (56 : UInt8) :: (53 : UInt8) :: (52 : UInt8) :: (55 : UInt8) :: (55 : UInt8) :: (53 : UInt8) :: (56 : UInt8) :: (48 : UInt8) :: (56 : UInt8) :: ([] : List UInt8), ()) = (itoaS n, ()) ∧ () = ()) ∧ ((n == (-9223372036854775808 : Int)) = false → (decide (n < (0 : Int)) = true → true = true ∧ (inI (wNeg IntKind.i64 n) ∧ dm (wNeg IntKind.i64 n) < N) ∧ fits (lenL ((45 : UInt8) :: ([] : List UInt8)) + lenL (itoaS (wNeg IntKind.i64 n))) ∧ (catS ((45 : UInt8) :: ([] : List UInt8)) (itoaS (wNeg IntKind.i64 n)), ()) = (itoaS n, ()) ∧ () = ()) ∧ (decide (n < (0 : Int)) = false → (decide (n < (10 : Int)) = true → (UInt8.ofNat (IntKind.u8.wrap (wAdd IntKind.i64 (48 : Int) n)).toNat :: ([] : List UInt8), ()) = (itoaS n, ()) ∧ () = ()) ∧ (decide (n < (10 : Int)) = false → nz (10 : Int) ∧ nz (10 : Int) ∧ (true = true ∧ (inI (wQuo IntKind.i64 n (10 : Int)) ∧ dm (wQuo IntKind.i64 n (10 : Int)) < N) ∧ fits (lenL (itoaS (wQuo IntKind.i64 n (10 : Int))) + lenL (UInt8.ofNat (IntKind.u8.wrap (wAdd IntKind.i64 (48 : Int) (wRem n (10 : Int)))).toNat :: ([] : List UInt8))) ∧ (catS (itoaS (wQuo IntKind.i64 n (10 : Int))) (UInt8.ofNat (IntKind.u8.wrap (wAdd IntKind.i64 (48 : Int) (wRem n (10 : Int)))).toNat :: ([] : List UInt8)), ()) = (itoaS n, ()) ∧ () = ()) ∧ true = true ∧ (inI (wQuo IntKind.i64 n (10 : Int)) ∧ dm (wQuo IntKind.i64 n (10 : Int)) < N) ∧ fits (lenL (itoaS (wQuo IntKind.i64 n (10 : Int))) + lenL (UInt8.ofNat (IntKind.u8.wrap (wAdd IntKind.i64 (48 : Int) (wRem n (10 : Int)))).toNat :: ([] : List UInt8))) ∧ (catS (itoaS (wQuo IntKind.i64 n (10 : Int))) (UInt8.ofNat (IntKind.u8.wrap (wAdd IntKind.i64 (48 : Int) (wRem n (10 : Int)))).toNat :: ([] : List UInt8)), ()) = (itoaS n, ()) ∧ () = ())))) (by kernel_rfl) ?_
    simp only [Nat.le_refl, Nat.succ_eq_add_one, Nat.reduceAdd, Nat.reduceLeDiff, Nat.zero_le, pair_unit, mk_eta, len_bne, eqD_bne, bne_iff_ne, bne_eq_false_iff_eq, beq_iff_eq, beq_eq_false_iff_ne, true_and, and_true, and_self, eq_self, lt_iff, nthI_nat, bnd_iff, decide_eq_true_eq, decide_eq_false_iff_not, Nat.sub_eq, nz, ne_eq, not_false_eq_true, Prod.mk.injEq, Int.reduceEq, Nat.reduceEqDiff, forall_const, implies_true, bne_self_eq_false, Bool.true_eq_false, Bool.false_eq_true, false_implies, reduceCtorEq, Bool.not_true, Bool.not_false, List.all_cons, List.all_nil, Bool.and_true, Bool.not_eq_true, Bool.not_eq_false, Bool.not_eq_true', Bool.not_eq_false', Decidable.not_not]; try simp only [lenL]
    have hi : Fn.inI n := hi
    have hd : Fn.dm n < N + 1 := hd
    refine ⟨fun h => by rw [h]; exact dig_min, fun hm => ⟨fun hn => ?_, fun hn => ⟨fun h10 => dig_small hn h10, fun h10 => ?_⟩⟩⟩
    · obtain ⟨e, h1, h2, h3⟩ := dig_neg hi hm hn
      rw [e]
      have := itoa_len h1
      exact ⟨⟨h1, by omega⟩, f_cat (by simp only [List.length_cons, List.length_nil]; omega), h3⟩
    · obtain ⟨e, h1, h2, h3⟩ := dig_big hi hn h10
      rw [e]
      have := itoa_len h1
      exact ⟨⟨h1, by omega⟩, f_cat (by simp only [List.length_cons, List.length_nil]; omega), h3⟩
def s_Digits : FSpec := { ps := [.v I], rs := [.v .str], pre := fun x => Fn.inI x.1, fn := fun x => (Fn.itoaS x.1, ()), upd := fun _ => () }
theorem fo_l00Digits : FO 94 s_Digits :=
  fok_pre (sp := s_Digits) ⟨_, Tryz.func94, rfl, rfl⟩ fun x hx => ⟨fun y => Fn.inI y.1 ∧ Fn.dm y.1 < Fn.dm x.1 + 1, ⟨hx, Nat.lt_succ_self _⟩, fo_dig (Fn.dm x.1 + 1)⟩
end Go.Proofs.YtolminmmnckpkaaGreatDoor
namespace Go.Proofs.YtolminmmnckpkaaGreatDoor
open Go.Ab Go.Fn
def s_said : FSpec := { ps := [.v (.slice .any)], rs := [.v .str], pre := fun x => Fn.saidOK x.1, fn := fun x => (Fn.said x.1, ()), upd := fun _ => () }
def L_said (l : List AnyV) : LoopAnn := { ι := Nat, inv := fun k => k ≤ l.length, slots := fun k => [(3, .os 0), (11, .d I (Int.ofNat k))], objs := fun k => [(0, .arr .str (Fn.texts (l.take k)) false)], μ := fun k => l.length - k }
theorem ft_said : FT 103 s_said := by
  refine foT (specs := [(137, s_Itoa), (115, s_Join)]) (clos := []) (fun x => [(3, .lv [3, 9, 10, 11] <| fun _ => L_said x.1)]) ⟨ft_Itoa, toT fo_Join, trivial⟩ trivial Tryz.func103 rfl rfl ?_
  rintro ⟨l, ⟨⟩⟩ hp
  refine vcOf (fits (lenL l) → (∃ (i : Nat), i ≤ List.length l ∧ (nat_lit 0 = (0 : Nat) ∧ l = l ∧ iOf (lenL l) = iOf (lenL l) ∧ (0 : Int) = Int.ofNat i ∧ True) ∧ ((([] : List (List UInt8)) = texts (List.take i l) ∧ false = false) ∧ True) ∧ True) ∧ ∀ (i : Nat), i ≤ List.length l → (decide (Int.ofNat i < iOf (lenL l)) = true → bnd (Int.ofNat i) (lenL l) ∧ ∀ (x : AnyV), nthI l (Int.ofNat i) = some x → nat_lit 1 ≤ nat_lit 1 ∧ (∀ (a : Int), x = AnyV.n a → true = true ∧ inI a ∧ fits (lenL (texts (List.take i l)) + lenL (itoaS a :: ([] : List (List UInt8)))) ∧ ∃ (j : Nat), j ≤ List.length l ∧ (List.length l).sub j < (List.length l).sub i ∧ ((0 : Nat) = (0 : Nat) ∧ l = l ∧ iOf (lenL l) = iOf (lenL l) ∧ wAdd IntKind.i64 (Int.ofNat i) (1 : Int) = Int.ofNat j ∧ True) ∧ ((texts (List.take i l) ++ itoaS a :: ([] : List (List UInt8)) = texts (List.take j l) ∧ false = false) ∧ True) ∧ True) ∧ ((∀ (a : Int), x ≠ AnyV.n a) → (∀ (a : List UInt8), x = AnyV.s a → fits (lenL (texts (List.take i l)) + lenL (a :: ([] : List (List UInt8)))) ∧ ∃ (j : Nat), j ≤ List.length l ∧ (List.length l).sub j < (List.length l).sub i ∧ ((0 : Nat) = (0 : Nat) ∧ l = l ∧ iOf (lenL l) = iOf (lenL l) ∧ wAdd IntKind.i64 (Int.ofNat i) (1 : Int) = Int.ofNat j ∧ True) ∧ ((texts (List.take i l) ++ a :: ([] : List (List UInt8)) = texts (List.take j l) ∧ false = false) ∧ True) ∧ True) ∧ ((∀ (a : List UInt8), x ≠ AnyV.s a) → ∃ (j : Nat), j ≤ List.length l ∧ (List.length l).sub j < (List.length l).sub i ∧ ((0 : Nat) = (0 : Nat) ∧ l = l ∧ iOf (lenL l) = iOf (lenL l) ∧ wAdd IntKind.i64 (Int.ofNat i) (1 : Int) = Int.ofNat j ∧ True) ∧ ((texts (List.take i l) = texts (List.take j l) ∧ false = false) ∧ True) ∧ True))) ∧ (decide (Int.ofNat i < iOf (lenL l)) = false → true = true ∧ ((joinS (texts (List.take i l)) ((32 : UInt8) :: ([] : List UInt8))).length ≤ (100000000 : Nat) ∧ (texts (List.take i l)).length ≤ (100000000 : Nat)) ∧ (joinS (texts (List.take i l)) ((32 : UInt8) :: ([] : List UInt8)), ()) = (said l, ()) ∧ () = ())) (by kernel_rfl) ?_
  simp only [Nat.le_refl, Nat.succ_eq_add_one, Nat.reduceAdd, Nat.reduceLeDiff, Nat.zero_le, pair_unit, mk_eta, len_bne, eqD_bne, bne_iff_ne, bne_eq_false_iff_eq, beq_iff_eq, beq_eq_false_iff_ne, true_and, and_true, and_self, eq_self, lt_iff, nthI_nat, bnd_iff, decide_eq_true_eq, decide_eq_false_iff_not, Nat.sub_eq, nz, ne_eq, not_false_eq_true, Prod.mk.injEq, Int.reduceEq, Nat.reduceEqDiff, forall_const, implies_true, bne_self_eq_false, Bool.true_eq_false, Bool.false_eq_true, false_implies, reduceCtorEq, Bool.not_true, Bool.not_false, List.all_cons, List.all_nil, Bool.and_true, Bool.not_eq_true, Bool.not_eq_false, Bool.not_eq_true', Bool.not_eq_false', Decidable.not_not]; try simp only [lenL]
  obtain ⟨hp1, hp2, hp3⟩ := hp
  have hp3 : List.length l ≤ 100000000 := hp3
  refine fun hf => ⟨⟨0, Nat.zero_le _, rfl, (texts_zero l).symm⟩, fun i hi => ⟨fun h => ⟨h, fun x hx => ⟨?_, fun hn => ⟨?_, fun hs => ⟨i + 1, h, Nat.sub_lt_sub_left h (Nat.lt_succ_self i), inc_in hf hi, texts_b hx hn hs⟩⟩⟩⟩, fun h => ?_⟩⟩
  · rintro a rfl
    have := texts_len l i
    have hf' : List.length l < 1099511627776 := hf
    refine ⟨hp1 a (List.mem_of_getElem? hx), by show (texts (l.take i)).length + 1 < 1099511627776; omega, i + 1, h, Nat.sub_lt_sub_left h (Nat.lt_succ_self i), inc_in hf hi, texts_n hx⟩
  · rintro a rfl
    have := texts_len l i
    refine ⟨by show (texts (l.take i)).length + 1 < 1099511627776; omega, i + 1, h, Nat.sub_lt_sub_left h (Nat.lt_succ_self i), inc_in hf hi, texts_s hx⟩
  · rw [texts_end h]
    have := texts_len l l.length
    rw [List.take_length] at this
    exact ⟨⟨hp2, by omega⟩, rfl⟩
end Go.Proofs.YtolminmmnckpkaaGreatDoor
namespace Go.Fn
open Go.Ab
def hexD (n : Nat) : UInt8 := [48, 49, 50, 51, 52, 53, 54, 55, 56, 57, 97, 98, 99, 100, 101, 102].getD n 48
def plainB (c : UInt8) (i : Nat) : Bool := decide (32 < c.toNat) && (decide (c.toNat < 127) && (!(decide (c = 37)) && (!(decide (c = 45)) || decide (0 < i))))
def hexB (c : UInt8) : List UInt8 := [37, hexD (c.toNat / 16), hexD (c.toNat % 16)]
def wordB (c : UInt8) (i : Nat) : List UInt8 := if plainB c i = true then [c] else hexB c
def wordTo (t : List UInt8) : Nat → List UInt8
  | 0 => []
  | k + 1 => wordTo t k ++ wordB (t.getD k 0) k
def word (t : List UInt8) : List UInt8 := if t = [] then [45] else wordTo t t.length
def plainAt (t : List UInt8) (i : Int) : Bool := plainB (t.getD i.toNat 0) i.toNat
theorem getD_at {t : List UInt8} {i : Nat} {c : UInt8} (h : t[i]? = some c) : t.getD i 0 = c := by rw [List.getD_eq_getElem?_getD, h]; rfl
theorem plainAt_at {t : List UInt8} {i : Nat} {c : UInt8} (h : t[i]? = some c) : plainAt t (Int.ofNat i) = plainB c i := by
  unfold plainAt; rw [show (Int.ofNat i).toNat = i from rfl, getD_at h]
theorem wordTo_at {t : List UInt8} {i : Nat} {c : UInt8} (h : t[i]? = some c) : wordTo t (i + 1) = wordTo t i ++ wordB c i := by
  show wordTo t i ++ wordB (t.getD i 0) i = _
  rw [getD_at h]
theorem wordTo_len (t : List UInt8) : ∀ k, (wordTo t k).length ≤ 3 * k
  | 0 => Nat.le_refl _
  | k + 1 => by
    have := wordTo_len t k
    show (wordTo t k ++ wordB (t.getD k 0) k).length ≤ _
    rw [List.length_append]
    have h2 : (wordB (t.getD k 0) k).length ≤ 3 := by
      unfold wordB hexB
      split <;> simp
    omega
theorem word_len {t : List UInt8} : (word t).length ≤ 3 * t.length + 1 := by
  unfold word
  split
  · simp
  · have := wordTo_len t t.length
    omega
theorem back_map (l : List UInt8) : (l.map fun c => Int.ofNat c.toNat).map (fun n => UInt8.ofNat n.toNat) = l := by
  rw [List.map_map]
  have : ((fun n : Int => UInt8.ofNat n.toNat) ∘ fun c : UInt8 => Int.ofNat c.toNat) = id := by funext c; simp
  rw [this, List.map_id]
theorem word_end {t : List UInt8} {i : Nat} (hi : i ≤ t.length) (h : ¬ i < t.length) (hn : ¬ t = []) : (((wordTo t i).map fun c => Int.ofNat c.toNat).map fun n => UInt8.ofNat n.toNat) = word t := by
  rw [back_map]
  unfold word
  rw [if_neg hn, show i = t.length by omega]
theorem word_plain {t : List UInt8} {i : Nat} {c : UInt8} (h : t[i]? = some c) (hp : plainAt t (Int.ofNat i) = true) : ((wordTo t i).map fun c => Int.ofNat c.toNat) ++ [Int.ofNat c.toNat] = (wordTo t (i + 1)).map fun c => Int.ofNat c.toNat := by
  rw [plainAt_at h] at hp
  rw [wordTo_at h, List.map_append]
  unfold wordB
  rw [if_pos hp]; rfl
theorem word_hex {t : List UInt8} {i : Nat} {c a b : UInt8} (h : t[i]? = some c) (hp : plainAt t (Int.ofNat i) = false) (ha : a = hexD (c.toNat / 16)) (hb : b = hexD (c.toNat % 16)) : ((wordTo t i).map fun c => Int.ofNat c.toNat) ++ [37, Int.ofNat a.toNat, Int.ofNat b.toNat] = (wordTo t (i + 1)).map fun c => Int.ofNat c.toNat := by
  rw [plainAt_at h] at hp
  rw [wordTo_at h, List.map_append]
  unfold wordB hexB
  rw [if_neg (by rw [hp]; exact Bool.false_ne_true), ha, hb]; rfl
theorem hex_quo (c : UInt8) : wQuo .u8 (Int.ofNat c.toNat) 16 = Int.ofNat (c.toNat / 16) := by
  have h := c.toNat_lt
  unfold wQuo
  rw [show Int.tdiv (Int.ofNat c.toNat) 16 = Int.ofNat (c.toNat / 16) from rfl, IntKind.wrap_u8]
  simp only [Int.ofNat_eq_natCast]
  omega
theorem hex_rem (c : UInt8) : wRem (Int.ofNat c.toNat) 16 = Int.ofNat (c.toNat % 16) := rfl
theorem hex_shr (c : UInt8) : wShr .u8 (Int.ofNat c.toNat) 4 = Int.ofNat (c.toNat / 16) := rfl
theorem hex_and (c : UInt8) : wBits .and .u8 (Int.ofNat c.toNat) 15 = Int.ofNat (c.toNat % 16) := by
  have h := c.toNat_lt
  show IntKind.u8.wrap ((BitVec.ofInt 8 ((c.toNat : Nat) : Int) &&& BitVec.ofInt 8 ((15 : Nat) : Int)).toNat : Int) = _
  rw [BitVec.ofInt_natCast, BitVec.ofInt_natCast, BitVec.toNat_and, BitVec.toNat_ofNat, BitVec.toNat_ofNat, Nat.mod_eq_of_lt (by omega), Nat.mod_eq_of_lt (by decide)]
  rw [show (15 : Nat) = 2 ^ 4 - 1 from rfl, Nat.and_two_pow_sub_one_eq_mod, IntKind.wrap_u8]
  simp only [Int.ofNat_eq_natCast]
  omega
theorem hexD_at {n : Nat} {d : UInt8} (h : [48, 49, 50, 51, 52, 53, 54, 55, 56, 57, 97, 98, 99, 100, 101, 102][n]? = some d) : d = hexD n := by
  unfold hexD; rw [List.getD_eq_getElem?_getD, h]; rfl
theorem pb_low {t : List UInt8} {i : Nat} {c : UInt8} (h : t[i]? = some c) (hc : ¬ Int.ofNat c.toNat > 32) : false = plainAt t (Int.ofNat i) := by
  rw [plainAt_at h]; unfold plainB; rw [decide_eq_false (p := 32 < c.toNat) (by simp only [Int.ofNat_eq_natCast] at hc; omega)]; rfl
theorem pb_high {t : List UInt8} {i : Nat} {c : UInt8} (h : t[i]? = some c) (hc : ¬ Int.ofNat c.toNat < 127) : false = plainAt t (Int.ofNat i) := by
  rw [plainAt_at h]; unfold plainB; rw [decide_eq_false (p := c.toNat < 127) (by simp only [Int.ofNat_eq_natCast] at hc; omega)]; simp
theorem b_iff {c d : UInt8} : (Int.ofNat c.toNat = Int.ofNat d.toNat) = (c = d) := propext ⟨fun h => UInt8.toNat_inj.1 (Int.ofNat.inj h), fun h => by rw [h]⟩
theorem pb_pct {t : List UInt8} {i : Nat} {c : UInt8} (h : t[i]? = some c) (hc : Int.ofNat c.toNat = 37) : false = plainAt t (Int.ofNat i) := by
  have hc : c = 37 := b_iff.mp (show Int.ofNat c.toNat = Int.ofNat (37 : UInt8).toNat from hc)
  rw [plainAt_at h, hc]; unfold plainB; simp
theorem pb_rest {t : List UInt8} {i : Nat} {c : UInt8} (h : t[i]? = some c) (h1 : Int.ofNat c.toNat > 32) (h2 : Int.ofNat c.toNat < 127) (h3 : ¬ Int.ofNat c.toNat = 37) : plainAt t (Int.ofNat i) = (!(decide (c = 45)) || decide (0 < i)) := by
  have h3 : ¬ c = 37 := fun e => h3 (by rw [e]; rfl)
  rw [plainAt_at h]; unfold plainB
  rw [decide_eq_true (p := 32 < c.toNat) (by simp only [Int.ofNat_eq_natCast] at h1; omega), decide_eq_true (p := c.toNat < 127) (by simp only [Int.ofNat_eq_natCast] at h2; omega), decide_eq_false h3]; rfl
theorem pb_dash {t : List UInt8} {i : Nat} {c : UInt8} (h : t[i]? = some c) (h1 : Int.ofNat c.toNat > 32) (h2 : Int.ofNat c.toNat < 127) (h3 : ¬ Int.ofNat c.toNat = 37) (h4 : Int.ofNat c.toNat = 45) : decide (Int.ofNat i > 0) = plainAt t (Int.ofNat i) := by
  have h4 : c = 45 := b_iff.mp (show Int.ofNat c.toNat = Int.ofNat (45 : UInt8).toNat from h4)
  rw [pb_rest h h1 h2 h3, h4]
  simp
theorem pb_ok {t : List UInt8} {i : Nat} {c : UInt8} (h : t[i]? = some c) (h1 : Int.ofNat c.toNat > 32) (h2 : Int.ofNat c.toNat < 127) (h3 : ¬ Int.ofNat c.toNat = 37) (h4 : ¬ Int.ofNat c.toNat = 45) : true = plainAt t (Int.ofNat i) := by
  have h4 : ¬ c = 45 := fun e => h4 (by rw [e]; rfl)
  rw [pb_rest h h1 h2 h3, decide_eq_false h4]; rfl
theorem in_33 {c : UInt8} (h : within (IntKind.i64.wrap (Int.ofNat c.toNat)) 33 126 = true) : Int.ofNat c.toNat > 32 ∧ Int.ofNat c.toNat < 127 := by
  rw [i64_byte] at h
  unfold within at h
  simp only [Bool.and_eq_true, decide_eq_true_eq] at h
  simp only [Int.ofNat_eq_natCast]
  omega
theorem out_33 {t : List UInt8} {i : Nat} {c : UInt8} (ht : t[i]? = some c) (h : within (IntKind.i64.wrap (Int.ofNat c.toNat)) 33 126 = false) : false = plainAt t (Int.ofNat i) := by
  rw [i64_byte] at h
  by_cases h1 : Int.ofNat c.toNat > 32
  · refine pb_high ht fun h2 => ?_
    unfold within at h
    simp only [Int.ofNat_eq_natCast] at h1 h2
    rw [decide_eq_true (p := (33 : Int) ≤ (c.toNat : Int)) (by omega), decide_eq_true (p := (c.toNat : Int) ≤ 126) (by omega)] at h
    cases h
  · exact pb_low ht h1
end Go.Fn
namespace Go.Fn
open Go.Ab
def recT (r : Rec) : List UInt8 := if r.1 = 1 then said [.s [102, 105, 108, 101], .s r.2.1, .n r.2.2.2.1, .s (word r.2.2.1)] else if r.1 = 2 then said [.s [108, 105, 110, 107], .s r.2.1, .s (word r.2.2.1)]
  else if r.1 = 4 then said [.s [119, 104, 105, 116, 101], .s r.2.1] else if r.2.2.2.2.1 = true then said [.s [111, 112, 97, 113, 117, 101], .s r.2.1, .n r.2.2.2.1] else said [.s [100, 105, 114], .s r.2.1, .n r.2.2.2.1]
theorem rt_opq {k : Int} {p b : List UInt8} {m : Int} (h1 : ¬k = 1) (h2 : ¬k = 2) (h3 : ¬k = 4) : recT (k, p, b, m, true, ()) = said [.s [111, 112, 97, 113, 117, 101], .s p, .n m] := by unfold recT; rw [if_neg h1, if_neg h2, if_neg h3]; rfl
theorem rt_dir {k : Int} {p b : List UInt8} {m : Int} (h1 : ¬k = 1) (h2 : ¬k = 2) (h3 : ¬k = 4) : recT (k, p, b, m, false, ()) = said [.s [100, 105, 114], .s p, .n m] := by unfold recT; rw [if_neg h1, if_neg h2, if_neg h3]; rfl
def recTS (r : Rec) : List UInt8 := if recFault r = 0 then recT r else []
def recTC (r : Rec) : Int := if recFault r = 0 then 0 else 1
theorem rt_no {r : Rec} (h : ¬ recFault r = 0) : [] = recTS r ∧ 1 = recTC r := by unfold recTS recTC; rw [if_neg h, if_neg h]; exact ⟨rfl, rfl⟩
theorem rt_yes {r : Rec} (h : recFault r = 0) : recFault r = 0 ∧ recT r = recTS r ∧ 0 = recTC r := by unfold recTS recTC; rw [if_pos h, if_pos h]; exact ⟨h, rfl, rfl⟩
end Go.Fn
namespace Go.Proofs.YtolminmmnckpkaaGreatDoor
open Go.Ab Go.Fn
def s_word : FSpec := { ps := [.v .str], rs := [.v .str], pre := fun x => List.length (α := UInt8) x.1 ≤ 100000000, fn := fun x => (Fn.word x.1, ()), upd := fun _ => () }
def L_hex (s : Nat) (t : List UInt8) : LoopAnn := { ι := Nat, inv := fun k => k ≤ t.length, slots := fun k => [(3, .os 0), (s, .d I (Int.ofNat k))], objs := fun k => [(0, .arr (.int .u8) ((Fn.wordTo t k).map fun c => Int.ofNat c.toNat) false)], μ := fun k => t.length - k }
theorem fo_l14Hex : FO 121 s_word := by
  refine fo (specs := []) (clos := []) (fun x => [(5, .lv [0, 3, 4] <| fun _ => L_hex 4 x.1), (1000007, .lv [0, 3, 4, 39] <| .ofCut fun s => [(39, .d .bool (Fn.plainAt x.1 (s.tI 4)))])]) trivial trivial Tryz.func121 rfl rfl ?_
  rintro ⟨t, ⟨⟩⟩ hl
  refine vcOf (((t == ([] : List UInt8)) = true → ((45 : UInt8) :: ([] : List UInt8), ()) = (word t, ()) ∧ () = ()) ∧ ((t == ([] : List UInt8)) = false → (∃ (i : Nat), i ≤ List.length t ∧ (t = t ∧ nat_lit 0 = (0 : Nat) ∧ (0 : Int) = Int.ofNat i ∧ True) ∧ ((([] : List Int) = List.map (fun (c : UInt8) => Int.ofNat c.toNat) (wordTo t i) ∧ false = false) ∧ True) ∧ True) ∧ ∀ (i : Nat), i ≤ List.length t → fits (lenL t) → (decide (Int.ofNat i < iOf (lenL t)) = true → (bnd (Int.ofNat i) (lenL t) ∧ ∀ (c : UInt8), nthI t (Int.ofNat i) = some c → (decide (Int.ofNat c.toNat > (32 : Int)) = true → bnd (Int.ofNat i) (lenL t) ∧ ∀ (c : UInt8), nthI t (Int.ofNat i) = some c → (decide (Int.ofNat c.toNat < (127 : Int)) = true → bnd (Int.ofNat i) (lenL t) ∧ ∀ (c : UInt8), nthI t (Int.ofNat i) = some c → ((Int.ofNat c.toNat != (37 : Int)) = true → bnd (Int.ofNat i) (lenL t) ∧ ∀ (c : UInt8), nthI t (Int.ofNat i) = some c → ((Int.ofNat c.toNat != (45 : Int)) = false → (t = t ∧ (0 : Nat) = (0 : Nat) ∧ Int.ofNat i = Int.ofNat i ∧ decide (Int.ofNat i > (0 : Int)) = plainAt t (Int.ofNat i) ∧ True) ∧ ((List.map (fun (c : UInt8) => Int.ofNat c.toNat) (wordTo t i) = List.map (fun (c : UInt8) => Int.ofNat c.toNat) (wordTo t i) ∧ false = false) ∧ True) ∧ True) ∧ ((Int.ofNat c.toNat != (45 : Int)) = true → (t = t ∧ (0 : Nat) = (0 : Nat) ∧ Int.ofNat i = Int.ofNat i ∧ true = plainAt t (Int.ofNat i) ∧ True) ∧ ((List.map (fun (c : UInt8) => Int.ofNat c.toNat) (wordTo t i) = List.map (fun (c : UInt8) => Int.ofNat c.toNat) (wordTo t i) ∧ false = false) ∧ True) ∧ True)) ∧ ((Int.ofNat c.toNat != (37 : Int)) = false → (t = t ∧ (0 : Nat) = (0 : Nat) ∧ Int.ofNat i = Int.ofNat i ∧ false = plainAt t (Int.ofNat i) ∧ True) ∧ ((List.map (fun (c : UInt8) => Int.ofNat c.toNat) (wordTo t i) = List.map (fun (c : UInt8) => Int.ofNat c.toNat) (wordTo t i) ∧ false = false) ∧ True) ∧ True)) ∧ (decide (Int.ofNat c.toNat < (127 : Int)) = false → (t = t ∧ (0 : Nat) = (0 : Nat) ∧ Int.ofNat i = Int.ofNat i ∧ false = plainAt t (Int.ofNat i) ∧ True) ∧ ((List.map (fun (c : UInt8) => Int.ofNat c.toNat) (wordTo t i) = List.map (fun (c : UInt8) => Int.ofNat c.toNat) (wordTo t i) ∧ false = false) ∧ True) ∧ True)) ∧ (decide (Int.ofNat c.toNat > (32 : Int)) = false → (t = t ∧ (0 : Nat) = (0 : Nat) ∧ Int.ofNat i = Int.ofNat i ∧ false = plainAt t (Int.ofNat i) ∧ True) ∧ ((List.map (fun (c : UInt8) => Int.ofNat c.toNat) (wordTo t i) = List.map (fun (c : UInt8) => Int.ofNat c.toNat) (wordTo t i) ∧ false = false) ∧ True) ∧ True)) ∧ (plainAt t (Int.ofNat i) = true → bnd (Int.ofNat i) (lenL t) ∧ ∀ (c : UInt8), nthI t (Int.ofNat i) = some c → fits (lenL (List.map (fun (c : UInt8) => Int.ofNat c.toNat) (wordTo t i)) + lenL (Int.ofNat c.toNat :: ([] : List Int))) ∧ ∃ (j : Nat), j ≤ List.length t ∧ (List.length t).sub j < (List.length t).sub i ∧ (t = t ∧ (0 : Nat) = (0 : Nat) ∧ wAdd IntKind.i64 (Int.ofNat i) (1 : Int) = Int.ofNat j ∧ True) ∧ ((List.map (fun (c : UInt8) => Int.ofNat c.toNat) (wordTo t i) ++ Int.ofNat c.toNat :: ([] : List Int) = List.map (fun (c : UInt8) => Int.ofNat c.toNat) (wordTo t j) ∧ false = false) ∧ True) ∧ True) ∧ (plainAt t (Int.ofNat i) = false → bnd (Int.ofNat i) (lenL t) ∧ ∀ (c : UInt8), nthI t (Int.ofNat i) = some c → nz (16 : Int) ∧ bnd (wQuo IntKind.u8 (Int.ofNat c.toNat) (16 : Int)) (lenL ((48 : UInt8) :: (49 : UInt8) :: (50 : UInt8) :: (51 : UInt8) :: (52 : UInt8) :: (53 : UInt8) :: (54 : UInt8) :: (55 : UInt8) :: (56 : UInt8) :: (57 : UInt8) :: (97 : UInt8) :: (98 : UInt8) :: (99 : UInt8) :: (100 : UInt8) :: (101 : UInt8) :: (102 : UInt8) :: ([] : List UInt8))) ∧ ∀ (c_1 : UInt8), nthI ((48 : UInt8) :: (49 : UInt8) :: (50 : UInt8) :: (51 : UInt8) :: (52 : UInt8) :: (53 : UInt8) :: (54 : UInt8) :: (55 : UInt8) :: (56 : UInt8) :: (57 : UInt8) :: (97 : UInt8) :: (98 : UInt8) :: (99 : UInt8) :: (100 : UInt8) :: (101 : UInt8) :: (102 : UInt8) :: ([] : List UInt8)) (wQuo IntKind.u8 (Int.ofNat c.toNat) (16 : Int)) = some c_1 → bnd (Int.ofNat i) (lenL t) ∧ ∀ (c : UInt8), nthI t (Int.ofNat i) = some c → nz (16 : Int) ∧ bnd (wRem (Int.ofNat c.toNat) (16 : Int)) (lenL ((48 : UInt8) :: (49 : UInt8) :: (50 : UInt8) :: (51 : UInt8) :: (52 : UInt8) :: (53 : UInt8) :: (54 : UInt8) :: (55 : UInt8) :: (56 : UInt8) :: (57 : UInt8) :: (97 : UInt8) :: (98 : UInt8) :: (99 : UInt8) :: (100 : UInt8) :: (101 : UInt8) :: (102 : UInt8) :: ([] : List UInt8))) ∧ ∀ (c_2 : UInt8), nthI ((48 : UInt8) :: (49 : UInt8) :: (50 : UInt8) :: (51 : UInt8) :: (52 : UInt8) :: (53 : UInt8) :: (54 : UInt8) :: (55 : UInt8) :: (56 : UInt8) :: (57 : UInt8) :: (97 : UInt8) :: (98 : UInt8) :: (99 : UInt8) :: (100 : UInt8) :: (101 : UInt8) :: (102 : UInt8) :: ([] : List UInt8)) (wRem (Int.ofNat c.toNat) (16 : Int)) = some c_2 → fits (lenL (List.map (fun (c : UInt8) => Int.ofNat c.toNat) (wordTo t i)) + lenL ((37 : Int) :: Int.ofNat c_1.toNat :: Int.ofNat c_2.toNat :: ([] : List Int))) ∧ ∃ (j : Nat), j ≤ List.length t ∧ (List.length t).sub j < (List.length t).sub i ∧ (t = t ∧ (0 : Nat) = (0 : Nat) ∧ wAdd IntKind.i64 (Int.ofNat i) (1 : Int) = Int.ofNat j ∧ True) ∧ ((List.map (fun (c : UInt8) => Int.ofNat c.toNat) (wordTo t i) ++ (37 : Int) :: Int.ofNat c_1.toNat :: Int.ofNat c_2.toNat :: ([] : List Int) = List.map (fun (c : UInt8) => Int.ofNat c.toNat) (wordTo t j) ∧ false = false) ∧ True) ∧ True)) ∧ (decide (Int.ofNat i < iOf (lenL t)) = false → (List.map (fun (n : Int) => UInt8.ofNat n.toNat) (List.map (fun (c : UInt8) => Int.ofNat c.toNat) (wordTo t i)), ()) = (word t, ()) ∧ () = ()))) (by kernel_rfl) ?_
  simp only [Nat.le_refl, Nat.succ_eq_add_one, Nat.reduceAdd, Nat.reduceLeDiff, Nat.zero_le, pair_unit, mk_eta, len_bne, eqD_bne, bne_iff_ne, bne_eq_false_iff_eq, beq_iff_eq, beq_eq_false_iff_ne, true_and, and_true, and_self, eq_self, lt_iff, nthI_nat, bnd_iff, decide_eq_true_eq, decide_eq_false_iff_not, Nat.sub_eq, nz, ne_eq, not_false_eq_true, Prod.mk.injEq, Int.reduceEq, Nat.reduceEqDiff, forall_const, implies_true, bne_self_eq_false, Bool.true_eq_false, Bool.false_eq_true, false_implies, reduceCtorEq, Bool.not_true, Bool.not_false, List.all_cons, List.all_nil, Bool.and_true, Bool.not_eq_true, Bool.not_eq_false, Bool.not_eq_true', Bool.not_eq_false', Decidable.not_not]; try simp only [lenL]
  have hl : List.length t ≤ 100000000 := hl
  refine ⟨fun h => by unfold Fn.word; rw [if_pos h], fun hne => ⟨⟨0, Nat.zero_le _, rfl, rfl⟩, fun i hi hf => ⟨fun h => ⟨⟨h, fun c hc => ⟨fun h1 => ⟨h, fun c2 hc2 => ?_⟩, fun h1 => pb_low hc h1⟩⟩, fun hp => ⟨h, fun c hc => ⟨?_, i + 1, h, Nat.sub_lt_sub_left h (Nat.lt_succ_self i), inc_in hf hi, word_plain hc hp⟩⟩, fun hp => ⟨h, fun c hc => ?_⟩⟩, fun h => word_end hi h hne⟩⟩⟩
  · rw [hc] at hc2; cases hc2
    refine ⟨fun h2 => ⟨h, fun c3 hc3 => ?_⟩, fun h2 => pb_high hc h2⟩
    rw [hc] at hc3; cases hc3
    refine ⟨fun h3 => ⟨h, fun c4 hc4 => ?_⟩, fun h3 => pb_pct hc h3⟩
    rw [hc] at hc4; cases hc4
    exact ⟨fun h4 => pb_dash hc h1 h2 h3 h4, fun h4 => pb_ok hc h1 h2 h3 h4⟩
  · have := wordTo_len t i
    show (List.map (fun c : UInt8 => Int.ofNat c.toNat) (wordTo t i)).length + 1 < 1099511627776
    rw [List.length_map]; omega
  · have hb := c.toNat_lt
    simp only [hex_quo, hex_rem]
    refine ⟨bnd_nat (by show c.toNat / 16 < 16; omega), fun a ha => ⟨h, fun c2 hc2 => ?_⟩⟩
    rw [hc] at hc2; cases hc2
    refine ⟨bnd_nat (by show c.toNat % 16 < 16; omega), fun b hb2 => ⟨?_, i + 1, h, Nat.sub_lt_sub_left h (Nat.lt_succ_self i), inc_in hf hi, word_hex hc hp (hexD_at ha) (hexD_at hb2)⟩⟩
    have := wordTo_len t i
    show (List.map (fun c : UInt8 => Int.ofNat c.toNat) (wordTo t i)).length + 3 < 1099511627776
    rw [List.length_map]; omega
end Go.Proofs.YtolminmmnckpkaaGreatDoor
namespace Go.Proofs.YtolminmmnckpkaaGreatDoor
open Go.Ab Go.Fn
theorem fo_bodyWord : FO 125 s_word := by
  refine fo (specs := [(97, s_within)]) (clos := []) (fun x => [(5, .lv [0, 3, 10, 11] <| fun _ => L_hex 11 x.1), (1000008, .lv [0, 3, 5, 10, 11, 32] <| .ofCut fun s => [(32, .d .bool (!(Fn.plainAt x.1 (s.tI 4))))])]) ⟨fo_within, trivial⟩ trivial Tryz.func125 rfl rfl ?_
  rintro ⟨t, ⟨⟩⟩ hl
  refine vcOf (((t == ([] : List UInt8)) = true → ((45 : UInt8) :: ([] : List UInt8), ()) = (word t, ()) ∧ () = ()) ∧ ((t == ([] : List UInt8)) = false → fits (lenL t) → (∃ (i : Nat), i ≤ List.length t ∧ (t = t ∧ nat_lit 0 = (0 : Nat) ∧ iOf (lenL t) = iOf (lenL t) ∧ (0 : Int) = Int.ofNat i ∧ True) ∧ ((([] : List Int) = List.map (fun (c : UInt8) => Int.ofNat c.toNat) (wordTo t i) ∧ false = false) ∧ True) ∧ True) ∧ ∀ (i : Nat), i ≤ List.length t → (decide (Int.ofNat i < iOf (lenL t)) = true → bnd (Int.ofNat i) (lenL t) ∧ ∀ (c : UInt8), nthI t (Int.ofNat i) = some c → (true = true ∧ True ∧ ((!within (IntKind.i64.wrap (Int.ofNat c.toNat)) (33 : Int) (126 : Int)) = false → ((Int.ofNat c.toNat == (37 : Int)) = false → ((Int.ofNat c.toNat == (45 : Int)) = true → (t = t ∧ (0 : Nat) = (0 : Nat) ∧ Int.ofNat c.toNat = Int.ofNat c.toNat ∧ iOf (lenL t) = iOf (lenL t) ∧ Int.ofNat i = Int.ofNat i ∧ (Int.ofNat i == (0 : Int)) = !plainAt t (Int.ofNat i) ∧ True) ∧ ((List.map (fun (c : UInt8) => Int.ofNat c.toNat) (wordTo t i) = List.map (fun (c : UInt8) => Int.ofNat c.toNat) (wordTo t i) ∧ false = false) ∧ True) ∧ True) ∧ ((Int.ofNat c.toNat == (45 : Int)) = false → (t = t ∧ (0 : Nat) = (0 : Nat) ∧ Int.ofNat c.toNat = Int.ofNat c.toNat ∧ iOf (lenL t) = iOf (lenL t) ∧ Int.ofNat i = Int.ofNat i ∧ false = !plainAt t (Int.ofNat i) ∧ True) ∧ ((List.map (fun (c : UInt8) => Int.ofNat c.toNat) (wordTo t i) = List.map (fun (c : UInt8) => Int.ofNat c.toNat) (wordTo t i) ∧ false = false) ∧ True) ∧ True)) ∧ ((Int.ofNat c.toNat == (37 : Int)) = true → (t = t ∧ (0 : Nat) = (0 : Nat) ∧ Int.ofNat c.toNat = Int.ofNat c.toNat ∧ iOf (lenL t) = iOf (lenL t) ∧ Int.ofNat i = Int.ofNat i ∧ true = !plainAt t (Int.ofNat i) ∧ True) ∧ ((List.map (fun (c : UInt8) => Int.ofNat c.toNat) (wordTo t i) = List.map (fun (c : UInt8) => Int.ofNat c.toNat) (wordTo t i) ∧ false = false) ∧ True) ∧ True)) ∧ ((!within (IntKind.i64.wrap (Int.ofNat c.toNat)) (33 : Int) (126 : Int)) = true → (t = t ∧ (0 : Nat) = (0 : Nat) ∧ Int.ofNat c.toNat = Int.ofNat c.toNat ∧ iOf (lenL t) = iOf (lenL t) ∧ Int.ofNat i = Int.ofNat i ∧ true = !plainAt t (Int.ofNat i) ∧ True) ∧ ((List.map (fun (c : UInt8) => Int.ofNat c.toNat) (wordTo t i) = List.map (fun (c : UInt8) => Int.ofNat c.toNat) (wordTo t i) ∧ false = false) ∧ True) ∧ True)) ∧ ((!plainAt t (Int.ofNat i)) = true → shOK (4 : Int) ∧ bnd (wShr IntKind.u8 (Int.ofNat c.toNat) (4 : Int)) (lenL ((48 : UInt8) :: (49 : UInt8) :: (50 : UInt8) :: (51 : UInt8) :: (52 : UInt8) :: (53 : UInt8) :: (54 : UInt8) :: (55 : UInt8) :: (56 : UInt8) :: (57 : UInt8) :: (97 : UInt8) :: (98 : UInt8) :: (99 : UInt8) :: (100 : UInt8) :: (101 : UInt8) :: (102 : UInt8) :: ([] : List UInt8))) ∧ ∀ (c_1 : UInt8), nthI ((48 : UInt8) :: (49 : UInt8) :: (50 : UInt8) :: (51 : UInt8) :: (52 : UInt8) :: (53 : UInt8) :: (54 : UInt8) :: (55 : UInt8) :: (56 : UInt8) :: (57 : UInt8) :: (97 : UInt8) :: (98 : UInt8) :: (99 : UInt8) :: (100 : UInt8) :: (101 : UInt8) :: (102 : UInt8) :: ([] : List UInt8)) (wShr IntKind.u8 (Int.ofNat c.toNat) (4 : Int)) = some c_1 → bnd (wBits BinOp.and IntKind.u8 (Int.ofNat c.toNat) (15 : Int)) (lenL ((48 : UInt8) :: (49 : UInt8) :: (50 : UInt8) :: (51 : UInt8) :: (52 : UInt8) :: (53 : UInt8) :: (54 : UInt8) :: (55 : UInt8) :: (56 : UInt8) :: (57 : UInt8) :: (97 : UInt8) :: (98 : UInt8) :: (99 : UInt8) :: (100 : UInt8) :: (101 : UInt8) :: (102 : UInt8) :: ([] : List UInt8))) ∧ ∀ (c_2 : UInt8), nthI ((48 : UInt8) :: (49 : UInt8) :: (50 : UInt8) :: (51 : UInt8) :: (52 : UInt8) :: (53 : UInt8) :: (54 : UInt8) :: (55 : UInt8) :: (56 : UInt8) :: (57 : UInt8) :: (97 : UInt8) :: (98 : UInt8) :: (99 : UInt8) :: (100 : UInt8) :: (101 : UInt8) :: (102 : UInt8) :: ([] : List UInt8)) (wBits BinOp.and IntKind.u8 (Int.ofNat c.toNat) (15 : Int)) = some c_2 → fits (lenL (List.map (fun (c : UInt8) => Int.ofNat c.toNat) (wordTo t i)) + lenL ((37 : Int) :: Int.ofNat c_1.toNat :: Int.ofNat c_2.toNat :: ([] : List Int))) ∧ ∃ (j : Nat), j ≤ List.length t ∧ (List.length t).sub j < (List.length t).sub i ∧ (t = t ∧ (0 : Nat) = (0 : Nat) ∧ iOf (lenL t) = iOf (lenL t) ∧ wAdd IntKind.i64 (Int.ofNat i) (1 : Int) = Int.ofNat j ∧ True) ∧ ((List.map (fun (c : UInt8) => Int.ofNat c.toNat) (wordTo t i) ++ (37 : Int) :: Int.ofNat c_1.toNat :: Int.ofNat c_2.toNat :: ([] : List Int) = List.map (fun (c : UInt8) => Int.ofNat c.toNat) (wordTo t j) ∧ false = false) ∧ True) ∧ True) ∧ ((!plainAt t (Int.ofNat i)) = false → fits (lenL (List.map (fun (c : UInt8) => Int.ofNat c.toNat) (wordTo t i)) + lenL (Int.ofNat c.toNat :: ([] : List Int))) ∧ ∃ (j : Nat), j ≤ List.length t ∧ (List.length t).sub j < (List.length t).sub i ∧ (t = t ∧ (0 : Nat) = (0 : Nat) ∧ iOf (lenL t) = iOf (lenL t) ∧ wAdd IntKind.i64 (Int.ofNat i) (1 : Int) = Int.ofNat j ∧ True) ∧ ((List.map (fun (c : UInt8) => Int.ofNat c.toNat) (wordTo t i) ++ Int.ofNat c.toNat :: ([] : List Int) = List.map (fun (c : UInt8) => Int.ofNat c.toNat) (wordTo t j) ∧ false = false) ∧ True) ∧ True)) ∧ (decide (Int.ofNat i < iOf (lenL t)) = false → (List.map (fun (n : Int) => UInt8.ofNat n.toNat) (List.map (fun (c : UInt8) => Int.ofNat c.toNat) (wordTo t i)), ()) = (word t, ()) ∧ () = ()))) (by kernel_rfl) ?_
  simp only [Nat.le_refl, Nat.succ_eq_add_one, Nat.reduceAdd, Nat.reduceLeDiff, Nat.zero_le, pair_unit, mk_eta, len_bne, eqD_bne, bne_iff_ne, bne_eq_false_iff_eq, beq_iff_eq, beq_eq_false_iff_ne, true_and, and_true, and_self, eq_self, lt_iff, nthI_nat, bnd_iff, decide_eq_true_eq, decide_eq_false_iff_not, Nat.sub_eq, nz, ne_eq, not_false_eq_true, Prod.mk.injEq, Int.reduceEq, Nat.reduceEqDiff, forall_const, implies_true, bne_self_eq_false, Bool.true_eq_false, Bool.false_eq_true, false_implies, reduceCtorEq, Bool.not_true, Bool.not_false, List.all_cons, List.all_nil, Bool.and_true, Bool.not_eq_true, Bool.not_eq_false, Bool.not_eq_true', Bool.not_eq_false', Decidable.not_not]; try simp only [lenL]
  have hl : List.length t ≤ 100000000 := hl
  refine ⟨fun h => by unfold Fn.word; rw [if_pos h], fun hne hf => ⟨⟨0, Nat.zero_le _, rfl, rfl⟩, fun i hi => ⟨fun h => ⟨h, fun c hc => ⟨⟨fun hw => ?_, fun hw => by rw [← out_33 hc hw]; rfl⟩, fun hp => ?_, fun hp => ⟨?_, i + 1, h, Nat.sub_lt_sub_left h (Nat.lt_succ_self i), inc_in hf hi, word_plain hc hp⟩⟩⟩, fun h => word_end hi h hne⟩⟩⟩
  · obtain ⟨h1, h2⟩ := in_33 hw
    refine ⟨fun h3 => ⟨fun h4 => ?_, fun h4 => by rw [← pb_ok hc h1 h2 h3 h4]; rfl⟩, fun h3 => by rw [← pb_pct hc h3]; rfl⟩
    rw [← pb_dash hc h1 h2 h3 h4]
    cases i with
    | zero => rfl
    | succ i => simp; omega
  · have hb := c.toNat_lt
    simp only [hex_shr, hex_and]
    refine ⟨by show (0 : Int) ≤ 4; decide, bnd_nat (by show c.toNat / 16 < 16; omega), fun a ha => ⟨bnd_nat (by show c.toNat % 16 < 16; omega), fun b hb2 => ⟨?_, i + 1, h, Nat.sub_lt_sub_left h (Nat.lt_succ_self i), inc_in hf hi, word_hex hc hp (hexD_at ha) (hexD_at hb2)⟩⟩⟩
    have := wordTo_len t i
    show (List.map (fun c : UInt8 => Int.ofNat c.toNat) (wordTo t i)).length + 3 < 1099511627776
    rw [List.length_map]; omega
  · have := wordTo_len t i
    show (List.map (fun c : UInt8 => Int.ofNat c.toNat) (wordTo t i)).length + 1 < 1099511627776
    rw [List.length_map]; omega
end Go.Proofs.YtolminmmnckpkaaGreatDoor
namespace Go.Proofs.YtolminmmnckpkaaGreatDoor
open Go.Ab Go.Fn
def s_recT : FSpec := { ps := [.v tRec], rs := [.v .str], pre := fun x => Fn.recFault x.1 = 0, fn := fun x => (Fn.recT x.1, ()), upd := fun _ => () }
theorem fo_l14Record : FO 78 s_recT := by
  refine fo (specs := [(94, s_Digits), (121, s_word)]) (clos := []) (fun x => []) ⟨fo_l00Digits, fo_l14Hex, trivial⟩ trivial Tryz.func78 rfl rfl ?_
  rintro ⟨⟨k, p, b, m, o, ⟨⟩⟩, ⟨⟩⟩ hr
  refine vcOf (nat_lit 1 ≤ (Nat.succ (nat_lit 1)).succ.succ.succ ∧ ((k == (1 : Int)) = true → nat_lit 2 ≤ (Nat.succ (nat_lit 1)).succ.succ.succ ∧ fits (lenL ((102 : UInt8) :: (105 : UInt8) :: (108 : UInt8) :: (101 : UInt8) :: (32 : UInt8) :: ([] : List UInt8)) + lenL p) ∧ fits (lenL (catS ((102 : UInt8) :: (105 : UInt8) :: (108 : UInt8) :: (101 : UInt8) :: (32 : UInt8) :: ([] : List UInt8)) p) + lenL ((32 : UInt8) :: ([] : List UInt8))) ∧ nat_lit 4 ≤ (Nat.succ (nat_lit 1)).succ.succ.succ ∧ nat_lit 3 ≤ (Nat.succ (nat_lit 1)).succ.succ.succ ∧ true = true ∧ inI m ∧ fits (lenL (catS (catS ((102 : UInt8) :: (105 : UInt8) :: (108 : UInt8) :: (101 : UInt8) :: (32 : UInt8) :: ([] : List UInt8)) p) ((32 : UInt8) :: ([] : List UInt8))) + lenL (itoaS m)) ∧ fits (lenL (catS (catS (catS ((102 : UInt8) :: (105 : UInt8) :: (108 : UInt8) :: (101 : UInt8) :: (32 : UInt8) :: ([] : List UInt8)) p) ((32 : UInt8) :: ([] : List UInt8))) (itoaS m)) + lenL ((32 : UInt8) :: ([] : List UInt8))) ∧ true = true ∧ List.length b ≤ (100000000 : Nat) ∧ fits (lenL (catS (catS (catS (catS ((102 : UInt8) :: (105 : UInt8) :: (108 : UInt8) :: (101 : UInt8) :: (32 : UInt8) :: ([] : List UInt8)) p) ((32 : UInt8) :: ([] : List UInt8))) (itoaS m)) ((32 : UInt8) :: ([] : List UInt8))) + lenL (word b)) ∧ (catS (catS (catS (catS (catS ((102 : UInt8) :: (105 : UInt8) :: (108 : UInt8) :: (101 : UInt8) :: (32 : UInt8) :: ([] : List UInt8)) p) ((32 : UInt8) :: ([] : List UInt8))) (itoaS m)) ((32 : UInt8) :: ([] : List UInt8))) (word b), ()) = (recT (k, p, b, m, o, ()), ()) ∧ () = ()) ∧ ((k == (1 : Int)) = false → nat_lit 1 ≤ (Nat.succ (nat_lit 1)).succ.succ.succ ∧ ((k == (2 : Int)) = true → nat_lit 2 ≤ (Nat.succ (nat_lit 1)).succ.succ.succ ∧ fits (lenL ((108 : UInt8) :: (105 : UInt8) :: (110 : UInt8) :: (107 : UInt8) :: (32 : UInt8) :: ([] : List UInt8)) + lenL p) ∧ fits (lenL (catS ((108 : UInt8) :: (105 : UInt8) :: (110 : UInt8) :: (107 : UInt8) :: (32 : UInt8) :: ([] : List UInt8)) p) + lenL ((32 : UInt8) :: ([] : List UInt8))) ∧ nat_lit 3 ≤ (Nat.succ (nat_lit 1)).succ.succ.succ ∧ true = true ∧ List.length b ≤ (100000000 : Nat) ∧ fits (lenL (catS (catS ((108 : UInt8) :: (105 : UInt8) :: (110 : UInt8) :: (107 : UInt8) :: (32 : UInt8) :: ([] : List UInt8)) p) ((32 : UInt8) :: ([] : List UInt8))) + lenL (word b)) ∧ (catS (catS (catS ((108 : UInt8) :: (105 : UInt8) :: (110 : UInt8) :: (107 : UInt8) :: (32 : UInt8) :: ([] : List UInt8)) p) ((32 : UInt8) :: ([] : List UInt8))) (word b), ()) = (recT (k, p, b, m, o, ()), ()) ∧ () = ()) ∧ ((k == (2 : Int)) = false → nat_lit 1 ≤ (Nat.succ (nat_lit 1)).succ.succ.succ ∧ ((k == (4 : Int)) = true → nat_lit 2 ≤ (Nat.succ (nat_lit 1)).succ.succ.succ ∧ fits (lenL ((119 : UInt8) :: (104 : UInt8) :: (105 : UInt8) :: (116 : UInt8) :: (101 : UInt8) :: (32 : UInt8) :: ([] : List UInt8)) + lenL p) ∧ (catS ((119 : UInt8) :: (104 : UInt8) :: (105 : UInt8) :: (116 : UInt8) :: (101 : UInt8) :: (32 : UInt8) :: ([] : List UInt8)) p, ()) = (recT (k, p, b, m, o, ()), ()) ∧ () = ()) ∧ ((k == (4 : Int)) = false → nat_lit 5 ≤ (Nat.succ (nat_lit 1)).succ.succ.succ ∧ (o = true → nat_lit 2 ≤ (Nat.succ (nat_lit 1)).succ.succ.succ ∧ fits (lenL ((111 : UInt8) :: (112 : UInt8) :: (97 : UInt8) :: (113 : UInt8) :: (117 : UInt8) :: (101 : UInt8) :: (32 : UInt8) :: ([] : List UInt8)) + lenL p) ∧ fits (lenL (catS ((111 : UInt8) :: (112 : UInt8) :: (97 : UInt8) :: (113 : UInt8) :: (117 : UInt8) :: (101 : UInt8) :: (32 : UInt8) :: ([] : List UInt8)) p) + lenL ((32 : UInt8) :: ([] : List UInt8))) ∧ nat_lit 4 ≤ (Nat.succ (nat_lit 1)).succ.succ.succ ∧ true = true ∧ inI m ∧ fits (lenL (catS (catS ((111 : UInt8) :: (112 : UInt8) :: (97 : UInt8) :: (113 : UInt8) :: (117 : UInt8) :: (101 : UInt8) :: (32 : UInt8) :: ([] : List UInt8)) p) ((32 : UInt8) :: ([] : List UInt8))) + lenL (itoaS m)) ∧ (catS (catS (catS ((111 : UInt8) :: (112 : UInt8) :: (97 : UInt8) :: (113 : UInt8) :: (117 : UInt8) :: (101 : UInt8) :: (32 : UInt8) :: ([] : List UInt8)) p) ((32 : UInt8) :: ([] : List UInt8))) (itoaS m), ()) = (recT (k, p, b, m, o, ()), ()) ∧ () = ()) ∧ (o = false → nat_lit 2 ≤ (Nat.succ (nat_lit 1)).succ.succ.succ ∧ fits (lenL ((100 : UInt8) :: (105 : UInt8) :: (114 : UInt8) :: (32 : UInt8) :: ([] : List UInt8)) + lenL p) ∧ fits (lenL (catS ((100 : UInt8) :: (105 : UInt8) :: (114 : UInt8) :: (32 : UInt8) :: ([] : List UInt8)) p) + lenL ((32 : UInt8) :: ([] : List UInt8))) ∧ nat_lit 4 ≤ (Nat.succ (nat_lit 1)).succ.succ.succ ∧ true = true ∧ inI m ∧ fits (lenL (catS (catS ((100 : UInt8) :: (105 : UInt8) :: (114 : UInt8) :: (32 : UInt8) :: ([] : List UInt8)) p) ((32 : UInt8) :: ([] : List UInt8))) + lenL (itoaS m)) ∧ (catS (catS (catS ((100 : UInt8) :: (105 : UInt8) :: (114 : UInt8) :: (32 : UInt8) :: ([] : List UInt8)) p) ((32 : UInt8) :: ([] : List UInt8))) (itoaS m), ()) = (recT (k, p, b, m, o, ()), ()) ∧ () = ()))))) (by kernel_rfl) ?_
  simp only [Nat.le_refl, Nat.succ_eq_add_one, Nat.reduceAdd, Nat.reduceLeDiff, Nat.zero_le, pair_unit, mk_eta, len_bne, eqD_bne, bne_iff_ne, bne_eq_false_iff_eq, beq_iff_eq, beq_eq_false_iff_ne, true_and, and_true, and_self, eq_self, lt_iff, nthI_nat, bnd_iff, decide_eq_true_eq, decide_eq_false_iff_not, Nat.sub_eq, nz, ne_eq, not_false_eq_true, Prod.mk.injEq, Int.reduceEq, Nat.reduceEqDiff, forall_const, implies_true, bne_self_eq_false, Bool.true_eq_false, Bool.false_eq_true, false_implies, reduceCtorEq, Bool.not_true, Bool.not_false, List.all_cons, List.all_nil, Bool.and_true, Bool.not_eq_true, Bool.not_eq_false, Bool.not_eq_true', Bool.not_eq_false', Decidable.not_not]; try simp only [lenL]
  have hr : recFault (k, p, b, m, o, ()) = 0 := hr
  obtain ⟨hp, h8, -, h4, -⟩ := rec_ok hr
  have lp := path_len hp
  have lb := body_len h8
  have hm := mode_in h4
  have hi : inI m := by unfold inI; omega
  have hit := itoa_len hi
  have hw := word_len (t := b)
  refine ⟨fun h => ?_, fun h1 => ⟨fun h => ?_, fun h2 => ⟨fun h => ?_, fun h3 => ⟨fun h => ?_, fun h => ?_⟩⟩⟩⟩
  · subst h
    refine ⟨f_cat (by simp only [catS, List.length_append, List.length_cons, List.length_nil]; omega), f_cat (by simp only [catS, List.length_append, List.length_cons, List.length_nil]; omega), hi, f_cat (by simp only [catS, List.length_append, List.length_cons, List.length_nil]; omega), f_cat (by simp only [catS, List.length_append, List.length_cons, List.length_nil]; omega), by omega, f_cat (by simp only [catS, List.length_append, List.length_cons, List.length_nil]; omega), ?_⟩
    show _ = said [.s [102, 105, 108, 101], .s p, .n m, .s (word b)]
    rw [said_ssns]
    simp [catS]
  · subst h
    refine ⟨f_cat (by simp only [catS, List.length_append, List.length_cons, List.length_nil]; omega), f_cat (by simp only [catS, List.length_append, List.length_cons, List.length_nil]; omega), by omega, f_cat (by simp only [catS, List.length_append, List.length_cons, List.length_nil]; omega), ?_⟩
    show _ = said [.s [108, 105, 110, 107], .s p, .s (word b)]
    rw [said_sss]
    simp [catS]
  · subst h
    refine ⟨f_cat (by simp only [catS, List.length_append, List.length_cons, List.length_nil]; omega), ?_⟩
    show _ = said [.s [119, 104, 105, 116, 101], .s p]
    rw [said_ss]
    simp [catS]
  · subst h
    refine ⟨f_cat (by simp only [catS, List.length_append, List.length_cons, List.length_nil]; omega), f_cat (by simp only [catS, List.length_append, List.length_cons, List.length_nil]; omega), hi, f_cat (by simp only [catS, List.length_append, List.length_cons, List.length_nil]; omega), ?_⟩
    rw [rt_opq h1 h2 h3, said_ssn]
    simp [catS]
  · have h : o = false := by cases o <;> simp_all
    subst h
    refine ⟨f_cat (by simp only [catS, List.length_append, List.length_cons, List.length_nil]; omega), f_cat (by simp only [catS, List.length_append, List.length_cons, List.length_nil]; omega), hi, f_cat (by simp only [catS, List.length_append, List.length_cons, List.length_nil]; omega), ?_⟩
    rw [rt_dir h1 h2 h3, said_ssn]
    simp [catS]
theorem ft_recordText : FT 83 s_recT := by
  refine foT (specs := [(103, s_said), (125, s_word)]) (clos := []) (fun x => []) ⟨ft_said, toT fo_bodyWord, trivial⟩ trivial Tryz.func83 rfl rfl ?_
  rintro ⟨⟨k, p, b, m, o, ⟨⟩⟩, ⟨⟩⟩ hr
  refine vcOf (nat_lit 1 ≤ (Nat.succ (nat_lit 1)).succ.succ.succ ∧ ((k == (1 : Int)) = true → nat_lit 2 ≤ (Nat.succ (nat_lit 1)).succ.succ.succ ∧ nat_lit 4 ≤ (Nat.succ (nat_lit 1)).succ.succ.succ ∧ nat_lit 3 ≤ (Nat.succ (nat_lit 1)).succ.succ.succ ∧ true = true ∧ List.length b ≤ (100000000 : Nat) ∧ true = true ∧ saidOK (AnyV.s ((102 : UInt8) :: (105 : UInt8) :: (108 : UInt8) :: (101 : UInt8) :: ([] : List UInt8)) :: AnyV.s p :: AnyV.n m :: AnyV.s (word b) :: ([] : List AnyV)) ∧ (said (AnyV.s ((102 : UInt8) :: (105 : UInt8) :: (108 : UInt8) :: (101 : UInt8) :: ([] : List UInt8)) :: AnyV.s p :: AnyV.n m :: AnyV.s (word b) :: ([] : List AnyV)), ()) = (recT (k, p, b, m, o, ()), ()) ∧ () = ()) ∧ ((k == (1 : Int)) = false → nat_lit 1 ≤ (Nat.succ (nat_lit 1)).succ.succ.succ ∧ ((k == (2 : Int)) = true → nat_lit 2 ≤ (Nat.succ (nat_lit 1)).succ.succ.succ ∧ nat_lit 3 ≤ (Nat.succ (nat_lit 1)).succ.succ.succ ∧ true = true ∧ List.length b ≤ (100000000 : Nat) ∧ true = true ∧ saidOK (AnyV.s ((108 : UInt8) :: (105 : UInt8) :: (110 : UInt8) :: (107 : UInt8) :: ([] : List UInt8)) :: AnyV.s p :: AnyV.s (word b) :: ([] : List AnyV)) ∧ (said (AnyV.s ((108 : UInt8) :: (105 : UInt8) :: (110 : UInt8) :: (107 : UInt8) :: ([] : List UInt8)) :: AnyV.s p :: AnyV.s (word b) :: ([] : List AnyV)), ()) = (recT (k, p, b, m, o, ()), ()) ∧ () = ()) ∧ ((k == (2 : Int)) = false → nat_lit 1 ≤ (Nat.succ (nat_lit 1)).succ.succ.succ ∧ ((k == (4 : Int)) = true → nat_lit 2 ≤ (Nat.succ (nat_lit 1)).succ.succ.succ ∧ true = true ∧ saidOK (AnyV.s ((119 : UInt8) :: (104 : UInt8) :: (105 : UInt8) :: (116 : UInt8) :: (101 : UInt8) :: ([] : List UInt8)) :: AnyV.s p :: ([] : List AnyV)) ∧ (said (AnyV.s ((119 : UInt8) :: (104 : UInt8) :: (105 : UInt8) :: (116 : UInt8) :: (101 : UInt8) :: ([] : List UInt8)) :: AnyV.s p :: ([] : List AnyV)), ()) = (recT (k, p, b, m, o, ()), ()) ∧ () = ()) ∧ ((k == (4 : Int)) = false → nat_lit 5 ≤ (Nat.succ (nat_lit 1)).succ.succ.succ ∧ (o = true → nat_lit 2 ≤ (Nat.succ (nat_lit 1)).succ.succ.succ ∧ nat_lit 4 ≤ (Nat.succ (nat_lit 1)).succ.succ.succ ∧ true = true ∧ saidOK (AnyV.s ((111 : UInt8) :: (112 : UInt8) :: (97 : UInt8) :: (113 : UInt8) :: (117 : UInt8) :: (101 : UInt8) :: ([] : List UInt8)) :: AnyV.s p :: AnyV.n m :: ([] : List AnyV)) ∧ (said (AnyV.s ((111 : UInt8) :: (112 : UInt8) :: (97 : UInt8) :: (113 : UInt8) :: (117 : UInt8) :: (101 : UInt8) :: ([] : List UInt8)) :: AnyV.s p :: AnyV.n m :: ([] : List AnyV)), ()) = (recT (k, p, b, m, o, ()), ()) ∧ () = ()) ∧ (o = false → nat_lit 2 ≤ (Nat.succ (nat_lit 1)).succ.succ.succ ∧ nat_lit 4 ≤ (Nat.succ (nat_lit 1)).succ.succ.succ ∧ true = true ∧ saidOK (AnyV.s ((100 : UInt8) :: (105 : UInt8) :: (114 : UInt8) :: ([] : List UInt8)) :: AnyV.s p :: AnyV.n m :: ([] : List AnyV)) ∧ (said (AnyV.s ((100 : UInt8) :: (105 : UInt8) :: (114 : UInt8) :: ([] : List UInt8)) :: AnyV.s p :: AnyV.n m :: ([] : List AnyV)), ()) = (recT (k, p, b, m, o, ()), ()) ∧ () = ()))))) (by kernel_rfl) ?_
  simp only [Nat.le_refl, Nat.succ_eq_add_one, Nat.reduceAdd, Nat.reduceLeDiff, Nat.zero_le, pair_unit, mk_eta, len_bne, eqD_bne, bne_iff_ne, bne_eq_false_iff_eq, beq_iff_eq, beq_eq_false_iff_ne, true_and, and_true, and_self, eq_self, lt_iff, nthI_nat, bnd_iff, decide_eq_true_eq, decide_eq_false_iff_not, Nat.sub_eq, nz, ne_eq, not_false_eq_true, Prod.mk.injEq, Int.reduceEq, Nat.reduceEqDiff, forall_const, implies_true, bne_self_eq_false, Bool.true_eq_false, Bool.false_eq_true, false_implies, reduceCtorEq, Bool.not_true, Bool.not_false, List.all_cons, List.all_nil, Bool.and_true, Bool.not_eq_true, Bool.not_eq_false, Bool.not_eq_true', Bool.not_eq_false', Decidable.not_not]; try simp only [lenL]
  have hr : recFault (k, p, b, m, o, ()) = 0 := hr
  obtain ⟨hp, h8, -, h4, -⟩ := rec_ok hr
  have lp := path_len hp
  have lb := body_len h8
  have hm := mode_in h4
  have hi : inI m := by unfold inI; omega
  have hit := itoa_len hi
  have hw := word_len (t := b)
  refine ⟨fun h => ?_, fun h1 => ⟨fun h => ?_, fun h2 => ⟨fun h => ?_, fun h3 => ⟨fun h => ?_, fun h => ?_⟩⟩⟩⟩
  · subst h
    exact ⟨by omega, sok_ssns (by decide) (by omega) hi (by omega), rfl⟩
  · subst h
    exact ⟨by omega, sok_sss (by decide) (by omega) (by omega), rfl⟩
  · subst h
    exact ⟨sok_ss (by decide) (by omega), rfl⟩
  · subst h
    exact ⟨sok_ssn (by decide) (by omega) hi, (rt_opq h1 h2 h3).symm⟩
  · have h : o = false := by cases o <;> simp_all
    subst h
    exact ⟨sok_ssn (by decide) (by omega) hi, (rt_dir h1 h2 h3).symm⟩
end Go.Proofs.YtolminmmnckpkaaGreatDoor
namespace Go.Fn
open Go.Ab
def drop (n : List UInt8) (l : List Slot) : List Slot := l.filter (fun s => !(nameIs n s))
def dropTo (n : List UInt8) (l : List Slot) (k : Nat) : List Slot := (l.take k).filter (fun s => !(nameIs n s))
theorem dropTo_keep {n : List UInt8} {l : List Slot} {k : Nat} {x : Slot} (hx : l[k]? = some x) (h : ¬ x.1 = n) : dropTo n l k ++ [x] = dropTo n l (k + 1) := by
  have : nameIs n x = false := by unfold nameIs; simpa using h
  unfold dropTo; rw [List.take_add_one, hx]; simp [this]
theorem dropTo_del {n : List UInt8} {l : List Slot} {k : Nat} {x : Slot} (hx : l[k]? = some x) (h : x.1 = n) : dropTo n l k = dropTo n l (k + 1) := by
  have : nameIs n x = true := by unfold nameIs; simpa using h
  unfold dropTo; rw [List.take_add_one, hx]; simp [this]
theorem dropTo_end {n : List UInt8} {l : List Slot} {k : Nat} (h : ¬ k < l.length) : dropTo n l k = drop n l := by
  unfold dropTo drop; rw [List.take_of_length_le (by omega)]
theorem dropTo_len (n : List UInt8) (l : List Slot) (k : Nat) : (dropTo n l k).length ≤ l.length := Nat.le_trans (List.length_filter_le _ _) (by rw [List.length_take]; omega)
theorem dropTo_less (n : List UInt8) {l : List Slot} {k : Nat} (hk : k ≤ l.length) (h : k < l.length) : (dropTo n l k).length + 1 ≤ l.length := by
  have h1 : (dropTo n l k).length ≤ (l.take k).length := List.length_filter_le _ _
  rw [List.length_take] at h1
  omega
def removeC (d : Disk) (n : List UInt8) : Int := if short n = false then 2 else if diskOK d = false then 1 else if readB d n = false then 5 else 0
def removeD (d : Disk) (n : List UInt8) : Disk := if short n = false then zeroDisk else if diskOK d = false then zeroDisk else if readB d n = false then d else tidy (d.1, drop n d.2.1, d.2.2.1, d.2.2.2.1, ())
theorem used_all {d : Disk} (h : diskOK d = true) : ∀ x ∈ d.1, used d x.1 = true := by
  intro x hx
  obtain ⟨j, hj, rfl⟩ := List.getElem_of_mem hx
  unfold diskOK at h
  simp only [Bool.and_eq_true] at h
  have := allI_iff.1 h.1.2 j _ (List.getElem?_eq_getElem hj)
  simp only [Bool.not_eq_true', Bool.or_eq_false_iff, Bool.not_eq_false'] at this
  exact this.2
theorem tidy_all {d : Disk} (h : ∀ x ∈ d.1, used d x.1 = true) : tidy d = d := by
  unfold tidy
  rw [List.filter_eq_self.2 h]
theorem tidy_ok {d : Disk} (h : diskOK d = true) : tidy d = d := tidy_all (used_all h)
theorem del_none {α : Type} {p : α → Bool} {xs : List α} (h : idx p xs = -1) : xs = xs.filter (fun x => !(p x)) := by
  symm
  rw [List.filter_eq_self]
  intro x hx
  unfold idx at h
  cases hf : xs.findIdx? p with
  | none => rw [List.findIdx?_eq_none_iff] at hf; simp [hf x hx]
  | some k => rw [hf] at h; cases h
theorem small_remove {d : Disk} {n : List UInt8} (h : smallD d) : smallD (removeD d n) := by
  unfold removeD
  split
  · exact small_zero
  split
  · exact small_zero
  split
  · exact h
  · exact small_tidy ⟨h.1, Nat.le_trans (List.length_filter_le _ _) h.2.1, h.2.2⟩
end Go.Fn
namespace Go.Fn
open Go.Ab
theorem bl_trans : ∀ {x y z : List UInt8}, Op.bytesLess x y = true → Op.bytesLess y z = true → Op.bytesLess x z = true
  | _, [], _, h, _ => by simp [Op.bytesLess] at h
  | _, _ :: _, [], _, h => by simp [Op.bytesLess] at h
  | [], _ :: _, _ :: _, _, _ => by simp [Op.bytesLess]
  | a :: x, b :: y, c :: z, h1, h2 => by
    simp only [Op.bytesLess, Bool.or_eq_true, Bool.and_eq_true, decide_eq_true_eq, beq_iff_eq] at h1 h2 ⊢
    rcases h1 with h1 | ⟨rfl, h1⟩
    · rcases h2 with h2 | ⟨rfl, h2⟩
      · exact .inl (UInt8.lt_trans h1 h2)
      · exact .inl h1
    · rcases h2 with h2 | ⟨rfl, h2⟩
      · exact .inl h2
      · exact .inr ⟨rfl, bl_trans h1 h2⟩
theorem bl_total : ∀ {x y : List UInt8}, Op.bytesLess x y = false → Op.bytesLess y x = false → x = y
  | [], [], _, _ => rfl
  | [], _ :: _, h, _ => by simp [Op.bytesLess] at h
  | _ :: _, [], _, h => by simp [Op.bytesLess] at h
  | a :: x, b :: y, h1, h2 => by
    simp only [Op.bytesLess, Bool.or_eq_false_iff, Bool.and_eq_false_iff, decide_eq_false_iff_not, beq_eq_false_iff_ne, ne_eq] at h1 h2
    have e : a = b := by
      have h3 := UInt8.not_lt.1 h1.1
      have h4 := UInt8.not_lt.1 h2.1
      exact UInt8.le_antisymm h4 h3
    subst e
    have h1 : Op.bytesLess x y = false := by rcases h1.2 with h | h; exact absurd rfl h; exact h
    have h2 : Op.bytesLess y x = false := by rcases h2.2 with h | h; exact absurd rfl h; exact h
    rw [bl_total h1 h2]
theorem bl_asymm {x y : List UInt8} (h : Op.bytesLess x y = true) : Op.bytesLess y x = false := by
  cases e : Op.bytesLess y x with
  | false => rfl
  | true => have := bl_trans h e; rw [bl_irrefl] at this; cases this
theorem bl_ne {x y : List UInt8} (h : Op.bytesLess x y = true) : x ≠ y := by rintro rfl; rw [bl_irrefl] at h; cases h
theorem bl_flip {x y : List UInt8} (h1 : Op.bytesLess x y = false) (h2 : x ≠ y) : Op.bytesLess y x = true := by
  cases e : Op.bytesLess y x with
  | true => rfl
  | false => exact absurd (bl_total h1 e) h2
end Go.Fn
namespace Go.Fn
open Go.Ab
theorem sorted_eq {α : Type} {lt : α → α → Bool} (ha : ∀ x y, lt x y = true → lt y x = false) : ∀ {zs ys : List α}, ys.Perm zs → zs.Pairwise (fun a b => lt a b = true) → ys.Pairwise (fun a b => lt b a = false) → ys = zs
  | [], ys, hp, _, _ => by simpa using hp.length_eq
  | z :: zs, [], hp, _, _ => by simpa using hp.length_eq
  | z :: zs, y :: ys, hp, hz, hy => by
    rw [List.pairwise_cons] at hz hy
    have hym : y ∈ z :: zs := hp.mem_iff.1 List.mem_cons_self
    have hzm : z ∈ y :: ys := hp.mem_iff.2 List.mem_cons_self
    have e : y = z := by
      rcases List.mem_cons.1 hym with h | h
      · exact h
      · rcases List.mem_cons.1 hzm with h' | h'
        · exact h'.symm
        · have h1 := hz.1 y h
          have h2 := hy.1 z h'
          rw [h1] at h2; cases h2
    subst e
    rw [sorted_eq ha (List.Perm.cons_inv hp) hz.2 hy.2]
end Go.Fn
namespace Go.Fn
open Go.Ab
def ltN (a b : Slot) : Bool := Op.bytesLess a.1 b.1
def SortedN (l : List Slot) : Prop := l.Pairwise (fun a b => ltN a b = true)
def put (s : Slot) : List Slot → List Slot
  | [] => [s]
  | y :: r => if Op.bytesLess y.1 s.1 = true then y :: put s r else if y.1 = s.1 then s :: r else s :: y :: r
theorem put_mem {s x : Slot} : ∀ {l : List Slot}, x ∈ put s l → x = s ∨ x ∈ l
  | [], h => by simp [put] at h; exact .inl h
  | y :: r, h => by
    unfold put at h
    split at h
    · rcases List.mem_cons.1 h with rfl | h
      · exact .inr List.mem_cons_self
      · rcases put_mem h with h | h
        · exact .inl h
        · exact .inr (List.mem_cons_of_mem _ h)
    · split at h
      · rcases List.mem_cons.1 h with h | h
        · exact .inl h
        · exact .inr (List.mem_cons_of_mem _ h)
      · rcases List.mem_cons.1 h with h | h
        · exact .inl h
        · exact .inr h
theorem put_sorted {s : Slot} : ∀ {l : List Slot}, SortedN l → SortedN (put s l)
  | [], _ => by unfold SortedN put; simp
  | y :: r, h => by
    unfold SortedN at h
    rw [List.pairwise_cons] at h
    unfold put
    split
    · rename_i hlt
      refine List.pairwise_cons.2 ⟨fun x hx => ?_, put_sorted h.2⟩
      rcases put_mem hx with rfl | hx
      · exact hlt
      · exact h.1 x hx
    · rename_i hlt
      split
      · rename_i he
        refine List.pairwise_cons.2 ⟨fun x hx => ?_, h.2⟩
        have := h.1 x hx
        unfold ltN at this ⊢
        rw [← he]; exact this
      · rename_i he
        have h3 : Op.bytesLess s.1 y.1 = true := bl_flip (by simpa using hlt) he
        refine List.pairwise_cons.2 ⟨fun x hx => ?_, List.pairwise_cons.2 h⟩
        rcases List.mem_cons.1 hx with rfl | hx
        · exact h3
        · exact bl_trans h3 (h.1 x hx)
theorem drop_cons (n : List UInt8) (y : Slot) (r : List Slot) : drop n (y :: r) = if y.1 = n then drop n r else y :: drop n r := by
  unfold drop nameIs
  rw [List.filter_cons]
  by_cases h : y.1 = n
  · simp [h]
  · simp [h]
theorem drop_all {n : List UInt8} {l : List Slot} (h : ∀ x ∈ l, x.1 ≠ n) : drop n l = l := by
  unfold drop
  rw [List.filter_eq_self]
  intro x hx
  simp [nameIs, h x hx]
theorem put_perm {s : Slot} : ∀ {l : List Slot}, SortedN l → (put s l).Perm (drop s.1 l ++ [s])
  | [], _ => by unfold put drop; simp
  | y :: r, h => by
    unfold SortedN at h
    rw [List.pairwise_cons] at h
    unfold put
    rw [drop_cons]
    split
    · rename_i hlt
      rw [if_neg (bl_ne hlt)]
      exact List.Perm.cons _ (put_perm h.2)
    · rename_i hlt
      split
      · rename_i he
        rw [drop_all (l := r) (fun x hx e => by
          have := h.1 x hx
          unfold ltN at this
          exact bl_ne this (he.trans e.symm))]
        exact List.perm_append_comm (l₁ := [s])
      · rename_i he
        have h3 : Op.bytesLess s.1 y.1 = true := bl_flip (by simpa using hlt) he
        rw [drop_all (l := r) (fun x hx e => by
          have := bl_trans h3 (h.1 x hx)
          exact bl_ne this e.symm)]
        exact List.perm_append_comm (l₁ := [s])
theorem ltN_asymm (x y : Slot) (h : ltN x y = true) : ltN y x = false := bl_asymm h
theorem sort_put {s : Slot} {l ys : List Slot} (hl : SortedN l) (hp : ys.Perm (drop s.1 l ++ [s])) (hs : ys.Pairwise (fun a b => ltN b a = false)) : ys = put s l :=
  sorted_eq ltN_asymm (hp.trans (put_perm hl).symm) (put_sorted hl) hs
theorem put_len (s : Slot) : ∀ l : List Slot, (put s l).length ≤ l.length + 1
  | [] => by simp [put]
  | y :: r => by
    unfold put
    split
    · have := put_len s r; simp; omega
    · split <;> simp
theorem sorted_drop {n : List UInt8} {l : List Slot} (h : SortedN l) : SortedN (drop n l) := List.Pairwise.filter _ h
theorem slots_sorted {ino : List Inode} {l : List Slot} (h : slotsOK ino l = true) : SortedN l := by
  unfold slotsOK at h
  rw [allI_iff] at h
  have hstep : ∀ (k : Nat) (x y : Slot), l[k]? = some x → l[k + 1]? = some y → ltN x y = true := fun k x y hx hy => by
    have := h (k + 1) y hy
    simp only [Nat.zero_add, badSlot, Bool.not_eq_true', Bool.or_eq_false_iff, Bool.and_eq_false_iff, decide_eq_false_iff_not] at this
    have h2 := this.1.2
    rcases h2 with h2 | h2
    · exact absurd (by simp only [Int.ofNat_eq_natCast]; omega) h2
    · unfold prevSlot at h2
      have e : nthI l (Int.ofNat (k + 1) - 1) = some x := by
        have : (Int.ofNat (k + 1) - 1).toNat = k := by simp only [Int.ofNat_eq_natCast]; omega
        unfold nthI; rw [this]; exact hx
      rw [e] at h2
      simp only [leS, Bool.or_eq_false_iff, beq_eq_false_iff_ne] at h2
      exact bl_flip h2.1 h2.2
  have hall : ∀ (n k : Nat) (x y : Slot), l[k]? = some x → l[k + 1 + n]? = some y → ltN x y = true := by
    intro n
    induction n with
    | zero => intro k x y hx hy; exact hstep k x y hx hy
    | succ n ih =>
      intro k x y hx hy
      have hlt : k + 1 + n < l.length := by
        have := (List.getElem?_eq_some_iff.1 hy).1; omega
      have hz := List.getElem?_eq_getElem hlt
      exact bl_trans (ih k x _ hx hz) (hstep (k + 1 + n) _ y hz hy)
  unfold SortedN
  rw [List.pairwise_iff_getElem]
  intro i j hi hj hij
  exact hall (j - i - 1) i _ _ (List.getElem?_eq_getElem hi) (by rw [show i + 1 + (j - i - 1) = j by omega]; exact List.getElem?_eq_getElem hj)
end Go.Fn
namespace Go.Fn
open Go.Ab
def LeadAt (s : Slot) (l : List Slot) (k : Nat) : Prop := k ≤ l.length ∧ ∀ (j : Nat) (y : Slot), j < k → l[j]? = some y → Op.bytesLess y.1 s.1 = true
theorem put_lead {s : Slot} : ∀ {k : Nat} {l : List Slot}, LeadAt s l k → put s l = l.take k ++ put s (l.drop k)
  | 0, l, _ => by simp
  | k + 1, [], h => by have := h.1; simp at this
  | k + 1, y :: r, h => by
    have hy : Op.bytesLess y.1 s.1 = true := h.2 0 y (Nat.succ_pos _) rfl
    have h' : LeadAt s r k := ⟨by have := h.1; simp at this; omega, fun j z hj hz => h.2 (j + 1) z (by omega) (by simpa using hz)⟩
    show put s (y :: r) = y :: (r.take k) ++ put s (r.drop k)
    rw [put, if_pos hy, put_lead h']; rfl
theorem put_end {s : Slot} {l : List Slot} {k : Nat} (h : LeadAt s l k) (he : ¬ k < l.length) : l.take k ++ [s] ++ l.drop k = put s l := by
  rw [put_lead h, List.drop_eq_nil_of_le (by omega)]; simp [put]
theorem put_same {s y : Slot} {l : List Slot} {k : Nat} (h : LeadAt s l k) (hy : l[k]? = some y) (hn : ¬ Op.bytesLess y.1 s.1 = true) (he : y.1 = s.1) : l.take k ++ [s] ++ l.drop (k + 1) = put s l := by
  rw [put_lead h, drop_at hy, put, if_neg hn, if_pos he]; simp
theorem put_more {s y : Slot} {l : List Slot} {k : Nat} (h : LeadAt s l k) (hy : l[k]? = some y) (hn : ¬ Op.bytesLess y.1 s.1 = true) (he : ¬ y.1 = s.1) : l.take k ++ [s] ++ l.drop k = put s l := by
  rw [put_lead h]
  conv => rhs; rw [drop_at hy, put, if_neg hn, if_neg he]
  rw [drop_at hy]; simp
theorem lead_step {s y : Slot} {l : List Slot} {k : Nat} (h : LeadAt s l k) (hy : l[k]? = some y) (hn : Op.bytesLess y.1 s.1 = true) : LeadAt s l (k + 1) := by
  have hk := (List.getElem?_eq_some_iff.1 hy).1
  refine ⟨hk, fun j z hj hz => ?_⟩
  rcases Nat.lt_or_ge j k with h1 | h1
  · exact h.2 j z h1 hz
  · obtain rfl : j = k := by omega
    rw [hy] at hz; cases hz; exact hn
theorem sub_take {α : Type} (l : List α) (k : Nat) : subL l 0 (tN (Int.ofNat k)) = l.take k := by unfold subL tN; simp
theorem sub_drop {α : Type} (l : List α) (k : Nat) : subL l (tN (Int.ofNat k)) l.length = l.drop k := by unfold subL tN; simp
theorem lead0 (s : Slot) (l : List Slot) : LeadAt s l 0 := ⟨Nat.zero_le _, fun j y hj => absurd hj (Nat.not_lt_zero _)⟩
theorem put_fit {s : Slot} {l : List Slot} (hl : l.length ≤ 1000000) (k j : Nat) : fits ((subL l 0 (tN (Int.ofNat k))).length + [s].length) ∧ fits ((subL l 0 (tN (Int.ofNat k)) ++ [s]).length + (subL l (tN (Int.ofNat j)) l.length).length) := by
  rw [sub_take, sub_drop]
  unfold fits
  simp only [List.length_take, List.length_append, List.length_drop, List.length_cons, List.length_nil]
  omega
theorem bound_lo {k n : Nat} (h : k ≤ n) : boundLo (Int.ofNat k) n := ⟨Int.natCast_nonneg _, Int.ofNat_le.2 h⟩
end Go.Fn
namespace Go.Fn
open Go.Ab
theorem map_take {α β : Type} {f : α → β} {l : List α} {k : Nat} {x : α} (hx : l[k]? = some x) : (l.take k).map f ++ [f x] = (l.take (k + 1)).map f := by
  rw [List.take_add_one, hx]; simp
theorem map_end {α β : Type} {f : α → β} {l : List α} {k : Nat} (h : ¬ k < l.length) : (l.take k).map f = l.map f := by
  rw [List.take_of_length_le (by omega)]
theorem map_fit {α β : Type} {f : α → β} {l : List α} {k : Nat} (hk : k < l.length) (hf : fits l.length) : fits (((l.take k).map f).length + 1) := by
  unfold fits at *
  rw [List.length_map, List.length_take]; omega
def lls (l : List Rec) : List (List UInt8) := if encLayC l = 0 then l.map recT else []
theorem ll_long {l : List Rec} (h : iOf l.length > 4096) : [] = lls l ∧ 2 = encLayC l := by
  have e := (el_long h).2
  unfold lls
  rw [if_neg (by rw [← e]; decide)]
  exact ⟨rfl, e⟩
theorem ll_bad {l : List Rec} (h : ¬ iOf l.length > 4096) (hc : ¬ layC l = 0) : [] = lls l ∧ 1 = encLayC l := by
  have e := (el_bad h hc).2
  unfold lls
  rw [if_neg (by rw [← e]; decide)]
  exact ⟨rfl, e⟩
theorem ll_ok {l : List Rec} (h : ¬ iOf l.length > 4096) (hc : layC l = 0) : OKto l l.length ∧ l.map recT = lls l ∧ 0 = encLayC l := by
  have e := el_ok h hc
  refine ⟨e.1, ?_, e.2.2⟩
  unfold lls
  rw [if_pos e.2.2.symm]
theorem ll_no {l : List Rec} (h : ¬ encLayC l = 0) : [] = lls l := by unfold lls; rw [if_neg h]
theorem ll_first {l : List Rec} (h : encLayC l = 0) : OKto l l.length ∧ l.map recT = lls l ∧ 0 = encLayC l := by
  have h2 : ¬ iOf l.length > 4096 := fun hg => by
    have := (el_long (l := l) hg).2
    rw [h] at this
    exact absurd this (by decide)
  exact ll_ok h2 (Classical.byContradiction fun hn => by
    have := (el_bad h2 hn).2
    rw [h] at this
    exact absurd this (by decide))
end Go.Fn
namespace Go.Fn
open Go.Ab
def heldT (xs : List (List UInt8)) (k : Int) : Int := heldL markText 1 xs k
theorem heldT_mark {n : Nat} : heldT (markL markText 1 n 1) 1 = atD 1 1 n := held_mark markText 1 n 1
theorem atD1_pos {n : Nat} : ¬ atD 1 1 n < 0 := by unfold atD; simp only [Int.ofNat_eq_natCast]; omega
end Go.Fn
namespace Go.Fn
open Go.Ab
def nodeRec (n : Node) : Rec := (n.1, n.2.1, n.2.2.1, n.2.2.2.1, false, ())
def nodeOK (n : Node) : Bool := decide (recFault (nodeRec n) = 0) && !(decide (n.1 = 4))
def node0 : Node := (0, [], [], 0, ())
def nodeI (t : List Node) (i : Nat) : Node := t.getD i node0
def hasPath (p : List UInt8) (n : Node) : Bool := decide (n.2.1 = p)
def nodeIdx (t : List Node) (p : List UInt8) : Int := idx (hasPath p) t
def dirAt (t : List Node) (k : Int) : Bool := match nthI t k with | some n => decide (n.1 = 3) | none => false
def isDirB (t : List Node) (p : List UInt8) : Bool := decide (p = []) || (decide (nodeIdx t p ≥ 0) && dirAt t (nodeIdx t p))
def treeBadAt (t : List Node) (i : Nat) : Bool := decide (24 ≤ i) || (!(nodeOK (nodeI t i)) || ((decide (0 < i) && !(pathLess (nodeI t (i - 1)).2.1 (nodeI t i).2.1)) || !(isDirB (t.take i) (parentS (nodeI t i).2.1))))
def treeBadI (t : List Node) (i : Int) : Bool := treeBadAt t i.toNat
def treeOK (t : List Node) : Bool := (List.range t.length).all fun i => !(treeBadAt t i)
def OKT (t : List Node) (k : Nat) : Prop := k ≤ t.length ∧ ∀ j, j < k → treeBadAt t j = false
def okN (t : List Node) : Prop := ∀ r ∈ t, r.2.1.length ≤ 100000000
theorem nodeI_at {t : List Node} {i : Nat} {x : Node} (h : t[i]? = some x) : nodeI t i = x := by unfold nodeI; rw [List.getD_eq_getElem?_getD, h]; rfl
theorem okt0 (t : List Node) : OKT t 0 := ⟨Nat.zero_le _, fun j hj => absurd hj (Nat.not_lt_zero _)⟩
theorem okt_step {t : List Node} {i : Nat} (h : OKT t i) (hi : i < t.length) (hf : treeBadAt t i = false) : OKT t (i + 1) := by
  refine ⟨hi, fun j hj => ?_⟩
  rcases Nat.lt_or_ge j i with h1 | h1
  · exact h.2 j h1
  · obtain rfl : j = i := by omega
    exact hf
theorem okt_bad {t : List Node} {i : Nat} (hi : i < t.length) (hf : treeBadAt t i = true) : false = treeOK t := by
  symm
  unfold treeOK
  rw [List.all_eq_false]
  exact ⟨i, List.mem_range.2 hi, by simp [hf]⟩
theorem okt_end {t : List Node} {i : Nat} (h : OKT t i) (hi : ¬ i < t.length) : true = treeOK t := by
  symm
  unfold treeOK
  rw [List.all_eq_true]
  intro j hj
  simp [h.2 j (by have := List.mem_range.1 hj; omega)]
theorem okt_24 {t : List Node} (h : iOf t.length > 24) : false = treeOK t :=
  okt_bad (i := 24) (by unfold iOf at h; omega) (by unfold treeBadAt; simp)
theorem okt_len {t : List Node} (h : treeOK t = true) : t.length ≤ 24 := by
  apply Classical.byContradiction
  intro hn
  have := okt_24 (t := t) (by unfold iOf; omega)
  rw [h] at this; cases this
theorem okt_all {t : List Node} (h : treeOK t = true) : ∀ r ∈ t, recFault (nodeRec r) = 0 := by
  intro r hr
  obtain ⟨i, hi⟩ := List.mem_iff_getElem?.1 hr
  have hlt := (List.getElem?_eq_some_iff.1 hi).1
  unfold treeOK at h
  rw [List.all_eq_true] at h
  have := h i (List.mem_range.2 hlt)
  simp only [Bool.not_eq_true', treeBadAt, Bool.or_eq_false_iff, Bool.not_eq_false', nodeI_at hi, nodeOK, Bool.and_eq_true, decide_eq_true_eq] at this
  exact this.2.1.1
def treeHead (t : List Node) (i : Nat) : Bool := decide ((nodeI t i).1 = 4) || (!(decide (recFault (nodeRec (nodeI t i)) = 0)) || (decide (0 < i) && !(lessL (split 47 (nodeI t (i - 1)).2.1) (split 47 (nodeI t i).2.1))))
def treeHeadI (t : List Node) (i : Int) : Bool := treeHead t i.toNat
theorem node_path {n : Node} (h : nodeOK n = true) : pathOK n.2.1 = true := by
  unfold nodeOK at h
  simp only [Bool.and_eq_true, decide_eq_true_eq] at h
  exact rec_path (r := nodeRec n) h.1
theorem node_rec {n : Node} (h : recFault (nodeRec n) = 0) : pathOK n.2.1 = true := rec_path (r := nodeRec n) h
theorem tree_head {t : List Node} {i : Nat} (h : OKT t i) (h24 : ¬ 24 ≤ i) : treeBadAt t i = (treeHead t i || !(isDirB (t.take i) (parentS (nodeI t i).2.1))) := by
  unfold treeBadAt treeHead
  rw [decide_eq_false h24, Bool.false_or]
  by_cases hr : recFault (nodeRec (nodeI t i)) = 0
  · by_cases hk : (nodeI t i).1 = 4
    · have e : nodeOK (nodeI t i) = false := by unfold nodeOK; rw [decide_eq_true hk]; simp
      rw [e, decide_eq_true hk]; rfl
    · have e : nodeOK (nodeI t i) = true := by unfold nodeOK; rw [decide_eq_false hk, decide_eq_true hr]; rfl
      rw [e, decide_eq_false hk, decide_eq_true hr]
      simp only [Bool.not_true, Bool.false_or]
      rcases Nat.eq_zero_or_pos i with h0 | h0
      · subst h0; simp
      · have hprev := h.2 (i - 1) (by omega)
        simp only [treeBadAt, Bool.or_eq_false_iff, Bool.not_eq_false'] at hprev
        have e1 := node_path hprev.2.1
        have e2 := node_path e
        have e3 : pathLess (nodeI t (i - 1)).2.1 (nodeI t i).2.1 = lessL (split 47 (nodeI t (i - 1)).2.1) (split 47 (nodeI t i).2.1) := by unfold pathLess; rw [e1, e2]; rfl
        rw [e3]
  · have e : nodeOK (nodeI t i) = false := by unfold nodeOK; rw [decide_eq_false hr]; rfl
    rw [e, decide_eq_false hr]; simp
theorem wsN {n i : Nat} (hp : Int.ofNat i > 0) (hi : i < n) (hf : fits n) : wSub .i64 (Int.ofNat i) 1 = Int.ofNat (i - 1) := by
  unfold fits at hf
  have hp' : 0 < i := by simpa using hp
  rw [wSub_in (by simp only [Int.ofNat_eq_natCast]; omega)]
  simp only [Int.ofNat_eq_natCast]; omega
theorem tb_eq {t : List Node} {i : Nat} {x : Node} (hx : t[i]? = some x) : treeBadI t (Int.ofNat i) = (decide (24 ≤ i) || (!(nodeOK x) || ((decide (0 < i) && !(pathLess (nodeI t (i - 1)).2.1 x.2.1)) || !(isDirB (t.take i) (parentS x.2.1))))) := by
  show treeBadAt t i = _
  unfold treeBadAt
  rw [nodeI_at hx]
theorem th_eq {t : List Node} {i : Nat} {x : Node} (hx : t[i]? = some x) : treeHeadI t (Int.ofNat i) = (decide (x.1 = 4) || (!(decide (recFault (nodeRec x) = 0)) || (decide (0 < i) && !(lessL (split 47 (nodeI t (i - 1)).2.1) (split 47 x.2.1))))) := by
  show treeHead t i = _
  unfold treeHead
  rw [nodeI_at hx]
theorem tb_prev {t : List Node} {i : Nat} {x y : Node} (hx : t[i]? = some x) (hy : t[i - 1]? = some y) (h24 : ¬ Int.ofNat i ≥ 24) (h0 : Int.ofNat i > 0) (hn : nodeOK x = true) : (pathLess y.2.1 x.2.1 = true → (!isDirB (subL t 0 (tN (Int.ofNat i))) (parentS x.2.1)) = treeBadI t (Int.ofNat i)) ∧ (pathLess y.2.1 x.2.1 = false → true = treeBadI t (Int.ofNat i)) := by
  have h24' : ¬ 24 ≤ i := fun h => h24 (by simp only [Int.ofNat_eq_natCast]; omega)
  have h0' : 0 < i := by simpa using h0
  rw [tb_eq hx, nodeI_at hy, sub_take, decide_eq_false h24', decide_eq_true h0', hn]
  refine ⟨fun h => ?_, fun h => ?_⟩
  · rw [h]; rfl
  · rw [h]; rfl
theorem tb_none {t : List Node} {i : Nat} {x : Node} (hx : t[i]? = some x) (h24 : ¬ Int.ofNat i ≥ 24) (h0 : ¬ Int.ofNat i > 0) (hn : nodeOK x = true) : (!isDirB (subL t 0 (tN (Int.ofNat i))) (parentS x.2.1)) = treeBadI t (Int.ofNat i) := by
  have h24' : ¬ 24 ≤ i := fun h => h24 (by simp only [Int.ofNat_eq_natCast]; omega)
  have h0' : ¬ 0 < i := fun h => h0 (by simpa using h)
  rw [tb_eq hx, sub_take, decide_eq_false h24', decide_eq_false h0', hn]; rfl
theorem tb_node {t : List Node} {i : Nat} {x : Node} (hx : t[i]? = some x) (hn : nodeOK x = false) : true = treeBadI t (Int.ofNat i) := by
  rw [tb_eq hx, hn]; simp
theorem tb_24 {t : List Node} {i : Nat} {x : Node} (hx : t[i]? = some x) (h24 : Int.ofNat i ≥ 24) : true = treeBadI t (Int.ofNat i) := by
  rw [tb_eq hx, decide_eq_true (p := 24 ≤ i) (by have : (24 : Int) ≤ Int.ofNat i := h24; simp only [Int.ofNat_eq_natCast] at this; omega)]; rfl
theorem th_prev {t : List Node} {i : Nat} {x y : Node} (hx : t[i]? = some x) (hy : t[i - 1]? = some y) (h0 : Int.ofNat i > 0) (hk : ¬ x.1 = 4) (hr : recFault (nodeRec x) = 0) : (!lessL (split 47 y.2.1) (split 47 x.2.1)) = treeHeadI t (Int.ofNat i) := by
  have h0' : 0 < i := by simpa using h0
  rw [th_eq hx, nodeI_at hy, decide_eq_false hk, decide_eq_true hr, decide_eq_true h0']; rfl
theorem th_none {t : List Node} {i : Nat} {x : Node} (hx : t[i]? = some x) (h0 : ¬ Int.ofNat i > 0) (hk : ¬ x.1 = 4) (hr : recFault (nodeRec x) = 0) : false = treeHeadI t (Int.ofNat i) := by
  have h0' : ¬ 0 < i := fun h => h0 (by simpa using h)
  rw [th_eq hx, decide_eq_false hk, decide_eq_true hr, decide_eq_false h0']; rfl
theorem th_rec {t : List Node} {i : Nat} {x : Node} (hx : t[i]? = some x) (hr : ¬ recFault (nodeRec x) = 0) : true = treeHeadI t (Int.ofNat i) := by
  rw [th_eq hx, decide_eq_false hr]; simp
theorem th_kind {t : List Node} {i : Nat} {x : Node} (hx : t[i]? = some x) (hk : x.1 = 4) : true = treeHeadI t (Int.ofNat i) := by
  rw [th_eq hx, decide_eq_true hk]; rfl
theorem tree_bad {t : List Node} {i : Nat} (h : OKT t i) (h24 : ¬ 24 ≤ i) (hb : treeHeadI t (Int.ofNat i) = true) : treeBadAt t i = true := by
  have hb : treeHead t i = true := hb
  rw [tree_head h h24, hb]; rfl
theorem tree_par {t : List Node} {i : Nat} {x : Node} (h : OKT t i) (h24 : ¬ 24 ≤ i) (hx : t[i]? = some x) (hb : treeHeadI t (Int.ofNat i) = false) : treeBadAt t i = !(isDirB (t.take i) (parentS x.2.1)) := by
  have hb : treeHead t i = false := hb
  rw [tree_head h h24, hb, nodeI_at hx]; rfl
theorem dir_take {t : List Node} {i : Nat} {p : List UInt8} (hi : i ≤ t.length) (hp : ¬ p = []) (hk : ¬ nodeIdx (subL t 0 (tN (Int.ofNat i))) p < 0) : bnd (nodeIdx (subL t 0 (tN (Int.ofNat i))) p) t.length ∧ ∀ y, nthI t (nodeIdx (subL t 0 (tN (Int.ofNat i))) p) = some y → isDirB (t.take i) p = decide (y.1 = 3) := by
  rw [sub_take] at hk ⊢
  have hlt := (idx_lt (hasPath p) (t.take i)).1
  have hlt : nodeIdx (t.take i) p < (t.take i).length := hlt
  have hl : (t.take i).length = i := by rw [List.length_take]; omega
  rw [hl] at hlt
  refine ⟨⟨by omega, by omega⟩, fun y hy => ?_⟩
  unfold isDirB dirAt
  have hn : (nodeIdx (t.take i) p).toNat < i := by omega
  have e : nthI (t.take i) (nodeIdx (t.take i) p) = some y := by
    unfold nthI at hy ⊢
    rw [List.getElem?_take_of_lt hn]; exact hy
  rw [e, decide_eq_false hp, decide_eq_true (p := nodeIdx (t.take i) p ≥ 0) (by omega)]; rfl
theorem dir_neg {t : List Node} {i : Nat} {p : List UInt8} (hp : ¬ p = []) (hk : nodeIdx (subL t 0 (tN (Int.ofNat i))) p < 0) : isDirB (t.take i) p = false := by
  rw [sub_take] at hk
  unfold isDirB
  rw [decide_eq_false hp, decide_eq_false (p := nodeIdx (t.take i) p ≥ 0) (by omega)]; rfl
theorem dir_root {t : List Node} {i : Nat} {p : List UInt8} (hp : p = []) : isDirB (t.take i) p = true := by
  unfold isDirB
  rw [decide_eq_true hp]; rfl
def treeC (t : List Node) : Int := if iOf t.length > 4096 then 2 else if treeOK t = false then 1 else 0
def treeS (t : List Node) : List (List UInt8) := if treeC t = 0 then t.map (fun n => recT (nodeRec n)) else []
theorem tl_long {t : List Node} (h : iOf t.length > 4096) : [] = treeS t ∧ 2 = treeC t := by
  have e : treeC t = 2 := by unfold treeC; rw [if_pos h]
  unfold treeS
  rw [e]; exact ⟨rfl, rfl⟩
theorem tl_bad {t : List Node} (h : ¬ iOf t.length > 4096) (hb : treeOK t = false) : [] = treeS t ∧ 1 = treeC t := by
  have e : treeC t = 1 := by unfold treeC; rw [if_neg h, if_pos hb]
  unfold treeS
  rw [e]; exact ⟨rfl, rfl⟩
theorem tl_ok {t : List Node} (h : ¬ iOf t.length > 4096) (hb : treeOK t = true) : t.map (fun n => recT (nodeRec n)) = treeS t ∧ 0 = treeC t := by
  have e : treeC t = 0 := by unfold treeC; rw [if_neg h, if_neg (by rw [hb]; exact fun e => Bool.noConfusion e)]
  unfold treeS
  rw [e]; exact ⟨rfl, rfl⟩
theorem tl_first {t : List Node} : first [.b (decide (iOf t.length > 4096)), .n 2, .b (!(treeOK t)), .n 1] = treeC t := by
  rw [first2]
  unfold treeC
  by_cases h : iOf t.length > 4096
  · rw [if_pos h, decide_eq_true h]; rfl
  · rw [if_neg h, decide_eq_false h]
    cases treeOK t <;> rfl
theorem tl_zero {t : List Node} (h : treeC t = 0) : ¬ iOf t.length > 4096 ∧ treeOK t = true := by
  unfold treeC at h
  split at h
  · cases h
  · rename_i h1
    split at h
    · cases h
    · rename_i h2
      exact ⟨h1, by simpa using h2⟩
end Go.Fn
namespace Go.Fn
open Go.Ab
def szNd (a : Node) (n : Int) : Int := szRec (nodeRec a) n
theorem szNd_le (r : Node) (n : Int) (h : 0 ≤ n) : szNd r n ≤ n := szRec_le (nodeRec r) n h
theorem szGo_nd : ∀ (l : List Node) (n : Int), szGo szNd l n = szGo szRec (l.map nodeRec) n
  | [], _ => rfl
  | a :: r, n => by
    show (if szNd a n < 0 then -1 else szGo szNd r (szNd a n)) = if szRec (nodeRec a) n < 0 then -1 else szGo szRec (r.map nodeRec) (szRec (nodeRec a) n)
    rw [szGo_nd r]; rfl
theorem szNd_small {l : List Node} (h : ¬ szList szNd l 1048576 < 0) : okN l := by
  have e : szList szNd l 1048576 = szList szRec (l.map nodeRec) 1048576 := by unfold szList; rw [szGo_nd, List.length_map]
  rw [e] at h
  have := szL_small h
  intro r hr
  exact this (nodeRec r) (List.mem_map.2 ⟨r, hr, rfl⟩)
def eqNd (a b : Node) : Bool := decide (a.1 = b.1) && (decide (a.2.1 = b.2.1) && (decide (a.2.2.1 = b.2.2.1) && decide (a.2.2.2.1 = b.2.2.2.1)))
theorem eqNd_dec (a b : Node) : eqNd a b = decide (a = b) := by
  obtain ⟨k, p, b', m, ⟨⟩⟩ := a
  obtain ⟨k2, p2, b2, m2, ⟨⟩⟩ := b
  unfold eqNd
  by_cases h : (k, p, b', m, ()) = (k2, p2, b2, m2, ())
  · rw [decide_eq_true h]
    simp only [Prod.mk.injEq] at h
    simp [h.1, h.2.1, h.2.2.1, h.2.2.2.1]
  · rw [decide_eq_false h]
    simp only [Prod.mk.injEq, and_true] at h
    by_cases h1 : k = k2 <;> by_cases h2 : p = p2 <;> by_cases h3 : b' = b2 <;> by_cases h4 : m = m2 <;> simp [h1, h2, h3, h4] at h ⊢
theorem eqNd_ne {a b : Node} (h : eqNd a b = false) : a ≠ b := by rw [eqNd_dec] at h; simpa using h
theorem eqNd_eq {a b : Node} (h : eqNd a b = true) : a = b := by rw [eqNd_dec] at h; simpa using h
def markNd (k : Int) : Node := (k, markText (k + 1), markText (k + 2), k + 3, ())
end Go.Fn
namespace Go.Proofs.YtolminmmnckpkaaGreatDoor
open Go.Ab Go.Fn
def s_markStringS : FSpec := { ps := [.mo .str, .v I], rs := [.v I], pre := fun x => kOK x.2.1, fn := fun x => (atD 1 x.2.1 (List.length (α := List UInt8) x.1), ()), upd := fun x => (markL markText 1 (List.length (α := List UInt8) x.1) x.2.1, ()) }
def L_markStringS (xs : List (List UInt8)) (k : Int) : LoopAnn := { ι := Nat, inv := fun j => j ≤ xs.length, slots := fun j => [(5, .d I (Int.ofNat j)), (1, .d I (atD 1 k j))], objs := fun j => [(0, .arr .str (markTo markText 1 xs k j) true)], μ := fun j => xs.length - j }
theorem fo_markStringS : FO 14 s_markStringS := by
  refine fo (specs := [(43, s_markText)]) (clos := []) (fun x => [(2, .lv [0, 1, 5] <| fun _ => L_markStringS x.1 x.2.1)]) ⟨fo_markText, trivial⟩ trivial Tryz.func14 rfl rfl ?_
  rintro ⟨xs, k, ⟨⟩⟩ hp
  have hp : kOK k := hp
  refine vcOf ((∃ (i : Nat), i ≤ List.length xs ∧ ((0 : Nat) = (0 : Nat) ∧ k = atD (1 : Int) k i ∧ (0 : Int) = Int.ofNat i ∧ True) ∧ ((xs = markTo markText (1 : Int) xs k i ∧ true = true) ∧ True) ∧ True) ∧ ∀ (i : Nat), i ≤ List.length xs → fits (lenL (markTo markText (1 : Int) xs k i)) → (decide (Int.ofNat i < iOf (lenL (markTo markText (1 : Int) xs k i))) = true → true = true ∧ atD (1 : Int) k i ≤ (9000000000000000 : (PTy.v I).den) ∧ bnd (Int.ofNat i) (lenL (markTo markText (1 : Int) xs k i)) ∧ ((0 : Nat) = (0 : Nat) ∧ tN (Int.ofNat i) < lenL (markTo markText (1 : Int) xs k i)) ∧ ∃ (j : Nat), j ≤ List.length xs ∧ (List.length xs).sub j < (List.length xs).sub i ∧ ((0 : Nat) = (0 : Nat) ∧ wAdd IntKind.i64 (atD (1 : Int) k i) (1 : Int) = atD (1 : Int) k j ∧ wAdd IntKind.i64 (Int.ofNat i) (1 : Int) = Int.ofNat j ∧ True) ∧ (((markTo markText (1 : Int) xs k i).set (tN (Int.ofNat i)) (markText (atD (1 : Int) k i)) = markTo markText (1 : Int) xs k j ∧ true = true) ∧ True) ∧ True) ∧ (decide (Int.ofNat i < iOf (lenL (markTo markText (1 : Int) xs k i))) = false → (atD (1 : Int) k i, ()) = (atD (1 : Int) k (List.length xs), ()) ∧ (markTo markText (1 : Int) xs k i, ()) = (markL markText (1 : Int) (List.length xs) k, ()))) (by kernel_rfl) ?_
  simp only [Nat.le_refl, Nat.succ_eq_add_one, Nat.reduceAdd, Nat.reduceLeDiff, Nat.zero_le, pair_unit, mk_eta, len_bne, eqD_bne, bne_iff_ne, bne_eq_false_iff_eq, beq_iff_eq, beq_eq_false_iff_ne, true_and, and_true, and_self, eq_self, lt_iff, nthI_nat, bnd_iff, decide_eq_true_eq, decide_eq_false_iff_not, Nat.sub_eq, nz, ne_eq, not_false_eq_true, Prod.mk.injEq, Int.reduceEq, Nat.reduceEqDiff, forall_const, implies_true, bne_self_eq_false, Bool.true_eq_false, Bool.false_eq_true, false_implies, reduceCtorEq, Bool.not_true, Bool.not_false, List.all_cons, List.all_nil, Bool.and_true, Bool.not_eq_true, Bool.not_eq_false, Bool.not_eq_true', Bool.not_eq_false', Decidable.not_not]; try simp only [lenL]
  refine ⟨⟨0, Nat.zero_le _, ⟨atD_zero .., rfl⟩, (markTo_zero ..).symm⟩, fun j hj hf => ⟨fun hlt => ?_, fun hge => ?_⟩⟩
  · have e0 : (markTo markText 1 xs k j).length = List.length xs := markTo_len hj
    rw [e0] at hlt hf
    have hd : (0 : Int) ≤ 1 ∧ (1 : Int) ≤ 16 := by decide
    simp only [tN_nat, at_add0 hp hd hj hf]
    exact ⟨at_le hp hd hj hf, e0 ▸ hlt, e0 ▸ hlt, j + 1, hlt, Nat.sub_lt_sub_left hlt (Nat.lt_succ_self j), ⟨atD_succ 1 k j, inc_in hf hj⟩, markTo_set hlt⟩
  · have hge : ¬ j < List.length xs := by rw [← markTo_len (f := markText) (d := 1) (k := k) hj]; exact hge
    have : j = List.length xs := by omega
    subst this
    exact ⟨rfl, markTo_end hj hge⟩
end Go.Proofs.YtolminmmnckpkaaGreatDoor
namespace Go.Proofs.YtolminmmnckpkaaGreatDoor
open Go.Ab Go.Fn
def s_heldStringS : FSpec := { ps := [.v (.slice .str), .v I], rs := [.v I], pre := fun x => kOK x.2.1, fn := fun x => (heldT x.1 x.2.1, ()), upd := fun x => () }
def L_heldStringS (xs : List (List UInt8)) (k : Int) : LoopAnn := { ι := Nat, inv := fun j => j ≤ xs.length ∧ xs.take j = markL markText 1 j k, slots := fun j => [(5, .d I (Int.ofNat j)), (1, .d I (atD 1 k j))], objs := fun j => [], μ := fun j => xs.length - j }
theorem fo_heldStringS : FO 15 s_heldStringS := by
  refine fo (specs := [(43, s_markText)]) (clos := []) (fun x => [(2, .lv [0, 1, 5] <| fun _ => L_heldStringS x.1 x.2.1)]) ⟨fo_markText, trivial⟩ trivial Tryz.func15 rfl rfl ?_
  rintro ⟨xs, k, ⟨⟩⟩ hp
  have hp : kOK k := hp
  refine vcOf ((∃ (i : Nat), (i ≤ List.length xs ∧ List.take i xs = markL markText (1 : Int) i k) ∧ (xs = xs ∧ k = atD (1 : Int) k i ∧ (0 : Int) = Int.ofNat i ∧ True) ∧ True ∧ True) ∧ ∀ (i : Nat), i ≤ List.length xs ∧ List.take i xs = markL markText (1 : Int) i k → fits (lenL xs) → (decide (Int.ofNat i < iOf (lenL xs)) = true → bnd (Int.ofNat i) (lenL xs) ∧ ∀ (x : List UInt8), nthI xs (Int.ofNat i) = some x → nat_lit 1 ≤ nat_lit 1 ∧ true = true ∧ atD (1 : Int) k i ≤ (9000000000000000 : (PTy.v I).den) ∧ ((!x == markText (atD (1 : Int) k i)) = true → ((-1 : Int), ()) = (heldT xs k, ()) ∧ () = ()) ∧ ((!x == markText (atD (1 : Int) k i)) = false → ∃ (j : Nat), (j ≤ List.length xs ∧ List.take j xs = markL markText (1 : Int) j k) ∧ (List.length xs).sub j < (List.length xs).sub i ∧ (xs = xs ∧ wAdd IntKind.i64 (atD (1 : Int) k i) (1 : Int) = atD (1 : Int) k j ∧ wAdd IntKind.i64 (Int.ofNat i) (1 : Int) = Int.ofNat j ∧ True) ∧ True ∧ True)) ∧ (decide (Int.ofNat i < iOf (lenL xs)) = false → (atD (1 : Int) k i, ()) = (heldT xs k, ()) ∧ () = ())) (by kernel_rfl) ?_
  simp only [Nat.le_refl, Nat.succ_eq_add_one, Nat.reduceAdd, Nat.reduceLeDiff, Nat.zero_le, pair_unit, mk_eta, len_bne, eqD_bne, bne_iff_ne, bne_eq_false_iff_eq, beq_iff_eq, beq_eq_false_iff_ne, true_and, and_true, and_self, eq_self, lt_iff, nthI_nat, bnd_iff, decide_eq_true_eq, decide_eq_false_iff_not, Nat.sub_eq, nz, ne_eq, not_false_eq_true, Prod.mk.injEq, Int.reduceEq, Nat.reduceEqDiff, forall_const, implies_true, bne_self_eq_false, Bool.true_eq_false, Bool.false_eq_true, false_implies, reduceCtorEq, Bool.not_true, Bool.not_false, List.all_cons, List.all_nil, Bool.and_true, Bool.not_eq_true, Bool.not_eq_false, Bool.not_eq_true', Bool.not_eq_false', Decidable.not_not]; try simp only [lenL]
  have hd : (0 : Int) ≤ 1 ∧ (1 : Int) ≤ 16 := by decide
  refine ⟨⟨0, ⟨Nat.zero_le _, rfl⟩, atD_zero .., rfl⟩, fun j ⟨hj, ht⟩ hf => ⟨fun hlt => ?_, fun hge => held_end hj hge ht⟩⟩
  simp only [at_add0 hp hd hj hf]
  refine ⟨hlt, fun x hx => ⟨at_le hp hd hj hf, fun h => held_bad hx h, fun h1 => ⟨j + 1, ⟨hlt, held_step ht hx h1⟩, Nat.sub_lt_sub_left hlt (Nat.lt_succ_self j), atD_succ 1 k j, inc_in hf hj⟩⟩⟩
end Go.Proofs.YtolminmmnckpkaaGreatDoor
namespace Go.Proofs.YtolminmmnckpkaaGreatDoor
open Go.Ab Go.Fn
def s_eqStringS : FSpec := { ps := [.v (.slice .str), .v (.slice .str)], rs := [.v .bool], pre := fun _ => True, fn := fun x => (eqL x.1 x.2.1, ()), upd := fun _ => () }
def L_eqStringS (xs ys : List (.str : Ty).den) : LoopAnn := { ι := Nat, inv := fun k => k ≤ xs.length ∧ xs.length = ys.length ∧ xs.take k = ys.take k, slots := fun k => [(5, .d I (Int.ofNat k))], objs := fun _ => [], μ := fun k => xs.length - k }
theorem fo_eqStringS : FO 11 s_eqStringS := by
  refine fo (specs := []) (clos := []) (fun x => [(4, .lv [0, 1, 5] <| fun _ => L_eqStringS x.1 x.2.1)]) trivial trivial Tryz.func11 rfl rfl ?_
  rintro ⟨xs, ys, ⟨⟩⟩ -
  refine vcOf (fits (lenL xs) → fits (lenL ys) → ((iOf (lenL xs) != iOf (lenL ys)) = true → (false, ()) = (eqL xs ys, ()) ∧ () = ()) ∧ ((iOf (lenL xs) != iOf (lenL ys)) = false → (∃ (i : Nat), (i ≤ List.length xs ∧ List.length xs = List.length ys ∧ List.take i xs = List.take i ys) ∧ (xs = xs ∧ ys = ys ∧ (0 : Int) = Int.ofNat i ∧ True) ∧ True ∧ True) ∧ ∀ (i : Nat), i ≤ List.length xs ∧ List.length xs = List.length ys ∧ List.take i xs = List.take i ys → fits (lenL xs) → (decide (Int.ofNat i < iOf (lenL xs)) = true → bnd (Int.ofNat i) (lenL xs) ∧ ∀ (x : List UInt8), nthI xs (Int.ofNat i) = some x → nat_lit 1 ≤ nat_lit 1 ∧ bnd (Int.ofNat i) (lenL ys) ∧ ∀ (x_1 : List UInt8), nthI ys (Int.ofNat i) = some x_1 → nat_lit 1 ≤ nat_lit 1 ∧ ((!x == x_1) = true → (false, ()) = (eqL xs ys, ()) ∧ () = ()) ∧ ((!x == x_1) = false → ∃ (j : Nat), (j ≤ List.length xs ∧ List.length xs = List.length ys ∧ List.take j xs = List.take j ys) ∧ (List.length xs).sub j < (List.length xs).sub i ∧ (xs = xs ∧ ys = ys ∧ wAdd IntKind.i64 (Int.ofNat i) (1 : Int) = Int.ofNat j ∧ True) ∧ True ∧ True)) ∧ (decide (Int.ofNat i < iOf (lenL xs)) = false → (true, ()) = (eqL xs ys, ()) ∧ () = ()))) (by kernel_rfl) ?_
  simp only [Nat.le_refl, Nat.succ_eq_add_one, Nat.reduceAdd, Nat.reduceLeDiff, Nat.zero_le, pair_unit, mk_eta, len_bne, eqD_bne, bne_iff_ne, bne_eq_false_iff_eq, beq_iff_eq, beq_eq_false_iff_ne, true_and, and_true, and_self, eq_self, lt_iff, nthI_nat, bnd_iff, decide_eq_true_eq, decide_eq_false_iff_not, Nat.sub_eq, nz, ne_eq, not_false_eq_true, Prod.mk.injEq, Int.reduceEq, Nat.reduceEqDiff, forall_const, implies_true, bne_self_eq_false, Bool.true_eq_false, Bool.false_eq_true, false_implies, reduceCtorEq, Bool.not_true, Bool.not_false, List.all_cons, List.all_nil, Bool.and_true, Bool.not_eq_true, Bool.not_eq_false, Bool.not_eq_true', Bool.not_eq_false', Decidable.not_not]; try simp only [lenL]
  exact fun hf1 hf2 => ⟨fun h => eqL_len h, fun h => ⟨⟨0, ⟨Nat.zero_le _, h, rfl⟩, rfl⟩, fun k ⟨hk, _, ht⟩ _ => ⟨fun hlt => ⟨hlt, fun x hx => ⟨h ▸ hlt, fun y hy => ⟨fun hne => eqL_ne hx hy hne, fun he => ⟨k + 1, ⟨hlt, h, take_eq_succ hx hy ht he⟩, Nat.sub_lt_sub_left hlt (Nat.lt_succ_self k), inc_in hf1 hk⟩⟩⟩⟩, fun hge => eqL_end hge h ht⟩⟩⟩
end Go.Proofs.YtolminmmnckpkaaGreatDoor
namespace Go.Proofs.YtolminmmnckpkaaGreatDoor
open Go.Ab Go.Fn
def s_lines : FSpec := { ps := [.v (.slice tRec)], rs := [.o (.slice .str)], pre := fun x => ∀ r ∈ x.1, Fn.recFault r = 0, fn := fun x => (List.map Fn.recT x.1, ()), upd := fun _ => () }
def L_lines (a i : Nat) (l : List Rec) : LoopAnn := { ι := Nat, inv := fun k => k ≤ l.length, slots := fun k => [(a, .os 1), (i, .d I (Int.ofNat k))], objs := fun k => [(1, .arr .str (List.map Fn.recT (l.take k)) false)], μ := fun k => l.length - k }
theorem fo_l14Layer : FO 46 s_lines := by
  refine fo (specs := [(78, s_recT)]) (clos := []) (fun x => [(3, .lv [0, 3, 4] <| fun _ => L_lines 3 4 x.1)]) ⟨fo_l14Record, trivial⟩ trivial Tryz.func46 rfl rfl ?_
  rintro ⟨l, ⟨⟩⟩ hl
  refine vcOf ((∃ (i : Nat), i ≤ List.length l ∧ (l = l ∧ nat_lit 1 = (1 : Nat) ∧ (0 : Int) = Int.ofNat i ∧ True) ∧ ((([] : List (List UInt8)) = ([] : List (List UInt8)) ∧ false = false) ∧ (([] : List (List UInt8)) = List.map recT (List.take i l) ∧ false = false) ∧ True) ∧ True) ∧ ∀ (i : Nat), i ≤ List.length l → fits (lenL l) → (decide (Int.ofNat i < iOf (lenL l)) = true → bnd (Int.ofNat i) (lenL l) ∧ ∀ (x : Int × List UInt8 × List UInt8 × Int × Bool × Unit), nthI l (Int.ofNat i) = some x → nat_lit 5 ≤ (Nat.succ (nat_lit 1)).succ.succ.succ ∧ true = true ∧ recFault (x.fst, x.snd.fst, x.snd.snd.fst, x.snd.snd.snd.fst, x.snd.snd.snd.snd.fst, ()) = (0 : Int) ∧ fits (lenL (List.map recT (List.take i l)) + lenL (recT (x.fst, x.snd.fst, x.snd.snd.fst, x.snd.snd.snd.fst, x.snd.snd.snd.snd.fst, ()) :: ([] : List (List UInt8)))) ∧ ∃ (j : Nat), j ≤ List.length l ∧ (List.length l).sub j < (List.length l).sub i ∧ (l = l ∧ (1 : Nat) = (1 : Nat) ∧ wAdd IntKind.i64 (Int.ofNat i) (1 : Int) = Int.ofNat j ∧ True) ∧ ((([] : List (List UInt8)) = ([] : List (List UInt8)) ∧ false = false) ∧ (List.map recT (List.take i l) ++ recT (x.fst, x.snd.fst, x.snd.snd.fst, x.snd.snd.snd.fst, x.snd.snd.snd.snd.fst, ()) :: ([] : List (List UInt8)) = List.map recT (List.take j l) ∧ false = false) ∧ True) ∧ True) ∧ (decide (Int.ofNat i < iOf (lenL l)) = false → (List.map recT (List.take i l), ()) = (List.map recT l, ()) ∧ () = ())) (by kernel_rfl) ?_
  simp only [Nat.le_refl, Nat.succ_eq_add_one, Nat.reduceAdd, Nat.reduceLeDiff, Nat.zero_le, pair_unit, mk_eta, len_bne, eqD_bne, bne_iff_ne, bne_eq_false_iff_eq, beq_iff_eq, beq_eq_false_iff_ne, true_and, and_true, and_self, eq_self, lt_iff, nthI_nat, bnd_iff, decide_eq_true_eq, decide_eq_false_iff_not, Nat.sub_eq, nz, ne_eq, not_false_eq_true, Prod.mk.injEq, Int.reduceEq, Nat.reduceEqDiff, forall_const, implies_true, bne_self_eq_false, Bool.true_eq_false, Bool.false_eq_true, false_implies, reduceCtorEq, Bool.not_true, Bool.not_false, List.all_cons, List.all_nil, Bool.and_true, Bool.not_eq_true, Bool.not_eq_false, Bool.not_eq_true', Bool.not_eq_false', Decidable.not_not]; try simp only [lenL]
  exact ⟨⟨0, Nat.zero_le _, rfl, rfl⟩, fun i hi hf => ⟨fun h => ⟨h, fun x hx => ⟨hl x (List.mem_of_getElem? hx), map_fit h hf, i + 1, h, Nat.sub_lt_sub_left h (Nat.lt_succ_self i), inc_in hf hi, map_take hx⟩⟩, fun h => map_end h⟩⟩
theorem ft_recordLines : FT 40 s_lines := by
  refine foT (specs := [(83, s_recT)]) (clos := []) (fun x => [(3, .lv [3, 7, 8, 9] <| fun _ => L_lines 3 9 x.1)]) ⟨ft_recordText, trivial⟩ trivial Tryz.func40 rfl rfl ?_
  rintro ⟨l, ⟨⟩⟩ hl
  refine vcOf (fits (lenL l) → (∃ (i : Nat), i ≤ List.length l ∧ (nat_lit 1 = (1 : Nat) ∧ l = l ∧ iOf (lenL l) = iOf (lenL l) ∧ (0 : Int) = Int.ofNat i ∧ True) ∧ ((([] : List (List UInt8)) = ([] : List (List UInt8)) ∧ false = false) ∧ (([] : List (List UInt8)) = List.map recT (List.take i l) ∧ false = false) ∧ True) ∧ True) ∧ ∀ (i : Nat), i ≤ List.length l → (decide (Int.ofNat i < iOf (lenL l)) = true → bnd (Int.ofNat i) (lenL l) ∧ ∀ (x : Int × List UInt8 × List UInt8 × Int × Bool × Unit), nthI l (Int.ofNat i) = some x → nat_lit 5 ≤ (Nat.succ (nat_lit 1)).succ.succ.succ ∧ nat_lit 5 ≤ nat_lit 5 ∧ nat_lit 5 ≤ (Nat.succ (nat_lit 1)).succ.succ.succ ∧ true = true ∧ recFault (x.fst, x.snd.fst, x.snd.snd.fst, x.snd.snd.snd.fst, x.snd.snd.snd.snd.fst, ()) = (0 : Int) ∧ fits (lenL (List.map recT (List.take i l)) + lenL (recT (x.fst, x.snd.fst, x.snd.snd.fst, x.snd.snd.snd.fst, x.snd.snd.snd.snd.fst, ()) :: ([] : List (List UInt8)))) ∧ ∃ (j : Nat), j ≤ List.length l ∧ (List.length l).sub j < (List.length l).sub i ∧ ((1 : Nat) = (1 : Nat) ∧ l = l ∧ iOf (lenL l) = iOf (lenL l) ∧ wAdd IntKind.i64 (Int.ofNat i) (1 : Int) = Int.ofNat j ∧ True) ∧ ((([] : List (List UInt8)) = ([] : List (List UInt8)) ∧ false = false) ∧ (List.map recT (List.take i l) ++ recT (x.fst, x.snd.fst, x.snd.snd.fst, x.snd.snd.snd.fst, x.snd.snd.snd.snd.fst, ()) :: ([] : List (List UInt8)) = List.map recT (List.take j l) ∧ false = false) ∧ True) ∧ True) ∧ (decide (Int.ofNat i < iOf (lenL l)) = false → (List.map recT (List.take i l), ()) = (List.map recT l, ()) ∧ () = ())) (by kernel_rfl) ?_
  simp only [Nat.le_refl, Nat.succ_eq_add_one, Nat.reduceAdd, Nat.reduceLeDiff, Nat.zero_le, pair_unit, mk_eta, len_bne, eqD_bne, bne_iff_ne, bne_eq_false_iff_eq, beq_iff_eq, beq_eq_false_iff_ne, true_and, and_true, and_self, eq_self, lt_iff, nthI_nat, bnd_iff, decide_eq_true_eq, decide_eq_false_iff_not, Nat.sub_eq, nz, ne_eq, not_false_eq_true, Prod.mk.injEq, Int.reduceEq, Nat.reduceEqDiff, forall_const, implies_true, bne_self_eq_false, Bool.true_eq_false, Bool.false_eq_true, false_implies, reduceCtorEq, Bool.not_true, Bool.not_false, List.all_cons, List.all_nil, Bool.and_true, Bool.not_eq_true, Bool.not_eq_false, Bool.not_eq_true', Bool.not_eq_false', Decidable.not_not]; try simp only [lenL]
  exact fun hf => ⟨⟨0, Nat.zero_le _, rfl, rfl⟩, fun i hi => ⟨fun h => ⟨h, fun x hx => ⟨hl x (List.mem_of_getElem? hx), map_fit h hf, i + 1, h, Nat.sub_lt_sub_left h (Nat.lt_succ_self i), inc_in hf hi, map_take hx⟩⟩, fun h => map_end h⟩⟩
end Go.Proofs.YtolminmmnckpkaaGreatDoor
namespace Go.Proofs.YtolminmmnckpkaaGreatDoor
open Go.Ab Go.Fn
def s_toRec : FSpec := { ps := [.v tNode], rs := [.v tRec], pre := fun _ => True, fn := fun x => (Fn.nodeRec x.1, ()), upd := fun _ => () }
theorem fo_record : FO 84 s_toRec := by
  refine fo (specs := []) (clos := []) (fun x => []) trivial trivial Tryz.func84 rfl rfl ?_
  rintro ⟨⟨k, p, b, m, ⟨⟩⟩, ⟨⟩⟩ -
  refine vcOf (nat_lit 1 ≤ (Nat.succ (nat_lit 1)).succ.succ ∧ nat_lit 2 ≤ (Nat.succ (nat_lit 1)).succ.succ ∧ nat_lit 3 ≤ (Nat.succ (nat_lit 1)).succ.succ ∧ nat_lit 4 ≤ (Nat.succ (nat_lit 1)).succ.succ ∧ nat_lit 5 ≤ nat_lit 5 ∧ ((k, p, b, m, false, ()), ()) = (nodeRec (k, p, b, m, ()), ()) ∧ () = ()) (by kernel_rfl) ?_
  simp only [Nat.le_refl, Nat.succ_eq_add_one, Nat.reduceAdd, Nat.reduceLeDiff, Nat.zero_le, pair_unit, mk_eta, len_bne, eqD_bne, bne_iff_ne, bne_eq_false_iff_eq, beq_iff_eq, beq_eq_false_iff_ne, true_and, and_true, and_self, eq_self, lt_iff, nthI_nat, bnd_iff, decide_eq_true_eq, decide_eq_false_iff_not, Nat.sub_eq, nz, ne_eq, not_false_eq_true, Prod.mk.injEq, Int.reduceEq, Nat.reduceEqDiff, forall_const, implies_true, bne_self_eq_false, Bool.true_eq_false, Bool.false_eq_true, false_implies, reduceCtorEq, Bool.not_true, Bool.not_false, List.all_cons, List.all_nil, Bool.and_true, Bool.not_eq_true, Bool.not_eq_false, Bool.not_eq_true', Bool.not_eq_false', Decidable.not_not]; try simp only [lenL]
  try rfl
theorem fo_l04Record : FO 74 s_toRec := by
  refine fo (specs := []) (clos := []) (fun x => []) trivial trivial Tryz.func74 rfl rfl ?_
  rintro ⟨⟨k, p, b, m, ⟨⟩⟩, ⟨⟩⟩ -
  refine vcOf (nat_lit 1 ≤ (Nat.succ (nat_lit 1)).succ.succ ∧ nat_lit 2 ≤ (Nat.succ (nat_lit 1)).succ.succ ∧ nat_lit 3 ≤ (Nat.succ (nat_lit 1)).succ.succ ∧ nat_lit 4 ≤ (Nat.succ (nat_lit 1)).succ.succ ∧ nat_lit 5 ≤ nat_lit 5 ∧ ((k, p, b, m, false, ()), ()) = (nodeRec (k, p, b, m, ()), ()) ∧ () = ()) (by kernel_rfl) ?_
  simp only [Nat.le_refl, Nat.succ_eq_add_one, Nat.reduceAdd, Nat.reduceLeDiff, Nat.zero_le, pair_unit, mk_eta, len_bne, eqD_bne, bne_iff_ne, bne_eq_false_iff_eq, beq_iff_eq, beq_eq_false_iff_ne, true_and, and_true, and_self, eq_self, lt_iff, nthI_nat, bnd_iff, decide_eq_true_eq, decide_eq_false_iff_not, Nat.sub_eq, nz, ne_eq, not_false_eq_true, Prod.mk.injEq, Int.reduceEq, Nat.reduceEqDiff, forall_const, implies_true, bne_self_eq_false, Bool.true_eq_false, Bool.false_eq_true, false_implies, reduceCtorEq, Bool.not_true, Bool.not_false, List.all_cons, List.all_nil, Bool.and_true, Bool.not_eq_true, Bool.not_eq_false, Bool.not_eq_true', Bool.not_eq_false', Decidable.not_not]; try simp only [lenL]
  try rfl
end Go.Proofs.YtolminmmnckpkaaGreatDoor
namespace Go.Proofs.YtolminmmnckpkaaGreatDoor
open Go.Ab Go.Fn
def s_nodeOK : FSpec := { ps := [.v tNode], rs := [.v .bool], pre := fun x => List.length (α := UInt8) x.1.2.1 ≤ 100000000, fn := fun x => (Fn.nodeOK x.1, ()), upd := fun _ => () }
theorem fo_nodeOK : FO 79 s_nodeOK := by
  refine fo (specs := [(114, s_recOK), (84, s_toRec)]) (clos := []) (fun x => []) ⟨fo_RecordOK, fo_record, trivial⟩ trivial Tryz.func79 rfl rfl ?_
  rintro ⟨⟨k, p, b, m, ⟨⟩⟩, ⟨⟩⟩ hl
  refine vcOf (nat_lit 4 ≤ (Nat.succ (nat_lit 1)).succ.succ ∧ true = true ∧ True ∧ true = true ∧ (nodeRec (k, p, b, m, ())).snd.fst.length ≤ (100000000 : Nat) ∧ (decide (recFault ((nodeRec (k, p, b, m, ())).fst, (nodeRec (k, p, b, m, ())).snd.fst, (nodeRec (k, p, b, m, ())).snd.snd.fst, (nodeRec (k, p, b, m, ())).snd.snd.snd.fst, (nodeRec (k, p, b, m, ())).snd.snd.snd.snd.fst, ()) = (0 : Int)) = true → nat_lit 1 ≤ (Nat.succ (nat_lit 1)).succ.succ ∧ (k != (4 : Int), ()) = (nodeOK (k, p, b, m, ()), ()) ∧ () = ()) ∧ (decide (recFault ((nodeRec (k, p, b, m, ())).fst, (nodeRec (k, p, b, m, ())).snd.fst, (nodeRec (k, p, b, m, ())).snd.snd.fst, (nodeRec (k, p, b, m, ())).snd.snd.snd.fst, (nodeRec (k, p, b, m, ())).snd.snd.snd.snd.fst, ()) = (0 : Int)) = false → (false, ()) = (nodeOK (k, p, b, m, ()), ()) ∧ () = ())) (by kernel_rfl) ?_
  simp only [Nat.le_refl, Nat.succ_eq_add_one, Nat.reduceAdd, Nat.reduceLeDiff, Nat.zero_le, pair_unit, mk_eta, len_bne, eqD_bne, bne_iff_ne, bne_eq_false_iff_eq, beq_iff_eq, beq_eq_false_iff_ne, true_and, and_true, and_self, eq_self, lt_iff, nthI_nat, bnd_iff, decide_eq_true_eq, decide_eq_false_iff_not, Nat.sub_eq, nz, ne_eq, not_false_eq_true, Prod.mk.injEq, Int.reduceEq, Nat.reduceEqDiff, forall_const, implies_true, bne_self_eq_false, Bool.true_eq_false, Bool.false_eq_true, false_implies, reduceCtorEq, Bool.not_true, Bool.not_false, List.all_cons, List.all_nil, Bool.and_true, Bool.not_eq_true, Bool.not_eq_false, Bool.not_eq_true', Bool.not_eq_false', Decidable.not_not]; try simp only [lenL]
  refine ⟨hl, fun h => ?_, fun h => ?_⟩
  · unfold Fn.nodeOK
    rw [decide_eq_true h, Bool.true_and]
    show (!(k == 4)) = !(decide (k = 4))
    rw [eqI_dec]
  · unfold Fn.nodeOK
    rw [decide_eq_false h]; rfl
end Go.Proofs.YtolminmmnckpkaaGreatDoor
namespace Go.Proofs.YtolminmmnckpkaaGreatDoor
open Go.Ab Go.Fn
def s_IndexFunc_Node : FSpec := { ps := [.v (.slice tNode), .f [tNode] .bool], rs := [.v I], pre := fun x => ∀ y, y ∈ x.1 → x.2.1.2 (y, ()), fn := fun x => (idx (fun y => x.2.1.1 (y, ())) x.1, ()), upd := fun _ => () }
def L_IndexFunc_Node (xs : List (tNode : Ty).den) (p : dens [tNode] → Bool) : LoopAnn := { ι := Nat, inv := fun k => k ≤ List.length (α := (tNode : Ty).den) xs ∧ ∀ (j : Nat) (y : (tNode : Ty).den), j < k → xs[j]? = some y → p (y, ()) = false, slots := fun k => [(8, .d I (Int.ofNat k))], objs := fun _ => [], μ := fun k => List.length (α := (tNode : Ty).den) xs - k }
theorem fo_IndexFunc_Node : FO 156 s_IndexFunc_Node := by
  refine fo (specs := []) (clos := []) (fun x => [(2, .lv [0, 1, 7, 8] <| fun _ => L_IndexFunc_Node x.1 x.2.1.1)]) trivial trivial Tryz.func156 rfl rfl ?_
  rintro ⟨xs, ⟨p, q⟩, ⟨⟩⟩ hp
  refine vcOf (fits (lenL xs) → (∃ (i : Nat), (i ≤ List.length xs ∧ ∀ (j : Nat) (y : Int × List UInt8 × List UInt8 × Int × Unit), j < i → xs[j]? = some y → p (y, ()) = false) ∧ (xs = xs ∧ (p, q) = (p, q) ∧ iOf (lenL xs) = iOf (lenL xs) ∧ (0 : Int) = Int.ofNat i ∧ True) ∧ True ∧ True) ∧ ∀ (i : Nat), (i ≤ List.length xs ∧ ∀ (j : Nat) (y : Int × List UInt8 × List UInt8 × Int × Unit), j < i → xs[j]? = some y → p (y, ()) = false) → (decide (Int.ofNat i < iOf (lenL xs)) = true → bnd (Int.ofNat i) (lenL xs) ∧ ∀ (x : Int × List UInt8 × List UInt8 × Int × Unit), nthI xs (Int.ofNat i) = some x → nat_lit 4 ≤ (Nat.succ (nat_lit 1)).succ.succ ∧ q ((x.fst, x.snd.fst, x.snd.snd.fst, x.snd.snd.snd.fst, ()), ()) ∧ (p ((x.fst, x.snd.fst, x.snd.snd.fst, x.snd.snd.snd.fst, ()), ()) = true → (Int.ofNat i, ()) = (idx (fun (y : Int × List UInt8 × List UInt8 × Int × Unit) => p (y, ())) xs, ()) ∧ () = ()) ∧ (p ((x.fst, x.snd.fst, x.snd.snd.fst, x.snd.snd.snd.fst, ()), ()) = false → ∃ (j : Nat), (j ≤ List.length xs ∧ ∀ (j_1 : Nat) (y : Int × List UInt8 × List UInt8 × Int × Unit), j_1 < j → xs[j_1]? = some y → p (y, ()) = false) ∧ (List.length xs).sub j < (List.length xs).sub i ∧ (xs = xs ∧ (p, q) = (p, q) ∧ iOf (lenL xs) = iOf (lenL xs) ∧ wAdd IntKind.i64 (Int.ofNat i) (1 : Int) = Int.ofNat j ∧ True) ∧ True ∧ True)) ∧ (decide (Int.ofNat i < iOf (lenL xs)) = false → ((-1 : Int), ()) = (idx (fun (y : Int × List UInt8 × List UInt8 × Int × Unit) => p (y, ())) xs, ()) ∧ () = ())) (by kernel_rfl) ?_
  simp only [Nat.le_refl, Nat.succ_eq_add_one, Nat.reduceAdd, Nat.reduceLeDiff, Nat.zero_le, pair_unit, mk_eta, len_bne, eqD_bne, bne_iff_ne, bne_eq_false_iff_eq, beq_iff_eq, beq_eq_false_iff_ne, true_and, and_true, and_self, eq_self, lt_iff, nthI_nat, bnd_iff, decide_eq_true_eq, decide_eq_false_iff_not, Nat.sub_eq, nz, ne_eq, not_false_eq_true, Prod.mk.injEq, Int.reduceEq, Nat.reduceEqDiff, forall_const, implies_true, bne_self_eq_false, Bool.true_eq_false, Bool.false_eq_true, false_implies, reduceCtorEq, Bool.not_true, Bool.not_false, List.all_cons, List.all_nil, Bool.and_true, Bool.not_eq_true, Bool.not_eq_false, Bool.not_eq_true', Bool.not_eq_false', Decidable.not_not]; try simp only [lenL]
  refine fun hf => ⟨⟨0, ⟨Nat.zero_le _, fun j y hj => absurd hj (Nat.not_lt_zero _)⟩, rfl⟩, fun k ⟨hk, hi⟩ => ⟨fun h => ⟨h, fun x hx => ⟨hp x (List.mem_of_getElem? hx), fun h1 => (idx_at hi hx h1).symm, fun h1 => ⟨k + 1, ⟨h, below_succ (P := fun y => p (y, ()) = false) hi hx h1⟩, by omega, inc_in hf hk⟩⟩⟩, fun h => (idx_end hi h).symm⟩⟩
end Go.Proofs.YtolminmmnckpkaaGreatDoor
namespace Go.Proofs.YtolminmmnckpkaaGreatDoor
open Go.Ab Go.Fn
def c_at : CSpec := { ats := [tNode], b := .bool, cs := [.r .str], pre := fun _ _ => True, fn := fun c a => Fn.hasPath c.1 a.1 }
theorem fo_atc : FO 157 c_at.fspec := by
  refine fo (specs := []) (clos := []) (fun x => []) trivial trivial Tryz.func157 rfl rfl ?_
  rintro ⟨⟨k, p, b, m, ⟨⟩⟩, n, ⟨⟩⟩ -
  refine vcOf (nat_lit 2 ≤ (Nat.succ (nat_lit 1)).succ.succ ∧ nat_lit 1 ≤ nat_lit 1 ∧ (p == n, ()) = (hasPath n (k, p, b, m, ()), ()) ∧ () = ()) (by kernel_rfl) ?_
  simp only [Nat.le_refl, Nat.succ_eq_add_one, Nat.reduceAdd, Nat.reduceLeDiff, Nat.zero_le, pair_unit, mk_eta, len_bne, eqD_bne, bne_iff_ne, bne_eq_false_iff_eq, beq_iff_eq, beq_eq_false_iff_ne, true_and, and_true, and_self, eq_self, lt_iff, nthI_nat, bnd_iff, decide_eq_true_eq, decide_eq_false_iff_not, Nat.sub_eq, nz, ne_eq, not_false_eq_true, Prod.mk.injEq, Int.reduceEq, Nat.reduceEqDiff, forall_const, implies_true, bne_self_eq_false, Bool.true_eq_false, Bool.false_eq_true, false_implies, reduceCtorEq, Bool.not_true, Bool.not_false, List.all_cons, List.all_nil, Bool.and_true, Bool.not_eq_true, Bool.not_eq_false, Bool.not_eq_true', Bool.not_eq_false', Decidable.not_not]; try simp only [lenL]
  unfold Fn.hasPath
  by_cases h : p = n
  · rw [decide_eq_true h, h]; simp
  · rw [decide_eq_false h]; simpa using h
def s_at : FSpec := { ps := [.v (.slice tNode), .v .str], rs := [.v I], pre := fun _ => True, fn := fun x => (Fn.nodeIdx x.1 x.2.1, ()), upd := fun _ => () }
theorem fo_at : FO 123 s_at := by
  refine fo (specs := [(156, s_IndexFunc_Node)]) (clos := [(157, c_at)]) (fun x => []) ⟨fo_IndexFunc_Node, trivial⟩ ⟨co fo_atc rfl rfl, trivial⟩ Tryz.func123 rfl rfl ?_
  rintro ⟨l, p, ⟨⟩⟩ -
  refine vcOf (true = true ∧ (∀ (y : Int × List UInt8 × List UInt8 × Int × Unit), y ∈ l → True) ∧ (idx (fun (y : Int × List UInt8 × List UInt8 × Int × Unit) => (fun (a : (Int × List UInt8 × List UInt8 × Int × Unit) × Unit) => hasPath p a.fst, fun (x : (Int × List UInt8 × List UInt8 × Int × Unit) × Unit) => True).fst (y, ())) l, ()) = (nodeIdx l p, ()) ∧ () = ()) (by kernel_rfl) ?_
  simp only [Nat.le_refl, Nat.succ_eq_add_one, Nat.reduceAdd, Nat.reduceLeDiff, Nat.zero_le, pair_unit, mk_eta, len_bne, eqD_bne, bne_iff_ne, bne_eq_false_iff_eq, beq_iff_eq, beq_eq_false_iff_ne, true_and, and_true, and_self, eq_self, lt_iff, nthI_nat, bnd_iff, decide_eq_true_eq, decide_eq_false_iff_not, Nat.sub_eq, nz, ne_eq, not_false_eq_true, Prod.mk.injEq, Int.reduceEq, Nat.reduceEqDiff, forall_const, implies_true, bne_self_eq_false, Bool.true_eq_false, Bool.false_eq_true, false_implies, reduceCtorEq, Bool.not_true, Bool.not_false, List.all_cons, List.all_nil, Bool.and_true, Bool.not_eq_true, Bool.not_eq_false, Bool.not_eq_true', Bool.not_eq_false', Decidable.not_not]; try simp only [lenL]
  rfl
def L_at (l : List Fn.Node) (p : List UInt8) : LoopAnn := { ι := Nat, inv := fun k => k ≤ l.length ∧ ∀ (j : Nat) (y : Fn.Node), j < k → l[j]? = some y → Fn.hasPath p y = false, slots := fun k => [(5, .d I (Int.ofNat k))], objs := fun _ => [], μ := fun k => l.length - k }
theorem fo_l04At : FO 77 s_at := by
  refine fo (specs := []) (clos := []) (fun x => [(2, .lv [0, 1, 5] <| fun _ => L_at x.1 x.2.1)]) trivial trivial Tryz.func77 rfl rfl ?_
  rintro ⟨l, p, ⟨⟩⟩ -
  refine vcOf ((∃ (i : Nat), (i ≤ List.length l ∧ ∀ (j : Nat) (y : Fn.Node), j < i → l[j]? = some y → hasPath p y = false) ∧ (l = l ∧ p = p ∧ (0 : Int) = Int.ofNat i ∧ True) ∧ True ∧ True) ∧ ∀ (i : Nat), (i ≤ List.length l ∧ ∀ (j : Nat) (y : Fn.Node), j < i → l[j]? = some y → hasPath p y = false) → fits (lenL l) → (decide (Int.ofNat i < iOf (lenL l)) = true → bnd (Int.ofNat i) (lenL l) ∧ ∀ (x : Int × List UInt8 × List UInt8 × Int × Unit), nthI l (Int.ofNat i) = some x → nat_lit 1 ≤ (Nat.succ (nat_lit 1)).succ ∧ ((x.snd.fst == p) = true → (Int.ofNat i, ()) = (nodeIdx l p, ()) ∧ () = ()) ∧ ((x.snd.fst == p) = false → ∃ (j : Nat), (j ≤ List.length l ∧ ∀ (j_1 : Nat) (y : Fn.Node), j_1 < j → l[j_1]? = some y → hasPath p y = false) ∧ (List.length l).sub j < (List.length l).sub i ∧ (l = l ∧ p = p ∧ wAdd IntKind.i64 (Int.ofNat i) (1 : Int) = Int.ofNat j ∧ True) ∧ True ∧ True)) ∧ (decide (Int.ofNat i < iOf (lenL l)) = false → ((-1 : Int), ()) = (nodeIdx l p, ()) ∧ () = ())) (by kernel_rfl) ?_
  simp only [Nat.le_refl, Nat.succ_eq_add_one, Nat.reduceAdd, Nat.reduceLeDiff, Nat.zero_le, pair_unit, mk_eta, len_bne, eqD_bne, bne_iff_ne, bne_eq_false_iff_eq, beq_iff_eq, beq_eq_false_iff_ne, true_and, and_true, and_self, eq_self, lt_iff, nthI_nat, bnd_iff, decide_eq_true_eq, decide_eq_false_iff_not, Nat.sub_eq, nz, ne_eq, not_false_eq_true, Prod.mk.injEq, Int.reduceEq, Nat.reduceEqDiff, forall_const, implies_true, bne_self_eq_false, Bool.true_eq_false, Bool.false_eq_true, false_implies, reduceCtorEq, Bool.not_true, Bool.not_false, List.all_cons, List.all_nil, Bool.and_true, Bool.not_eq_true, Bool.not_eq_false, Bool.not_eq_true', Bool.not_eq_false', Decidable.not_not]; try simp only [lenL]
  refine ⟨⟨0, ⟨Nat.zero_le _, fun j y hj => absurd hj (Nat.not_lt_zero _)⟩, rfl⟩, fun i ⟨hk, hi⟩ hf => ⟨fun h => ⟨h, fun x hx => ⟨fun he => (idx_at hi hx (decide_eq_true he)).symm, fun hn => ⟨i + 1, ⟨h, below_succ (P := fun y => Fn.hasPath p y = false) hi hx (decide_eq_false hn)⟩, Nat.sub_lt_sub_left h (Nat.lt_succ_self i), inc_in hf hk⟩⟩⟩, fun h => (idx_end hi h).symm⟩⟩
end Go.Proofs.YtolminmmnckpkaaGreatDoor
namespace Go.Proofs.YtolminmmnckpkaaGreatDoor
open Go.Ab Go.Fn
def s_isDir : FSpec := { ps := [.v (.slice tNode), .v .str], rs := [.v .bool], pre := fun _ => True, fn := fun x => (Fn.isDirB x.1 x.2.1, ()), upd := fun _ => () }
theorem fo_isDir : FO 81 s_isDir := by
  refine fo (specs := [(123, s_at)]) (clos := []) (fun x => []) ⟨fo_at, trivial⟩ trivial Tryz.func81 rfl rfl ?_
  rintro ⟨l, p, ⟨⟩⟩ -
  refine vcOf (true = true ∧ True ∧ ((p == ([] : List UInt8)) = false → (decide (nodeIdx l p ≥ (0 : Int)) = true → bnd (nodeIdx l p) (lenL l) ∧ ∀ (x : Int × List UInt8 × List UInt8 × Int × Unit), nthI l (nodeIdx l p) = some x → nat_lit 1 ≤ (Nat.succ (nat_lit 1)).succ.succ ∧ (x.fst == (3 : Int), ()) = (isDirB l p, ()) ∧ () = ()) ∧ (decide (nodeIdx l p ≥ (0 : Int)) = false → (false, ()) = (isDirB l p, ()) ∧ () = ())) ∧ ((p == ([] : List UInt8)) = true → (true, ()) = (isDirB l p, ()) ∧ () = ())) (by kernel_rfl) ?_
  simp only [Nat.le_refl, Nat.succ_eq_add_one, Nat.reduceAdd, Nat.reduceLeDiff, Nat.zero_le, pair_unit, mk_eta, len_bne, eqD_bne, bne_iff_ne, bne_eq_false_iff_eq, beq_iff_eq, beq_eq_false_iff_ne, true_and, and_true, and_self, eq_self, lt_iff, nthI_nat, bnd_iff, decide_eq_true_eq, decide_eq_false_iff_not, Nat.sub_eq, nz, ne_eq, not_false_eq_true, Prod.mk.injEq, Int.reduceEq, Nat.reduceEqDiff, forall_const, implies_true, bne_self_eq_false, Bool.true_eq_false, Bool.false_eq_true, false_implies, reduceCtorEq, Bool.not_true, Bool.not_false, List.all_cons, List.all_nil, Bool.and_true, Bool.not_eq_true, Bool.not_eq_false, Bool.not_eq_true', Bool.not_eq_false', Decidable.not_not]; try simp only [lenL]
  refine ⟨fun hp => ⟨fun hk => ⟨idx_bnd (p := Fn.hasPath p) (l := l) (Int.not_lt.2 hk), fun x hx => ?_⟩, fun hk => ?_⟩, fun hp => ?_⟩
  · unfold Fn.isDirB Fn.dirAt
    rw [decide_eq_false hp, decide_eq_true hk, hx]
    show (x.1 == 3) = (false || (true && decide (x.1 = 3)))
    rw [eqI_dec]; rfl
  · unfold Fn.isDirB
    rw [decide_eq_false hp, decide_eq_false hk]; rfl
  · unfold Fn.isDirB
    rw [decide_eq_true hp]; rfl
end Go.Proofs.YtolminmmnckpkaaGreatDoor
namespace Go.Proofs.YtolminmmnckpkaaGreatDoor
open Go.Ab Go.Fn
def s_treeOK : FSpec := { ps := [.v (.slice tNode)], rs := [.v .bool], pre := fun x => okN x.1, fn := fun x => (Fn.treeOK x.1, ()), upd := fun _ => () }
def L_tree (s : Nat) (l : List Fn.Node) : LoopAnn := { ι := Nat, inv := fun k => Fn.OKT l k, slots := fun k => [(s, .d I (Int.ofNat k))], objs := fun _ => [], μ := fun k => l.length - k }
theorem fo_TreeOK : FO 39 s_treeOK := by
  refine fo (specs := [(79, s_nodeOK), (80, s_PathLess), (82, s_parent), (81, s_isDir)]) (clos := []) (fun x => [(2, .lv [0, 5, 6, 7] <| fun _ => L_tree 7 x.1), (1000004, .lv [0, 5, 6, 7, 44] <| .ofCut fun s => [(44, .d .bool (Fn.treeBadI x.1 (s.tI 3)))])]) ⟨fo_nodeOK, fo_PathLess, fo_parent, fo_isDir, trivial⟩ trivial Tryz.func39 rfl rfl ?_
  rintro ⟨l, ⟨⟩⟩ hl
  refine vcOf (fits (lenL l) → (∃ (i : Nat), OKT l i ∧ (l = l ∧ l = l ∧ iOf (lenL l) = iOf (lenL l) ∧ (0 : Int) = Int.ofNat i ∧ True) ∧ True ∧ True) ∧ ∀ (i : Nat), OKT l i → (decide (Int.ofNat i < iOf (lenL l)) = true → bnd (Int.ofNat i) (lenL l) ∧ ∀ (x : Int × List UInt8 × List UInt8 × Int × Unit), nthI l (Int.ofNat i) = some x → nat_lit 4 ≤ (Nat.succ (nat_lit 1)).succ.succ ∧ nat_lit 4 ≤ nat_lit 4 ∧ ((decide (Int.ofNat i ≥ (24 : Int)) = false → nat_lit 4 ≤ (Nat.succ (nat_lit 1)).succ.succ ∧ true = true ∧ x.snd.fst.length ≤ (100000000 : Nat) ∧ ((!nodeOK (x.fst, x.snd.fst, x.snd.snd.fst, x.snd.snd.snd.fst, ())) = false → (decide (Int.ofNat i > (0 : Int)) = true → bnd (wSub IntKind.i64 (Int.ofNat i) (1 : Int)) (lenL l) ∧ ∀ (x_1 : Int × List UInt8 × List UInt8 × Int × Unit), nthI l (wSub IntKind.i64 (Int.ofNat i) (1 : Int)) = some x_1 → nat_lit 1 ≤ (Nat.succ (nat_lit 1)).succ ∧ nat_lit 2 ≤ (Nat.succ (nat_lit 1)).succ.succ ∧ true = true ∧ (x_1.snd.fst.length ≤ (100000000 : Nat) ∧ x.snd.fst.length ≤ (100000000 : Nat)) ∧ ((!pathLess x_1.snd.fst x.snd.fst) = false → boundLo (Int.ofNat i) (lenL l) ∧ nat_lit 2 ≤ (Nat.succ (nat_lit 1)).succ.succ ∧ true = true ∧ x.snd.fst.length ≤ (100000000 : Nat) ∧ true = true ∧ True ∧ (l = l ∧ l = l ∧ iOf (lenL l) = iOf (lenL l) ∧ Int.ofNat i = Int.ofNat i ∧ (!isDirB (subL l (0 : Nat) (tN (Int.ofNat i))) (parentS x.snd.fst)) = treeBadI l (Int.ofNat i) ∧ True) ∧ ((x.fst = x.fst ∧ x.snd.fst = x.snd.fst ∧ x.snd.snd.fst = x.snd.snd.fst ∧ x.snd.snd.snd.fst = x.snd.snd.snd.fst ∧ True) ∧ True) ∧ True) ∧ ((!pathLess x_1.snd.fst x.snd.fst) = true → (l = l ∧ l = l ∧ iOf (lenL l) = iOf (lenL l) ∧ Int.ofNat i = Int.ofNat i ∧ true = treeBadI l (Int.ofNat i) ∧ True) ∧ ((x.fst = x.fst ∧ x.snd.fst = x.snd.fst ∧ x.snd.snd.fst = x.snd.snd.fst ∧ x.snd.snd.snd.fst = x.snd.snd.snd.fst ∧ True) ∧ True) ∧ True)) ∧ (decide (Int.ofNat i > (0 : Int)) = false → boundLo (Int.ofNat i) (lenL l) ∧ nat_lit 2 ≤ (Nat.succ (nat_lit 1)).succ.succ ∧ true = true ∧ x.snd.fst.length ≤ (100000000 : Nat) ∧ true = true ∧ True ∧ (l = l ∧ l = l ∧ iOf (lenL l) = iOf (lenL l) ∧ Int.ofNat i = Int.ofNat i ∧ (!isDirB (subL l (0 : Nat) (tN (Int.ofNat i))) (parentS x.snd.fst)) = treeBadI l (Int.ofNat i) ∧ True) ∧ ((x.fst = x.fst ∧ x.snd.fst = x.snd.fst ∧ x.snd.snd.fst = x.snd.snd.fst ∧ x.snd.snd.snd.fst = x.snd.snd.snd.fst ∧ True) ∧ True) ∧ True)) ∧ ((!nodeOK (x.fst, x.snd.fst, x.snd.snd.fst, x.snd.snd.snd.fst, ())) = true → (l = l ∧ l = l ∧ iOf (lenL l) = iOf (lenL l) ∧ Int.ofNat i = Int.ofNat i ∧ true = treeBadI l (Int.ofNat i) ∧ True) ∧ ((x.fst = x.fst ∧ x.snd.fst = x.snd.fst ∧ x.snd.snd.fst = x.snd.snd.fst ∧ x.snd.snd.snd.fst = x.snd.snd.snd.fst ∧ True) ∧ True) ∧ True)) ∧ (decide (Int.ofNat i ≥ (24 : Int)) = true → (l = l ∧ l = l ∧ iOf (lenL l) = iOf (lenL l) ∧ Int.ofNat i = Int.ofNat i ∧ true = treeBadI l (Int.ofNat i) ∧ True) ∧ ((x.fst = x.fst ∧ x.snd.fst = x.snd.fst ∧ x.snd.snd.fst = x.snd.snd.fst ∧ x.snd.snd.snd.fst = x.snd.snd.snd.fst ∧ True) ∧ True) ∧ True)) ∧ (treeBadI l (Int.ofNat i) = true → (false, ()) = (treeOK l, ()) ∧ () = ()) ∧ (treeBadI l (Int.ofNat i) = false → ∃ (j : Nat), OKT l j ∧ (List.length l).sub j < (List.length l).sub i ∧ (l = l ∧ l = l ∧ iOf (lenL l) = iOf (lenL l) ∧ wAdd IntKind.i64 (Int.ofNat i) (1 : Int) = Int.ofNat j ∧ True) ∧ True ∧ True)) ∧ (decide (Int.ofNat i < iOf (lenL l)) = false → (true, ()) = (treeOK l, ()) ∧ () = ())) (by kernel_rfl) ?_
  simp only [Nat.le_refl, Nat.succ_eq_add_one, Nat.reduceAdd, Nat.reduceLeDiff, Nat.zero_le, pair_unit, mk_eta, len_bne, eqD_bne, bne_iff_ne, bne_eq_false_iff_eq, beq_iff_eq, beq_eq_false_iff_ne, true_and, and_true, and_self, eq_self, lt_iff, nthI_nat, bnd_iff, decide_eq_true_eq, decide_eq_false_iff_not, Nat.sub_eq, nz, ne_eq, not_false_eq_true, Prod.mk.injEq, Int.reduceEq, Nat.reduceEqDiff, forall_const, implies_true, bne_self_eq_false, Bool.true_eq_false, Bool.false_eq_true, false_implies, reduceCtorEq, Bool.not_true, Bool.not_false, List.all_cons, List.all_nil, Bool.and_true, Bool.not_eq_true, Bool.not_eq_false, Bool.not_eq_true', Bool.not_eq_false', Decidable.not_not]; try simp only [lenL]
  have hl : okN l := hl
  refine fun hf => ⟨⟨0, okt0 l, rfl⟩, fun i h => ⟨fun hi => ⟨hi, fun x hx => ⟨⟨fun h24 => ⟨hl x (List.mem_of_getElem? hx), fun hn => ⟨fun h0 => ?_, fun h0 => ⟨bound_lo h.1, hl x (List.mem_of_getElem? hx), tb_none hx h24 h0 hn⟩⟩, fun hn => tb_node hx hn⟩, fun h24 => tb_24 hx h24⟩, fun hb => okt_bad hi hb, fun hb => ⟨i + 1, okt_step h hi hb, Nat.sub_lt_sub_left hi (Nat.lt_succ_self i), inc_in hf h.1⟩⟩⟩, fun he => okt_end h he⟩⟩
  rw [wsN h0 hi hf]
  refine ⟨bnd_nat (by omega), fun y hy => ⟨⟨hl y (List.mem_of_getElem? hy), hl x (List.mem_of_getElem? hx)⟩, fun hp => ⟨bound_lo h.1, hl x (List.mem_of_getElem? hx), (tb_prev hx hy h24 h0 hn).1 hp⟩, fun hp => (tb_prev hx hy h24 h0 hn).2 hp⟩⟩
theorem fo_l04OK : FO 34 s_treeOK := by
  refine fo (specs := [(74, s_toRec), (73, s_recOK), (75, s_l01Less), (76, s_parent), (77, s_at)]) (clos := []) (fun x => [(4, .lv [0, 3] <| fun _ => L_tree 3 x.1), (1000006, .lv [0, 3, 48] <| .ofCut fun s => [(48, .d .bool (Fn.treeHeadI x.1 (s.tI 3)))])]) ⟨fo_l04Record, fo_l02OK, fo_l01Less, fo_l01Parent, fo_l04At, trivial⟩ trivial Tryz.func34 rfl rfl ?_
  rintro ⟨l, ⟨⟩⟩ hl
  refine vcOf (fits (lenL l) → (decide (iOf (lenL l) > (24 : Int)) = true → (false, ()) = (treeOK l, ()) ∧ () = ()) ∧ (decide (iOf (lenL l) > (24 : Int)) = false → (∃ (i : Nat), OKT l i ∧ (l = l ∧ (0 : Int) = Int.ofNat i ∧ True) ∧ True ∧ True) ∧ ∀ (i : Nat), OKT l i → fits (lenL l) → (decide (Int.ofNat i < iOf (lenL l)) = true → (bnd (Int.ofNat i) (lenL l) ∧ ∀ (x : Int × List UInt8 × List UInt8 × Int × Unit), nthI l (Int.ofNat i) = some x → nat_lit 1 ≤ (Nat.succ (nat_lit 1)).succ.succ ∧ ((x.fst == (4 : Int)) = false → bnd (Int.ofNat i) (lenL l) ∧ ∀ (x : Int × List UInt8 × List UInt8 × Int × Unit), nthI l (Int.ofNat i) = some x → nat_lit 4 ≤ (Nat.succ (nat_lit 1)).succ.succ ∧ true = true ∧ True ∧ true = true ∧ (nodeRec (x.fst, x.snd.fst, x.snd.snd.fst, x.snd.snd.snd.fst, ())).snd.fst.length ≤ (100000000 : Nat) ∧ ((!decide (recFault ((nodeRec (x.fst, x.snd.fst, x.snd.snd.fst, x.snd.snd.snd.fst, ())).fst, (nodeRec (x.fst, x.snd.fst, x.snd.snd.fst, x.snd.snd.snd.fst, ())).snd.fst, (nodeRec (x.fst, x.snd.fst, x.snd.snd.fst, x.snd.snd.snd.fst, ())).snd.snd.fst, (nodeRec (x.fst, x.snd.fst, x.snd.snd.fst, x.snd.snd.snd.fst, ())).snd.snd.snd.fst, (nodeRec (x.fst, x.snd.fst, x.snd.snd.fst, x.snd.snd.snd.fst, ())).snd.snd.snd.snd.fst, ()) = (0 : Int))) = false → (decide (Int.ofNat i > (0 : Int)) = true → bnd (wSub IntKind.i64 (Int.ofNat i) (1 : Int)) (lenL l) ∧ ∀ (x : Int × List UInt8 × List UInt8 × Int × Unit), nthI l (wSub IntKind.i64 (Int.ofNat i) (1 : Int)) = some x → nat_lit 1 ≤ (Nat.succ (nat_lit 1)).succ ∧ bnd (Int.ofNat i) (lenL l) ∧ ∀ (x_1 : Int × List UInt8 × List UInt8 × Int × Unit), nthI l (Int.ofNat i) = some x_1 → nat_lit 1 ≤ (Nat.succ (nat_lit 1)).succ ∧ true = true ∧ (x.snd.fst.length ≤ (100000000 : Nat) ∧ x_1.snd.fst.length ≤ (100000000 : Nat)) ∧ (l = l ∧ Int.ofNat i = Int.ofNat i ∧ (!lessL (split (47 : UInt8) x.snd.fst) (split (47 : UInt8) x_1.snd.fst)) = treeHeadI l (Int.ofNat i) ∧ True) ∧ True ∧ True) ∧ (decide (Int.ofNat i > (0 : Int)) = false → (l = l ∧ Int.ofNat i = Int.ofNat i ∧ false = treeHeadI l (Int.ofNat i) ∧ True) ∧ True ∧ True)) ∧ ((!decide (recFault ((nodeRec (x.fst, x.snd.fst, x.snd.snd.fst, x.snd.snd.snd.fst, ())).fst, (nodeRec (x.fst, x.snd.fst, x.snd.snd.fst, x.snd.snd.snd.fst, ())).snd.fst, (nodeRec (x.fst, x.snd.fst, x.snd.snd.fst, x.snd.snd.snd.fst, ())).snd.snd.fst, (nodeRec (x.fst, x.snd.fst, x.snd.snd.fst, x.snd.snd.snd.fst, ())).snd.snd.snd.fst, (nodeRec (x.fst, x.snd.fst, x.snd.snd.fst, x.snd.snd.snd.fst, ())).snd.snd.snd.snd.fst, ()) = (0 : Int))) = true → (l = l ∧ Int.ofNat i = Int.ofNat i ∧ true = treeHeadI l (Int.ofNat i) ∧ True) ∧ True ∧ True)) ∧ ((x.fst == (4 : Int)) = true → (l = l ∧ Int.ofNat i = Int.ofNat i ∧ true = treeHeadI l (Int.ofNat i) ∧ True) ∧ True ∧ True)) ∧ (treeHeadI l (Int.ofNat i) = true → (false, ()) = (treeOK l, ()) ∧ () = ()) ∧ (treeHeadI l (Int.ofNat i) = false → bnd (Int.ofNat i) (lenL l) ∧ ∀ (x : Int × List UInt8 × List UInt8 × Int × Unit), nthI l (Int.ofNat i) = some x → nat_lit 1 ≤ (Nat.succ (nat_lit 1)).succ ∧ true = true ∧ x.snd.fst.length ≤ (100000000 : Nat) ∧ ((!parentS x.snd.fst == ([] : List UInt8)) = true → boundLo (Int.ofNat i) (lenL l) ∧ true = true ∧ True ∧ (decide (nodeIdx (subL l (0 : Nat) (tN (Int.ofNat i))) (parentS x.snd.fst) < (0 : Int)) = false → bnd (nodeIdx (subL l (0 : Nat) (tN (Int.ofNat i))) (parentS x.snd.fst)) (lenL l) ∧ ∀ (x_1 : Int × List UInt8 × List UInt8 × Int × Unit), nthI l (nodeIdx (subL l (0 : Nat) (tN (Int.ofNat i))) (parentS x.snd.fst)) = some x_1 → nat_lit 1 ≤ (Nat.succ (nat_lit 1)).succ.succ ∧ ((x_1.fst != (3 : Int)) = true → (false, ()) = (treeOK l, ()) ∧ () = ()) ∧ ((x_1.fst != (3 : Int)) = false → ∃ (j : Nat), OKT l j ∧ (List.length l).sub j < (List.length l).sub i ∧ (l = l ∧ wAdd IntKind.i64 (Int.ofNat i) (1 : Int) = Int.ofNat j ∧ True) ∧ True ∧ True)) ∧ (decide (nodeIdx (subL l (0 : Nat) (tN (Int.ofNat i))) (parentS x.snd.fst) < (0 : Int)) = true → (false, ()) = (treeOK l, ()) ∧ () = ())) ∧ ((!parentS x.snd.fst == ([] : List UInt8)) = false → ∃ (j : Nat), OKT l j ∧ (List.length l).sub j < (List.length l).sub i ∧ (l = l ∧ wAdd IntKind.i64 (Int.ofNat i) (1 : Int) = Int.ofNat j ∧ True) ∧ True ∧ True))) ∧ (decide (Int.ofNat i < iOf (lenL l)) = false → (true, ()) = (treeOK l, ()) ∧ () = ()))) (by kernel_rfl) ?_
  simp only [Nat.le_refl, Nat.succ_eq_add_one, Nat.reduceAdd, Nat.reduceLeDiff, Nat.zero_le, pair_unit, mk_eta, len_bne, eqD_bne, bne_iff_ne, bne_eq_false_iff_eq, beq_iff_eq, beq_eq_false_iff_ne, true_and, and_true, and_self, eq_self, lt_iff, nthI_nat, bnd_iff, decide_eq_true_eq, decide_eq_false_iff_not, Nat.sub_eq, nz, ne_eq, not_false_eq_true, Prod.mk.injEq, Int.reduceEq, Nat.reduceEqDiff, forall_const, implies_true, bne_self_eq_false, Bool.true_eq_false, Bool.false_eq_true, false_implies, reduceCtorEq, Bool.not_true, Bool.not_false, List.all_cons, List.all_nil, Bool.and_true, Bool.not_eq_true, Bool.not_eq_false, Bool.not_eq_true', Bool.not_eq_false', Decidable.not_not]; try simp only [lenL]
  have hl : okN l := hl
  refine fun _ => ⟨fun h => okt_24 h, fun hn24 => ⟨⟨0, okt0 l, rfl⟩, fun i h hf => ⟨fun hi => ?_, fun he => okt_end h he⟩⟩⟩
  have h24 : ¬ 24 ≤ i := fun hh => hn24 (by unfold iOf; omega)
  refine ⟨⟨hi, fun x hx => ⟨fun hk => ⟨hi, fun x2 hx2 => ?_⟩, fun hk => th_kind hx hk⟩⟩, fun hb => okt_bad hi (tree_bad h h24 hb), fun hb => ⟨hi, fun x hx => ⟨hl x (List.mem_of_getElem? hx), fun hp => ⟨bound_lo h.1, fun hk => ⟨(dir_take h.1 hp hk).1, fun y hy => ⟨fun h3 => ?_, fun h3 => ?_⟩⟩, fun hk => ?_⟩, fun hp => ?_⟩⟩⟩
  · rw [hx] at hx2; cases hx2
    refine ⟨hl x (List.mem_of_getElem? hx), fun hr => ⟨fun h0 => ?_, fun h0 => th_none hx h0 hk hr⟩, fun hr => th_rec hx hr⟩
    rw [wsN h0 hi hf]
    refine ⟨bnd_nat (by omega), fun y hy => ⟨hi, fun x3 hx3 => ⟨⟨hl y (List.mem_of_getElem? hy), hl x3 (List.mem_of_getElem? hx3)⟩, ?_⟩⟩⟩
    rw [hx] at hx3; cases hx3
    exact th_prev hx hy h0 hk hr
  · exact okt_bad hi (by rw [tree_par h h24 hx hb, (dir_take h.1 hp hk).2 y hy, decide_eq_false h3]; rfl)
  · exact ⟨i + 1, okt_step h hi (by rw [tree_par h h24 hx hb, (dir_take h.1 hp hk).2 y hy, decide_eq_true h3]; rfl), Nat.sub_lt_sub_left hi (Nat.lt_succ_self i), inc_in hf h.1⟩
  · exact okt_bad hi (by rw [tree_par h h24 hx hb, dir_neg hp hk]; rfl)
  · exact ⟨i + 1, okt_step h hi (by rw [tree_par h h24 hx hb, dir_root hp]; rfl), Nat.sub_lt_sub_left hi (Nat.lt_succ_self i), inc_in hf h.1⟩
end Go.Proofs.YtolminmmnckpkaaGreatDoor
namespace Go.Proofs.YtolminmmnckpkaaGreatDoor
open Go.Ab Go.Fn
def L_tlines (i : Nat) (l : List Fn.Node) : LoopAnn := { ι := Nat, inv := fun k => k ≤ l.length, slots := fun k => [(3, .os 1), (i, .d I (Int.ofNat k))], objs := fun k => [(1, .arr .str (List.map (fun n => Fn.recT (Fn.nodeRec n)) (l.take k)) false)], μ := fun k => l.length - k }
def s_tlines : FSpec := { ps := [.v (.slice tNode)], rs := [.o (.slice .str)], pre := fun x => ∀ r ∈ x.1, Fn.recFault (Fn.nodeRec r) = 0, fn := fun x => (List.map (fun n => Fn.recT (Fn.nodeRec n)) x.1, ()), upd := fun _ => () }
theorem fo_l14Tree : FO 35 s_tlines := by
  refine fo (specs := [(78, s_recT), (74, s_toRec)]) (clos := []) (fun x => [(3, .lv [0, 3, 4] <| fun _ => L_tlines 4 x.1)]) ⟨fo_l14Record, fo_l04Record, trivial⟩ trivial Tryz.func35 rfl rfl ?_
  rintro ⟨l, ⟨⟩⟩ hl
  refine vcOf ((∃ (i : Nat), i ≤ List.length l ∧ (l = l ∧ nat_lit 1 = (1 : Nat) ∧ (0 : Int) = Int.ofNat i ∧ True) ∧ ((([] : List (List UInt8)) = ([] : List (List UInt8)) ∧ false = false) ∧ (([] : List (List UInt8)) = List.map (fun (n : Fn.Node) => recT (nodeRec n)) (List.take i l) ∧ false = false) ∧ True) ∧ True) ∧ ∀ (i : Nat), i ≤ List.length l → fits (lenL l) → (decide (Int.ofNat i < iOf (lenL l)) = true → bnd (Int.ofNat i) (lenL l) ∧ ∀ (x : Int × List UInt8 × List UInt8 × Int × Unit), nthI l (Int.ofNat i) = some x → nat_lit 4 ≤ (Nat.succ (nat_lit 1)).succ.succ ∧ true = true ∧ True ∧ true = true ∧ recFault ((nodeRec (x.fst, x.snd.fst, x.snd.snd.fst, x.snd.snd.snd.fst, ())).fst, (nodeRec (x.fst, x.snd.fst, x.snd.snd.fst, x.snd.snd.snd.fst, ())).snd.fst, (nodeRec (x.fst, x.snd.fst, x.snd.snd.fst, x.snd.snd.snd.fst, ())).snd.snd.fst, (nodeRec (x.fst, x.snd.fst, x.snd.snd.fst, x.snd.snd.snd.fst, ())).snd.snd.snd.fst, (nodeRec (x.fst, x.snd.fst, x.snd.snd.fst, x.snd.snd.snd.fst, ())).snd.snd.snd.snd.fst, ()) = (0 : Int) ∧ fits (lenL (List.map (fun (n : Fn.Node) => recT (nodeRec n)) (List.take i l)) + lenL (recT ((nodeRec (x.fst, x.snd.fst, x.snd.snd.fst, x.snd.snd.snd.fst, ())).fst, (nodeRec (x.fst, x.snd.fst, x.snd.snd.fst, x.snd.snd.snd.fst, ())).snd.fst, (nodeRec (x.fst, x.snd.fst, x.snd.snd.fst, x.snd.snd.snd.fst, ())).snd.snd.fst, (nodeRec (x.fst, x.snd.fst, x.snd.snd.fst, x.snd.snd.snd.fst, ())).snd.snd.snd.fst, (nodeRec (x.fst, x.snd.fst, x.snd.snd.fst, x.snd.snd.snd.fst, ())).snd.snd.snd.snd.fst, ()) :: ([] : List (List UInt8)))) ∧ ∃ (j : Nat), j ≤ List.length l ∧ (List.length l).sub j < (List.length l).sub i ∧ (l = l ∧ (1 : Nat) = (1 : Nat) ∧ wAdd IntKind.i64 (Int.ofNat i) (1 : Int) = Int.ofNat j ∧ True) ∧ ((([] : List (List UInt8)) = ([] : List (List UInt8)) ∧ false = false) ∧ (List.map (fun (n : Fn.Node) => recT (nodeRec n)) (List.take i l) ++ recT ((nodeRec (x.fst, x.snd.fst, x.snd.snd.fst, x.snd.snd.snd.fst, ())).fst, (nodeRec (x.fst, x.snd.fst, x.snd.snd.fst, x.snd.snd.snd.fst, ())).snd.fst, (nodeRec (x.fst, x.snd.fst, x.snd.snd.fst, x.snd.snd.snd.fst, ())).snd.snd.fst, (nodeRec (x.fst, x.snd.fst, x.snd.snd.fst, x.snd.snd.snd.fst, ())).snd.snd.snd.fst, (nodeRec (x.fst, x.snd.fst, x.snd.snd.fst, x.snd.snd.snd.fst, ())).snd.snd.snd.snd.fst, ()) :: ([] : List (List UInt8)) = List.map (fun (n : Fn.Node) => recT (nodeRec n)) (List.take j l) ∧ false = false) ∧ True) ∧ True) ∧ (decide (Int.ofNat i < iOf (lenL l)) = false → (List.map (fun (n : Fn.Node) => recT (nodeRec n)) (List.take i l), ()) = (List.map (fun (n : Fn.Node) => recT (nodeRec n)) l, ()) ∧ () = ())) (by kernel_rfl) ?_
  simp only [Nat.le_refl, Nat.succ_eq_add_one, Nat.reduceAdd, Nat.reduceLeDiff, Nat.zero_le, pair_unit, mk_eta, len_bne, eqD_bne, bne_iff_ne, bne_eq_false_iff_eq, beq_iff_eq, beq_eq_false_iff_ne, true_and, and_true, and_self, eq_self, lt_iff, nthI_nat, bnd_iff, decide_eq_true_eq, decide_eq_false_iff_not, Nat.sub_eq, nz, ne_eq, not_false_eq_true, Prod.mk.injEq, Int.reduceEq, Nat.reduceEqDiff, forall_const, implies_true, bne_self_eq_false, Bool.true_eq_false, Bool.false_eq_true, false_implies, reduceCtorEq, Bool.not_true, Bool.not_false, List.all_cons, List.all_nil, Bool.and_true, Bool.not_eq_true, Bool.not_eq_false, Bool.not_eq_true', Bool.not_eq_false', Decidable.not_not]; try simp only [lenL]
  exact ⟨⟨0, Nat.zero_le _, rfl, rfl⟩, fun i hi hf => ⟨fun h => ⟨h, fun x hx => ⟨hl x (List.mem_of_getElem? hx), map_fit h hf, i + 1, h, Nat.sub_lt_sub_left h (Nat.lt_succ_self i), inc_in hf hi, map_take hx⟩⟩, fun h => map_end h⟩⟩
def s_records : FSpec := { ps := [.v (.slice tNode)], rs := [.o (.slice tRec)], pre := fun _ => True, fn := fun x => (List.map Fn.nodeRec x.1, ()), upd := fun _ => () }
def L_records (l : List Fn.Node) : LoopAnn := { ι := Nat, inv := fun k => k ≤ l.length, slots := fun k => [(3, .os 1), (9, .d I (Int.ofNat k))], objs := fun k => [(1, .arr tRec (List.map Fn.nodeRec (l.take k)) false)], μ := fun k => l.length - k }
theorem fo_records : FO 41 s_records := by
  refine fo (specs := [(84, s_toRec)]) (clos := []) (fun x => [(3, .lv [3, 7, 8, 9] <| fun _ => L_records x.1)]) ⟨fo_record, trivial⟩ trivial Tryz.func41 rfl rfl ?_
  rintro ⟨l, ⟨⟩⟩ -
  refine vcOf (fits (lenL l) → (∃ (i : Nat), i ≤ List.length l ∧ (nat_lit 1 = (1 : Nat) ∧ l = l ∧ iOf (lenL l) = iOf (lenL l) ∧ (0 : Int) = Int.ofNat i ∧ True) ∧ ((([] : List (Int × List UInt8 × List UInt8 × Int × Bool × Unit)) = ([] : List (Int × List UInt8 × List UInt8 × Int × Bool × Unit)) ∧ false = false) ∧ (([] : List (Int × List UInt8 × List UInt8 × Int × Bool × Unit)) = List.map nodeRec (List.take i l) ∧ false = false) ∧ True) ∧ True) ∧ ∀ (i : Nat), i ≤ List.length l → (decide (Int.ofNat i < iOf (lenL l)) = true → bnd (Int.ofNat i) (lenL l) ∧ ∀ (x : Int × List UInt8 × List UInt8 × Int × Unit), nthI l (Int.ofNat i) = some x → nat_lit 4 ≤ (Nat.succ (nat_lit 1)).succ.succ ∧ nat_lit 4 ≤ nat_lit 4 ∧ nat_lit 4 ≤ (Nat.succ (nat_lit 1)).succ.succ ∧ true = true ∧ True ∧ fits (lenL (List.map nodeRec (List.take i l)) + lenL (((nodeRec (x.fst, x.snd.fst, x.snd.snd.fst, x.snd.snd.snd.fst, ())).fst, (nodeRec (x.fst, x.snd.fst, x.snd.snd.fst, x.snd.snd.snd.fst, ())).snd.fst, (nodeRec (x.fst, x.snd.fst, x.snd.snd.fst, x.snd.snd.snd.fst, ())).snd.snd.fst, (nodeRec (x.fst, x.snd.fst, x.snd.snd.fst, x.snd.snd.snd.fst, ())).snd.snd.snd.fst, (nodeRec (x.fst, x.snd.fst, x.snd.snd.fst, x.snd.snd.snd.fst, ())).snd.snd.snd.snd.fst, ()) :: ([] : List (Int × List UInt8 × List UInt8 × Int × Bool × Unit)))) ∧ ∃ (j : Nat), j ≤ List.length l ∧ (List.length l).sub j < (List.length l).sub i ∧ ((1 : Nat) = (1 : Nat) ∧ l = l ∧ iOf (lenL l) = iOf (lenL l) ∧ wAdd IntKind.i64 (Int.ofNat i) (1 : Int) = Int.ofNat j ∧ True) ∧ ((([] : List (Int × List UInt8 × List UInt8 × Int × Bool × Unit)) = ([] : List (Int × List UInt8 × List UInt8 × Int × Bool × Unit)) ∧ false = false) ∧ (List.map nodeRec (List.take i l) ++ ((nodeRec (x.fst, x.snd.fst, x.snd.snd.fst, x.snd.snd.snd.fst, ())).fst, (nodeRec (x.fst, x.snd.fst, x.snd.snd.fst, x.snd.snd.snd.fst, ())).snd.fst, (nodeRec (x.fst, x.snd.fst, x.snd.snd.fst, x.snd.snd.snd.fst, ())).snd.snd.fst, (nodeRec (x.fst, x.snd.fst, x.snd.snd.fst, x.snd.snd.snd.fst, ())).snd.snd.snd.fst, (nodeRec (x.fst, x.snd.fst, x.snd.snd.fst, x.snd.snd.snd.fst, ())).snd.snd.snd.snd.fst, ()) :: ([] : List (Int × List UInt8 × List UInt8 × Int × Bool × Unit)) = List.map nodeRec (List.take j l) ∧ false = false) ∧ True) ∧ True) ∧ (decide (Int.ofNat i < iOf (lenL l)) = false → (List.map nodeRec (List.take i l), ()) = (List.map nodeRec l, ()) ∧ () = ())) (by kernel_rfl) ?_
  simp only [Nat.le_refl, Nat.succ_eq_add_one, Nat.reduceAdd, Nat.reduceLeDiff, Nat.zero_le, pair_unit, mk_eta, len_bne, eqD_bne, bne_iff_ne, bne_eq_false_iff_eq, beq_iff_eq, beq_eq_false_iff_ne, true_and, and_true, and_self, eq_self, lt_iff, nthI_nat, bnd_iff, decide_eq_true_eq, decide_eq_false_iff_not, Nat.sub_eq, nz, ne_eq, not_false_eq_true, Prod.mk.injEq, Int.reduceEq, Nat.reduceEqDiff, forall_const, implies_true, bne_self_eq_false, Bool.true_eq_false, Bool.false_eq_true, false_implies, reduceCtorEq, Bool.not_true, Bool.not_false, List.all_cons, List.all_nil, Bool.and_true, Bool.not_eq_true, Bool.not_eq_false, Bool.not_eq_true', Bool.not_eq_false', Decidable.not_not]; try simp only [lenL]
  exact fun hf => ⟨⟨0, Nat.zero_le _, rfl, rfl⟩, fun i hi => ⟨fun h => ⟨h, fun x hx => ⟨map_fit h hf, i + 1, h, Nat.sub_lt_sub_left h (Nat.lt_succ_self i), inc_in hf hi, map_take hx⟩⟩, fun h => map_end h⟩⟩
def s_isLongNode : FSpec := { ps := [.v (.slice tNode)], rs := [.v .bool], pre := fun _ => True, fn := fun x => (decide (iOf (List.length (α := Fn.Node) x.1) > 4096), ()), upd := fun _ => () }
theorem fo_isLongNode : FO 38 s_isLongNode := by
  refine fo (specs := []) (clos := []) (fun x => []) trivial trivial Tryz.func38 rfl rfl ?_
  rintro ⟨l, ⟨⟩⟩ -
  refine vcOf (fits (lenL l) → (decide (iOf (lenL l) > (4096 : Int)), ()) = (decide (iOf (List.length l) > (4096 : Int)), ()) ∧ () = ()) (by kernel_rfl) ?_
  simp only [Nat.le_refl, Nat.succ_eq_add_one, Nat.reduceAdd, Nat.reduceLeDiff, Nat.zero_le, pair_unit, mk_eta, len_bne, eqD_bne, bne_iff_ne, bne_eq_false_iff_eq, beq_iff_eq, beq_eq_false_iff_ne, true_and, and_true, and_self, eq_self, lt_iff, nthI_nat, bnd_iff, decide_eq_true_eq, decide_eq_false_iff_not, Nat.sub_eq, nz, ne_eq, not_false_eq_true, Prod.mk.injEq, Int.reduceEq, Nat.reduceEqDiff, forall_const, implies_true, bne_self_eq_false, Bool.true_eq_false, Bool.false_eq_true, false_implies, reduceCtorEq, Bool.not_true, Bool.not_false, List.all_cons, List.all_nil, Bool.and_true, Bool.not_eq_true, Bool.not_eq_false, Bool.not_eq_true', Bool.not_eq_false', Decidable.not_not]; try simp only [lenL]
  exact fun _ => rfl
def s_TreeLines : FSpec := { ps := [.v (.slice tNode)], rs := [.o (.slice .str), .v I], pre := fun x => okN x.1, fn := fun x => (Fn.treeS x.1, Fn.treeC x.1, ()), upd := fun _ => () }
theorem fo_sTreeLines : FO 8 s_TreeLines := by
  refine fo (specs := [(34, s_treeOK), (35, s_tlines)]) (clos := []) (fun x => []) ⟨fo_l04OK, fo_l14Tree, trivial⟩ trivial Tryz.func8 rfl rfl ?_
  rintro ⟨l, ⟨⟩⟩ hl
  refine vcOf (fits (lenL l) → (decide (iOf (lenL l) > (4096 : Int)) = true → (([] : List (List UInt8)), (2 : Int), ()) = (treeS l, treeC l, ()) ∧ () = ()) ∧ (decide (iOf (lenL l) > (4096 : Int)) = false → true = true ∧ okN l ∧ ((!treeOK l) = true → (([] : List (List UInt8)), (1 : Int), ()) = (treeS l, treeC l, ()) ∧ () = ()) ∧ ((!treeOK l) = false → true = true ∧ (∀ (r : Int × List UInt8 × List UInt8 × Int × Unit), r ∈ l → recFault (nodeRec r) = (0 : Int)) ∧ (List.map (fun (n : Fn.Node) => recT (nodeRec n)) l, (0 : Int), ()) = (treeS l, treeC l, ()) ∧ () = ()))) (by kernel_rfl) ?_
  simp only [Nat.le_refl, Nat.succ_eq_add_one, Nat.reduceAdd, Nat.reduceLeDiff, Nat.zero_le, pair_unit, mk_eta, len_bne, eqD_bne, bne_iff_ne, bne_eq_false_iff_eq, beq_iff_eq, beq_eq_false_iff_ne, true_and, and_true, and_self, eq_self, lt_iff, nthI_nat, bnd_iff, decide_eq_true_eq, decide_eq_false_iff_not, Nat.sub_eq, nz, ne_eq, not_false_eq_true, Prod.mk.injEq, Int.reduceEq, Nat.reduceEqDiff, forall_const, implies_true, bne_self_eq_false, Bool.true_eq_false, Bool.false_eq_true, false_implies, reduceCtorEq, Bool.not_true, Bool.not_false, List.all_cons, List.all_nil, Bool.and_true, Bool.not_eq_true, Bool.not_eq_false, Bool.not_eq_true', Bool.not_eq_false', Decidable.not_not]; try simp only [lenL]
  exact fun _ => ⟨fun h => tl_long h, fun h => ⟨hl, fun hc => tl_bad h hc, fun hc => ⟨okt_all hc, tl_ok h hc⟩⟩⟩
theorem ft_TreeLines : FT 10 s_TreeLines := by
  refine foT (specs := [(38, s_isLongNode), (39, s_treeOK), (37, s_first), (41, s_records), (40, s_lines)]) (clos := []) (fun x => []) ⟨toT fo_isLongNode, toT fo_TreeOK, toT fo_first, toT fo_records, ft_recordLines, trivial⟩ trivial Tryz.func10 rfl rfl ?_
  rintro ⟨l, ⟨⟩⟩ hl
  refine vcOf (true = true ∧ True ∧ true = true ∧ okN l ∧ true = true ∧ True ∧ ((first (AnyV.b (decide (iOf (List.length l) > (4096 : Int))) :: AnyV.n (2 : Int) :: (AnyV.b !treeOK l) :: AnyV.n (1 : Int) :: ([] : List AnyV)) != (0 : Int)) = true → (([] : List (List UInt8)), first (AnyV.b (decide (iOf (List.length l) > (4096 : Int))) :: AnyV.n (2 : Int) :: (AnyV.b !treeOK l) :: AnyV.n (1 : Int) :: ([] : List AnyV)), ()) = (treeS l, treeC l, ()) ∧ () = ()) ∧ ((first (AnyV.b (decide (iOf (List.length l) > (4096 : Int))) :: AnyV.n (2 : Int) :: (AnyV.b !treeOK l) :: AnyV.n (1 : Int) :: ([] : List AnyV)) != (0 : Int)) = false → true = true ∧ True ∧ true = true ∧ (∀ (r : Int × List UInt8 × List UInt8 × Int × Bool × Unit), r ∈ List.map nodeRec l → recFault r = (0 : Int)) ∧ (List.map recT (List.map nodeRec l), (0 : Int), ()) = (treeS l, treeC l, ()) ∧ () = ())) (by kernel_rfl) ?_
  simp only [Nat.le_refl, Nat.succ_eq_add_one, Nat.reduceAdd, Nat.reduceLeDiff, Nat.zero_le, pair_unit, mk_eta, len_bne, eqD_bne, bne_iff_ne, bne_eq_false_iff_eq, beq_iff_eq, beq_eq_false_iff_ne, true_and, and_true, and_self, eq_self, lt_iff, nthI_nat, bnd_iff, decide_eq_true_eq, decide_eq_false_iff_not, Nat.sub_eq, nz, ne_eq, not_false_eq_true, Prod.mk.injEq, Int.reduceEq, Nat.reduceEqDiff, forall_const, implies_true, bne_self_eq_false, Bool.true_eq_false, Bool.false_eq_true, false_implies, reduceCtorEq, Bool.not_true, Bool.not_false, List.all_cons, List.all_nil, Bool.and_true, Bool.not_eq_true, Bool.not_eq_false, Bool.not_eq_true', Bool.not_eq_false', Decidable.not_not]; try simp only [lenL]
  rw [tl_first]
  refine ⟨hl, fun h => ⟨by unfold treeS; rw [if_neg h], rfl⟩, fun h => ?_⟩
  have hz := tl_zero h
  refine ⟨fun r hr => ?_, ?_⟩
  · obtain ⟨n, hn, rfl⟩ := List.mem_map.1 hr
    exact okt_all hz.2 n hn
  · have e := tl_ok hz.1 hz.2
    rw [List.map_map]
    exact e
end Go.Proofs.YtolminmmnckpkaaGreatDoor
namespace Go.Proofs.YtolminmmnckpkaaGreatDoor
open Go.Ab Go.Fn
def s_szNode : FSpec := { ps := [.v tNode, .v I], rs := [.v I], pre := fun x => (-1 : Int) ≤ x.2.1 ∧ (x.2.1 : Int) ≤ 1048576, fn := fun x => (Fn.szNd x.1 x.2.1, ()), upd := fun _ => () }
theorem fo_szNode : FO 33 s_szNode := by
  refine fo (specs := []) (clos := []) (fun x => []) trivial trivial Tryz.func33 rfl rfl ?_
  rintro ⟨⟨k, p, b, m, ⟨⟩⟩, n, ⟨⟩⟩ hn
  refine vcOf (nat_lit 2 ≤ (Nat.succ (nat_lit 1)).succ.succ ∧ (fits (lenL p) → (decide (wSub IntKind.i64 n (iOf (lenL p)) < (0 : Int)) = true → ((-1 : Int), ()) = (szNd (k, p, b, m, ()) n, ()) ∧ () = ()) ∧ (decide (wSub IntKind.i64 n (iOf (lenL p)) < (0 : Int)) = false → nat_lit 3 ≤ (Nat.succ (nat_lit 1)).succ.succ ∧ (fits (lenL b) → (decide (wSub IntKind.i64 (wSub IntKind.i64 n (iOf (lenL p))) (iOf (lenL b)) < (0 : Int)) = true → ((-1 : Int), ()) = (szNd (k, p, b, m, ()) n, ()) ∧ () = ()) ∧ (decide (wSub IntKind.i64 (wSub IntKind.i64 n (iOf (lenL p))) (iOf (lenL b)) < (0 : Int)) = false → (wSub IntKind.i64 (wSub IntKind.i64 n (iOf (lenL p))) (iOf (lenL b)), ()) = (szNd (k, p, b, m, ()) n, ()) ∧ () = ()))))) (by kernel_rfl) ?_
  simp only [Nat.le_refl, Nat.succ_eq_add_one, Nat.reduceAdd, Nat.reduceLeDiff, Nat.zero_le, pair_unit, mk_eta, len_bne, eqD_bne, bne_iff_ne, bne_eq_false_iff_eq, beq_iff_eq, beq_eq_false_iff_ne, true_and, and_true, and_self, eq_self, lt_iff, nthI_nat, bnd_iff, decide_eq_true_eq, decide_eq_false_iff_not, Nat.sub_eq, nz, ne_eq, not_false_eq_true, Prod.mk.injEq, Int.reduceEq, Nat.reduceEqDiff, forall_const, implies_true, bne_self_eq_false, Bool.true_eq_false, Bool.false_eq_true, false_implies, reduceCtorEq, Bool.not_true, Bool.not_false, List.all_cons, List.all_nil, Bool.and_true, Bool.not_eq_true, Bool.not_eq_false, Bool.not_eq_true', Bool.not_eq_false', Decidable.not_not]; try simp only [lenL]
  exact fun hf => ⟨fun h => szRec_a (k := k) (b := b) (m := m) (o := false) hn hf h, fun h hg => szRec_b (k := k) (m := m) (o := false) hn hf h hg⟩
def s_toNode : FSpec := { ps := [.v tNode], rs := [.v tNode], pre := fun _ => True, fn := fun x => (x.1, ()), upd := fun _ => () }
theorem fo_toNode : FO 36 s_toNode := by
  refine fo (specs := []) (clos := []) (fun x => []) trivial trivial Tryz.func36 rfl rfl ?_
  rintro ⟨⟨k, p, b, m, ⟨⟩⟩, ⟨⟩⟩ -
  refine vcOf (nat_lit 1 ≤ (Nat.succ (nat_lit 1)).succ.succ ∧ nat_lit 1 ≤ nat_lit 4 ∧ nat_lit 2 ≤ (Nat.succ (nat_lit 1)).succ.succ ∧ nat_lit 2 ≤ nat_lit 4 ∧ nat_lit 3 ≤ (Nat.succ (nat_lit 1)).succ.succ ∧ nat_lit 3 ≤ Nat.succ (nat_lit 3) ∧ nat_lit 4 ≤ (Nat.succ (nat_lit 1)).succ.succ ∧ nat_lit 4 ≤ (Nat.succ (nat_lit 2)).succ ∧ nat_lit 4 ≤ (Nat.succ (nat_lit 1)).succ.succ ∧ nat_lit 4 ≤ nat_lit 4 ∧ ((k, p, b, m, ()), ()) = ((k, p, b, m, ()), ()) ∧ () = ()) (by kernel_rfl) ?_
  repeat' (first | apply And.intro | rfl | exact Nat.le_of_ble_eq_true rfl)
def s_szNodeS : FSpec := { ps := [.v (.slice tNode), .v I], rs := [.v I], pre := fun x => 0 ≤ (x.2.1 : Int) ∧ (x.2.1 : Int) ≤ 1048576, fn := fun x => (szList Fn.szNd x.1 x.2.1, ()), upd := fun _ => () }
def L_szNodeS (xs : List (tNode : Ty).den) (l0 : Int) : LoopAnn := { ι := Nat × Int, inv := fun p => p.1 ≤ xs.length ∧ (0 ≤ p.2 ∧ p.2 ≤ 1048576) ∧ szGo Fn.szNd (xs.drop p.1) p.2 = szGo Fn.szNd xs (l0 - xs.length), slots := fun p => [(5, .d I (Int.ofNat p.1)), (1, .d I p.2)], objs := fun _ => [], μ := fun p => xs.length - p.1 }
theorem fo_szNodeS : FO 7 s_szNodeS := by
  refine fo (specs := [(33, s_szNode)]) (clos := []) (fun x => [(5, .lv [0, 1, 5] <| fun _ => L_szNodeS x.1 x.2.1)]) ⟨fo_szNode, trivial⟩ trivial Tryz.func7 rfl rfl ?_
  rintro ⟨xs, n, ⟨⟩⟩ ⟨hp1, hp2⟩
  have hp1 : (0 : Int) ≤ n := hp1
  have hp2 : (n : Int) ≤ 1048576 := hp2
  refine vcOf (fits (lenL xs) → (decide (wSub IntKind.i64 n (iOf (lenL xs)) < (0 : Int)) = true → ((-1 : Int), ()) = (szList szNd xs n, ()) ∧ () = ()) ∧ (decide (wSub IntKind.i64 n (iOf (lenL xs)) < (0 : Int)) = false → (∃ (i : Nat × Int), (i.fst ≤ List.length xs ∧ ((0 : Int) ≤ i.snd ∧ i.snd ≤ (1048576 : Int)) ∧ szGo szNd (List.drop i.fst xs) i.snd = szGo szNd xs (n - Int.ofNat (List.length xs))) ∧ (xs = xs ∧ wSub IntKind.i64 n (iOf (lenL xs)) = i.snd ∧ (0 : Int) = Int.ofNat i.fst ∧ True) ∧ True ∧ True) ∧ ∀ (i : Nat × Int), i.fst ≤ List.length xs ∧ ((0 : Int) ≤ i.snd ∧ i.snd ≤ (1048576 : Int)) ∧ szGo szNd (List.drop i.fst xs) i.snd = szGo szNd xs (n - Int.ofNat (List.length xs)) → fits (lenL xs) → (decide (Int.ofNat i.fst < iOf (lenL xs)) = true → bnd (Int.ofNat i.fst) (lenL xs) ∧ ∀ (x : Int × List UInt8 × List UInt8 × Int × Unit), nthI xs (Int.ofNat i.fst) = some x → nat_lit 4 ≤ (Nat.succ (nat_lit 1)).succ.succ ∧ true = true ∧ ((-1 : Int) ≤ i.snd ∧ i.snd ≤ (1048576 : (PTy.v I).den)) ∧ (decide (szNd (x.fst, x.snd.fst, x.snd.snd.fst, x.snd.snd.snd.fst, ()) i.snd < (0 : Int)) = true → ((-1 : Int), ()) = (szList szNd xs n, ()) ∧ () = ()) ∧ (decide (szNd (x.fst, x.snd.fst, x.snd.snd.fst, x.snd.snd.snd.fst, ()) i.snd < (0 : Int)) = false → ∃ (j : Nat × Int), (j.fst ≤ List.length xs ∧ ((0 : Int) ≤ j.snd ∧ j.snd ≤ (1048576 : Int)) ∧ szGo szNd (List.drop j.fst xs) j.snd = szGo szNd xs (n - Int.ofNat (List.length xs))) ∧ (List.length xs).sub j.fst < (List.length xs).sub i.fst ∧ (xs = xs ∧ szNd (x.fst, x.snd.fst, x.snd.snd.fst, x.snd.snd.snd.fst, ()) i.snd = j.snd ∧ wAdd IntKind.i64 (Int.ofNat i.fst) (1 : Int) = Int.ofNat j.fst ∧ True) ∧ True ∧ True)) ∧ (decide (Int.ofNat i.fst < iOf (lenL xs)) = false → (i.snd, ()) = (szList szNd xs n, ()) ∧ () = ()))) (by kernel_rfl) ?_
  simp only [Nat.le_refl, Nat.succ_eq_add_one, Nat.reduceAdd, Nat.reduceLeDiff, Nat.zero_le, pair_unit, mk_eta, len_bne, eqD_bne, bne_iff_ne, bne_eq_false_iff_eq, beq_iff_eq, beq_eq_false_iff_ne, true_and, and_true, and_self, eq_self, lt_iff, nthI_nat, bnd_iff, decide_eq_true_eq, decide_eq_false_iff_not, Nat.sub_eq, nz, ne_eq, not_false_eq_true, Prod.mk.injEq, Int.reduceEq, Nat.reduceEqDiff, forall_const, implies_true, bne_self_eq_false, Bool.true_eq_false, Bool.false_eq_true, false_implies, reduceCtorEq, Bool.not_true, Bool.not_false, List.all_cons, List.all_nil, Bool.and_true, Bool.not_eq_true, Bool.not_eq_false, Bool.not_eq_true', Bool.not_eq_false', Decidable.not_not]; try simp only [lenL]
  intro hf
  rw [wSub_len hp1 hp2 hf]
  refine ⟨fun h => (if_pos h).symm, fun h => ⟨⟨(0, n - (xs.length : Int)), ⟨Nat.zero_le _, ⟨Int.not_lt.1 h, Int.le_trans (Int.sub_le_self _ (Int.natCast_nonneg _)) hp2⟩, rfl⟩, rfl, rfl⟩, ?_⟩⟩
  have e0 : szList Fn.szNd xs n = szGo Fn.szNd xs (n - (xs.length : Int)) := if_neg h
  rw [e0]
  rintro ⟨k, m⟩ ⟨hk, ⟨hm1, hm2⟩, he⟩ -
  have hm1 : (0 : Int) ≤ m := hm1
  have hm2 : (m : Int) ≤ 1048576 := hm2
  have he : szGo Fn.szNd (xs.drop k) m = szGo Fn.szNd xs (n - (xs.length : Int)) := he
  refine ⟨fun hlt => ⟨hlt, fun x hx => ⟨⟨Int.le_trans (by decide) hm1, hm2⟩, fun h1 => ?_, fun h1 => ?_⟩⟩, fun hge => ?_⟩
  · rw [← he, szGo_at hx]; exact (if_pos h1).symm
  · have h2 := szNd_le x m hm1
    rw [szGo_at hx] at he
    exact ⟨(k + 1, Fn.szNd x m), ⟨hlt, ⟨Int.not_lt.1 h1, Int.le_trans h2 hm2⟩, (if_neg h1).symm.trans he⟩, Nat.sub_lt_sub_left hlt (Nat.lt_succ_self k), rfl, inc_in hf hk⟩
  · rw [← he, szGo_end hge]
end Go.Proofs.YtolminmmnckpkaaGreatDoor
namespace Go.Proofs.YtolminmmnckpkaaGreatDoor
open Go.Ab Go.Fn
def s_toNodeS : FSpec := { ps := [.v (.slice tNode)], rs := [.o (.slice tNode)], pre := fun _ => True, fn := fun x => (x.1, ()), upd := fun _ => () }
def L_toNodeS (xs : List (tNode : Ty).den) : LoopAnn := { ι := Nat, inv := fun k => k ≤ xs.length, slots := fun k => [(4, .d I (Int.ofNat k))], objs := fun k => [(1, .arr tNode (fillTo xs k (0, [], [], 0, ())) false)], μ := fun k => xs.length - k }
theorem fo_toNodeS : FO 9 s_toNodeS := by
  refine fo (specs := [(36, s_toNode)]) (clos := []) (fun x => [(3, .lv [0, 3, 4] <| fun _ => L_toNodeS x.1)]) ⟨fo_toNode, trivial⟩ trivial Tryz.func9 rfl rfl ?_
  rintro ⟨xs, ⟨⟩⟩ -
  refine vcOf (fits (lenL xs) → mkOK (iOf (lenL xs)) (iOf (lenL xs)) ∧ (∃ (i : Nat), i ≤ List.length xs ∧ (xs = xs ∧ nat_lit 1 = nat_lit 1 ∧ (0 : Int) = Int.ofNat i ∧ True) ∧ ((([] : List (Int × List UInt8 × List UInt8 × Int × Unit)) = ([] : List (Int × List UInt8 × List UInt8 × Int × Unit)) ∧ false = false) ∧ (List.replicate (tN (iOf (lenL xs))) ((0 : (Ty.int IntKind.i64).den), ([] : List UInt8), ([] : List UInt8), (0 : (Ty.int IntKind.i64).den), ()) = fillTo xs i ((0 : I.den), ([] : List UInt8), ([] : List UInt8), (0 : I.den), ()) ∧ false = false) ∧ True) ∧ True) ∧ ∀ (i : Nat), i ≤ List.length xs → fits (lenL xs) → (decide (Int.ofNat i < iOf (lenL xs)) = true → bnd (Int.ofNat i) (lenL xs) ∧ ∀ (x : Int × List UInt8 × List UInt8 × Int × Unit), nthI xs (Int.ofNat i) = some x → nat_lit 4 ≤ (Nat.succ (nat_lit 1)).succ.succ ∧ true = true ∧ True ∧ bnd (Int.ofNat i) (lenL (fillTo xs i ((0 : I.den), ([] : List UInt8), ([] : List UInt8), (0 : I.den), ()))) ∧ ((0 : Nat) = (0 : Nat) ∧ tN (Int.ofNat i) < lenL (fillTo xs i ((0 : I.den), ([] : List UInt8), ([] : List UInt8), (0 : I.den), ()))) ∧ ∃ (j : Nat), j ≤ List.length xs ∧ (List.length xs).sub j < (List.length xs).sub i ∧ (xs = xs ∧ nat_lit 1 = nat_lit 1 ∧ wAdd IntKind.i64 (Int.ofNat i) (1 : Int) = Int.ofNat j ∧ True) ∧ ((([] : List (Int × List UInt8 × List UInt8 × Int × Unit)) = ([] : List (Int × List UInt8 × List UInt8 × Int × Unit)) ∧ false = false) ∧ ((fillTo xs i ((0 : I.den), ([] : List UInt8), ([] : List UInt8), (0 : I.den), ())).set (tN (Int.ofNat i)) (x.fst, x.snd.fst, x.snd.snd.fst, x.snd.snd.snd.fst, ()) = fillTo xs j ((0 : I.den), ([] : List UInt8), ([] : List UInt8), (0 : I.den), ()) ∧ false = false) ∧ True) ∧ True) ∧ (decide (Int.ofNat i < iOf (lenL xs)) = false → (fillTo xs i ((0 : I.den), ([] : List UInt8), ([] : List UInt8), (0 : I.den), ()), ()) = (xs, ()) ∧ () = ())) (by kernel_rfl) ?_
  simp only [Nat.le_refl, Nat.succ_eq_add_one, Nat.reduceAdd, Nat.reduceLeDiff, Nat.zero_le, pair_unit, mk_eta, len_bne, eqD_bne, bne_iff_ne, bne_eq_false_iff_eq, beq_iff_eq, beq_eq_false_iff_ne, true_and, and_true, and_self, eq_self, lt_iff, nthI_nat, bnd_iff, decide_eq_true_eq, decide_eq_false_iff_not, Nat.sub_eq, nz, ne_eq, not_false_eq_true, Prod.mk.injEq, Int.reduceEq, Nat.reduceEqDiff, forall_const, implies_true, bne_self_eq_false, Bool.true_eq_false, Bool.false_eq_true, false_implies, reduceCtorEq, Bool.not_true, Bool.not_false, List.all_cons, List.all_nil, Bool.and_true, Bool.not_eq_true, Bool.not_eq_false, Bool.not_eq_true', Bool.not_eq_false', Decidable.not_not]; try simp only [lenL]
  exact fun hf => ⟨mkOK_len hf, ⟨0, Nat.zero_le _, rfl, rfl⟩, fun k hk _ => ⟨fun h => ⟨h, fun x hx => ⟨by rw [fill_len hk]; exact h, by rw [fill_len hk]; exact h, k + 1, h, Nat.sub_lt_sub_left h (Nat.lt_succ_self k), inc_in hf hk, fill_set hx⟩⟩, fun h => fill_end h⟩⟩
def s_eqNode : FSpec := { ps := [.v tNode, .v tNode], rs := [.v .bool], pre := fun _ => True, fn := fun x => (Fn.eqNd x.1 x.2.1, ()), upd := fun _ => () }
theorem fo_eqNode : FO 42 s_eqNode := by
  refine fo (specs := []) (clos := []) (fun x => []) trivial trivial Tryz.func42 rfl rfl ?_
  rintro ⟨⟨k, p, b, m, ⟨⟩⟩, ⟨k', p', b', m', ⟨⟩⟩, ⟨⟩⟩ -
  refine vcOf (nat_lit 1 ≤ (Nat.succ (nat_lit 1)).succ.succ ∧ nat_lit 1 ≤ (Nat.succ (nat_lit 1)).succ.succ ∧ ((k != k') = true → (false, ()) = (eqNd (k, p, b, m, ()) (k', p', b', m', ()), ()) ∧ () = ()) ∧ ((k != k') = false → nat_lit 2 ≤ (Nat.succ (nat_lit 1)).succ.succ ∧ nat_lit 2 ≤ (Nat.succ (nat_lit 1)).succ.succ ∧ ((!p == p') = true → (false, ()) = (eqNd (k, p, b, m, ()) (k', p', b', m', ()), ()) ∧ () = ()) ∧ ((!p == p') = false → nat_lit 3 ≤ (Nat.succ (nat_lit 1)).succ.succ ∧ nat_lit 3 ≤ (Nat.succ (nat_lit 1)).succ.succ ∧ ((!b == b') = true → (false, ()) = (eqNd (k, p, b, m, ()) (k', p', b', m', ()), ()) ∧ () = ()) ∧ ((!b == b') = false → nat_lit 4 ≤ (Nat.succ (nat_lit 1)).succ.succ ∧ nat_lit 4 ≤ (Nat.succ (nat_lit 1)).succ.succ ∧ ((m != m') = true → (false, ()) = (eqNd (k, p, b, m, ()) (k', p', b', m', ()), ()) ∧ () = ()) ∧ ((m != m') = false → (true, ()) = (eqNd (k, p, b, m, ()) (k', p', b', m', ()), ()) ∧ () = ()))))) (by kernel_rfl) ?_
  simp only [Nat.le_refl, Nat.succ_eq_add_one, Nat.reduceAdd, Nat.reduceLeDiff, Nat.zero_le, pair_unit, mk_eta, len_bne, eqD_bne, bne_iff_ne, bne_eq_false_iff_eq, beq_iff_eq, beq_eq_false_iff_ne, true_and, and_true, and_self, eq_self, lt_iff, nthI_nat, bnd_iff, decide_eq_true_eq, decide_eq_false_iff_not, Nat.sub_eq, nz, ne_eq, not_false_eq_true, Prod.mk.injEq, Int.reduceEq, Nat.reduceEqDiff, forall_const, implies_true, bne_self_eq_false, Bool.true_eq_false, Bool.false_eq_true, false_implies, reduceCtorEq, Bool.not_true, Bool.not_false, List.all_cons, List.all_nil, Bool.and_true, Bool.not_eq_true, Bool.not_eq_false, Bool.not_eq_true', Bool.not_eq_false', Decidable.not_not]; try simp only [lenL]
  repeat' (first | apply And.intro | intro _)
  all_goals (simp only [Fn.eqNd, nBool] at *; simp_all)
def s_eqNodeS : FSpec := { ps := [.v (.slice tNode), .v (.slice tNode)], rs := [.v .bool], pre := fun _ => True, fn := fun x => (eqL (α := Fn.Node) x.1 x.2.1, ()), upd := fun _ => () }
def L_eqNodeS (xs ys : List (tNode : Ty).den) : LoopAnn := { ι := Nat, inv := fun k => k ≤ xs.length ∧ xs.length = ys.length ∧ xs.take k = ys.take k, slots := fun k => [(5, .d I (Int.ofNat k))], objs := fun _ => [], μ := fun k => xs.length - k }
theorem fo_eqNodeS : FO 12 s_eqNodeS := by
  refine fo (specs := [(42, s_eqNode)]) (clos := []) (fun x => [(4, .lv [0, 1, 5] <| fun _ => L_eqNodeS x.1 x.2.1)]) ⟨fo_eqNode, trivial⟩ trivial Tryz.func12 rfl rfl ?_
  rintro ⟨xs, ys, ⟨⟩⟩ -
  refine vcOf (fits (lenL xs) → fits (lenL ys) → ((iOf (lenL xs) != iOf (lenL ys)) = true → (false, ()) = (eqL xs ys, ()) ∧ () = ()) ∧ ((iOf (lenL xs) != iOf (lenL ys)) = false → (∃ (i : Nat), (i ≤ List.length xs ∧ List.length xs = List.length ys ∧ List.take i xs = List.take i ys) ∧ (xs = xs ∧ ys = ys ∧ (0 : Int) = Int.ofNat i ∧ True) ∧ True ∧ True) ∧ ∀ (i : Nat), i ≤ List.length xs ∧ List.length xs = List.length ys ∧ List.take i xs = List.take i ys → fits (lenL xs) → (decide (Int.ofNat i < iOf (lenL xs)) = true → bnd (Int.ofNat i) (lenL xs) ∧ ∀ (x : Int × List UInt8 × List UInt8 × Int × Unit), nthI xs (Int.ofNat i) = some x → nat_lit 4 ≤ (Nat.succ (nat_lit 1)).succ.succ ∧ bnd (Int.ofNat i) (lenL ys) ∧ ∀ (x_1 : Int × List UInt8 × List UInt8 × Int × Unit), nthI ys (Int.ofNat i) = some x_1 → nat_lit 4 ≤ (Nat.succ (nat_lit 1)).succ.succ ∧ true = true ∧ True ∧ ((!eqNd (x.fst, x.snd.fst, x.snd.snd.fst, x.snd.snd.snd.fst, ()) (x_1.fst, x_1.snd.fst, x_1.snd.snd.fst, x_1.snd.snd.snd.fst, ())) = true → (false, ()) = (eqL xs ys, ()) ∧ () = ()) ∧ ((!eqNd (x.fst, x.snd.fst, x.snd.snd.fst, x.snd.snd.snd.fst, ()) (x_1.fst, x_1.snd.fst, x_1.snd.snd.fst, x_1.snd.snd.snd.fst, ())) = false → ∃ (j : Nat), (j ≤ List.length xs ∧ List.length xs = List.length ys ∧ List.take j xs = List.take j ys) ∧ (List.length xs).sub j < (List.length xs).sub i ∧ (xs = xs ∧ ys = ys ∧ wAdd IntKind.i64 (Int.ofNat i) (1 : Int) = Int.ofNat j ∧ True) ∧ True ∧ True)) ∧ (decide (Int.ofNat i < iOf (lenL xs)) = false → (true, ()) = (eqL xs ys, ()) ∧ () = ()))) (by kernel_rfl) ?_
  simp only [Nat.le_refl, Nat.succ_eq_add_one, Nat.reduceAdd, Nat.reduceLeDiff, Nat.zero_le, pair_unit, mk_eta, len_bne, eqD_bne, bne_iff_ne, bne_eq_false_iff_eq, beq_iff_eq, beq_eq_false_iff_ne, true_and, and_true, and_self, eq_self, lt_iff, nthI_nat, bnd_iff, decide_eq_true_eq, decide_eq_false_iff_not, Nat.sub_eq, nz, ne_eq, not_false_eq_true, Prod.mk.injEq, Int.reduceEq, Nat.reduceEqDiff, forall_const, implies_true, bne_self_eq_false, Bool.true_eq_false, Bool.false_eq_true, false_implies, reduceCtorEq, Bool.not_true, Bool.not_false, List.all_cons, List.all_nil, Bool.and_true, Bool.not_eq_true, Bool.not_eq_false, Bool.not_eq_true', Bool.not_eq_false', Decidable.not_not]; try simp only [lenL]
  exact fun hf1 hf2 => ⟨fun h => eqL_len h, fun h => ⟨⟨0, ⟨Nat.zero_le _, h, rfl⟩, rfl⟩, fun k ⟨hk, _, ht⟩ _ => ⟨fun hlt => ⟨hlt, fun x hx => ⟨h ▸ hlt, fun y hy => ⟨fun hne => eqL_ne hx hy (eqNd_ne hne), fun he => ⟨k + 1, ⟨hlt, h, take_eq_succ hx hy ht (eqNd_eq he)⟩, Nat.sub_lt_sub_left hlt (Nat.lt_succ_self k), inc_in hf1 hk⟩⟩⟩⟩, fun hge => eqL_end hge h ht⟩⟩⟩
def s_markNodeS : FSpec := { ps := [.mo tNode, .v I], rs := [.v I], pre := fun x => kOK x.2.1, fn := fun x => (atD 4 x.2.1 (List.length (α := Fn.Node) x.1), ()), upd := fun x => (markL markNd 4 (List.length (α := Fn.Node) x.1) x.2.1, ()) }
def L_markNodeS (xs : List Fn.Node) (k : Int) : LoopAnn := { ι := Nat, inv := fun j => j ≤ xs.length, slots := fun j => [(5, .d I (Int.ofNat j)), (1, .d I (atD 4 k j))], objs := fun j => [(0, .arr tNode (markTo markNd 4 xs k j) true)], μ := fun j => xs.length - j }
theorem fo_markNodeS : FO 13 s_markNodeS := by
  refine fo (specs := [(43, s_markText)]) (clos := []) (fun x => [(2, .lv [0, 1, 5] <| fun _ => L_markNodeS x.1 x.2.1)]) ⟨fo_markText, trivial⟩ trivial Tryz.func13 rfl rfl ?_
  rintro ⟨xs, k, ⟨⟩⟩ hp
  have hp : kOK k := hp
  refine vcOf ((∃ (i : Nat), i ≤ List.length xs ∧ ((0 : Nat) = (0 : Nat) ∧ k = atD (4 : Int) k i ∧ (0 : Int) = Int.ofNat i ∧ True) ∧ ((xs = markTo markNd (4 : Int) xs k i ∧ true = true) ∧ True) ∧ True) ∧ ∀ (i : Nat), i ≤ List.length xs → fits (lenL (markTo markNd (4 : Int) xs k i)) → (decide (Int.ofNat i < iOf (lenL (markTo markNd (4 : Int) xs k i))) = true → bnd (Int.ofNat i) (lenL (markTo markNd (4 : Int) xs k i)) ∧ (nat_lit 1 ≤ nat_lit 4 ∧ tN (Int.ofNat i) < lenL (markTo markNd (4 : Int) xs k i)) ∧ ∀ (x : Int × List UInt8 × List UInt8 × Int × Unit), nth (markTo markNd (4 : Int) xs k i) (tN (Int.ofNat i)) = some x → true = true ∧ wAdd IntKind.i64 (atD (4 : Int) k i) (1 : Int) ≤ (9000000000000000 : (PTy.v I).den) ∧ bnd (Int.ofNat i) (lenL ((markTo markNd (4 : Int) xs k i).set (tN (Int.ofNat i)) (atD (4 : Int) k i, x.snd.fst, x.snd.snd.fst, x.snd.snd.snd.fst, ()))) ∧ (nat_lit 2 ≤ nat_lit 4 ∧ tN (Int.ofNat i) < lenL ((markTo markNd (4 : Int) xs k i).set (tN (Int.ofNat i)) (atD (4 : Int) k i, x.snd.fst, x.snd.snd.fst, x.snd.snd.snd.fst, ()))) ∧ ∀ (x_1 : Int × List UInt8 × List UInt8 × Int × Unit), nth ((markTo markNd (4 : Int) xs k i).set (tN (Int.ofNat i)) (atD (4 : Int) k i, x.snd.fst, x.snd.snd.fst, x.snd.snd.snd.fst, ())) (tN (Int.ofNat i)) = some x_1 → true = true ∧ wAdd IntKind.i64 (wAdd IntKind.i64 (atD (4 : Int) k i) (1 : Int)) (1 : Int) ≤ (9000000000000000 : (PTy.v I).den) ∧ bnd (Int.ofNat i) (lenL (((markTo markNd (4 : Int) xs k i).set (tN (Int.ofNat i)) (atD (4 : Int) k i, x.snd.fst, x.snd.snd.fst, x.snd.snd.snd.fst, ())).set (tN (Int.ofNat i)) (x_1.fst, markText (wAdd IntKind.i64 (atD (4 : Int) k i) (1 : Int)), x_1.snd.snd.fst, x_1.snd.snd.snd.fst, ()))) ∧ (nat_lit 3 ≤ nat_lit 4 ∧ tN (Int.ofNat i) < lenL (((markTo markNd (4 : Int) xs k i).set (tN (Int.ofNat i)) (atD (4 : Int) k i, x.snd.fst, x.snd.snd.fst, x.snd.snd.snd.fst, ())).set (tN (Int.ofNat i)) (x_1.fst, markText (wAdd IntKind.i64 (atD (4 : Int) k i) (1 : Int)), x_1.snd.snd.fst, x_1.snd.snd.snd.fst, ()))) ∧ ∀ (x_2 : Int × List UInt8 × List UInt8 × Int × Unit), nth (((markTo markNd (4 : Int) xs k i).set (tN (Int.ofNat i)) (atD (4 : Int) k i, x.snd.fst, x.snd.snd.fst, x.snd.snd.snd.fst, ())).set (tN (Int.ofNat i)) (x_1.fst, markText (wAdd IntKind.i64 (atD (4 : Int) k i) (1 : Int)), x_1.snd.snd.fst, x_1.snd.snd.snd.fst, ())) (tN (Int.ofNat i)) = some x_2 → bnd (Int.ofNat i) (lenL ((((markTo markNd (4 : Int) xs k i).set (tN (Int.ofNat i)) (atD (4 : Int) k i, x.snd.fst, x.snd.snd.fst, x.snd.snd.snd.fst, ())).set (tN (Int.ofNat i)) (x_1.fst, markText (wAdd IntKind.i64 (atD (4 : Int) k i) (1 : Int)), x_1.snd.snd.fst, x_1.snd.snd.snd.fst, ())).set (tN (Int.ofNat i)) (x_2.fst, x_2.snd.fst, markText (wAdd IntKind.i64 (wAdd IntKind.i64 (atD (4 : Int) k i) (1 : Int)) (1 : Int)), x_2.snd.snd.snd.fst, ()))) ∧ (nat_lit 4 ≤ nat_lit 4 ∧ tN (Int.ofNat i) < lenL ((((markTo markNd (4 : Int) xs k i).set (tN (Int.ofNat i)) (atD (4 : Int) k i, x.snd.fst, x.snd.snd.fst, x.snd.snd.snd.fst, ())).set (tN (Int.ofNat i)) (x_1.fst, markText (wAdd IntKind.i64 (atD (4 : Int) k i) (1 : Int)), x_1.snd.snd.fst, x_1.snd.snd.snd.fst, ())).set (tN (Int.ofNat i)) (x_2.fst, x_2.snd.fst, markText (wAdd IntKind.i64 (wAdd IntKind.i64 (atD (4 : Int) k i) (1 : Int)) (1 : Int)), x_2.snd.snd.snd.fst, ()))) ∧ ∀ (x_3 : Int × List UInt8 × List UInt8 × Int × Unit), nth ((((markTo markNd (4 : Int) xs k i).set (tN (Int.ofNat i)) (atD (4 : Int) k i, x.snd.fst, x.snd.snd.fst, x.snd.snd.snd.fst, ())).set (tN (Int.ofNat i)) (x_1.fst, markText (wAdd IntKind.i64 (atD (4 : Int) k i) (1 : Int)), x_1.snd.snd.fst, x_1.snd.snd.snd.fst, ())).set (tN (Int.ofNat i)) (x_2.fst, x_2.snd.fst, markText (wAdd IntKind.i64 (wAdd IntKind.i64 (atD (4 : Int) k i) (1 : Int)) (1 : Int)), x_2.snd.snd.snd.fst, ())) (tN (Int.ofNat i)) = some x_3 → ∃ (j : Nat), j ≤ List.length xs ∧ (List.length xs).sub j < (List.length xs).sub i ∧ ((0 : Nat) = (0 : Nat) ∧ wAdd IntKind.i64 (wAdd IntKind.i64 (wAdd IntKind.i64 (wAdd IntKind.i64 (atD (4 : Int) k i) (1 : Int)) (1 : Int)) (1 : Int)) (1 : Int) = atD (4 : Int) k j ∧ wAdd IntKind.i64 (Int.ofNat i) (1 : Int) = Int.ofNat j ∧ True) ∧ ((((((markTo markNd (4 : Int) xs k i).set (tN (Int.ofNat i)) (atD (4 : Int) k i, x.snd.fst, x.snd.snd.fst, x.snd.snd.snd.fst, ())).set (tN (Int.ofNat i)) (x_1.fst, markText (wAdd IntKind.i64 (atD (4 : Int) k i) (1 : Int)), x_1.snd.snd.fst, x_1.snd.snd.snd.fst, ())).set (tN (Int.ofNat i)) (x_2.fst, x_2.snd.fst, markText (wAdd IntKind.i64 (wAdd IntKind.i64 (atD (4 : Int) k i) (1 : Int)) (1 : Int)), x_2.snd.snd.snd.fst, ())).set (tN (Int.ofNat i)) (x_3.fst, x_3.snd.fst, x_3.snd.snd.fst, wAdd IntKind.i64 (wAdd IntKind.i64 (wAdd IntKind.i64 (atD (4 : Int) k i) (1 : Int)) (1 : Int)) (1 : Int), ()) = markTo markNd (4 : Int) xs k j ∧ true = true) ∧ True) ∧ True) ∧ (decide (Int.ofNat i < iOf (lenL (markTo markNd (4 : Int) xs k i))) = false → (atD (4 : Int) k i, ()) = (atD (4 : Int) k (List.length xs), ()) ∧ (markTo markNd (4 : Int) xs k i, ()) = (markL markNd (4 : Int) (List.length xs) k, ()))) (by kernel_rfl) ?_
  simp only [Nat.le_refl, Nat.succ_eq_add_one, Nat.reduceAdd, Nat.reduceLeDiff, Nat.zero_le, pair_unit, mk_eta, len_bne, eqD_bne, bne_iff_ne, bne_eq_false_iff_eq, beq_iff_eq, beq_eq_false_iff_ne, true_and, and_true, and_self, eq_self, lt_iff, nthI_nat, bnd_iff, decide_eq_true_eq, decide_eq_false_iff_not, Nat.sub_eq, nz, ne_eq, not_false_eq_true, Prod.mk.injEq, Int.reduceEq, Nat.reduceEqDiff, forall_const, implies_true, bne_self_eq_false, Bool.true_eq_false, Bool.false_eq_true, false_implies, reduceCtorEq, Bool.not_true, Bool.not_false, List.all_cons, List.all_nil, Bool.and_true, Bool.not_eq_true, Bool.not_eq_false, Bool.not_eq_true', Bool.not_eq_false', Decidable.not_not]; try simp only [lenL]
  refine ⟨⟨0, Nat.zero_le _, ⟨atD_zero .., rfl⟩, (markTo_zero ..).symm⟩, fun j hj hf => ⟨fun hlt => ?_, fun hge => ?_⟩⟩
  · have e0 : (markTo markNd 4 xs k j).length = List.length xs := markTo_len hj
    rw [e0] at hlt hf
    have hd : (0 : Int) ≤ 4 ∧ (4 : Int) ≤ 16 := by decide
    simp only [tN_nat, at_add0 hp hd hj hf, at_add1 hp hd hj hf, at_add2 hp hd hj hf, at_add3 hp hd hj hf]
    refine ⟨e0 ▸ hlt, e0 ▸ hlt, fun x hx => ⟨at_small hp hd hj hf, by simp only [List.length_set]; rw [e0]; exact hlt, by simp only [List.length_set]; rw [e0]; exact hlt, fun x1 h1 => ?_⟩⟩
    cases nth_set h1
    refine ⟨at_small2 hp hd hj hf, by simp only [List.length_set]; rw [e0]; exact hlt, by simp only [List.length_set]; rw [e0]; exact hlt, fun x2 h2 => ?_⟩
    cases nth_set h2
    refine ⟨by simp only [List.length_set]; rw [e0]; exact hlt, by simp only [List.length_set]; rw [e0]; exact hlt, fun x3 h3 => ?_⟩
    cases nth_set h3
    refine ⟨j + 1, hlt, Nat.sub_lt_sub_left hlt (Nat.lt_succ_self j), ⟨atD_succ 4 k j, inc_in hf hj⟩, ?_⟩
    rw [List.set_set, List.set_set, List.set_set]
    exact markTo_set hlt
  · have hge : ¬ j < List.length xs := by rw [← markTo_len (f := markNd) (d := 4) (k := k) hj]; exact hge
    have : j = List.length xs := by omega
    subst this
    exact ⟨rfl, markTo_end hj hge⟩
end Go.Proofs.YtolminmmnckpkaaGreatDoor
namespace Go.Proofs.YtolminmmnckpkaaGreatDoor
open Go.Ab Go.Fn
theorem ft_law_FnExactTreeLines : FT 3 (lawSpec [.slice tNode] 1048576) := by
  refine foT (specs := [(7, s_szNodeS), (9, s_toNodeS), (8, s_TreeLines), (10, s_TreeLines), (11, s_eqStringS), (12, s_eqNodeS), (13, s_markNodeS), (14, s_markStringS), (15, s_heldStringS)]) (clos := []) (fun x => []) ⟨toT fo_szNodeS, toT fo_toNodeS, toT fo_sTreeLines, ft_TreeLines, toT fo_eqStringS, toT fo_eqNodeS, toT fo_markNodeS, toT fo_markStringS, toT fo_heldStringS, trivial⟩ trivial Tryz.func3 rfl rfl ?_
  rintro ⟨l, ⟨⟩⟩ hl
  refine vcOf (true = true ∧ ((0 : (PTy.v I).den) ≤ (1048576 : Int) ∧ (1048576 : Int) ≤ (1048576 : (PTy.v I).den)) ∧ (decide (szList szNd l (1048576 : Int) < (0 : Int)) = true → (true, ()) = (true, ()) ∧ () = ()) ∧ (decide (szList szNd l (1048576 : Int) < (0 : Int)) = false → true = true ∧ True ∧ true = true ∧ okN l ∧ true = true ∧ True ∧ true = true ∧ okN l ∧ true = true ∧ True ∧ ((!eqL (treeS l) (treeS l)) = false → ((treeC l != treeC l) = true → (false, ()) = (true, ()) ∧ () = ()) ∧ ((treeC l != treeC l) = false → true = true ∧ True ∧ true = true ∧ True ∧ ((!eqL l l) = true → (false, ()) = (true, ()) ∧ () = ()) ∧ ((!eqL l l) = false → true = true ∧ kOK (1 : Int) ∧ (decide (atD (4 : Int) (1 : Int) (List.length l) < (0 : Int)) = false → true = true ∧ True ∧ ((!eqL (treeS l) (treeS l)) = false → ((treeC l != treeC l) = true → (false, ()) = (true, ()) ∧ () = ()) ∧ ((treeC l != treeC l) = false → true = true ∧ kOK (1 : Int) ∧ true = true ∧ kOK (1 : Int) ∧ (decide (heldT (markL markText (1 : Int) (treeS l).length (1 : Int)) (1 : Int) < (0 : Int)) = true → (false, ()) = (true, ()) ∧ () = ()) ∧ (decide (heldT (markL markText (1 : Int) (treeS l).length (1 : Int)) (1 : Int) < (0 : Int)) = false → ((heldT (markL markText (1 : Int) (treeS l).length (1 : Int)) (1 : Int) != atD (1 : Int) (1 : Int) (treeS l).length) = true → (false, ()) = (true, ()) ∧ () = ()) ∧ ((heldT (markL markText (1 : Int) (treeS l).length (1 : Int)) (1 : Int) != atD (1 : Int) (1 : Int) (treeS l).length) = false → true = true ∧ True ∧ true = true ∧ okN l ∧ true = true ∧ True ∧ ((!eqL (treeS l) (treeS l)) = false → ((treeC l != treeC l) = true → (false, ()) = (true, ()) ∧ () = ()) ∧ ((treeC l != treeC l) = false → true = true ∧ kOK (1 : Int) ∧ (decide (heldT (markL markText (1 : Int) (treeS l).length (1 : Int)) (1 : Int) < (0 : Int)) = true → (false, ()) = (true, ()) ∧ () = ()) ∧ (decide (heldT (markL markText (1 : Int) (treeS l).length (1 : Int)) (1 : Int) < (0 : Int)) = false → ((heldT (markL markText (1 : Int) (treeS l).length (1 : Int)) (1 : Int) != atD (1 : Int) (1 : Int) (treeS l).length) = true → (false, ()) = (true, ()) ∧ () = ()) ∧ ((heldT (markL markText (1 : Int) (treeS l).length (1 : Int)) (1 : Int) != atD (1 : Int) (1 : Int) (treeS l).length) = false → (true, ()) = (true, ()) ∧ () = ())))) ∧ ((!eqL (treeS l) (treeS l)) = true → (false, ()) = (true, ()) ∧ () = ()))))) ∧ ((!eqL (treeS l) (treeS l)) = true → (false, ()) = (true, ()) ∧ () = ())) ∧ (decide (atD (4 : Int) (1 : Int) (List.length l) < (0 : Int)) = true → (false, ()) = (true, ()) ∧ () = ())))) ∧ ((!eqL (treeS l) (treeS l)) = true → (false, ()) = (true, ()) ∧ () = ()))) (by kernel_rfl) ?_
  simp only [Nat.le_refl, Nat.succ_eq_add_one, Nat.reduceAdd, Nat.reduceLeDiff, Nat.zero_le, pair_unit, mk_eta, len_bne, eqD_bne, bne_iff_ne, bne_eq_false_iff_eq, beq_iff_eq, beq_eq_false_iff_ne, true_and, and_true, and_self, eq_self, lt_iff, nthI_nat, bnd_iff, decide_eq_true_eq, decide_eq_false_iff_not, Nat.sub_eq, nz, ne_eq, not_false_eq_true, Prod.mk.injEq, Int.reduceEq, Nat.reduceEqDiff, forall_const, implies_true, bne_self_eq_false, Bool.true_eq_false, Bool.false_eq_true, false_implies, reduceCtorEq, Bool.not_true, Bool.not_false, List.all_cons, List.all_nil, Bool.and_true, Bool.not_eq_true, Bool.not_eq_false, Bool.not_eq_true', Bool.not_eq_false', Decidable.not_not]; try simp only [lenL]
  refine ⟨by constructor <;> decide, fun h => ?_⟩
  have ho := szNd_small h
  have e1 : ∀ n, heldT (markL markText 1 n 1) 1 = atD 1 1 n := fun n => heldT_mark
  have e2 : eqL (treeS l) (treeS l) = true := eqL_self _
  have e3 : eqL l l = true := eqL_self _
  have e4 : ∀ n, ¬ atD 4 1 n < 0 := fun n => by unfold atD; simp only [Int.ofNat_eq_natCast]; omega
  simp only [e1, e2, e3]
  exact ⟨ho, ho, fun _ => ⟨fun h => Bool.noConfusion h, fun _ => ⟨kOK_one, fun _ => ⟨fun _ => ⟨kOK_one, kOK_one, fun h => absurd h atD1_pos, fun _ => ⟨fun h => h trivial, fun _ => ⟨ho, fun _ => ⟨kOK_one, fun h => absurd h atD1_pos, fun _ h => h trivial⟩, fun h => Bool.noConfusion h⟩⟩⟩, fun h => Bool.noConfusion h⟩, fun h => absurd h (e4 _)⟩⟩, fun h => Bool.noConfusion h⟩
end Go.Proofs.YtolminmmnckpkaaGreatDoor
namespace Go.Proofs.YtolminmmnckpkaaGreatDoor
open Go.Ab Go.Fn
theorem met_tail {P : Program} {x : String × DataW Unit} {r : List (String × DataW Unit)} {W : World} (h : laidMet P (x :: r) W) : laidMet P r W := by
  obtain ⟨ps, ⟨g, t, cs, fuel, p, q, h1, h2, h3, h4, h5, h6⟩, hn, hc⟩ := h
  subst h6
  exact ⟨q, h5, (List.nodup_append.1 hn).2.1, fun b off hb => hc b off (List.mem_append_right _ hb)⟩
theorem tab_head {rest : List (String × DataW Unit)} {W : World} (h : laidMet Tryz.prog (("internal/strconv.uint64pow10", Rows.laid_internal_strconv_uint64pow10) :: rest) W) : tabP W :=
  Lib.tabIs_of_head (t := 228) (e := 198) (n := 20) gPow (by kernel_rfl) Tryz.underlying228 Tryz.underlying198 (by kernel_rfl) (by kernel_rfl) h
theorem tab_lt {W : World} (h : tabP W) {b : Nat} (hb : b < 3 + 1) : b < W.heap.size := by
  have h : W.var? Tryz.prog "internal/strconv.uint64pow10" = _ := h
  unfold World.var? at h
  rw [gPow] at h
  simp only [Option.bind_some] at h
  split at h
  · rename_i hh
    exact Nat.lt_of_lt_of_le hb (Array.getElem?_eq_some_iff.1 hh).1
  · cases h
end Go.Proofs.YtolminmmnckpkaaGreatDoor
namespace Go.Proofs.YtolminmmnckpkaaGreatDoor
open Go.Ab Go.Fn Go.ChangeShapes Go.WideShapes Go.ChangeAt Go.RowKit
theorem bulk {H : Type} : Bulk (Rows.uptoBulk (H := H)) Rows.uptoBulkAll := by
  constructor <;> intros <;> simp [Rows.uptoBulk, Rows.uptoBulkAll]
theorem own : ownKnob Tryz.prog.godebug = none := by kernel_rfl
def valsOf : Nat → DataW Unit → List Value
  | _, .lit (.int k v) => [.int k v]
  | n + 1, .agg l => l.flatMap (valsOf n)
  | _, _ => []
def layAt (h : Array _root_.Go.Obj) (b : Nat) (d : DataW Unit) : Array _root_.Go.Obj := h.modify b fun
  | .cells _ t frozen => .cells (valsOf 3 d).toArray t frozen
  | o => o
noncomputable def laidWorld (os : Os) : World :=
  { World.holding Tryz.prog os ⟨#[], #[], []⟩ with heap := layAt (layAt (layAt (layAt (layAt (World.holding Tryz.prog os ⟨#[], #[], []⟩).heap 6 Rows.laid_math_bits_deBruijn32tab) 7 Rows.laid_math_bits_deBruijn64tab) 3 Rows.laid_internal_strconv_uint64pow10) 5 Rows.laid_unicode_utf8_acceptRanges) 4 Rows.laid_unicode_utf8_first }
theorem laid_met (os : Os) : laidMet Tryz.prog Rows.fnExactTreeLinesUptoRow.laid ((laidWorld os).forCall (fun _ _ => 0) ⟨#[], #[.slice none 0 0], []⟩).memory :=
  laidMet_of_run3 8 (by kernel_rfl) (by kernel_rfl) (by kernel_rfl)
theorem reads (os : Os) {H : Type} (enc : TypeId × Value → H) : ∃ places, DataW.whole enc Tryz.prog ((laidWorld os).forCall (fun _ _ => 0) ⟨#[], #[.slice none 0 0], []⟩).memory Tryz.f3.params.toList Rows.fnExactTreeLinesSpec.vars false (#[.slice none 0 0] : Array Value).toList 8 = some ([.nil], [], places) :=
  ⟨[], by kernel_rfl⟩
set_option maxRecDepth 100000 in
theorem fnExactTreeLines_lifted (os : Os) (started : os.Started) (H : Type) (enc : TypeId × Value → H) (F : Stop.Interp) :
    ReturnsInHanded {} Tryz.checked os 3 .any ((Rows.OpenSpec.upto Rows.fnExactTreeLinesSpec).preRow enc Tryz.prog Tryz.f3 Rows.fnExactTreeLinesUptoRow.domain false Rows.fnExactTreeLinesUptoRow.laid) (((Rows.OpenSpec.upto Rows.fnExactTreeLinesSpec).at F).post enc Tryz.prog Tryz.f3 false true false false) := by
  obtain ⟨places, hx⟩ := reads os enc
  refine returnsInHanded_of_row (C := Tryz.checked) (s := Rows.OpenSpec.upto Rows.fnExactTreeLinesSpec) own started (by kernel_rfl) Tryz.func3
    (witness_row_at (enc := enc) (C := Tryz.checked) false (laidWorld os) #[.slice none 0 0] rfl (by kernel_rfl) (by kernel_rfl) (by kernel_rfl)
      (OpenSpec.preRow_of_cond 8 hx (by kernel_rfl) (fun k hk => by cases hk; kernel_rfl) (by kernel_rfl) (laid_met os))) ?_
  intro W base args ds gs before hval hW _ hk _ hL _ _
  have hT : tabP W := tab_head (met_tail (met_tail hL))
  refine law_contractT bulk ft_law_FnExactTreeLines (by kernel_rfl) rfl ?_ (tb := 4) rfl (by kernel_rfl) hT (fun b hb => tab_lt hT (show b < 3 + 1 from hb)) (tabT [] []) hval hW (of_decide_eq_true (hk _ rfl))
  intro ds hl
  match ds, hl with
  | [_], _ => rfl
theorem fnExactTreeLines_said : Rows.FnExactTreeLinesUptoSaid :=
  OpenClaim.holds_of_cond 3 Tryz.f3 rfl rfl rfl rfl rfl rfl rfl ⟨rfl, rfl, rfl, rfl, rfl⟩ rfl rfl rfl rfl rfl (by kernel_rfl) Tryz.func3 (by kernel_rfl)
    (of_decide_eq_true (by kernel_rfl)) (by unfold Func.isWrapper; first | (rw [if_pos (by decide +kernel)]; kernel_rfl) | (rw [if_neg (by decide +kernel)]; exact ⟨rfl, rfl⟩))
    (fun os started H enc _ F => by rw [OpenClaim.pre_eq_preRow]; exact fnExactTreeLines_lifted os started H enc F)
theorem noStandIn : (Tryz.f3.params.toList.all fun t => !(Tryz.pinned.checked.prog.wantsStandIn t)) = true := by kernel_rfl
theorem fnExactTreeLines_plain (f : FuncId) (fn : Func) (hf : Tryz.pinned.checked.prog.funcNamed "loop.example/g00798/laws.FnExactTreeLines" = some f) (hfn : Tryz.pinned.checked.prog.funcs[f]? = some fn) :
    true = Tryz.pinned.checked.prog.looks [] ∧ ∀ (j : Nat) t, fn.params[j]? = some t → Tryz.pinned.checked.prog.wantsStandIn t = false := by
  obtain rfl : f = 3 := Option.some.inj ((show Tryz.prog.funcNamed "loop.example/g00798/laws.FnExactTreeLines" = some 3 by kernel_rfl).symm.trans hf) |>.symm
  obtain rfl : fn = Tryz.f3 := (Option.some.inj (Tryz.func3.symm.trans hfn)).symm
  refine ⟨by kernel_rfl, fun j t ht => ?_⟩
  have h := List.all_eq_true.1 noStandIn t (by simpa using Array.mem_of_getElem? ht)
  simpa using h
theorem fnExactTreeLines_holds : Rows.FnExactTreeLinesUptoCardSaid :=
  Claim7.holds_tied_plain_at .later [] _ _ _ _ fnExactTreeLines_said (fun _ h => by cases h) (by kernel_rfl) (fun _ h => by cases h) fnExactTreeLinesUpto_row_tie rfl ⟨rfl, rfl⟩ (by kernel_rfl) rfl fnExactTreeLines_plain (by kernel_rfl)
end Go.Proofs.YtolminmmnckpkaaGreatDoor
