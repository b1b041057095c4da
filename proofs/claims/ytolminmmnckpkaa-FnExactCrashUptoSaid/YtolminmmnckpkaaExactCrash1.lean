/- Every function that the law FnExactCrash reaches does what its specification (a function on plain data) says; the law answers true wherever what it reads is of bulk at most 1048576. Conditions: that bound. -/
import Derived.Test.YtolminmmnckpkaaAb2
import Derived.JoinedCond
import Derived.Laws.BitsLemmas
import Derived.Lib.Bytealg
import Derived.Lib.ItoaLen
import Derived.Lib.ItoaMem
import Derived.Lib.Join
import Derived.OpenShut
import Derived.OwnWalkIn
import Derived.ProofKit
import Derived.Shelf.GgSortFunc.RowK
import Derived.Shelf.Lays8
import Derived.Shelf.SlLaysF0
import Derived.Shelf.SlLaysM
import Derived.Shelf.SlLaysN
import Derived.Shelf.SlicesG.CompactS
import Derived.Shelf.SortM.Plain
import Derived.Shelf.SortM.SortNone
import Derived.Shelf.Spec.SlicesGrow
import Derived.Sort.Walk0
import Derived.Test.YtolminmmnckpkaaRows
import Derived.WalkKit
import Derived.Test.YtolminmmnckpkaaExactCrash0
set_option autoImplicit true
set_option relaxedAutoImplicit true
set_option maxHeartbeats 4000000
set_option maxRecDepth 4000
set_option linter.unusedVariables false
set_option linter.unusedSimpArgs false
namespace Go.Fn
open Go.Ab
theorem rec_ok {k : Int} {p b : List UInt8} {m : Int} {o : Bool} (h : recFault (k, p, b, m, o, ()) = 0) : pathOK p = true ∧ bad8 k b = false ∧ bad3 k b o = false ∧ bad4 k m = false ∧ within k 1 4 = true := by
  unfold recFault at h
  simp only at h
  cases h1 : within k 1 4 <;> cases h2 : pathOK p <;> cases h3 : bad8 k b <;> cases h4 : bad3 k b o <;> cases h5 : bad4 k m <;> simp [h1, h2, h3, h4, h5] at h ⊢
theorem path_len {p : List UInt8} (h : pathOK p = true) : p.length ≤ 36 := by
  unfold pathOK at h
  simp only [Bool.and_eq_true, decide_eq_true_eq] at h
  exact h.1.1
theorem body_len {k : Int} {b : List UInt8} (h : bad8 k b = false) : b.length ≤ 20 := by
  unfold bad8 at h
  simp only [Bool.or_eq_false_iff, decide_eq_false_iff_not] at h
  have := h.1
  omega
theorem mode_in {k m : Int} (h : bad4 k m = false) : 0 ≤ m ∧ m ≤ 511 := by
  unfold bad4 within at h
  simp only [Bool.or_eq_false_iff, Bool.not_eq_false', Bool.and_eq_true, decide_eq_true_eq] at h
  exact h.1
def b8 (n : Int) : UInt8 := UInt8.ofNat (IntKind.u8.wrap n).toNat
def two (n : Int) : List UInt8 := [UInt8.ofNat (n / 256).toNat, UInt8.ofNat (n % 256).toNat]
def enc (r : Rec) : List UInt8 := catS (catS (catS (catS [b8 (if r.2.2.2.2.1 = true then 5 else r.1), b8 (iOf (lenL r.2.1))] r.2.1) (two r.2.2.2.1)) [b8 (iOf (lenL r.2.2.1))]) r.2.2.1
theorem two_quo {n : Int} (h : 0 ≤ n ∧ n < 65536) : [UInt8.ofNat (IntKind.u8.wrap (wQuo .i64 n 256)).toNat, UInt8.ofNat (IntKind.u8.wrap (wRem n 256)).toNat] = two n := by
  have e1 : wQuo .i64 n 256 = n / 256 := by
    unfold wQuo
    rw [Int.tdiv_eq_ediv_of_nonneg h.1, i64_in (by omega)]
  have e2 : wRem n 256 = n % 256 := by unfold wRem; rw [Int.tmod_eq_emod_of_nonneg h.1]
  rw [e1, e2, IntKind.wrap_u8, IntKind.wrap_u8]
  unfold two
  rw [show n / 256 % 256 = n / 256 by omega, show n % 256 % 256 = n % 256 by omega]
theorem two_shr {n : Int} (h : 0 ≤ n ∧ n < 65536) : [UInt8.ofNat (IntKind.u8.wrap (wShr .i64 n 8)).toNat, UInt8.ofNat (IntKind.u8.wrap n).toNat] = two n := by
  have e1 : wShr .i64 n 8 = n / 256 := rfl
  rw [e1, IntKind.wrap_u8, IntKind.wrap_u8]
  unfold two
  rw [show n / 256 % 256 = n / 256 by omega]
def encRec (r : Rec) : List UInt8 := if recFault r = 0 then enc r else []
def encCode (r : Rec) : Int := if recFault r = 0 then 0 else 1
theorem enc_no {r : Rec} (h : ¬ recFault r = 0) : [] = encRec r ∧ 1 = encCode r := by unfold encRec encCode; rw [if_neg h, if_neg h]; exact ⟨rfl, rfl⟩
theorem enc_yes {r : Rec} (h : recFault r = 0) : recFault r = 0 ∧ enc r = encRec r ∧ 0 = encCode r := by unfold encRec encCode; rw [if_pos h, if_pos h]; exact ⟨h, rfl, rfl⟩
def szRec (r : Rec) (n : Int) : Int := if n - r.2.1.length < 0 then -1 else if n - r.2.1.length - r.2.2.1.length < 0 then -1 else n - r.2.1.length - r.2.2.1.length
theorem szRec_a {k m n : Int} {p b : List UInt8} {o : Bool} (hn : -1 ≤ n ∧ n ≤ 1048576) (hf : fits p.length) (h : wSub .i64 n (iOf p.length) < 0) : -1 = szRec (k, p, b, m, o, ()) n := by
  have hf : p.length < 1099511627776 := hf
  unfold iOf at h
  rw [wSub_in (by omega)] at h
  unfold szRec
  rw [if_pos h]
theorem szRec_b {k m n : Int} {p b : List UInt8} {o : Bool} (hn : -1 ≤ n ∧ n ≤ 1048576) (hf : fits p.length) (h : ¬ wSub .i64 n (iOf p.length) < 0) (hg : fits b.length) : (wSub .i64 (wSub .i64 n (iOf p.length)) (iOf b.length) < 0 → -1 = szRec (k, p, b, m, o, ()) n) ∧ (¬ wSub .i64 (wSub .i64 n (iOf p.length)) (iOf b.length) < 0 → wSub .i64 (wSub .i64 n (iOf p.length)) (iOf b.length) = szRec (k, p, b, m, o, ()) n) := by
  have hf : p.length < 1099511627776 := hf
  have hg : b.length < 1099511627776 := hg
  unfold iOf at h ⊢
  rw [wSub_in (a := n) (by omega)] at h ⊢
  rw [wSub_in (by omega)]
  unfold szRec
  simp only
  rw [if_neg h]
  refine ⟨fun h2 => by rw [if_pos h2], fun h2 => by rw [if_neg h2]⟩
theorem szRec_small {k m n : Int} {p b : List UInt8} {o : Bool} (hn : n ≤ 1048576) (h : ¬ szRec (k, p, b, m, o, ()) n < 0) : p.length ≤ 1048576 ∧ b.length ≤ 1048576 := by
  unfold szRec at h
  simp only at h
  split at h
  · omega
  · split at h
    · omega
    · omega
end Go.Fn
namespace Go.Fn
open Go.Ab
def rec0 : Rec := (0, [], [], 0, false, ())
def byteN (t : List UInt8) (i : Nat) : Nat := (t.getD i 0).toNat
def n1 (t : List UInt8) : Nat := 2 + byteN t 1
def n2 (t : List UInt8) : Nat := n1 t + 3 + byteN t (n1 t + 2)
def decL (t : List UInt8) : Nat := if t.length < 2 then 0 else if t.length < n1 t + 3 then 0 else if t.length < n2 t then 0 else n2 t
def mode2 (t : List UInt8) (i : Nat) : Int := Int.ofNat (256 * byteN t i + byteN t (i + 1))
def decK (t : List UInt8) : Rec := (if byteN t 0 = 5 then 3 else Int.ofNat (byteN t 0), subL t 2 (n1 t), subL t (n1 t + 3) (n2 t), mode2 t (n1 t), decide (byteN t 0 = 5), ())
def decR (t : List UInt8) : Rec := if decL t = 0 then rec0 else decK t
def decN (t : List UInt8) : Int := Int.ofNat (decL t)
def rdT (t : List UInt8) (k : Int) : List UInt8 := t.drop k.toNat
def rdR (t : List UInt8) (k : Int) : Rec := decR (rdT t k)
def rdB (t : List UInt8) (k : Int) : Bool := !(decide (decL (rdT t k) = 0))
def rdN (t : List UInt8) (k : Int) : Int := if decL (rdT t k) = 0 then 0 else Int.ofNat (k.toNat + decL (rdT t k))
def rdP (k : Int) : Nat := k.toNat + 2
def rd1 (t : List UInt8) (k : Int) : Nat := k.toNat + n1 (rdT t k)
def rdQ (t : List UInt8) (k : Int) : Nat := k.toNat + n1 (rdT t k) + 3
def rdb1 (t : List UInt8) (k : Int) : Nat := byteN (rdT t k) 1
def rdb2 (t : List UInt8) (k : Int) : Nat := byteN (rdT t k) (n1 (rdT t k) + 2)
theorem byteN_lt (t : List UInt8) (i : Nat) : byteN t i < 256 := by unfold byteN; exact UInt8.toNat_lt _
theorem byteN_at {t : List UInt8} {i : Nat} {c : UInt8} (h : t[i]? = some c) : c.toNat = byteN t i := by
  unfold byteN; rw [List.getD_eq_getElem?_getD, h]; rfl
theorem wA {a b : Nat} (h : a + b ≤ 1000000000) : wAdd .i64 (Int.ofNat a) (Int.ofNat b) = Int.ofNat (a + b) := by
  rw [wAdd_in (by simp only [Int.ofNat_eq_natCast]; omega)]; simp
theorem byte_in (c : UInt8) : IntKind.i64.wrap (Int.ofNat c.toNat) = Int.ofNat c.toNat := i64_byte c
theorem iOf_lt {a b : Nat} : (iOf a < Int.ofNat b) = (a < b) := by unfold iOf; simp
theorem gt_iOf {a b : Nat} : (Int.ofNat b > iOf a) = (a < b) := by unfold iOf; simp
theorem bLH {a b n : Nat} : boundLH (Int.ofNat a) (Int.ofNat b) n = (a ≤ b ∧ b ≤ n) := by
  unfold boundLH
  refine propext ⟨fun h => ⟨Int.ofNat_le.1 h.2.1, Int.ofNat_le.1 h.2.2⟩, fun h => ⟨Int.natCast_nonneg _, Int.ofNat_le.2 h.1, Int.ofNat_le.2 h.2⟩⟩
theorem mode_or {c d : Nat} (hc : c < 256) (hd : d < 256) : wBits .or .i64 (wShl .i64 (Int.ofNat c) 8) (Int.ofNat d) = Int.ofNat (256 * c + d) := by
  have e1 : wShl .i64 (Int.ofNat c) 8 = ((c * 256 : Nat) : Int) := by
    show IntKind.i64.wrap ((c : Int) * 2 ^ 8) = _
    rw [IntKind.wrap_i64]
    omega
  rw [e1]
  show IntKind.i64.wrap ((BitVec.ofInt 64 ((c * 256 : Nat) : Int) ||| BitVec.ofInt 64 ((d : Nat) : Int)).toNat : Int) = _
  rw [BitVec.ofInt_natCast, BitVec.ofInt_natCast, BitVec.toNat_or, BitVec.toNat_ofNat, BitVec.toNat_ofNat, Nat.mod_eq_of_lt (by omega), Nat.mod_eq_of_lt (by omega)]
  have e2 : c * 256 ||| d = c * 256 + d := by
    have := Nat.shiftLeft_add_eq_or_of_lt (i := 8) (b := d) hd c
    rw [Nat.shiftLeft_eq] at this
    exact this.symm
  rw [e2, IntKind.wrap_i64]
  simp only [Int.ofNat_eq_natCast]
  omega
theorem dec_a {t : List UInt8} (h : t.length < 2) : rec0 = decR t ∧ 0 = decN t := by
  have e : decL t = 0 := by unfold decL; rw [if_pos h]
  unfold decR decN; rw [if_pos e, e]; exact ⟨rfl, rfl⟩
theorem dec_b {t : List UInt8} (h1 : ¬ t.length < 2) (h : t.length < n1 t + 3) : rec0 = decR t ∧ 0 = decN t := by
  have e : decL t = 0 := by unfold decL; rw [if_neg h1, if_pos h]
  unfold decR decN; rw [if_pos e, e]; exact ⟨rfl, rfl⟩
theorem dec_c {t : List UInt8} (h1 : ¬ t.length < 2) (h2 : ¬ t.length < n1 t + 3) (h : t.length < n2 t) : rec0 = decR t ∧ 0 = decN t := by
  have e : decL t = 0 := by unfold decL; rw [if_neg h1, if_neg h2, if_pos h]
  unfold decR decN; rw [if_pos e, e]; exact ⟨rfl, rfl⟩
theorem decL_eq {t : List UInt8} (h1 : ¬ t.length < 2) (h2 : ¬ t.length < n1 t + 3) (h : ¬ t.length < n2 t) : decL t = n2 t := by unfold decL; rw [if_neg h1, if_neg h2, if_neg h]
theorem n2_pos (t : List UInt8) : n2 t ≠ 0 := by unfold n2; omega
theorem dec_d {t : List UInt8} (h1 : ¬ t.length < 2) (h2 : ¬ t.length < n1 t + 3) (h : ¬ t.length < n2 t) : decR t = decK t ∧ decN t = Int.ofNat (n2 t) := by
  have e := decL_eq h1 h2 h
  unfold decR decN; rw [e, if_neg (n2_pos t)]; exact ⟨rfl, rfl⟩
theorem dec_k {t : List UInt8} (h1 : ¬ t.length < 2) (h2 : ¬ t.length < n1 t + 3) (h : ¬ t.length < n2 t) {c0 c1 c2 : UInt8} (e0 : c0.toNat = byteN t 0) (e1 : c1.toNat = byteN t (n1 t)) (e2 : c2.toNat = byteN t (n1 t + 1)) :
    (Int.ofNat c0.toNat = 5 → (3, subL t (tN 2) (n1 t), subL t (n1 t + 3) (n2 t), wBits .or .i64 (wShl .i64 (Int.ofNat c1.toNat) 8) (Int.ofNat c2.toNat), true, ()) = decR t ∧ Int.ofNat (n2 t) = decN t) ∧
    (¬ Int.ofNat c0.toNat = 5 → (Int.ofNat c0.toNat, subL t (tN 2) (n1 t), subL t (n1 t + 3) (n2 t), wBits .or .i64 (wShl .i64 (Int.ofNat c1.toNat) 8) (Int.ofNat c2.toNat), false, ()) = decR t ∧ Int.ofNat (n2 t) = decN t) := by
  obtain ⟨d1, d2⟩ := dec_d h1 h2 h
  rw [d1, d2, mode_or (UInt8.toNat_lt _) (UInt8.toNat_lt _), e0, e1, e2]
  refine ⟨fun h5 => ⟨?_, rfl⟩, fun h5 => ⟨?_, rfl⟩⟩
  · have h5 : byteN t 0 = 5 := Int.ofNat.inj h5
    unfold decK mode2
    rw [if_pos h5, decide_eq_true h5]
    rfl
  · have h5 : ¬ byteN t 0 = 5 := fun e => h5 (by rw [e]; rfl)
    unfold decK mode2
    rw [if_neg h5, decide_eq_false h5]
    rfl
theorem decL_a {t : List UInt8} (h : t.length < 2) : decL t = 0 := by unfold decL; rw [if_pos h]
theorem decL_b {t : List UInt8} (h1 : ¬ t.length < 2) (h : t.length < n1 t + 3) : decL t = 0 := by unfold decL; rw [if_neg h1, if_pos h]
theorem decL_c {t : List UInt8} (h1 : ¬ t.length < 2) (h2 : ¬ t.length < n1 t + 3) (h : t.length < n2 t) : decL t = 0 := by unfold decL; rw [if_neg h1, if_neg h2, if_pos h]
theorem rd_no {t : List UInt8} {k : Nat} (h : decL (t.drop k) = 0) : rec0 = rdR t (Int.ofNat k) ∧ 0 = rdN t (Int.ofNat k) ∧ false = rdB t (Int.ofNat k) := by
  have h : decL (rdT t (Int.ofNat k)) = 0 := h
  unfold rdR rdN rdB decR
  rw [if_pos h, if_pos h, decide_eq_true h]
  exact ⟨rfl, rfl, rfl⟩
theorem subL_drop {t : List UInt8} {k a b : Nat} : subL (t.drop k) a b = subL t (k + a) (k + b) := by
  unfold subL
  rw [List.drop_take, List.drop_take, List.drop_drop, Nat.add_sub_add_left]
theorem byteN_drop {t : List UInt8} {k i : Nat} : byteN (t.drop k) i = byteN t (k + i) := by
  unfold byteN; simp [List.getD_eq_getElem?_getD, List.getElem?_drop]
theorem rd_k {t : List UInt8} {k : Nat} (h1 : ¬ (t.drop k).length < 2) (h2 : ¬ (t.drop k).length < n1 (t.drop k) + 3) (h : ¬ (t.drop k).length < n2 (t.drop k)) {c0 c1 c2 : UInt8} (e0 : c0.toNat = byteN t k) (e1 : c1.toNat = byteN t (k + n1 (t.drop k))) (e2 : c2.toNat = byteN t (k + n1 (t.drop k) + 1)) :
    (Int.ofNat c0.toNat = 5 → (3, subL t (k + 2) (k + n1 (t.drop k)), subL t (k + n1 (t.drop k) + 3) (k + n2 (t.drop k)), Int.ofNat (256 * c1.toNat + c2.toNat), true, ()) = rdR t (Int.ofNat k) ∧ Int.ofNat (k + n2 (t.drop k)) = rdN t (Int.ofNat k) ∧ true = rdB t (Int.ofNat k)) ∧
    (¬ Int.ofNat c0.toNat = 5 → (Int.ofNat c0.toNat, subL t (k + 2) (k + n1 (t.drop k)), subL t (k + n1 (t.drop k) + 3) (k + n2 (t.drop k)), Int.ofNat (256 * c1.toNat + c2.toNat), false, ()) = rdR t (Int.ofNat k) ∧ Int.ofNat (k + n2 (t.drop k)) = rdN t (Int.ofNat k) ∧ true = rdB t (Int.ofNat k)) := by
  obtain ⟨d1, d2⟩ := dec_d h1 h2 h
  have d3 := decL_eq h1 h2 h
  have r1 : rdR t (Int.ofNat k) = decK (t.drop k) := d1
  have hd : rdT t (Int.ofNat k) = t.drop k := rfl
  have r2 : rdN t (Int.ofNat k) = Int.ofNat (k + n2 (t.drop k)) := by unfold rdN; rw [hd, d3, if_neg (n2_pos _)]; rfl
  have r3 : rdB t (Int.ofNat k) = true := by unfold rdB; rw [hd, d3, decide_eq_false (n2_pos _)]; rfl
  have b0 : byteN t k = byteN (t.drop k) 0 := by rw [byteN_drop]; rfl
  have hm : mode2 (t.drop k) (n1 (t.drop k)) = Int.ofNat (256 * c1.toNat + c2.toNat) := by unfold mode2; rw [byteN_drop, byteN_drop, e1, e2]; rfl
  rw [r1, r2, r3, e0, b0]
  unfold decK
  rw [hm, subL_drop, subL_drop]
  refine ⟨fun h5 => ⟨?_, rfl, rfl⟩, fun h5 => ⟨?_, rfl, rfl⟩⟩
  · have h5 : byteN (t.drop k) 0 = 5 := Int.ofNat.inj h5
    rw [if_pos h5, decide_eq_true h5]
    rfl
  · have h5 : ¬ byteN (t.drop k) 0 = 5 := fun e => h5 (by rw [e]; rfl)
    rw [if_neg h5, decide_eq_false h5]
    rfl
theorem mode_add (c d : UInt8) : wAdd .i64 (wMul .i64 256 (Int.ofNat c.toNat)) (Int.ofNat d.toNat) = Int.ofNat (256 * c.toNat + d.toNat) := by
  have h1 := c.toNat_lt
  have h2 := d.toNat_lt
  have : wMul .i64 256 (Int.ofNat c.toNat) = Int.ofNat (256 * c.toNat) := by
    rw [wMul_in (by simp only [Int.ofNat_eq_natCast]; omega)]; simp
  rw [this, wA (by omega)]
end Go.Fn
namespace Go.Fn
open Go.Ab
def decBad (t : List UInt8) : Bool := decide (decN t = 0) || !(decide (decN t = iOf t.length))
def decCode (t : List UInt8) : Int := if short t = false then 2 else if decBad t = true then 3 else recFault (decR t)
def decRec (t : List UInt8) : Rec := if decCode t = 0 then decR t else rec0
def eqRec (a b : Rec) : Bool := decide (a.1 = b.1) && (decide (a.2.1 = b.2.1) && (decide (a.2.2.1 = b.2.2.1) && (decide (a.2.2.2.1 = b.2.2.2.1) && decide (a.2.2.2.2.1 = b.2.2.2.2.1))))
theorem first_dec {t : List UInt8} : first [.b (!short t), .n 2, .b (decBad t), .n 3, .b true, .n (recFault (decR t))] = decCode t := by
  unfold decCode
  cases short t <;> cases decBad t <;> rfl
theorem dr_bad {t : List UInt8} (h : ¬ decCode t = 0) : rec0 = decRec t := by unfold decRec; rw [if_neg h]
theorem dr_ok {t : List UInt8} (h : decCode t = 0) : decR t = decRec t ∧ 0 = decCode t := by unfold decRec; rw [if_pos h]; exact ⟨rfl, h.symm⟩
theorem dr_long {t : List UInt8} (h : short t = false) : rec0 = decRec t ∧ 2 = decCode t := by
  have e : decCode t = 2 := by unfold decCode; rw [if_pos h]
  exact ⟨dr_bad (by rw [e]; decide), e.symm⟩
theorem dr_form {t : List UInt8} (h : ¬ short t = false) (h2 : decBad t = true) : rec0 = decRec t ∧ 3 = decCode t := by
  have e : decCode t = 3 := by unfold decCode; rw [if_neg h, if_pos h2]
  exact ⟨dr_bad (by rw [e]; decide), e.symm⟩
theorem dr_rec {t : List UInt8} (h : ¬ short t = false) (h2 : ¬ decBad t = true) : decCode t = recFault (decR t) := by unfold decCode; rw [if_neg h, if_neg h2]
theorem sub_len {t : List UInt8} {a b : Nat} : (subL t a b).length ≤ t.length := by unfold subL; simp; omega
theorem decR_path (t : List UInt8) : (decR t).2.1.length ≤ t.length := by
  unfold decR
  split
  · exact Nat.zero_le _
  · exact sub_len
theorem rd0_R {t : List UInt8} : rdR t 0 = decR t := by unfold rdR rdT; rfl
theorem rd0_B {t : List UInt8} : rdB t 0 = !(decide (decN t = 0)) := by
  have : rdB t 0 = !(decide (decL t = 0)) := rfl
  rw [this]
  unfold decN
  by_cases h : decL t = 0 <;> simp [h]
theorem rd0_N {t : List UInt8} (h : rdB t 0 = true) : rdN t 0 = decN t := by
  have h : (!(decide (decL t = 0))) = true := h
  have h : ¬ decL t = 0 := by simpa using h
  have : rdN t 0 = if decL t = 0 then 0 else Int.ofNat (0 + decL t) := rfl
  rw [this, if_neg h, Nat.zero_add]; rfl
theorem decBad_none {t : List UInt8} (h : rdB t 0 = false) : decBad t = true := by
  rw [rd0_B] at h
  have h : decN t = 0 := by simpa using h
  unfold decBad; rw [decide_eq_true h]; rfl
theorem decBad_len {t : List UInt8} (h : rdB t 0 = true) (h2 : ¬ rdN t 0 = iOf t.length) : decBad t = true := by
  rw [rd0_N h] at h2
  unfold decBad; rw [decide_eq_false h2]; simp
theorem decBad_no {t : List UInt8} (h : rdB t 0 = true) (h2 : rdN t 0 = iOf t.length) : ¬ decBad t = true := by
  rw [rd0_N h] at h2
  rw [rd0_B] at h
  have h : ¬ decN t = 0 := by simpa using h
  unfold decBad; rw [decide_eq_true h2, decide_eq_false h]; simp
theorem eqRec_self (a : Rec) : eqRec a a = true := by unfold eqRec; simp
end Go.Fn
namespace Go.Fn
open Go.Ab
theorem bl_irrefl : ∀ x : List UInt8, Op.bytesLess x x = false := by
  intro x
  induction x with
  | nil => rfl
  | cons a r ih => simp [Op.bytesLess, ih]
def lessL : List (List UInt8) → List (List UInt8) → Bool
  | [], [] => false
  | [], _ :: _ => true
  | _ :: _, [] => false
  | x :: v, y :: w => if x = y then lessL v w else Op.bytesLess x y
def cmpS (x y : List UInt8) : Int := if Op.bytesLess x y = true then -1 else if x = y then 0 else 1
def cmpL : List (List UInt8) → List (List UInt8) → Int
  | [], [] => 0
  | [], _ :: _ => -1
  | _ :: _, [] => 1
  | x :: v, y :: w => if cmpS x y = 0 then cmpL v w else cmpS x y
theorem cmpS_zero {x y : List UInt8} : cmpS x y = 0 ↔ x = y := by
  unfold cmpS
  constructor
  · intro h
    split at h
    · cases h
    · split at h
      · assumption
      · cases h
  · rintro rfl
    rw [bl_irrefl]; simp
theorem cmpL_less : ∀ (v w : List (List UInt8)), decide (cmpL v w < 0) = lessL v w
  | [], [] => rfl
  | [], _ :: _ => rfl
  | _ :: _, [] => rfl
  | x :: v, y :: w => by
    unfold cmpL lessL
    by_cases h : x = y
    · rw [if_pos (cmpS_zero.2 h), if_pos h, cmpL_less v w]
    · rw [if_neg (fun e => h (cmpS_zero.1 e)), if_neg h]
      unfold cmpS
      cases hb : Op.bytesLess x y with
      | true => simp
      | false => simp [h]
def LessAt (v w : List (List UInt8)) (i : Nat) : Prop := i ≤ v.length ∧ i ≤ w.length ∧ lessL v w = lessL (v.drop i) (w.drop i)
def CmpAt (v w : List (List UInt8)) (i : Nat) : Prop := i ≤ v.length ∧ i ≤ w.length ∧ cmpL v w = cmpL (v.drop i) (w.drop i)
theorem less_ne {v w : List (List UInt8)} {i : Nat} {x y : List UInt8} (h : LessAt v w i) (hx : v[i]? = some x) (hy : w[i]? = some y) (hn : ¬ x = y) : Op.bytesLess x y = lessL v w := by
  rw [h.2.2, drop_at hx, drop_at hy]; unfold lessL; rw [if_neg hn]
theorem less_eq {v w : List (List UInt8)} {i : Nat} {x y : List UInt8} (h : LessAt v w i) (hx : v[i]? = some x) (hy : w[i]? = some y) (hn : x = y) : LessAt v w (i + 1) := by
  refine ⟨get_lt hx, get_lt hy, ?_⟩
  rw [h.2.2, drop_at hx, drop_at hy]
  have : lessL (x :: v.drop (i + 1)) (y :: w.drop (i + 1)) = if x = y then lessL (v.drop (i + 1)) (w.drop (i + 1)) else Op.bytesLess x y := rfl
  rw [this, if_pos hn]
theorem less_end {v w : List (List UInt8)} {i : Nat} (h : LessAt v w i) (he : ¬ i < v.length ∨ ¬ i < w.length) : decide (iOf v.length < iOf w.length) = lessL v w := by
  obtain ⟨h1, h2, h3⟩ := h
  rw [h3]
  unfold iOf
  rcases he with he | he
  · rw [List.drop_eq_nil_of_le (by omega : v.length ≤ i)]
    cases hw : w.drop i with
    | nil =>
      have : w.length ≤ i := by
        have := congrArg List.length hw
        simp at this; omega
      simp [lessL]; omega
    | cons a r =>
      have : i < w.length := by
        have := congrArg List.length hw
        simp at this; omega
      simp [lessL]; omega
  · rw [List.drop_eq_nil_of_le (by omega : w.length ≤ i)]
    cases hv : v.drop i with
    | nil =>
      have : v.length ≤ i := by
        have := congrArg List.length hv
        simp at this; omega
      simp [lessL]; omega
    | cons a r => simp [lessL]; omega
theorem cmp_out {v w : List (List UInt8)} {i : Nat} (h : CmpAt v w i) (h1 : i < v.length) (h2 : ¬ i < w.length) : 1 = cmpL v w := by
  rw [h.2.2, List.drop_eq_nil_of_le (by omega : w.length ≤ i), List.drop_eq_getElem_cons h1]
  rfl
theorem cmp_ne {v w : List (List UInt8)} {i : Nat} {x y : List UInt8} (h : CmpAt v w i) (hx : v[i]? = some x) (hy : w[i]? = some y) (hn : ¬ cmpS x y = 0) : cmpS x y = cmpL v w := by
  rw [h.2.2, drop_at hx, drop_at hy]; unfold cmpL; rw [if_neg hn]
theorem cmp_eq {v w : List (List UInt8)} {i : Nat} {x y : List UInt8} (h : CmpAt v w i) (hx : v[i]? = some x) (hy : w[i]? = some y) (hn : cmpS x y = 0) : CmpAt v w (i + 1) := by
  refine ⟨get_lt hx, get_lt hy, ?_⟩
  rw [h.2.2, drop_at hx, drop_at hy]
  have : cmpL (x :: v.drop (i + 1)) (y :: w.drop (i + 1)) = if cmpS x y = 0 then cmpL (v.drop (i + 1)) (w.drop (i + 1)) else cmpS x y := rfl
  rw [this, if_pos hn]
theorem cmp_end {v w : List (List UInt8)} {i : Nat} (h : CmpAt v w i) (he : ¬ i < v.length) : (iOf v.length < iOf w.length → -1 = cmpL v w) ∧ (¬ iOf v.length < iOf w.length → 0 = cmpL v w) := by
  obtain ⟨h1, h2, h3⟩ := h
  rw [h3, List.drop_eq_nil_of_le (by omega : v.length ≤ i)]
  unfold iOf
  cases hw : w.drop i with
  | nil =>
    have : w.length ≤ i := by
      have := congrArg List.length hw
      simp at this; omega
    exact ⟨fun h => by omega, fun _ => rfl⟩
  | cons a r =>
    have : i < w.length := by
      have := congrArg List.length hw
      simp at this; omega
    exact ⟨fun _ => rfl, fun h => by omega⟩
def pathLess (a b : List UInt8) : Bool := pathOK a && (pathOK b && lessL (split 47 a) (split 47 b))
end Go.Fn
namespace Go.Fn
open Go.Ab
def lastI (c : UInt8) : List UInt8 → Int
  | [] => -1
  | x :: r => if lastI c r ≥ 0 then lastI c r + 1 else if x = c then 0 else -1
theorem lastI_ge (c : UInt8) : ∀ t, -1 ≤ lastI c t ∧ lastI c t < t.length
  | [] => by simp [lastI]
  | x :: r => by
    have := lastI_ge c r
    unfold lastI
    simp only [List.length_cons]
    split
    · omega
    · split <;> omega
theorem lastI_none {c : UInt8} : ∀ {t : List UInt8}, (∀ j : Nat, t[j]? ≠ some c) → lastI c t = -1
  | [], _ => rfl
  | x :: r, h => by
    have h1 := lastI_none (t := r) fun j => by have := h (j + 1); simpa using this
    have h2 : ¬ x = c := fun e => h 0 (by simp [e])
    unfold lastI
    rw [h1, if_neg (by omega), if_neg h2]
theorem lastI_at {c : UInt8} : ∀ {t : List UInt8} {i : Nat}, t[i]? = some c → (∀ j : Nat, i < j → t[j]? ≠ some c) → lastI c t = Int.ofNat i
  | [], i, h, _ => by simp at h
  | x :: r, 0, h, hn => by
    have h1 := lastI_none (t := r) fun j => by have := hn (j + 1) (by omega); simpa using this
    have h2 : x = c := by simpa using h
    unfold lastI
    rw [h1, if_neg (by omega), if_pos h2]; rfl
  | x :: r, i + 1, h, hn => by
    have h1 := lastI_at (t := r) (i := i) (by simpa using h) fun j hj => by have := hn (j + 1) (by omega); simpa using this
    unfold lastI
    rw [h1, if_pos (by simp)]; rfl
def lastS (t u : List UInt8) : Int := match u with | [c] => lastI c t | _ => 0
def parentS (t : List UInt8) : List UInt8 := subL t 0 (lastI 47 t).toNat
def NoneFrom (c : UInt8) (t : List UInt8) (k : Int) : Prop := -1 ≤ k ∧ k < t.length ∧ ∀ j : Nat, k < Int.ofNat j → t[j]? ≠ some c
theorem nf_start (c : UInt8) (t : List UInt8) : NoneFrom c t (Int.ofNat t.length - 1) := by
  refine ⟨by simp only [Int.ofNat_eq_natCast]; omega, by simp only [Int.ofNat_eq_natCast]; omega, fun j hj => ?_⟩
  rw [List.getElem?_eq_none (by simp only [Int.ofNat_eq_natCast] at hj; omega)]
  simp
theorem nf_step {c : UInt8} {t : List UInt8} {k : Int} {x : UInt8} (h : NoneFrom c t k) (hk : 0 ≤ k) (hx : nthI t k = some x) (hn : ¬ x = c) : NoneFrom c t (k - 1) := by
  obtain ⟨h1, h2, h3⟩ := h
  refine ⟨by omega, by omega, fun j hj => ?_⟩
  by_cases he : Int.ofNat j = k
  · have : t[j]? = some x := by rw [← he] at hx; exact hx
    rw [this]
    simpa using hn
  · exact h3 j (by omega)
theorem nf_found {c : UInt8} {t : List UInt8} {k : Int} {x : UInt8} (h : NoneFrom c t k) (hk : 0 ≤ k) (hx : nthI t k = some x) (he : x = c) : k = lastI c t := by
  obtain ⟨i, rfl⟩ := Int.eq_ofNat_of_zero_le hk
  subst he
  exact (lastI_at hx fun j hj => h.2.2 j (Int.ofNat_lt.2 hj)).symm
theorem nf_end {c : UInt8} {t : List UInt8} {k : Int} (h : NoneFrom c t k) (hk : ¬ k ≥ 0) : -1 = lastI c t :=
  (lastI_none fun j => h.2.2 j (by have := Int.natCast_nonneg j; simp only [Int.ofNat_eq_natCast]; omega)).symm
theorem par_found {t : List UInt8} {k : Int} {x : UInt8} (h : NoneFrom 47 t k) (hk : k ≥ 0) (hx : nthI t k = some x) (he : Int.ofNat x.toNat = 47) : boundLo k t.length ∧ subL t 0 (tN k) = parentS t := by
  have hx2 : x = 47 := byte_iff.mp (show Int.ofNat x.toNat = Int.ofNat (47 : UInt8).toNat from he)
  have e := nf_found h hk hx hx2
  refine ⟨⟨hk, by have := h.2.1; omega⟩, ?_⟩
  unfold parentS
  rw [← e]; rfl
theorem par_end {t : List UInt8} {k : Int} (h : NoneFrom 47 t k) (hk : ¬ k ≥ 0) : [] = parentS t := by
  unfold parentS
  rw [← nf_end h hk]
  simp [subL]
theorem par_max {t : List UInt8} : boundLo (mm true (lastS t [47]) 0) t.length ∧ subL t 0 (tN (mm true (lastS t [47]) 0)) = parentS t := by
  have h := lastI_ge 47 t
  have e : lastS t [47] = lastI 47 t := rfl
  rw [e]
  unfold mm parentS tN boundLo
  simp only [if_true]
  split
  · rename_i hl
    exact ⟨⟨Int.le_refl _, by omega⟩, by rw [show (lastI 47 t).toNat = 0 by omega]; rfl⟩
  · exact ⟨⟨by omega, by omega⟩, rfl⟩
theorem parent_len {t : List UInt8} : (parentS t).length ≤ t.length := sub_len
end Go.Fn
namespace Go.Fn
open Go.Ab
def atPath (p : List UInt8) (r : Rec) : Bool := decide (r.2.1 = p)
end Go.Fn
namespace Go.Fn
open Go.Ab
theorem bl_trans : ∀ {x y z : List UInt8}, Op.bytesLess x y = true → Op.bytesLess y z = true → Op.bytesLess x z = true
  | _, [], _, h, _ => by simp [Op.bytesLess] at h
  | _, _ :: _, [], _, h => by simp [Op.bytesLess] at h
  | [], _ :: _, _ :: _, _, _ => by simp [Op.bytesLess]
  | a :: x, b :: y, c :: z, h1, h2 => by
    simp only [Op.bytesLess, Bool.or_eq_true, Bool.and_eq_true, decide_eq_true_eq, beq_iff_eq] at h1 h2 ⊢
    rcases h1 with h1 | ⟨rfl, h1⟩
    · rcases h2 with h2 | ⟨rfl, h2⟩
      · exact .inl (UInt8.lt_trans h1 h2)
      · exact .inl h1
    · rcases h2 with h2 | ⟨rfl, h2⟩
      · exact .inl h2
      · exact .inr ⟨rfl, bl_trans h1 h2⟩
theorem bl_total : ∀ {x y : List UInt8}, Op.bytesLess x y = false → Op.bytesLess y x = false → x = y
  | [], [], _, _ => rfl
  | [], _ :: _, h, _ => by simp [Op.bytesLess] at h
  | _ :: _, [], _, h => by simp [Op.bytesLess] at h
  | a :: x, b :: y, h1, h2 => by
    simp only [Op.bytesLess, Bool.or_eq_false_iff, Bool.and_eq_false_iff, decide_eq_false_iff_not, beq_eq_false_iff_ne, ne_eq] at h1 h2
    have e : a = b := by
      have h3 := UInt8.not_lt.1 h1.1
      have h4 := UInt8.not_lt.1 h2.1
      exact UInt8.le_antisymm h4 h3
    subst e
    have h1 : Op.bytesLess x y = false := by rcases h1.2 with h | h; exact absurd rfl h; exact h
    have h2 : Op.bytesLess y x = false := by rcases h2.2 with h | h; exact absurd rfl h; exact h
    rw [bl_total h1 h2]
theorem bl_asymm {x y : List UInt8} (h : Op.bytesLess x y = true) : Op.bytesLess y x = false := by
  cases e : Op.bytesLess y x with
  | false => rfl
  | true => have := bl_trans h e; rw [bl_irrefl] at this; cases this
theorem bl_ne {x y : List UInt8} (h : Op.bytesLess x y = true) : x ≠ y := by rintro rfl; rw [bl_irrefl] at h; cases h
theorem bl_flip {x y : List UInt8} (h1 : Op.bytesLess x y = false) (h2 : x ≠ y) : Op.bytesLess y x = true := by
  cases e : Op.bytesLess y x with
  | true => rfl
  | false => exact absurd (bl_total h1 e) h2
end Go.Fn
namespace Go.Fn
open Go.Ab
theorem sorted_eq {α : Type} {lt : α → α → Bool} (ha : ∀ x y, lt x y = true → lt y x = false) : ∀ {zs ys : List α}, ys.Perm zs → zs.Pairwise (fun a b => lt a b = true) → ys.Pairwise (fun a b => lt b a = false) → ys = zs
  | [], ys, hp, _, _ => by simpa using hp.length_eq
  | z :: zs, [], hp, _, _ => by simpa using hp.length_eq
  | z :: zs, y :: ys, hp, hz, hy => by
    rw [List.pairwise_cons] at hz hy
    have hym : y ∈ z :: zs := hp.mem_iff.1 List.mem_cons_self
    have hzm : z ∈ y :: ys := hp.mem_iff.2 List.mem_cons_self
    have e : y = z := by
      rcases List.mem_cons.1 hym with h | h
      · exact h
      · rcases List.mem_cons.1 hzm with h' | h'
        · exact h'.symm
        · have h1 := hz.1 y h
          have h2 := hy.1 z h'
          rw [h1] at h2; cases h2
    subst e
    rw [sorted_eq ha (List.Perm.cons_inv hp) hz.2 hy.2]
end Go.Fn
namespace Go.Fn
open Go.Ab
def ltN (a b : Slot) : Bool := Op.bytesLess a.1 b.1
def SortedN (l : List Slot) : Prop := l.Pairwise (fun a b => ltN a b = true)
def put (s : Slot) : List Slot → List Slot
  | [] => [s]
  | y :: r => if Op.bytesLess y.1 s.1 = true then y :: put s r else if y.1 = s.1 then s :: r else s :: y :: r
theorem put_mem {s x : Slot} : ∀ {l : List Slot}, x ∈ put s l → x = s ∨ x ∈ l
  | [], h => by simp [put] at h; exact .inl h
  | y :: r, h => by
    unfold put at h
    split at h
    · rcases List.mem_cons.1 h with rfl | h
      · exact .inr List.mem_cons_self
      · rcases put_mem h with h | h
        · exact .inl h
        · exact .inr (List.mem_cons_of_mem _ h)
    · split at h
      · rcases List.mem_cons.1 h with h | h
        · exact .inl h
        · exact .inr (List.mem_cons_of_mem _ h)
      · rcases List.mem_cons.1 h with h | h
        · exact .inl h
        · exact .inr h
theorem put_sorted {s : Slot} : ∀ {l : List Slot}, SortedN l → SortedN (put s l)
  | [], _ => by unfold SortedN put; simp
  | y :: r, h => by
    unfold SortedN at h
    rw [List.pairwise_cons] at h
    unfold put
    split
    · rename_i hlt
      refine List.pairwise_cons.2 ⟨fun x hx => ?_, put_sorted h.2⟩
      rcases put_mem hx with rfl | hx
      · exact hlt
      · exact h.1 x hx
    · rename_i hlt
      split
      · rename_i he
        refine List.pairwise_cons.2 ⟨fun x hx => ?_, h.2⟩
        have := h.1 x hx
        unfold ltN at this ⊢
        rw [← he]; exact this
      · rename_i he
        have h3 : Op.bytesLess s.1 y.1 = true := bl_flip (by simpa using hlt) he
        refine List.pairwise_cons.2 ⟨fun x hx => ?_, List.pairwise_cons.2 h⟩
        rcases List.mem_cons.1 hx with rfl | hx
        · exact h3
        · exact bl_trans h3 (h.1 x hx)
theorem drop_cons (n : List UInt8) (y : Slot) (r : List Slot) : drop n (y :: r) = if y.1 = n then drop n r else y :: drop n r := by
  unfold drop nameIs
  rw [List.filter_cons]
  by_cases h : y.1 = n
  · simp [h]
  · simp [h]
theorem drop_all {n : List UInt8} {l : List Slot} (h : ∀ x ∈ l, x.1 ≠ n) : drop n l = l := by
  unfold drop
  rw [List.filter_eq_self]
  intro x hx
  simp [nameIs, h x hx]
theorem put_perm {s : Slot} : ∀ {l : List Slot}, SortedN l → (put s l).Perm (drop s.1 l ++ [s])
  | [], _ => by unfold put drop; simp
  | y :: r, h => by
    unfold SortedN at h
    rw [List.pairwise_cons] at h
    unfold put
    rw [drop_cons]
    split
    · rename_i hlt
      rw [if_neg (bl_ne hlt)]
      exact List.Perm.cons _ (put_perm h.2)
    · rename_i hlt
      split
      · rename_i he
        rw [drop_all (l := r) (fun x hx e => by
          have := h.1 x hx
          unfold ltN at this
          exact bl_ne this (he.trans e.symm))]
        exact List.perm_append_comm (l₁ := [s])
      · rename_i he
        have h3 : Op.bytesLess s.1 y.1 = true := bl_flip (by simpa using hlt) he
        rw [drop_all (l := r) (fun x hx e => by
          have := bl_trans h3 (h.1 x hx)
          exact bl_ne this e.symm)]
        exact List.perm_append_comm (l₁ := [s])
theorem ltN_asymm (x y : Slot) (h : ltN x y = true) : ltN y x = false := bl_asymm h
theorem sort_put {s : Slot} {l ys : List Slot} (hl : SortedN l) (hp : ys.Perm (drop s.1 l ++ [s])) (hs : ys.Pairwise (fun a b => ltN b a = false)) : ys = put s l :=
  sorted_eq ltN_asymm (hp.trans (put_perm hl).symm) (put_sorted hl) hs
theorem put_len (s : Slot) : ∀ l : List Slot, (put s l).length ≤ l.length + 1
  | [] => by simp [put]
  | y :: r => by
    unfold put
    split
    · have := put_len s r; simp; omega
    · split <;> simp
theorem sorted_drop {n : List UInt8} {l : List Slot} (h : SortedN l) : SortedN (drop n l) := List.Pairwise.filter _ h
theorem slots_sorted {ino : List Inode} {l : List Slot} (h : slotsOK ino l = true) : SortedN l := by
  unfold slotsOK at h
  rw [allI_iff] at h
  have hstep : ∀ (k : Nat) (x y : Slot), l[k]? = some x → l[k + 1]? = some y → ltN x y = true := fun k x y hx hy => by
    have := h (k + 1) y hy
    simp only [Nat.zero_add, badSlot, Bool.not_eq_true', Bool.or_eq_false_iff, Bool.and_eq_false_iff, decide_eq_false_iff_not] at this
    have h2 := this.1.2
    rcases h2 with h2 | h2
    · exact absurd (by simp only [Int.ofNat_eq_natCast]; omega) h2
    · unfold prevSlot at h2
      have e : nthI l (Int.ofNat (k + 1) - 1) = some x := by
        have : (Int.ofNat (k + 1) - 1).toNat = k := by simp only [Int.ofNat_eq_natCast]; omega
        unfold nthI; rw [this]; exact hx
      rw [e] at h2
      simp only [leS, Bool.or_eq_false_iff, beq_eq_false_iff_ne] at h2
      exact bl_flip h2.1 h2.2
  have hall : ∀ (n k : Nat) (x y : Slot), l[k]? = some x → l[k + 1 + n]? = some y → ltN x y = true := by
    intro n
    induction n with
    | zero => intro k x y hx hy; exact hstep k x y hx hy
    | succ n ih =>
      intro k x y hx hy
      have hlt : k + 1 + n < l.length := by
        have := (List.getElem?_eq_some_iff.1 hy).1; omega
      have hz := List.getElem?_eq_getElem hlt
      exact bl_trans (ih k x _ hx hz) (hstep (k + 1 + n) _ y hz hy)
  unfold SortedN
  rw [List.pairwise_iff_getElem]
  intro i j hi hj hij
  exact hall (j - i - 1) i _ _ (List.getElem?_eq_getElem hi) (by rw [show i + 1 + (j - i - 1) = j by omega]; exact List.getElem?_eq_getElem hj)
end Go.Fn
namespace Go.Fn
open Go.Ab
def LeadAt (s : Slot) (l : List Slot) (k : Nat) : Prop := k ≤ l.length ∧ ∀ (j : Nat) (y : Slot), j < k → l[j]? = some y → Op.bytesLess y.1 s.1 = true
theorem put_lead {s : Slot} : ∀ {k : Nat} {l : List Slot}, LeadAt s l k → put s l = l.take k ++ put s (l.drop k)
  | 0, l, _ => by simp
  | k + 1, [], h => by have := h.1; simp at this
  | k + 1, y :: r, h => by
    have hy : Op.bytesLess y.1 s.1 = true := h.2 0 y (Nat.succ_pos _) rfl
    have h' : LeadAt s r k := ⟨by have := h.1; simp at this; omega, fun j z hj hz => h.2 (j + 1) z (by omega) (by simpa using hz)⟩
    show put s (y :: r) = y :: (r.take k) ++ put s (r.drop k)
    rw [put, if_pos hy, put_lead h']; rfl
theorem put_end {s : Slot} {l : List Slot} {k : Nat} (h : LeadAt s l k) (he : ¬ k < l.length) : l.take k ++ [s] ++ l.drop k = put s l := by
  rw [put_lead h, List.drop_eq_nil_of_le (by omega)]; simp [put]
theorem put_same {s y : Slot} {l : List Slot} {k : Nat} (h : LeadAt s l k) (hy : l[k]? = some y) (hn : ¬ Op.bytesLess y.1 s.1 = true) (he : y.1 = s.1) : l.take k ++ [s] ++ l.drop (k + 1) = put s l := by
  rw [put_lead h, drop_at hy, put, if_neg hn, if_pos he]; simp
theorem put_more {s y : Slot} {l : List Slot} {k : Nat} (h : LeadAt s l k) (hy : l[k]? = some y) (hn : ¬ Op.bytesLess y.1 s.1 = true) (he : ¬ y.1 = s.1) : l.take k ++ [s] ++ l.drop k = put s l := by
  rw [put_lead h]
  conv => rhs; rw [drop_at hy, put, if_neg hn, if_neg he]
  rw [drop_at hy]; simp
theorem lead_step {s y : Slot} {l : List Slot} {k : Nat} (h : LeadAt s l k) (hy : l[k]? = some y) (hn : Op.bytesLess y.1 s.1 = true) : LeadAt s l (k + 1) := by
  have hk := (List.getElem?_eq_some_iff.1 hy).1
  refine ⟨hk, fun j z hj hz => ?_⟩
  rcases Nat.lt_or_ge j k with h1 | h1
  · exact h.2 j z h1 hz
  · obtain rfl : j = k := by omega
    rw [hy] at hz; cases hz; exact hn
theorem sub_take {α : Type} (l : List α) (k : Nat) : subL l 0 (tN (Int.ofNat k)) = l.take k := by unfold subL tN; simp
theorem sub_drop {α : Type} (l : List α) (k : Nat) : subL l (tN (Int.ofNat k)) l.length = l.drop k := by unfold subL tN; simp
theorem lead0 (s : Slot) (l : List Slot) : LeadAt s l 0 := ⟨Nat.zero_le _, fun j y hj => absurd hj (Nat.not_lt_zero _)⟩
theorem put_fit {s : Slot} {l : List Slot} (hl : l.length ≤ 1000000) (k j : Nat) : fits ((subL l 0 (tN (Int.ofNat k))).length + [s].length) ∧ fits ((subL l 0 (tN (Int.ofNat k)) ++ [s]).length + (subL l (tN (Int.ofNat j)) l.length).length) := by
  rw [sub_take, sub_drop]
  unfold fits
  simp only [List.length_take, List.length_append, List.length_drop, List.length_cons, List.length_nil]
  omega
theorem bound_lo {k n : Nat} (h : k ≤ n) : boundLo (Int.ofNat k) n := ⟨Int.natCast_nonneg _, Int.ofNat_le.2 h⟩
end Go.Fn
namespace Go.Fn
open Go.Ab
def shortWT (n t : List UInt8) : Bool := short n && short t
def fullD (d : Disk) (n : List UInt8) : Bool := decide (slotAt d.2.1 n < 0) && decide ((d.2.1.length : Int) = 24) || decide (d.2.2.2.1 = 1000000)
def writeC (d : Disk) (n t : List UInt8) : Int := if shortWT n t = false then 2 else if diskOK d = false then 1 else if nameOK n = false then 10 else if iOf t.length > 4096 then 8 else if fullD d n = true then 7 else 0
def wroteD (d : Disk) (n t : List UInt8) : Disk := tidy (d.1 ++ [(d.2.2.2.1, t, false, ())], put (n, d.2.2.2.1, ()) d.2.1, d.2.2.1, d.2.2.2.1 + 1, ())
def writeD (d : Disk) (n t : List UInt8) : Disk := if writeC d n t = 0 then wroteD d n t else if writeC d n t = 2 then zeroDisk else if writeC d n t = 1 then zeroDisk else d
def renameC (d : Disk) (f t : List UInt8) : Int := if shortWT f t = false then 2 else if diskOK d = false then 1 else if nameOK t = false then 10 else if readB d f = false then 5 else 0
def renamedD (d : Disk) (f t : List UInt8) : Disk := tidy (d.1, put (t, slotId d.2.1 f, ()) (drop f d.2.1), d.2.2.1, d.2.2.2.1, ())
def renameD (d : Disk) (f t : List UInt8) : Disk := if renameC d f t = 0 then renamedD d f t else if renameC d f t = 2 then zeroDisk else if renameC d f t = 1 then zeroDisk else d
theorem w_code {d : Disk} {n t : List UInt8} {c : Int} (h : writeC d n t = c) (h0 : c ≠ 0) (h1 : c ≠ 1) (h2 : c ≠ 2) : d = writeD d n t ∧ c = writeC d n t := by
  unfold writeD
  rw [h, if_neg h0, if_neg h2, if_neg h1]
  exact ⟨rfl, rfl⟩
theorem w_two {d : Disk} {n t : List UInt8} (hs : shortWT n t = false) : zeroDisk = writeD d n t ∧ 2 = writeC d n t := by
  have h : writeC d n t = 2 := by unfold writeC; rw [if_pos hs]
  unfold writeD
  rw [h]; exact ⟨rfl, rfl⟩
theorem w_one {d : Disk} {n t : List UInt8} (hs : shortWT n t = true) (hd : diskOK d = false) : zeroDisk = writeD d n t ∧ 1 = writeC d n t := by
  have h : writeC d n t = 1 := by unfold writeC; rw [if_neg (by rw [hs]; exact fun e => Bool.noConfusion e), if_pos hd]
  unfold writeD
  rw [h]; exact ⟨rfl, rfl⟩
theorem w_c {d : Disk} {n t : List UInt8} (hs : shortWT n t = true) (hd : diskOK d = true) : writeC d n t = if nameOK n = false then 10 else if iOf t.length > 4096 then 8 else if fullD d n = true then 7 else 0 := by
  unfold writeC
  rw [if_neg (by rw [hs]; exact fun e => Bool.noConfusion e), if_neg (by rw [hd]; exact fun e => Bool.noConfusion e)]
theorem w_ten {d : Disk} {n t : List UInt8} (hs : shortWT n t = true) (hd : diskOK d = true) (hw : nameOK n = false) : d = writeD d n t ∧ 10 = writeC d n t :=
  w_code (by rw [w_c hs hd, if_pos hw]) (by decide) (by decide) (by decide)
theorem w_eight {d : Disk} {n t : List UInt8} (hs : shortWT n t = true) (hd : diskOK d = true) (hw : nameOK n = true) (hl : iOf t.length > 4096) : d = writeD d n t ∧ 8 = writeC d n t :=
  w_code (by rw [w_c hs hd, if_neg (by rw [hw]; exact fun e => Bool.noConfusion e), if_pos hl]) (by decide) (by decide) (by decide)
theorem w_seven {d : Disk} {n t : List UInt8} (hs : shortWT n t = true) (hd : diskOK d = true) (hw : nameOK n = true) (hl : ¬ iOf t.length > 4096) (hf : fullD d n = true) : d = writeD d n t ∧ 7 = writeC d n t :=
  w_code (by rw [w_c hs hd, if_neg (by rw [hw]; exact fun e => Bool.noConfusion e), if_neg hl, if_pos hf]) (by decide) (by decide) (by decide)
theorem w_ok {d : Disk} {n t : List UInt8} (hs : shortWT n t = true) (hd : diskOK d = true) (hw : nameOK n = true) (hl : ¬ iOf t.length > 4096) (hf : fullD d n = false) : wroteD d n t = writeD d n t ∧ 0 = writeC d n t := by
  have h : writeC d n t = 0 := by rw [w_c hs hd, if_neg (by rw [hw]; exact fun e => Bool.noConfusion e), if_neg hl, if_neg (by rw [hf]; exact fun e => Bool.noConfusion e)]
  unfold writeD
  rw [h]; exact ⟨rfl, rfl⟩
theorem sh_wt {n t : List UInt8} (h1 : ¬ iOf n.length > 65536) (h2 : ¬ iOf t.length > 65536) : shortWT n t = true := by
  unfold shortWT short iOf at *
  rw [decide_eq_true (by omega), decide_eq_true (by omega)]; rfl
theorem sh_n {n t : List UInt8} (h1 : iOf n.length > 65536) : shortWT n t = false := by
  unfold shortWT short iOf at *
  rw [decide_eq_false (p := n.length ≤ 65536) (by omega)]; rfl
theorem sh_t {n t : List UInt8} (h1 : iOf t.length > 65536) : shortWT n t = false := by
  unfold shortWT short iOf at *
  rw [decide_eq_false (p := t.length ≤ 65536) (by omega), Bool.and_false]
theorem disk_next {d : Disk} (h : diskOK d = true) : 1 ≤ d.2.2.2.1 ∧ d.2.2.2.1 ≤ 1000000 := by
  unfold diskOK at h
  simp only [Bool.and_eq_true] at h
  have h1 := h.1.1
  unfold badHead within at h1
  simp only [Bool.not_eq_true', Bool.or_eq_false_iff, Bool.not_eq_false', Bool.and_eq_true, decide_eq_true_eq] at h1
  omega
theorem full_a {b : List Slot} {a : List Inode} {c : List Slot} {d : Int} {n : List UInt8} (h1 : slotAt b n < 0) (h2 : iOf b.length = 24) : fullD (a, b, c, d, ()) n = true := by
  unfold fullD iOf at *
  rw [decide_eq_true (p := slotAt b n < 0) h1, decide_eq_true (p := (b.length : Int) = 24) h2]; rfl
theorem full_b {b : List Slot} {a : List Inode} {c : List Slot} {d : Int} {n : List UInt8} (h : d = 1000000) : fullD (a, b, c, d, ()) n = true := by
  unfold fullD
  rw [decide_eq_true (p := d = 1000000) h, Bool.or_true]
theorem full_no {b : List Slot} {a : List Inode} {c : List Slot} {d : Int} {n : List UInt8} (h : ¬ d = 1000000) (h2 : ¬ slotAt b n < 0 ∨ ¬ iOf b.length = 24) : fullD (a, b, c, d, ()) n = false := by
  unfold fullD iOf at *
  rw [decide_eq_false (p := d = 1000000) h, Bool.or_false]
  rcases h2 with h2 | h2
  · rw [decide_eq_false (p := slotAt b n < 0) h2]; rfl
  · rw [decide_eq_false (p := (b.length : Int) = 24) h2, Bool.and_false]
theorem r_code {d : Disk} {f t : List UInt8} {c : Int} (h : renameC d f t = c) (h0 : c ≠ 0) (h1 : c ≠ 1) (h2 : c ≠ 2) : d = renameD d f t ∧ c = renameC d f t := by
  unfold renameD
  rw [h, if_neg h0, if_neg h2, if_neg h1]
  exact ⟨rfl, rfl⟩
theorem r_two {d : Disk} {f t : List UInt8} (hs : shortWT f t = false) : zeroDisk = renameD d f t ∧ 2 = renameC d f t := by
  have h : renameC d f t = 2 := by unfold renameC; rw [if_pos hs]
  unfold renameD
  rw [h]; exact ⟨rfl, rfl⟩
theorem r_one {d : Disk} {f t : List UInt8} (hs : shortWT f t = true) (hd : diskOK d = false) : zeroDisk = renameD d f t ∧ 1 = renameC d f t := by
  have h : renameC d f t = 1 := by unfold renameC; rw [if_neg (by rw [hs]; exact fun e => Bool.noConfusion e), if_pos hd]
  unfold renameD
  rw [h]; exact ⟨rfl, rfl⟩
theorem r_c {d : Disk} {f t : List UInt8} (hs : shortWT f t = true) (hd : diskOK d = true) : renameC d f t = if nameOK t = false then 10 else if readB d f = false then 5 else 0 := by
  unfold renameC
  rw [if_neg (by rw [hs]; exact fun e => Bool.noConfusion e), if_neg (by rw [hd]; exact fun e => Bool.noConfusion e)]
theorem r_ten {d : Disk} {f t : List UInt8} (hs : shortWT f t = true) (hd : diskOK d = true) (hw : nameOK t = false) : d = renameD d f t ∧ 10 = renameC d f t :=
  r_code (by rw [r_c hs hd, if_pos hw]) (by decide) (by decide) (by decide)
theorem r_five {d : Disk} {f t : List UInt8} (hs : shortWT f t = true) (hd : diskOK d = true) (hw : nameOK t = true) (hr : readB d f = false) : d = renameD d f t ∧ 5 = renameC d f t :=
  r_code (by rw [r_c hs hd, if_neg (by rw [hw]; exact fun e => Bool.noConfusion e), if_pos hr]) (by decide) (by decide) (by decide)
theorem r_ok {d : Disk} {f t : List UInt8} (hs : shortWT f t = true) (hd : diskOK d = true) (hw : nameOK t = true) (hr : readB d f = true) : renamedD d f t = renameD d f t ∧ 0 = renameC d f t := by
  have h : renameC d f t = 0 := by rw [r_c hs hd, if_neg (by rw [hw]; exact fun e => Bool.noConfusion e), if_neg (by rw [hr]; exact fun e => Bool.noConfusion e)]
  unfold renameD
  rw [h]; exact ⟨rfl, rfl⟩
theorem drop_24 {b : List Slot} {n : List UInt8} (hb : b.length ≤ 24) : decide (iOf (drop n b).length = 24) = (decide (slotAt b n < 0) && decide (iOf b.length = 24)) := by
  by_cases h : slotAt b n < 0
  · rw [decide_eq_true h, Bool.true_and]
    have : ∀ x ∈ b, nameIs n x = false := by
      unfold slotAt idx at h
      split at h
      · exact absurd (Int.natCast_nonneg _) (Int.not_le.2 h)
      · rename_i hf
        exact fun x hx => List.findIdx?_eq_none_iff.1 hf x hx
    have e : drop n b = b := by
      unfold drop
      rw [List.filter_eq_self]
      intro x hx
      rw [this x hx]; rfl
    rw [e]
  · rw [decide_eq_false h, Bool.false_and]
    obtain ⟨k, x, e, hx, hp, _⟩ := idx_some (p := nameIs n) (xs := b) (fun e => h (by unfold slotAt; rw [e]; decide))
    have hlt : (drop n b).length < b.length := by
      unfold drop
      refine List.length_filter_lt_length_iff_exists.2 ⟨x, List.mem_of_getElem? hx, ?_⟩
      rw [hp]; simp
    exact decide_eq_false (by unfold iOf; omega)
theorem small_tidyL {a : List Inode} {b c : List Slot} {d : Int} (ha : a.length ≤ 2000000) (hb : b.length ≤ 2000000) (hc : c.length ≤ 2000000) : smallD (tidy (a, b, c, d, ())) := ⟨Nat.le_trans (List.length_filter_le _ _) ha, hb, hc⟩
theorem small_write {d : Disk} {n t : List UInt8} (h : smallD d) : smallD (writeD d n t) := by
  unfold writeD
  split
  · rename_i hc
    have hd : diskOK d = true := by
      unfold writeC at hc
      cases e : diskOK d with
      | true => rfl
      | false =>
        rw [e] at hc
        split at hc
        · cases hc
        · rw [if_pos rfl] at hc; cases hc
    have hl := disk_short hd
    obtain ⟨a, b, c, e, ⟨⟩⟩ := d
    have h1 : a.length ≤ 48 := hl.1
    have h2 : b.length ≤ 24 := hl.2.1
    have h3 : c.length ≤ 24 := hl.2.2
    have h4 := put_len (n, e, ()) b
    exact small_tidyL (by rw [List.length_append, List.length_cons, List.length_nil]; omega) (by show (put (n, e, ()) b).length ≤ _; omega) (by omega)
  · split
    · exact small_zero
    · split
      · exact small_zero
      · exact h
theorem small_rename {d : Disk} {f t : List UInt8} (h : smallD d) : smallD (renameD d f t) := by
  unfold renameD
  split
  · rename_i hc
    have hd : diskOK d = true := by
      unfold renameC at hc
      cases e : diskOK d with
      | true => rfl
      | false =>
        rw [e] at hc
        split at hc
        · cases hc
        · rw [if_pos rfl] at hc; cases hc
    have hl := disk_short hd
    obtain ⟨a, b, c, e, ⟨⟩⟩ := d
    have h1 : a.length ≤ 48 := hl.1
    have h2 : b.length ≤ 24 := hl.2.1
    have h3 : c.length ≤ 24 := hl.2.2
    have h4 := put_len (t, slotId b f, ()) (drop f b)
    have h5 : (drop f b).length ≤ b.length := List.length_filter_le _ _
    exact small_tidyL (by omega) (by show (put (t, slotId b f, ()) (drop f b)).length ≤ _; omega) (by omega)
  · split
    · exact small_zero
    · split
      · exact small_zero
      · exact h
theorem first3 (p q r : Bool) (a b c : Int) : first [.b p, .n a, .b q, .n b, .b r, .n c] = if p then a else if q then b else if r then c else 0 := rfl
def fullT (b : List Slot) (n : List UInt8) (d : Int) : Bool := decide (iOf (drop n b).length = 24) || decide (d = 1000000)
theorem full_t1 {b : List Slot} {n : List UInt8} {d : Int} (h : ¬ iOf (drop n b).length = 24) : (d == 1000000) = fullT b n d := by
  unfold fullT
  rw [decide_eq_false h, Bool.false_or, eqI_dec]
theorem full_t2 {b : List Slot} {n : List UInt8} {d : Int} (h : iOf (drop n b).length = 24) : true = fullT b n d := by
  unfold fullT
  rw [decide_eq_true h]; rfl
theorem full_eq {b : List Slot} {a : List Inode} {c : List Slot} {d : Int} {n : List UInt8} (h : diskOK (a, b, c, d, ()) = true) : fullT b n d = fullD (a, b, c, d, ()) n := by
  have h2 : b.length ≤ 24 := (disk_short h).2.1
  unfold fullT fullD
  rw [drop_24 h2]; rfl
theorem w_first {a : List Inode} {b c : List Slot} {d : Int} {n t : List UInt8} (hs : shortWT n t = true) (hd : diskOK (a, b, c, d, ()) = true) : first [.b (!(nameOK n)), .n 10, .b (decide (iOf t.length > 4096)), .n 8, .b (fullT b n d), .n 7] = writeC (a, b, c, d, ()) n t := by
  rw [first3, w_c hs hd, full_eq hd]
  cases nameOK n with
  | false => rfl
  | true =>
    by_cases h : iOf t.length > 4096
    · rw [decide_eq_true h, if_pos h]; rfl
    · rw [decide_eq_false h, if_neg h]
      cases fullD (a, b, c, d, ()) n <;> rfl
theorem w_no {d : Disk} {n t : List UInt8} (hs : shortWT n t = true) (hd : diskOK d = true) (h : ¬ writeC d n t = 0) : d = writeD d n t := by
  refine (w_code (c := writeC d n t) rfl h (fun e => ?_) fun e => ?_).1
  · rw [w_c hs hd] at e
    split at e
    · cases e
    · split at e
      · cases e
      · split at e <;> cases e
  · rw [w_c hs hd] at e
    split at e
    · cases e
    · split at e
      · cases e
      · split at e <;> cases e
theorem w_yes {d : Disk} {n t : List UInt8} (h : writeC d n t = 0) : wroteD d n t = writeD d n t := by unfold writeD; rw [if_pos h]
theorem w_two' {d : Disk} {n t : List UInt8} (h : ¬ first [.b (!(short n && short t)), .n 2, .b (!(diskOK d)), .n 1] = 0) : zeroDisk = writeD d n t ∧ first [.b (!(short n && short t)), .n 2, .b (!(diskOK d)), .n 1] = writeC d n t := by
  rw [first2] at h ⊢
  cases hs : short n && short t with
  | false => exact w_two hs
  | true =>
    rw [hs] at h
    cases hd : diskOK d with
    | false => exact w_one hs hd
    | true => rw [hd] at h; exact absurd rfl h
theorem w_good {d : Disk} {n t : List UInt8} (h : first [.b (!(short n && short t)), .n 2, .b (!(diskOK d)), .n 1] = 0) : shortWT n t = true ∧ diskOK d = true := by
  rw [first2] at h
  unfold shortWT
  cases hs : short n && short t with
  | false => rw [hs] at h; cases h
  | true =>
    rw [hs] at h
    cases hd : diskOK d with
    | false => rw [hd] at h; cases h
    | true => exact ⟨rfl, rfl⟩
theorem r_two' {d : Disk} {n t : List UInt8} (h : ¬ first [.b (!(short n && short t)), .n 2, .b (!(diskOK d)), .n 1] = 0) : zeroDisk = renameD d n t ∧ first [.b (!(short n && short t)), .n 2, .b (!(diskOK d)), .n 1] = renameC d n t := by
  rw [first2] at h ⊢
  cases hs : short n && short t with
  | false => exact r_two hs
  | true =>
    rw [hs] at h
    cases hd : diskOK d with
    | false => exact r_one hs hd
    | true => rw [hd] at h; exact absurd rfl h
theorem r_first {a : List Inode} {b c : List Slot} {d : Int} {f t : List UInt8} (hs : shortWT f t = true) (hd : diskOK (a, b, c, d, ()) = true) : first [.b (!(nameOK t)), .n 10, .b (decide (slotAt b f < 0)), .n 5] = renameC (a, b, c, d, ()) f t := by
  rw [first2, r_c hs hd]
  cases nameOK t with
  | false => rfl
  | true =>
    by_cases h : slotAt b f < 0
    · have e : readB (a, b, c, d, ()) f = false := by unfold readB; exact decide_eq_false (fun hn => hn h)
      rw [decide_eq_true h, e]; rfl
    · have e : readB (a, b, c, d, ()) f = true := by unfold readB; exact decide_eq_true h
      rw [decide_eq_false h, e]; rfl
theorem r_no {d : Disk} {f t : List UInt8} (hs : shortWT f t = true) (hd : diskOK d = true) (h : ¬ renameC d f t = 0) : d = renameD d f t := by
  refine (r_code (c := renameC d f t) rfl h (fun e => ?_) fun e => ?_).1
  · rw [r_c hs hd] at e
    split at e
    · cases e
    · split at e <;> cases e
  · rw [r_c hs hd] at e
    split at e
    · cases e
    · split at e <;> cases e
theorem r_yes {d : Disk} {f t : List UInt8} (h : renameC d f t = 0) : renamedD d f t = renameD d f t := by unfold renameD; rw [if_pos h]
end Go.Fn
namespace Go.Proofs.Ytolminmmnckpkaa
open Go.Ab Go.Fn
def s_put : FSpec := { ps := [.v (.slice tSlot), .v tSlot], rs := [.o (.slice tSlot)], pre := fun x => List.length (α := Fn.Slot) x.1 ≤ 1000000, fn := fun x => (Fn.put x.2.1 x.1, ()), upd := fun _ => () }
def L_put (l : List Fn.Slot) (s : Fn.Slot) : LoopAnn := { ι := Nat, inv := fun k => Fn.LeadAt s l k, slots := fun k => [(5, .d I (Int.ofNat k))], objs := fun _ => [], μ := fun k => l.length - k }
theorem fo_l11Put : FO 56 s_put := by
  refine fo (specs := []) (clos := []) (fun x => [(2, .lv [0, 3, 5] <| fun _ => L_put x.1 x.2.1)]) trivial trivial Try.func56 rfl rfl ?_
  rintro ⟨l, ⟨n, i, ⟨⟩⟩, ⟨⟩⟩ hl
  refine vcOf ((∃ (i_1 : Nat), LeadAt (n, i, ()) l i_1 ∧ (l = l ∧ (nat_lit 0 = nat_lit 0 ∧ (0 : Nat) = (0 : Nat)) ∧ (0 : Int) = Int.ofNat i_1 ∧ True) ∧ ((n = n ∧ i = i ∧ True) ∧ (([] : List (List UInt8 × Int × Unit)) = ([] : List (List UInt8 × Int × Unit)) ∧ false = false) ∧ True) ∧ True) ∧ ∀ (i_1 : Nat), LeadAt (n, i, ()) l i_1 → fits (lenL l) → (decide (Int.ofNat i_1 < iOf (lenL l)) = true → bnd (Int.ofNat i_1) (lenL l) ∧ ∀ (x : List UInt8 × Int × Unit), nthI l (Int.ofNat i_1) = some x → nat_lit 1 ≤ Nat.succ (nat_lit 1) ∧ nat_lit 1 ≤ Nat.succ (nat_lit 1) ∧ (Op.bytesLess x.fst n = true → ∃ (j : Nat), LeadAt (n, i, ()) l j ∧ (List.length l).sub j < (List.length l).sub i_1 ∧ (l = l ∧ (nat_lit 0 = nat_lit 0 ∧ (0 : Nat) = (0 : Nat)) ∧ wAdd IntKind.i64 (Int.ofNat i_1) (1 : Int) = Int.ofNat j ∧ True) ∧ ((n = n ∧ i = i ∧ True) ∧ (([] : List (List UInt8 × Int × Unit)) = ([] : List (List UInt8 × Int × Unit)) ∧ false = false) ∧ True) ∧ True) ∧ (Op.bytesLess x.fst n = false → boundLo (Int.ofNat i_1) (lenL l) ∧ (fits (lenL l) → (decide (Int.ofNat i_1 < iOf (lenL l)) = true → bnd (Int.ofNat i_1) (lenL l) ∧ ∀ (x : List UInt8 × Int × Unit), nthI l (Int.ofNat i_1) = some x → nat_lit 1 ≤ Nat.succ (nat_lit 1) ∧ nat_lit 1 ≤ Nat.succ (nat_lit 1) ∧ ((x.fst == n) = true → boundLo (wAdd IntKind.i64 (Int.ofNat i_1) (1 : Int)) (lenL l) ∧ boundLo (Int.ofNat i_1) (lenL l) ∧ nat_lit 2 ≤ Nat.succ (nat_lit 1) ∧ ((fits (lenL (subL l (0 : Nat) (tN (Int.ofNat i_1)))) → fits (lenL (subL l (0 : Nat) (tN (Int.ofNat i_1))) + lenL ((n, i, ()) :: ([] : List (List UInt8 × Int × Unit)))) ∧ fits (lenL (subL l (0 : Nat) (tN (Int.ofNat i_1)) ++ (n, i, ()) :: ([] : List (List UInt8 × Int × Unit))) + lenL (subL l (tN (wAdd IntKind.i64 (Int.ofNat i_1) (1 : Int))) (lenL l))) ∧ (subL l (0 : Nat) (tN (Int.ofNat i_1)) ++ (n, i, ()) :: ([] : List (List UInt8 × Int × Unit)) ++ subL l (tN (wAdd IntKind.i64 (Int.ofNat i_1) (1 : Int))) (lenL l), ()) = (put (n, i, ()) l, ()) ∧ () = ()) ∧ (fits (lenL (subL l (0 : Nat) (tN (Int.ofNat i_1)))) → fits (lenL (subL l (0 : Nat) (tN (Int.ofNat i_1))) + lenL ((n, i, ()) :: ([] : List (List UInt8 × Int × Unit)))) ∧ fits (lenL (subL l (0 : Nat) (tN (Int.ofNat i_1)) ++ (n, i, ()) :: ([] : List (List UInt8 × Int × Unit))) + lenL (subL l (tN (wAdd IntKind.i64 (Int.ofNat i_1) (1 : Int))) (lenL l))) ∧ (subL l (0 : Nat) (tN (Int.ofNat i_1)) ++ (n, i, ()) :: ([] : List (List UInt8 × Int × Unit)) ++ subL l (tN (wAdd IntKind.i64 (Int.ofNat i_1) (1 : Int))) (lenL l), ()) = (put (n, i, ()) l, ()) ∧ () = ())) ∧ (fits (lenL (subL l (0 : Nat) (tN (Int.ofNat i_1)))) → fits (lenL (subL l (0 : Nat) (tN (Int.ofNat i_1))) + lenL ((n, i, ()) :: ([] : List (List UInt8 × Int × Unit)))) ∧ fits (lenL (subL l (0 : Nat) (tN (Int.ofNat i_1)) ++ (n, i, ()) :: ([] : List (List UInt8 × Int × Unit))) + lenL (subL l (tN (wAdd IntKind.i64 (Int.ofNat i_1) (1 : Int))) (lenL l))) ∧ (subL l (0 : Nat) (tN (Int.ofNat i_1)) ++ (n, i, ()) :: ([] : List (List UInt8 × Int × Unit)) ++ subL l (tN (wAdd IntKind.i64 (Int.ofNat i_1) (1 : Int))) (lenL l), ()) = (put (n, i, ()) l, ()) ∧ () = ())) ∧ ((x.fst == n) = false → boundLo (Int.ofNat i_1) (lenL l) ∧ nat_lit 2 ≤ Nat.succ (nat_lit 1) ∧ ((fits (lenL (subL l (0 : Nat) (tN (Int.ofNat i_1)))) → fits (lenL (subL l (0 : Nat) (tN (Int.ofNat i_1))) + lenL ((n, i, ()) :: ([] : List (List UInt8 × Int × Unit)))) ∧ fits (lenL (subL l (0 : Nat) (tN (Int.ofNat i_1)) ++ (n, i, ()) :: ([] : List (List UInt8 × Int × Unit))) + lenL (subL l (tN (Int.ofNat i_1)) (lenL l))) ∧ (subL l (0 : Nat) (tN (Int.ofNat i_1)) ++ (n, i, ()) :: ([] : List (List UInt8 × Int × Unit)) ++ subL l (tN (Int.ofNat i_1)) (lenL l), ()) = (put (n, i, ()) l, ()) ∧ () = ()) ∧ (fits (lenL (subL l (0 : Nat) (tN (Int.ofNat i_1)))) → fits (lenL (subL l (0 : Nat) (tN (Int.ofNat i_1))) + lenL ((n, i, ()) :: ([] : List (List UInt8 × Int × Unit)))) ∧ fits (lenL (subL l (0 : Nat) (tN (Int.ofNat i_1)) ++ (n, i, ()) :: ([] : List (List UInt8 × Int × Unit))) + lenL (subL l (tN (Int.ofNat i_1)) (lenL l))) ∧ (subL l (0 : Nat) (tN (Int.ofNat i_1)) ++ (n, i, ()) :: ([] : List (List UInt8 × Int × Unit)) ++ subL l (tN (Int.ofNat i_1)) (lenL l), ()) = (put (n, i, ()) l, ()) ∧ () = ())) ∧ (fits (lenL (subL l (0 : Nat) (tN (Int.ofNat i_1)))) → fits (lenL (subL l (0 : Nat) (tN (Int.ofNat i_1))) + lenL ((n, i, ()) :: ([] : List (List UInt8 × Int × Unit)))) ∧ fits (lenL (subL l (0 : Nat) (tN (Int.ofNat i_1)) ++ (n, i, ()) :: ([] : List (List UInt8 × Int × Unit))) + lenL (subL l (tN (Int.ofNat i_1)) (lenL l))) ∧ (subL l (0 : Nat) (tN (Int.ofNat i_1)) ++ (n, i, ()) :: ([] : List (List UInt8 × Int × Unit)) ++ subL l (tN (Int.ofNat i_1)) (lenL l), ()) = (put (n, i, ()) l, ()) ∧ () = ()))) ∧ (decide (Int.ofNat i_1 < iOf (lenL l)) = false → boundLo (Int.ofNat i_1) (lenL l) ∧ nat_lit 2 ≤ Nat.succ (nat_lit 1) ∧ ((fits (lenL (subL l (0 : Nat) (tN (Int.ofNat i_1)))) → fits (lenL (subL l (0 : Nat) (tN (Int.ofNat i_1))) + lenL ((n, i, ()) :: ([] : List (List UInt8 × Int × Unit)))) ∧ fits (lenL (subL l (0 : Nat) (tN (Int.ofNat i_1)) ++ (n, i, ()) :: ([] : List (List UInt8 × Int × Unit))) + lenL (subL l (tN (Int.ofNat i_1)) (lenL l))) ∧ (subL l (0 : Nat) (tN (Int.ofNat i_1)) ++ (n, i, ()) :: ([] : List (List UInt8 × Int × Unit)) ++ subL l (tN (Int.ofNat i_1)) (lenL l), ()) = (put (n, i, ()) l, ()) ∧ () = ()) ∧ (fits (lenL (subL l (0 : Nat) (tN (Int.ofNat i_1)))) → fits (lenL (subL l (0 : Nat) (tN (Int.ofNat i_1))) + lenL ((n, i, ()) :: ([] : List (List UInt8 × Int × Unit)))) ∧ fits (lenL (subL l (0 : Nat) (tN (Int.ofNat i_1)) ++ (n, i, ()) :: ([] : List (List UInt8 × Int × Unit))) + lenL (subL l (tN (Int.ofNat i_1)) (lenL l))) ∧ (subL l (0 : Nat) (tN (Int.ofNat i_1)) ++ (n, i, ()) :: ([] : List (List UInt8 × Int × Unit)) ++ subL l (tN (Int.ofNat i_1)) (lenL l), ()) = (put (n, i, ()) l, ()) ∧ () = ())) ∧ (fits (lenL (subL l (0 : Nat) (tN (Int.ofNat i_1)))) → fits (lenL (subL l (0 : Nat) (tN (Int.ofNat i_1))) + lenL ((n, i, ()) :: ([] : List (List UInt8 × Int × Unit)))) ∧ fits (lenL (subL l (0 : Nat) (tN (Int.ofNat i_1)) ++ (n, i, ()) :: ([] : List (List UInt8 × Int × Unit))) + lenL (subL l (tN (Int.ofNat i_1)) (lenL l))) ∧ (subL l (0 : Nat) (tN (Int.ofNat i_1)) ++ (n, i, ()) :: ([] : List (List UInt8 × Int × Unit)) ++ subL l (tN (Int.ofNat i_1)) (lenL l), ()) = (put (n, i, ()) l, ()) ∧ () = ()))))) ∧ (decide (Int.ofNat i_1 < iOf (lenL l)) = false → boundLo (Int.ofNat i_1) (lenL l) ∧ (fits (lenL l) → (decide (Int.ofNat i_1 < iOf (lenL l)) = true → bnd (Int.ofNat i_1) (lenL l) ∧ ∀ (x : List UInt8 × Int × Unit), nthI l (Int.ofNat i_1) = some x → nat_lit 1 ≤ Nat.succ (nat_lit 1) ∧ nat_lit 1 ≤ Nat.succ (nat_lit 1) ∧ ((x.fst == n) = true → boundLo (wAdd IntKind.i64 (Int.ofNat i_1) (1 : Int)) (lenL l) ∧ boundLo (Int.ofNat i_1) (lenL l) ∧ nat_lit 2 ≤ Nat.succ (nat_lit 1) ∧ ((fits (lenL (subL l (0 : Nat) (tN (Int.ofNat i_1)))) → fits (lenL (subL l (0 : Nat) (tN (Int.ofNat i_1))) + lenL ((n, i, ()) :: ([] : List (List UInt8 × Int × Unit)))) ∧ fits (lenL (subL l (0 : Nat) (tN (Int.ofNat i_1)) ++ (n, i, ()) :: ([] : List (List UInt8 × Int × Unit))) + lenL (subL l (tN (wAdd IntKind.i64 (Int.ofNat i_1) (1 : Int))) (lenL l))) ∧ (subL l (0 : Nat) (tN (Int.ofNat i_1)) ++ (n, i, ()) :: ([] : List (List UInt8 × Int × Unit)) ++ subL l (tN (wAdd IntKind.i64 (Int.ofNat i_1) (1 : Int))) (lenL l), ()) = (put (n, i, ()) l, ()) ∧ () = ()) ∧ (fits (lenL (subL l (0 : Nat) (tN (Int.ofNat i_1)))) → fits (lenL (subL l (0 : Nat) (tN (Int.ofNat i_1))) + lenL ((n, i, ()) :: ([] : List (List UInt8 × Int × Unit)))) ∧ fits (lenL (subL l (0 : Nat) (tN (Int.ofNat i_1)) ++ (n, i, ()) :: ([] : List (List UInt8 × Int × Unit))) + lenL (subL l (tN (wAdd IntKind.i64 (Int.ofNat i_1) (1 : Int))) (lenL l))) ∧ (subL l (0 : Nat) (tN (Int.ofNat i_1)) ++ (n, i, ()) :: ([] : List (List UInt8 × Int × Unit)) ++ subL l (tN (wAdd IntKind.i64 (Int.ofNat i_1) (1 : Int))) (lenL l), ()) = (put (n, i, ()) l, ()) ∧ () = ())) ∧ (fits (lenL (subL l (0 : Nat) (tN (Int.ofNat i_1)))) → fits (lenL (subL l (0 : Nat) (tN (Int.ofNat i_1))) + lenL ((n, i, ()) :: ([] : List (List UInt8 × Int × Unit)))) ∧ fits (lenL (subL l (0 : Nat) (tN (Int.ofNat i_1)) ++ (n, i, ()) :: ([] : List (List UInt8 × Int × Unit))) + lenL (subL l (tN (wAdd IntKind.i64 (Int.ofNat i_1) (1 : Int))) (lenL l))) ∧ (subL l (0 : Nat) (tN (Int.ofNat i_1)) ++ (n, i, ()) :: ([] : List (List UInt8 × Int × Unit)) ++ subL l (tN (wAdd IntKind.i64 (Int.ofNat i_1) (1 : Int))) (lenL l), ()) = (put (n, i, ()) l, ()) ∧ () = ())) ∧ ((x.fst == n) = false → boundLo (Int.ofNat i_1) (lenL l) ∧ nat_lit 2 ≤ Nat.succ (nat_lit 1) ∧ ((fits (lenL (subL l (0 : Nat) (tN (Int.ofNat i_1)))) → fits (lenL (subL l (0 : Nat) (tN (Int.ofNat i_1))) + lenL ((n, i, ()) :: ([] : List (List UInt8 × Int × Unit)))) ∧ fits (lenL (subL l (0 : Nat) (tN (Int.ofNat i_1)) ++ (n, i, ()) :: ([] : List (List UInt8 × Int × Unit))) + lenL (subL l (tN (Int.ofNat i_1)) (lenL l))) ∧ (subL l (0 : Nat) (tN (Int.ofNat i_1)) ++ (n, i, ()) :: ([] : List (List UInt8 × Int × Unit)) ++ subL l (tN (Int.ofNat i_1)) (lenL l), ()) = (put (n, i, ()) l, ()) ∧ () = ()) ∧ (fits (lenL (subL l (0 : Nat) (tN (Int.ofNat i_1)))) → fits (lenL (subL l (0 : Nat) (tN (Int.ofNat i_1))) + lenL ((n, i, ()) :: ([] : List (List UInt8 × Int × Unit)))) ∧ fits (lenL (subL l (0 : Nat) (tN (Int.ofNat i_1)) ++ (n, i, ()) :: ([] : List (List UInt8 × Int × Unit))) + lenL (subL l (tN (Int.ofNat i_1)) (lenL l))) ∧ (subL l (0 : Nat) (tN (Int.ofNat i_1)) ++ (n, i, ()) :: ([] : List (List UInt8 × Int × Unit)) ++ subL l (tN (Int.ofNat i_1)) (lenL l), ()) = (put (n, i, ()) l, ()) ∧ () = ())) ∧ (fits (lenL (subL l (0 : Nat) (tN (Int.ofNat i_1)))) → fits (lenL (subL l (0 : Nat) (tN (Int.ofNat i_1))) + lenL ((n, i, ()) :: ([] : List (List UInt8 × Int × Unit)))) ∧ fits (lenL (subL l (0 : Nat) (tN (Int.ofNat i_1)) ++ (n, i, ()) :: ([] : List (List UInt8 × Int × Unit))) + lenL (subL l (tN (Int.ofNat i_1)) (lenL l))) ∧ (subL l (0 : Nat) (tN (Int.ofNat i_1)) ++ (n, i, ()) :: ([] : List (List UInt8 × Int × Unit)) ++ subL l (tN (Int.ofNat i_1)) (lenL l), ()) = (put (n, i, ()) l, ()) ∧ () = ()))) ∧ (decide (Int.ofNat i_1 < iOf (lenL l)) = false → boundLo (Int.ofNat i_1) (lenL l) ∧ nat_lit 2 ≤ Nat.succ (nat_lit 1) ∧ ((fits (lenL (subL l (0 : Nat) (tN (Int.ofNat i_1)))) → fits (lenL (subL l (0 : Nat) (tN (Int.ofNat i_1))) + lenL ((n, i, ()) :: ([] : List (List UInt8 × Int × Unit)))) ∧ fits (lenL (subL l (0 : Nat) (tN (Int.ofNat i_1)) ++ (n, i, ()) :: ([] : List (List UInt8 × Int × Unit))) + lenL (subL l (tN (Int.ofNat i_1)) (lenL l))) ∧ (subL l (0 : Nat) (tN (Int.ofNat i_1)) ++ (n, i, ()) :: ([] : List (List UInt8 × Int × Unit)) ++ subL l (tN (Int.ofNat i_1)) (lenL l), ()) = (put (n, i, ()) l, ()) ∧ () = ()) ∧ (fits (lenL (subL l (0 : Nat) (tN (Int.ofNat i_1)))) → fits (lenL (subL l (0 : Nat) (tN (Int.ofNat i_1))) + lenL ((n, i, ()) :: ([] : List (List UInt8 × Int × Unit)))) ∧ fits (lenL (subL l (0 : Nat) (tN (Int.ofNat i_1)) ++ (n, i, ()) :: ([] : List (List UInt8 × Int × Unit))) + lenL (subL l (tN (Int.ofNat i_1)) (lenL l))) ∧ (subL l (0 : Nat) (tN (Int.ofNat i_1)) ++ (n, i, ()) :: ([] : List (List UInt8 × Int × Unit)) ++ subL l (tN (Int.ofNat i_1)) (lenL l), ()) = (put (n, i, ()) l, ()) ∧ () = ())) ∧ (fits (lenL (subL l (0 : Nat) (tN (Int.ofNat i_1)))) → fits (lenL (subL l (0 : Nat) (tN (Int.ofNat i_1))) + lenL ((n, i, ()) :: ([] : List (List UInt8 × Int × Unit)))) ∧ fits (lenL (subL l (0 : Nat) (tN (Int.ofNat i_1)) ++ (n, i, ()) :: ([] : List (List UInt8 × Int × Unit))) + lenL (subL l (tN (Int.ofNat i_1)) (lenL l))) ∧ (subL l (0 : Nat) (tN (Int.ofNat i_1)) ++ (n, i, ()) :: ([] : List (List UInt8 × Int × Unit)) ++ subL l (tN (Int.ofNat i_1)) (lenL l), ()) = (put (n, i, ()) l, ()) ∧ () = ()))))) (by kernel_rfl) ?_
  simp only [Nat.le_refl, Nat.succ_eq_add_one, Nat.reduceAdd, Nat.reduceLeDiff, Nat.zero_le, pair_unit, mk_eta, len_bne, eqD_bne, bne_iff_ne, bne_eq_false_iff_eq, beq_iff_eq, beq_eq_false_iff_ne, true_and, and_true, and_self, eq_self, lt_iff, nthI_nat, bnd_iff, decide_eq_true_eq, decide_eq_false_iff_not, Nat.sub_eq, nz, ne_eq, not_false_eq_true, Prod.mk.injEq, Int.reduceEq, Nat.reduceEqDiff, forall_const, implies_true, bne_self_eq_false, Bool.true_eq_false, Bool.false_eq_true, false_implies, reduceCtorEq, Bool.not_true, Bool.not_false, List.all_cons, List.all_nil, Bool.and_true, Bool.not_eq_true, Bool.not_eq_false, Bool.not_eq_true', Bool.not_eq_false', Decidable.not_not]; try simp only [lenL]
  have hl : List.length l ≤ 1000000 := hl
  refine ⟨⟨0, lead0 _ l, rfl⟩, fun k h hf => ⟨fun hlt => ⟨hlt, fun x hx => ⟨fun hn => ⟨k + 1, lead_step h hx hn, Nat.sub_lt_sub_left hlt (Nat.lt_succ_self k), inc_in hf h.1⟩, fun hn => ?_⟩⟩, fun he0 => ?_⟩⟩
  · refine ⟨bound_lo h.1, fun _ => ⟨fun hlt2 => ⟨hlt2, fun y hy => ⟨fun he => ?_, fun he => ⟨bound_lo h.1, fun _ => ⟨(put_fit hl k k).1, (put_fit hl k k).2, ?_⟩⟩⟩⟩, fun hge => ⟨bound_lo h.1, fun _ => ⟨(put_fit hl k k).1, (put_fit hl k k).2, ?_⟩⟩⟩⟩
    · rw [inc_in hf h.1]
      refine ⟨bound_lo hlt2, bound_lo h.1, fun _ => ⟨(put_fit hl k (k + 1)).1, (put_fit hl k (k + 1)).2, ?_⟩⟩
      rw [sub_take, sub_drop]
      exact put_same (s := (n, i, ())) h hy (by rw [hx] at hy; cases hy; rw [hn]; exact Bool.false_ne_true) he
    · rw [sub_take, sub_drop]
      exact put_more (s := (n, i, ())) h hy (by rw [hx] at hy; cases hy; rw [hn]; exact Bool.false_ne_true) he
    · rw [sub_take, sub_drop]
      exact put_end (s := (n, i, ())) h hge
  · refine ⟨bound_lo h.1, fun _ => ⟨fun hlt2 => ⟨hlt2, fun y hy => ⟨fun he => ?_, fun he => ⟨bound_lo h.1, fun _ => ⟨(put_fit hl k k).1, (put_fit hl k k).2, ?_⟩⟩⟩⟩, fun hge => ⟨bound_lo h.1, fun _ => ⟨(put_fit hl k k).1, (put_fit hl k k).2, ?_⟩⟩⟩⟩
    · rw [inc_in hf h.1]
      refine ⟨bound_lo hlt2, bound_lo h.1, fun _ => ⟨(put_fit hl k (k + 1)).1, (put_fit hl k (k + 1)).2, ?_⟩⟩
      rw [sub_take, sub_drop]
      exact put_same (s := (n, i, ())) h hy (absurd hlt2 he0) he
    · rw [sub_take, sub_drop]
      exact put_more (s := (n, i, ())) h hy (absurd hlt2 he0) he
    · rw [sub_take, sub_drop]
      exact put_end (s := (n, i, ())) h hge
end Go.Proofs.Ytolminmmnckpkaa
namespace Go.Proofs
open Go.Shelf
def Try.sortSlot_ren : Go.Shelf.Ren := ⟨fun | 6 => 68 | 15 => 89 | 14 => 88 | 28 => 104 | 29 => 105 | 20 => 96 | 21 => 97 | 22 => 98 | 23 => 99 | 24 => 100 | 25 => 101 | 26 => 102 | 27 => 103 | 46 => 108 | 47 => 109 | 48 => 110 | 49 => 111 | 50 => 112 | 57 => 122 | n => n, fun | 22 => 28 | 24 => 67 | 25 => 94 | 3 => 3 | 39 => 109 | 0 => 0 | 53 => 124 | 55 => 126 | 4 => 4 | 46 => 118 | 45 => 117 | 50 => 84 | 5 => 5 | 9 => 9 | 66 => 130 | 70 => 134 | 76 => 142 | 77 => 143 | n => n, fun | n => n⟩
theorem Try.sortSlot : Go.Proofs.SlLaysF0.n6 Try.prog Try.sortSlot_ren := {
  mixed := by kernel_rfl
  f6 := ⟨Try.f68.name, by decide, Try.func68.trans (congrArg some (by kernel_rfl))⟩
  f14 := ⟨Try.f88.name, by decide, Try.func88.trans (congrArg some (by kernel_rfl))⟩
  f15 := Try.func89.trans (congrArg some (by kernel_rfl))
  f20 := ⟨Try.f96.name, by decide, Try.func96.trans (congrArg some (by kernel_rfl))⟩
  f21 := ⟨Try.f97.name, by decide, Try.func97.trans (congrArg some (by kernel_rfl))⟩
  f22 := ⟨Try.f98.name, by decide, Try.func98.trans (congrArg some (by kernel_rfl))⟩
  f23 := ⟨Try.f99.name, by decide, Try.func99.trans (congrArg some (by kernel_rfl))⟩
  f24 := ⟨Try.f100.name, by decide, Try.func100.trans (congrArg some (by kernel_rfl))⟩
  f25 := ⟨Try.f101.name, by decide, Try.func101.trans (congrArg some (by kernel_rfl))⟩
  f26 := ⟨Try.f102.name, by decide, Try.func102.trans (congrArg some (by kernel_rfl))⟩
  f27 := ⟨Try.f103.name, by decide, Try.func103.trans (congrArg some (by kernel_rfl))⟩
  f28 := Try.func104.trans (congrArg some (by kernel_rfl))
  f29 := Try.func105.trans (congrArg some (by kernel_rfl))
  f46 := ⟨Try.f108.name, by decide, Try.func108.trans (congrArg some (by kernel_rfl))⟩
  f47 := Try.func109.trans (congrArg some (by kernel_rfl))
  f48 := Try.func110.trans (congrArg some (by kernel_rfl))
  f49 := ⟨Try.f111.name, by decide, Try.func111.trans (congrArg some (by kernel_rfl))⟩
  f50 := ⟨Try.f112.name, by decide, Try.func112.trans (congrArg some (by kernel_rfl))⟩
  f57 := ⟨Try.f122.name, by decide, Try.func122.trans (congrArg some (by kernel_rfl))⟩
  t0 := Try.underlying0
  a0 := Try.isAgg0
  z0 := Try.sizeOf0
  v0 := Try.zeroValue0
  t3 := Try.underlying3
  a3 := Try.isAgg3
  z3 := Try.sizeOf3
  v3 := Try.zeroValue3
  t4 := Try.underlying4
  a4 := Try.isAgg4
  z4 := Try.sizeOf4
  v4 := Try.zeroValue4
  t5 := Try.underlying5
  a5 := Try.isAgg5
  z5 := Try.sizeOf5
  v5 := Try.zeroValue5
  t9 := Try.underlying9
  a9 := Try.isAgg9
  z9 := Try.sizeOf9
  v9 := Try.zeroValue9
  t22 := Try.underlying28
  a22 := Try.isAgg28
  z22 := Try.sizeOf28
  v22 := Try.zeroValue28
  t25 := Try.underlying94
  a25 := Try.isAgg94
  z25 := Try.sizeOf94
  v25 := Try.zeroValue94
  t39 := Try.underlying109
  a39 := Try.isAgg109
  z39 := Try.sizeOf109
  v39 := Try.zeroValue109
  t45 := Try.underlying117
  a45 := Try.isAgg117
  z45 := Try.sizeOf117
  v45 := Try.zeroValue117
  t46 := Try.underlying118
  a46 := Try.isAgg118
  z46 := Try.sizeOf118
  v46 := Try.zeroValue118
  t50 := Try.underlying84
  a50 := Try.isAgg84
  z50 := Try.sizeOf84
  v50 := Try.zeroValue84
  t53 := Try.underlying124
  a53 := Try.isAgg124
  z53 := Try.sizeOf124
  v53 := Try.zeroValue124
  t55 := Try.underlying126
  a55 := Try.isAgg126
  z55 := Try.sizeOf126
  v55 := Try.zeroValue126
  t66 := Try.underlying130
  a66 := Try.isAgg130
  z66 := Try.sizeOf130
  v66 := Try.zeroValue130
  t70 := Try.underlying134
  a70 := Try.isAgg134
  z70 := Try.sizeOf134
  v70 := Try.zeroValue134
  t76 := Try.underlying142
  a76 := Try.isAgg142
  z76 := Try.sizeOf142
  v76 := Try.zeroValue142
  t77 := Try.underlying143
  a77 := Try.isAgg143
  z77 := Try.sizeOf143
  v77 := Try.zeroValue143 }
def Try.sortStr_ren : Go.Shelf.Ren := ⟨fun | 6 => 92 | 8 => 89 | 9 => 107 | 19 => 104 | 20 => 105 | 21 => 113 | 22 => 114 | 23 => 115 | 24 => 116 | 25 => 117 | 26 => 118 | 27 => 119 | 28 => 120 | 29 => 121 | 36 => 123 | 31 => 109 | 32 => 110 | 37 => 124 | 38 => 125 | 39 => 126 | 41 => 127 | n => n, fun | 27 => 85 | 29 => 9 | 3 => 3 | 32 => 109 | 26 => 85 | 0 => 0 | 44 => 124 | 46 => 126 | 4 => 4 | 36 => 118 | 35 => 117 | 41 => 84 | 5 => 5 | 9 => 9 | 53 => 130 | 57 => 134 | 63 => 142 | 64 => 143 | n => n, fun | n => n⟩
theorem Try.sortStr : Go.Proofs.SlLaysM.n6 Try.prog Try.sortStr_ren := {
  mixed := by kernel_rfl
  f6 := ⟨Try.f92.name, by decide, Try.func92.trans (congrArg some (by kernel_rfl))⟩
  f8 := Try.func89.trans (congrArg some (by kernel_rfl))
  f9 := ⟨Try.f107.name, by decide, Try.func107.trans (congrArg some (by kernel_rfl))⟩
  f19 := Try.func104.trans (congrArg some (by kernel_rfl))
  f20 := Try.func105.trans (congrArg some (by kernel_rfl))
  f21 := ⟨Try.f113.name, by decide, Try.func113.trans (congrArg some (by kernel_rfl))⟩
  f22 := ⟨Try.f114.name, by decide, Try.func114.trans (congrArg some (by kernel_rfl))⟩
  f23 := ⟨Try.f115.name, by decide, Try.func115.trans (congrArg some (by kernel_rfl))⟩
  f24 := ⟨Try.f116.name, by decide, Try.func116.trans (congrArg some (by kernel_rfl))⟩
  f25 := ⟨Try.f117.name, by decide, Try.func117.trans (congrArg some (by kernel_rfl))⟩
  f26 := ⟨Try.f118.name, by decide, Try.func118.trans (congrArg some (by kernel_rfl))⟩
  f27 := ⟨Try.f119.name, by decide, Try.func119.trans (congrArg some (by kernel_rfl))⟩
  f28 := ⟨Try.f120.name, by decide, Try.func120.trans (congrArg some (by kernel_rfl))⟩
  f29 := ⟨Try.f121.name, by decide, Try.func121.trans (congrArg some (by kernel_rfl))⟩
  f31 := Try.func109.trans (congrArg some (by kernel_rfl))
  f32 := Try.func110.trans (congrArg some (by kernel_rfl))
  f36 := ⟨Try.f123.name, by decide, Try.func123.trans (congrArg some (by kernel_rfl))⟩
  f37 := ⟨Try.f124.name, by decide, Try.func124.trans (congrArg some (by kernel_rfl))⟩
  f38 := ⟨Try.f125.name, by decide, Try.func125.trans (congrArg some (by kernel_rfl))⟩
  f39 := ⟨Try.f126.name, by decide, Try.func126.trans (congrArg some (by kernel_rfl))⟩
  f41 := ⟨Try.f127.name, by decide, Try.func127.trans (congrArg some (by kernel_rfl))⟩
  t0 := Try.underlying0
  a0 := Try.isAgg0
  z0 := Try.sizeOf0
  v0 := Try.zeroValue0
  t3 := Try.underlying3
  a3 := Try.isAgg3
  z3 := Try.sizeOf3
  v3 := Try.zeroValue3
  t4 := Try.underlying4
  a4 := Try.isAgg4
  z4 := Try.sizeOf4
  v4 := Try.zeroValue4
  t5 := Try.underlying5
  a5 := Try.isAgg5
  z5 := Try.sizeOf5
  v5 := Try.zeroValue5
  t9 := Try.underlying9
  a9 := Try.isAgg9
  z9 := Try.sizeOf9
  v9 := Try.zeroValue9
  t26 := Try.underlying85
  a26 := Try.isAgg85
  z26 := Try.sizeOf85
  v26 := Try.zeroValue85
  t27 := Try.underlying85
  a27 := Try.isAgg85
  z27 := Try.sizeOf85
  v27 := Try.zeroValue85
  t29 := Try.underlying9
  a29 := Try.isAgg9
  z29 := Try.sizeOf9
  v29 := Try.zeroValue9
  t32 := Try.underlying109
  a32 := Try.isAgg109
  z32 := Try.sizeOf109
  v32 := Try.zeroValue109
  t35 := Try.underlying117
  a35 := Try.isAgg117
  z35 := Try.sizeOf117
  v35 := Try.zeroValue117
  t36 := Try.underlying118
  a36 := Try.isAgg118
  z36 := Try.sizeOf118
  v36 := Try.zeroValue118
  t41 := Try.underlying84
  a41 := Try.isAgg84
  z41 := Try.sizeOf84
  v41 := Try.zeroValue84
  t44 := Try.underlying124
  a44 := Try.isAgg124
  z44 := Try.sizeOf124
  v44 := Try.zeroValue124
  t46 := Try.underlying126
  a46 := Try.isAgg126
  z46 := Try.sizeOf126
  v46 := Try.zeroValue126
  t53 := Try.underlying130
  a53 := Try.isAgg130
  z53 := Try.sizeOf130
  v53 := Try.zeroValue130
  t57 := Try.underlying134
  a57 := Try.isAgg134
  z57 := Try.sizeOf134
  v57 := Try.zeroValue134
  t63 := Try.underlying142
  a63 := Try.isAgg142
  z63 := Try.sizeOf142
  v63 := Try.zeroValue142
  t64 := Try.underlying143
  a64 := Try.isAgg143
  z64 := Try.sizeOf143
  v64 := Try.zeroValue143 }
def Try.compStr_ren : Go.Shelf.Ren := ⟨fun | 44 => 93 | n => n, fun | 25 => 85 | 26 => 9 | 3 => 3 | 4 => 4 | 0 => 0 | n => n, fun | n => n⟩
theorem Try.compStr : Go.Proofs.SlLaysN.n44 Try.prog Try.compStr_ren := {
  mixed := by kernel_rfl
  f44 := ⟨Try.f93.name, by decide, Try.func93.trans (congrArg some (by kernel_rfl))⟩
  t0 := Try.underlying0
  a0 := Try.isAgg0
  z0 := Try.sizeOf0
  v0 := Try.zeroValue0
  t3 := Try.underlying3
  a3 := Try.isAgg3
  z3 := Try.sizeOf3
  v3 := Try.zeroValue3
  t4 := Try.underlying4
  a4 := Try.isAgg4
  z4 := Try.sizeOf4
  v4 := Try.zeroValue4
  t25 := Try.underlying85
  a25 := Try.isAgg85
  z25 := Try.sizeOf85
  v25 := Try.zeroValue85
  t26 := Try.underlying9
  a26 := Try.isAgg9
  z26 := Try.sizeOf9
  v26 := Try.zeroValue9
  i26 := by kernel_rfl }
def Try.growSlot_ren : Go.Shelf.Ren := ⟨fun | 4 => 106 | n => n, fun | 22 => 28 | 25 => 67 | 3 => 3 | 4 => 4 | 9 => 9 | 20 => 20 | 0 => 0 | n => n, fun | n => n⟩
theorem Try.growSlot : Go.Proofs.Lays8.n4 Try.prog Try.growSlot_ren := {
  mixed := by kernel_rfl
  f4 := ⟨Try.f106.name, by decide, Try.func106.trans (congrArg some (by kernel_rfl))⟩
  t0 := Try.underlying0
  a0 := Try.isAgg0
  z0 := Try.sizeOf0
  v0 := Try.zeroValue0
  t3 := Try.underlying3
  a3 := Try.isAgg3
  z3 := Try.sizeOf3
  v3 := Try.zeroValue3
  t4 := Try.underlying4
  a4 := Try.isAgg4
  z4 := Try.sizeOf4
  v4 := Try.zeroValue4
  t9 := Try.underlying9
  a9 := Try.isAgg9
  z9 := Try.sizeOf9
  v9 := Try.zeroValue9
  t20 := Try.underlying20
  a20 := Try.isAgg20
  z20 := Try.sizeOf20
  v20 := Try.zeroValue20
  t22 := Try.underlying28
  a22 := Try.isAgg28
  z22 := Try.sizeOf28
  v22 := Try.zeroValue28 }
end Go.Proofs
namespace Go.Fn
open Go.Ab
def compactL : List (List UInt8) → List (List UInt8)
  | [] => []
  | x :: r => match compactL r with
    | [] => [x]
    | y :: q => if x = y then y :: q else x :: y :: q
def ltT (a b : List UInt8) : Bool := Op.bytesLess a b
def SortedT (l : List (List UInt8)) : Prop := l.Pairwise (fun a b => ltT a b = true)
def WeakT (l : List (List UInt8)) : Prop := l.Pairwise (fun a b => ltT b a = false)
theorem compact_mem {x : List UInt8} : ∀ {l : List (List UInt8)}, x ∈ compactL l ↔ x ∈ l
  | [] => by simp [compactL]
  | y :: r => by
    have ih := compact_mem (x := x) (l := r)
    unfold compactL
    split
    · rename_i h
      rw [h] at ih
      have hr : ¬ x ∈ r := fun hx => by simpa using ih.2 hx
      simp [hr]
    · rename_i z q h
      rw [h] at ih
      split
      · rename_i he
        subst he
        rw [ih]
        constructor
        · intro hx; exact List.mem_cons_of_mem _ hx
        · intro hx
          rcases List.mem_cons.1 hx with rfl | hx
          · exact ih.1 List.mem_cons_self
          · exact hx
      · rw [List.mem_cons, ih, List.mem_cons]
theorem compact_sorted : ∀ {l : List (List UInt8)}, WeakT l → SortedT (compactL l)
  | [], _ => by simp [compactL, SortedT]
  | y :: r, h => by
    unfold WeakT at h
    rw [List.pairwise_cons] at h
    have ih := compact_sorted h.2
    unfold compactL
    split
    · simp [SortedT]
    · rename_i z q hc
      rw [hc] at ih
      split
      · exact ih
      · rename_i hne
        refine List.pairwise_cons.2 ⟨fun x hx => ?_, ih⟩
        have hz : z ∈ r := compact_mem.1 (by rw [hc]; exact List.mem_cons_self)
        have hyz : ltT y z = true := bl_flip (h.1 z hz) (fun e => hne e.symm)
        rcases List.mem_cons.1 hx with rfl | hx
        · exact hyz
        · exact bl_trans hyz ((List.pairwise_cons.1 ih).1 x hx)
theorem compact_len : ∀ l : List (List UInt8), (compactL l).length ≤ l.length
  | [] => Nat.le_refl _
  | y :: r => by
    have ih := compact_len r
    unfold compactL
    split
    · simp
    · rename_i z q hc
      rw [hc] at ih
      split
      · simp only [List.length_cons] at ih ⊢; omega
      · simp only [List.length_cons] at ih ⊢; omega
theorem sortedT_nodup {l : List (List UInt8)} (h : SortedT l) : l.Nodup := List.Pairwise.imp (fun h => bl_ne h) h
theorem sortedT_weak {l : List (List UInt8)} (h : SortedT l) : WeakT l := List.Pairwise.imp (fun h => bl_asymm h) h
theorem sortedT_ext {a b : List (List UInt8)} (ha : SortedT a) (hb : SortedT b) (h : ∀ x, x ∈ a ↔ x ∈ b) : a = b :=
  sorted_eq (lt := ltT) (fun _ _ h => bl_asymm h) ((List.perm_ext_iff_of_nodup (sortedT_nodup ha) (sortedT_nodup hb)).2 h) hb (sortedT_weak ha)
theorem compact_cons (y : List UInt8) (r : List (List UInt8)) : compactL (y :: r) = (match compactL r with | [] => [y] | z :: q => if y = z then z :: q else y :: z :: q) := rfl
theorem compact_same : ∀ {l : List (List UInt8)}, (compactL l).length = l.length → compactL l = l
  | [], _ => rfl
  | y :: r, h => by
    have hl := compact_len r
    rw [compact_cons] at h ⊢
    cases hc : compactL r with
    | nil =>
      rw [hc] at h
      simp only [List.length_cons, List.length_nil] at h
      rw [List.eq_nil_of_length_eq_zero (l := r) (by omega)]
    | cons z q =>
      rw [hc] at h hl
      simp only at h ⊢
      by_cases hne : y = z
      · rw [if_pos hne] at h
        simp only [List.length_cons] at h hl; omega
      · rw [if_neg hne] at h ⊢
        have hr := compact_same (l := r) (by rw [hc]; simp only [List.length_cons] at h ⊢; omega)
        rw [hc] at hr
        rw [hr]
theorem compact_nodup {l : List (List UInt8)} (h : WeakT l) : (compactL l).length = l.length ↔ l.Nodup := by
  constructor
  · intro he
    have hs := compact_sorted h
    rw [compact_same he] at hs
    exact sortedT_nodup hs
  · intro hn
    have := (List.perm_ext_iff_of_nodup (sortedT_nodup (compact_sorted h)) hn).2 (fun x => compact_mem)
    exact this.length_eq
theorem compact_ne {w : List UInt8} {r : List (List UInt8)} : ∃ q, compactL (w :: r) = w :: q := by
  rw [compact_cons]
  cases hc : compactL r with
  | nil => exact ⟨[], rfl⟩
  | cons z q =>
    simp only
    by_cases h : w = z
    · rw [if_pos h, h]; exact ⟨q, rfl⟩
    · rw [if_neg h]; exact ⟨z :: q, rfl⟩
theorem compact_snoc {x y : List UInt8} : ∀ {l : List (List UInt8)}, l.getLast? = some y → compactL (l ++ [x]) = if y = x then compactL l else compactL l ++ [x]
  | [], h => by simp at h
  | [z], h => by
    simp only [List.getLast?_singleton, Option.some.injEq] at h
    subst h
    show compactL [z, x] = _
    rw [compact_cons]
    show (if z = x then [x] else [z, x]) = if z = x then [z] else [z] ++ [x]
    by_cases h : z = x
    · rw [if_pos h, if_pos h, h]
    · rw [if_neg h, if_neg h]; rfl
  | z :: w :: r, h => by
    have h' : (w :: r).getLast? = some y := by rw [List.getLast?_cons_cons] at h; exact h
    have ih := compact_snoc (x := x) h'
    obtain ⟨q, hq⟩ := compact_ne (w := w) (r := r)
    show compactL (z :: (w :: r ++ [x])) = _
    rw [compact_cons z (w :: r ++ [x]), ih, compact_cons z (w :: r), hq]
    by_cases hy : y = x
    · rw [if_pos hy, if_pos hy]
    · rw [if_neg hy, if_neg hy]
      show (if z = w then w :: (q ++ [x]) else z :: w :: (q ++ [x])) = (if z = w then w :: q else z :: w :: q) ++ [x]
      by_cases hz : z = w
      · rw [if_pos hz, if_pos hz]; rfl
      · rw [if_neg hz, if_neg hz]; rfl
theorem take_last {l : List (List UInt8)} {k : Nat} {y : List UInt8} (hk : 0 < k) (hy : l[k - 1]? = some y) : (l.take k).getLast? = some y := by
  have hl := (List.getElem?_eq_some_iff.1 hy).1
  rw [List.getLast?_eq_getElem?, List.length_take, Nat.min_eq_left (by omega), List.getElem?_take_of_lt (by omega), hy]
theorem compact_take {l : List (List UInt8)} {k : Nat} {x y : List UInt8} (hk : 0 < k) (hy : l[k - 1]? = some y) (hx : l[k]? = some x) : compactL (l.take (k + 1)) = if y = x then compactL (l.take k) else compactL (l.take k) ++ [x] := by
  have e : l.take (k + 1) = l.take k ++ [x] := by rw [List.take_add_one, hx]; rfl
  rw [e]
  exact compact_snoc (take_last hk hy)
def Comp1 (l : List (List UInt8)) (k : Nat) : Prop := 0 < k ∧ k ≤ l.length ∧ compactL (l.take k) = l.take k
theorem comp1_start {l : List (List UInt8)} (h : ¬ iOf l.length < 2) : Comp1 l 1 := by
  unfold iOf at h
  refine ⟨Nat.one_pos, by omega, ?_⟩
  cases l with
  | nil => rfl
  | cons a r => rfl
theorem comp1_step {l : List (List UInt8)} {k : Nat} {x y : List UInt8} (h : Comp1 l k) (hx : l[k]? = some x) (hy : l[k - 1]? = some y) (hn : ¬ x = y) : Comp1 l (k + 1) := by
  refine ⟨Nat.succ_pos _, (List.getElem?_eq_some_iff.1 hx).1, ?_⟩
  rw [compact_take h.1 hy hx, if_neg (fun e => hn e.symm), h.2.2, List.take_add_one, hx]; rfl
theorem comp1_end {l : List (List UInt8)} {k : Nat} (h : Comp1 l k) (he : ¬ k < l.length) : l = compactL l := by
  have := h.2.2
  rw [List.take_of_length_le (by omega)] at this
  exact this.symm
theorem comp_small {l : List (List UInt8)} (h : iOf l.length < 2) : l = compactL l := by
  unfold iOf at h
  match l, h with
  | [], _ => rfl
  | [a], _ => rfl
  | a :: b :: r, h => simp at h; omega
def Comp2 (l : List (List UInt8)) (k0 : Nat) (k k2 : Nat) (cur : List (List UInt8)) : Prop :=
  0 < k2 ∧ k0 + k2 ≤ l.length ∧ cur.length = l.length ∧ k + 1 ≤ k0 + k2 ∧ 0 < k ∧ cur.take k = compactL (l.take (k0 + k2)) ∧ cur.drop (k0 + k2 - 1) = l.drop (k0 + k2 - 1)
theorem comp2_start {l : List (List UInt8)} {k : Nat} {x y : List UInt8} (h : Comp1 l k) (hx : l[k]? = some x) (hy : l[k - 1]? = some y) (hn : x = y) : Comp2 l k k 1 l := by
  refine ⟨Nat.one_pos, (List.getElem?_eq_some_iff.1 hx).1, rfl, by omega, h.1, ?_, rfl⟩
  rw [compact_take h.1 hy hx, if_pos hn.symm, h.2.2]
theorem comp2_read {l cur : List (List UInt8)} {k0 k k2 j : Nat} (h : Comp2 l k0 k k2 cur) (hj : k0 + k2 - 1 ≤ j) : cur[j]? = l[j]? := by
  have e := h.2.2.2.2.2.2
  have h1 : (cur.drop (k0 + k2 - 1))[j - (k0 + k2 - 1)]? = (l.drop (k0 + k2 - 1))[j - (k0 + k2 - 1)]? := by rw [e]
  rw [List.getElem?_drop, List.getElem?_drop, show k0 + k2 - 1 + (j - (k0 + k2 - 1)) = j by omega] at h1
  exact h1
theorem comp2_drop {l cur : List (List UInt8)} {k0 k2 i : Nat} (e : cur.drop (k0 + k2 - 1) = l.drop (k0 + k2 - 1)) (hi : k0 + k2 - 1 ≤ i) : cur.drop i = l.drop i := by
  have : (cur.drop (k0 + k2 - 1)).drop (i - (k0 + k2 - 1)) = (l.drop (k0 + k2 - 1)).drop (i - (k0 + k2 - 1)) := by rw [e]
  rw [List.drop_drop, List.drop_drop, show k0 + k2 - 1 + (i - (k0 + k2 - 1)) = i by omega] at this
  exact this
theorem comp2_skip {l cur : List (List UInt8)} {k0 k k2 : Nat} {x y : List UInt8} (h : Comp2 l k0 k k2 cur) (hx : l[k0 + k2]? = some x) (hy : l[k0 + k2 - 1]? = some y) (hn : x = y) : Comp2 l k0 k (k2 + 1) cur := by
  obtain ⟨h1, h2, h3, h4, h5, h6, h7⟩ := h
  refine ⟨Nat.succ_pos _, (List.getElem?_eq_some_iff.1 hx).1, h3, by omega, h5, ?_, comp2_drop h7 (by omega)⟩
  rw [show k0 + (k2 + 1) = k0 + k2 + 1 by omega, compact_take (by omega) hy hx, if_pos hn.symm, h6]
theorem comp2_put {l cur : List (List UInt8)} {k0 k k2 : Nat} {x y : List UInt8} (h : Comp2 l k0 k k2 cur) (hx : l[k0 + k2]? = some x) (hy : l[k0 + k2 - 1]? = some y) (hn : ¬ x = y) : Comp2 l k0 (k + 1) (k2 + 1) (cur.set k x) := by
  obtain ⟨h1, h2, h3, h4, h5, h6, h7⟩ := h
  have hlt := (List.getElem?_eq_some_iff.1 hx).1
  refine ⟨Nat.succ_pos _, hlt, by rw [List.length_set]; exact h3, by omega, Nat.succ_pos _, ?_, ?_⟩
  · rw [show k0 + (k2 + 1) = k0 + k2 + 1 by omega, compact_take (by omega) hy hx, if_neg (fun e => hn e.symm), ← h6, List.take_add_one, List.take_set_of_le (Nat.le_refl _), List.getElem?_set_self (by omega)]; rfl
  · rw [List.drop_set_of_lt (by omega)]
    exact comp2_drop h7 (by omega)
theorem comp2_end {l cur : List (List UInt8)} {k0 k k2 : Nat} (h : Comp2 l k0 k k2 cur) (he : ¬ k0 + k2 < l.length) : cur.take k = compactL l := by
  have h6 := h.2.2.2.2.2.1
  have h2 := h.2.1
  rw [List.take_of_length_le (l := l) (by omega)] at h6
  exact h6
theorem comp2_sub {l cur : List (List UInt8)} {k0 k k2 : Nat} (h : Comp2 l k0 k k2 cur) (he : ¬ k0 + k2 < l.length) (hi : Nat) (ys : List (List UInt8)) : subL (copyL cur k hi ys) 0 k = compactL l := by
  have h2 := h.2.1
  have h3 := h.2.2.1
  have h4 := h.2.2.2.1
  unfold subL
  rw [List.drop_zero, copyL_take _ _ _ _ (by omega), comp2_end h he]
end Go.Fn
namespace Go.Ab
open Go.Sort
theorem flat_at {t : Ty} [Inhabited t.den] {ys : List t.den} (ht : flatB t = true) {k j : Nat} {x : t.den} (hx : ys[k]? = some x) (hj : j < t.size) : (flatK (cellsV t) t.size ys.toArray)[k * t.size + j]? = (cellsV t x)[j]? := by
  obtain ⟨hk, hx⟩ := List.getElem?_eq_some_iff.1 hx
  have hpos : 0 < t.size := by omega
  have hlt : k * t.size + j < ys.toArray.size * t.size := by
    have h1 : (k + 1) * t.size ≤ ys.length * t.size := Nat.mul_le_mul_right _ hk
    rw [Nat.add_mul, Nat.one_mul] at h1
    have h2 : ys.toArray.size = ys.length := by simp
    rw [h2]; omega
  have hg := get_flatK (cellsV t) t.size ys.toArray _ hlt
  have e1 : (k * t.size + j) / t.size = k := by rw [Nat.add_comm, Nat.add_mul_div_right _ _ hpos, Nat.div_eq_of_lt hj, Nat.zero_add]
  have e2 : (k * t.size + j) % t.size = j := by rw [Nat.add_comm, Nat.add_mul_mod_self_right, Nat.mod_eq_of_lt hj]
  rw [e1, e2] at hg
  have e3 : ys.toArray[k]! = x := by
    rw [getElem!_pos ys.toArray k (by simpa using hk)]
    simpa using hx
  rw [e3] at hg
  have hs : k * t.size + j < (flatK (cellsV t) t.size ys.toArray).size := by rw [size_flatK]; exact hlt
  have hl : j < (cellsV t x).length := by rw [cellsV_len ht]; exact hj
  rw [getElem!_pos (flatK (cellsV t) t.size ys.toArray) _ hs, getElem!_pos (cellsV t x) _ hl] at hg
  rw [Array.getElem?_eq_getElem hs, List.getElem?_eq_getElem hl, hg]
theorem flat_holds {t : Ty} [Inhabited t.den] {xs : List t.den} (ht : flatB t = true) {w : World} {b : Nat} {cs : List Value} {e : TypeId} (hb : w.heap[b]? = some (.cells cs.toArray e (0, 0)))
    (hr : ∀ (k : Nat) x, xs[k]? = some x → (cs.drop (k * t.size)).take t.size = cellsV t x) : Sort.Holds id w b 0 (flatK (cellsV t) t.size xs.toArray) := by
  intro q hq
  rw [size_flatK] at hq
  have hpos : 0 < t.size := by
    rcases Nat.eq_zero_or_pos t.size with h | h
    · rw [h] at hq; omega
    · exact h
  have hk : q / t.size < xs.length := by
    have : q / t.size < xs.toArray.size := Nat.div_lt_of_lt_mul (by rw [Nat.mul_comm]; exact hq)
    simpa using this
  have hx := List.getElem?_eq_getElem hk
  have hm : q % t.size < t.size := Nat.mod_lt _ hpos
  have hf := flat_at ht hx hm
  have eq : q / t.size * t.size + q % t.size = q := by rw [Nat.mul_comm]; exact Nat.div_add_mod q t.size
  rw [eq] at hf
  have hc := hr _ _ hx
  have hcq : cs[q]? = (cellsV t xs[q / t.size])[q % t.size]? := by
    rw [← hc, List.getElem?_take_of_lt hm, List.getElem?_drop, eq]
  have hs : q < (flatK (cellsV t) t.size xs.toArray).size := by rw [size_flatK]; exact hq
  have e1 : cs[q]? = some ((flatK (cellsV t) t.size xs.toArray)[q]!) := by
    rw [hcq, ← hf, getElem!_pos (flatK (cellsV t) t.size xs.toArray) _ hs, Array.getElem?_eq_getElem hs]
  refine ⟨?_, ?_⟩
  · simp only [World.cell?, Nat.zero_add, hb, Option.isSome_none, Bool.false_eq_true, if_false, List.getElem?_toArray, id]
    exact e1
  · simp [World.frozen?, hb]
theorem flat_rows {t : Ty} [Inhabited t.den] {ys : List t.den} (ht : flatB t = true) (r : List Value) {k : Nat} {x : t.den} (hx : ys[k]? = some x) : (((flatK (cellsV t) t.size ys.toArray).toList ++ r).drop (k * t.size)).take t.size = cellsV t x := by
  refine chunk_at (cellsV_len ht) fun j hj => ?_
  have hf := flat_at ht hx hj
  have hlt : k * t.size + j < (flatK (cellsV t) t.size ys.toArray).toList.length := by
    have hl : j < (cellsV t x).length := by rw [cellsV_len ht]; exact hj
    rw [List.getElem?_eq_getElem hl] at hf
    have := (Array.getElem?_eq_some_iff.1 hf).1
    simpa using this
  rw [List.getElem?_append_left hlt, Array.getElem?_toList, hf]
theorem sorted_list {α : Type} [Inhabited α] {lt : α → α → Bool} {d d' : Array α} (hp : PermIn 0 d.size d d') (hs : SortedIn lt 0 d.size d') : d'.toList.Perm d.toList ∧ d'.toList.Pairwise (fun a b => lt b a = false) := by
  obtain ⟨h1, _, h3⟩ := hp
  have e1 : d'.extract 0 d.size = d' := by rw [← h1]; simp
  have e2 : d.extract 0 d.size = d := by simp
  rw [e1, e2] at h3
  refine ⟨h3, ?_⟩
  rw [List.pairwise_iff_getElem]
  intro i j hi hj hij
  have hj' : j < d'.size := by simpa using hj
  have := hs i j (Nat.zero_le _) hij (by omega)
  rw [getElem!_pos d' j hj', getElem!_pos d' i (by omega)] at this
  simpa using this
theorem sorted_row {t : Ty} [Inhabited t.den] {ys xs : List t.den} (ht : flatB t = true) {w : World} {b : Nat} {cs : List Value} {e : TypeId} (hb : w.heap[b]? = some (.cells cs.toArray e (0, 0))) (hlen : ys.length = xs.length) {cap : Nat} (hcs : cs.length = cap * t.size) (hcap : xs.length ≤ cap) (n : Nat) (os : Array _root_.Go.Obj) :
    ∃ cs' : List Value, cs'.length = cs.length ∧ (∀ (k : Nat) x, ys[k]? = some x → (cs'.drop (k * t.size)).take t.size = cellsV t x) ∧ grow (putRow id (Sort.ahead w n) b 0 (flatK (cellsV t) t.size ys.toArray)) os = grow (Sort.ahead (w.setRow b cs'.toArray) n) os := by
  have hF : (flatK (cellsV t) t.size ys.toArray).size ≤ cs.length := by
    rw [size_flatK, hcs]
    have : ys.toArray.size = xs.length := by simpa using hlen
    rw [this]
    exact Nat.mul_le_mul_right _ hcap
  refine ⟨(flatK (cellsV t) t.size ys.toArray).toList ++ cs.drop (flatK (cellsV t) t.size ys.toArray).size, ?_, fun k x hx => flat_rows ht _ hx, ?_⟩
  · rw [List.length_append, List.length_drop, Array.length_toList]; omega
  · rw [putRow_ahead, row_set hb hF]
end Go.Ab
namespace Go.Ab
open Go.Sort
def cutT (t : Ty) (fn : List t.den → List t.den) : Inl := fun s args K =>
  match args with
  | [.os i] => (match s.heap i with
    | some (.arr u xs false) => match castTy (.slice u) (.slice t) xs with
      | some xs => K ((s.kill i).setObj i (some (.arr t (fn xs) false))) [.os i]
      | none => False
    | _ => False)
  | _ => False
theorem cutOK {P : Program} {E : Env} {f : Nat} {t : Ty} {fn : List t.den → List t.den} (ht : flatB t = true) (hE : Enters P f) (hlen : ∀ xs, (fn xs).length ≤ xs.length) (hmem : ∀ xs x, x ∈ fn xs → x ∈ xs)
    (h0 : ∀ ad w, Calls P f [.slice ad 0 0].toArray w fun e w' => e = .returned (.slice ad 0 0) ∧ w' = w)
    (hc : ∀ (w : World) (b cap : Nat) (cs : List Value) (e : TypeId) (xs : List t.den), w.heap[b]? = some (.cells cs.toArray e (0, 0)) → cs.length = cap * t.size → xs.length ≤ cap → xs.length < lim →
      (∀ (k : Nat) x, xs[k]? = some x → (cs.drop (k * t.size)).take t.size = cellsV t x) →
      Calls P f [.slice (some ⟨b, 0, none⟩) xs.length cap].toArray w fun e' w' => e' = .returned (.slice (some ⟨b, 0, none⟩) (fn xs).length cap) ∧ ∃ (cs' : List Value) (n : Nat) (os : Array _root_.Go.Obj),
        cs'.length = cs.length ∧ (∀ (k : Nat) x, (fn xs)[k]? = some x → (cs'.drop (k * t.size)).take t.size = cellsV t x) ∧ w' = Sort.grow (Sort.ahead (w.setRow b cs'.toArray) n) os) :
    InlOK P E f (cutT t fn) := by
  refine .inl ⟨hE, fun {G s a w m args vals K} hP hEq h hv hk => ?_⟩
  unfold cutT at hk
  split at hk
  · rename_i i
    split at hk
    · rename_i u xs0 hi
      split at hk
      · rename_i xs hcast
        unfold castTy at hcast
        split at hcast
        · rename_i e
          injection e with e
          subst e
          cases hcast
          obtain ⟨v, q, rfl, hv1, hv2⟩ := hv
          obtain rfl : q = [] := hv2
          obtain ⟨hin, hvm, _⟩ := hv1
          obtain ⟨ad, n, cap, hm, hn, hcap, hl, hr⟩ := (h.heap i _ hi).2
          have hvm : v = m i := hvm
          have hm : m i = .slice ad n cap := hm
          have hn : n = List.length xs0 := hn
          subst hn
          have fin : ∀ (w' : World) (v' : Value), (∃ av cv, v' = .slice av (fn xs0).length cv) → Keep (fun b => blk (m i) = some b) w w' → (∀ b, blk v' = some b → blk (m i) = some b) →
              (LeX i (G.rc s.objs m w) (G.rc (renewed s.objs i (some (.arr u (fn xs0) false))) (upd1 m i v') w') → ORel (G.rc (renewed s.objs i (some (.arr u (fn xs0) false))) (upd1 m i v') w') v' (.arr u (fn xs0) false)) →
              ∃ s' m' rs rvals, Ending.returned v' = .returned (retVal rvals) ∧ K s' rs ∧ Holds G s' a w' m' ∧ VRelL (G.rc s'.objs m' w') rs rvals := fun w' v' hv' hkeep hb hrel => by
            obtain ⟨h1, h2⟩ := h.o.renew (heap_get hi) v' (some (.arr u (fn xs0) false)) hkeep (fun p b _ hh => .inl (hb b hh)) (fun p hh _ hf => by cases hh; cases hf) (fun hle p hp => by cases hp; exact hrel hle)
            refine ⟨_, upd1 m i v', [.os i], [v'], rfl, hk, { o := h1, tmps := h.tmps.killed h2, defers := h.defers, kp := h.kp.killed h2 }, v', [], rfl, ⟨?_, ?_, ?_⟩, rfl⟩
            · have := get_lt (heap_get hi)
              simpa [Ctx.rc, St.setObj, St.kill] using this
            · simp [Ctx.rc]
            · obtain ⟨av, cv, e⟩ := hv'
              exact ⟨av, _, cv, e⟩
          rcases Nat.eq_zero_or_pos cap with h0c | hpos
          · subst h0c
            have hx : List.length xs0 = 0 := Nat.le_zero.1 hcap
            have hf0 : (fn xs0).length = 0 := Nat.le_zero.1 (hx ▸ hlen xs0)
            rw [hvm, hm, hx]
            refine Calls.mono (h0 ad w) fun e w' he => ?_
            obtain ⟨rfl, rfl⟩ := he
            refine fin _ (.slice ad 0 0) ⟨ad, 0, by rw [hf0]⟩ (Keep.refl _ _) (fun b hb => by cases ad <;> simp [blk] at hb) fun hle => ?_
            exact ⟨ad, 0, 0, rfl, hf0.symm, Nat.le_refl _, by unfold lim; decide, .inl rfl⟩
          · rcases hr with hr | ⟨b, cs, e', rfl, hb, hvl, hcm, hrep⟩
            · omega
            rw [hvm, hm]
            have hrep' : ∀ (k : Nat) x, xs0[k]? = some x → (cs.drop (k * u.size)).take u.size = cellsV u x ∧ smallV u x := fun k x hx => rep_flat ht (hrep k x hx)
            refine Calls.mono (hc w b cap cs e' xs0 hb hvl hcap hl (fun k x hx => (hrep' k x hx).1)) fun e w' he => ?_
            obtain ⟨rfl, cs', nn, os, hlen', hrows, rfl⟩ := he
            refine fin _ _ ⟨_, cap, rfl⟩ (keep_sorted.weaken fun k _ e => by subst e; rw [hm]; simp [blk]; omega) (fun k hk => (congrArg blk hm).trans hk) fun hle => ?_
            have hll := hlen xs0
            refine ⟨_, _, cap, rfl, rfl, by omega, by omega, .inr ⟨b, cs', e', rfl, ?_, by rw [hlen']; exact hvl, hcm, fun k x hx => ?_⟩⟩
            · show (Array.append (w.setRow b cs'.toArray).heap os)[b]? = _
              have hs := setRow_heap w b cs.toArray cs'.toArray e' (0, 0) hb
              have hlt : b < (w.setRow b cs'.toArray).heap.size := (Array.getElem?_eq_some_iff.1 hs).1
              exact (Array.getElem?_append_left hlt).trans hs
            · rw [hrows k x hx]
              refine flat_rep ht ?_
              obtain ⟨j, hj⟩ := List.mem_iff_getElem?.1 (hmem _ _ (List.mem_of_getElem? hx))
              exact (hrep' j x hj).2
        · cases hcast
      · cases hk
    · cases hk
  · cases hk
end Go.Ab
namespace Go.Proofs.Ytolminmmnckpkaa
open Go.Ab Go.Fn
theorem putRow_map {α : Type} [Inhabited α] (enc : α → Value) (w : World) (b off : Nat) (d : Array α) : Go.Sort.putRow enc w b off d = Go.Sort.putRow id w b off (d.map enc) := by
  unfold Go.Sort.putRow
  refine Go.Sort.mapBlock_congr _ _ _ _ fun c e fr _ => ?_
  apply Array.ext_getElem?
  intro k
  simp only [Go.Sort.putCells, Array.getElem?_mapIdx, Array.size_map, id]
  cases c[k]? with
  | none => rfl
  | some y =>
    simp only [Option.map_some]
    by_cases h : off ≤ k ∧ k < off + d.size
    · rw [if_pos h, if_pos h]
      have hk : k - off < d.size := by omega
      rw [getElem!_pos d _ hk, getElem!_pos (d.map enc) _ (by simpa using hk), Array.getElem_map]
    · rw [if_neg h, if_neg h]
theorem flat_str (d : Array (List UInt8)) : Go.Sort.flatK (cellsV .str) 1 d = d.map (fun s => Value.string ⟨s.toArray⟩) := by
  apply Array.ext
  · simp
  · intro i h1 h2
    have hi : i < d.size := by simpa using h2
    rw [← getElem!_pos (Go.Sort.flatK (cellsV .str) 1 d) i h1, Go.Sort.get_flatK _ _ _ _ (by simpa using hi), Nat.div_one, Nat.mod_one, Array.getElem_map, getElem!_pos d i hi]
    rfl
theorem le_bl (x y : List UInt8) : decide (x ≤ y) = !(Op.bytesLess y x) := by
  rw [bytesLess_eq]
  by_cases h : y < x
  · rw [decide_eq_true h, decide_eq_false (fun hn => hn h)]; rfl
  · rw [decide_eq_false h, decide_eq_true (p := x ≤ y) h]; rfl
theorem merge_weak (xs : List (List UInt8)) : (xs.mergeSort fun x y => decide (x ≤ y)).Pairwise (fun a b => Fn.ltT b a = false) := by
  have h := List.pairwise_mergeSort (le := fun x y : List UInt8 => decide (x ≤ y)) (fun a b c h1 h2 => by
    simp only [le_bl, Bool.not_eq_true'] at h1 h2 ⊢
    cases h : Op.bytesLess c a with
    | false => rfl
    | true =>
      by_cases e : b = a
      · subst e; rw [h] at h2; cases h2
      · have h3 : Op.bytesLess a b = true := bl_flip h1 e
        rw [bl_trans h h3] at h2; cases h2) (fun a b => by
    simp only [le_bl]
    cases h : Op.bytesLess b a with
    | false => rfl
    | true => rw [bl_asymm h]; rfl) xs
  refine List.Pairwise.imp (fun {a b} h => ?_) h
  simp only [le_bl, Bool.not_eq_true'] at h
  exact h
theorem hold_str {w : World} {b : Nat} {cs : List Value} {e : TypeId} {xs : List (List UInt8)} (hb : w.heap[b]? = some (.cells cs.toArray e (0, 0))) (hr : ∀ (k : Nat) x, xs[k]? = some x → (cs.drop (k * 1)).take 1 = cellsV .str x) : Go.Sort.Holds Go.Proofs.encStr w b 0 xs.toArray := fun j hj => by
  have hH0 : Go.Sort.Holds id w b 0 (Go.Sort.flatK (cellsV .str) 1 xs.toArray) := flat_holds (t := .str) rfl hb hr
  rw [flat_str] at hH0
  have := hH0 j (by simpa using hj)
  rw [getElem!_pos (xs.toArray.map _) j (by simpa using hj), Array.getElem_map] at this
  rw [getElem!_pos xs.toArray j hj]
  exact this
def i_SortStr : Inl := sortT .str Fn.ltT []
theorem in_SortStr : InO 92 i_SortStr := fun s c i => sortOK (exs := []) rfl ⟨_, Try.func92, rfl, rfl⟩
  (fun c vs h => h)
  (fun ad w => AnyM.slices_Sort_string_none Try.sortStr ad 0 w)
  (fun w b cap cs e xs hb hcs hcap hl hr hsm => by
    have hH := hold_str hb hr
    have hblk : b < w.heap.size := (Array.getElem?_eq_some_iff.1 hb).1
    have hsz : xs.length < 4611686018427387904 := by unfold lim at hl; omega
    have hcon := AnyM.slices_Sort_string Try.sortStr b 0 cap xs w hH hblk hsz
    refine Calls.mono hcon fun e' w' he => ?_
    obtain ⟨he, n, os, hw⟩ := he
    have hperm := List.mergeSort_perm xs (fun x y => decide (x ≤ y))
    obtain ⟨cs', hl', hr', hw'⟩ := sorted_row (t := .str) (ys := xs.mergeSort fun x y => decide (x ≤ y)) (xs := xs) rfl hb hperm.length_eq hcs hcap n os
    refine ⟨he, _, cs', n, os, hperm, merge_weak xs, hl', hr', ?_⟩
    rw [hw, putRow_map, ← hw']
    show _ = Go.Sort.grow (Go.Sort.putRow id (Go.Sort.ahead w n) b 0 (Go.Sort.flatK (cellsV .str) 1 _)) os
    rw [flat_str])
end Go.Proofs.Ytolminmmnckpkaa
namespace Go.Proofs.Ytolminmmnckpkaa
open Go.Ab Go.Fn
theorem comp_upto (l : List (List UInt8)) : ∀ k, k ≤ l.length → Go.Lib.compactUpTo l.toArray k = Fn.compactL (l.take k)
  | 0, _ => rfl
  | k + 1, hk => by
    rw [Go.Lib.compactUpTo_succ, comp_upto l k (by omega)]
    have hx := List.getElem?_eq_getElem (show k < l.length by omega)
    have hxe : l.toArray[k]! = l[k] := by rw [getElem!_pos l.toArray k (by simp; omega)]; simp
    rcases Nat.eq_zero_or_pos k with h0 | h0
    · subst h0
      rw [Go.Lib.keeps_lt_one _ 0 Nat.one_pos, if_pos rfl, hxe, List.take_add_one, hx]; rfl
    · have hy := List.getElem?_eq_getElem (show k - 1 < l.length by omega)
      have hye : l.toArray[k - 1]! = l[k - 1] := by rw [getElem!_pos l.toArray (k - 1) (by simp; omega)]; simp
      rw [compact_take h0 hy hx]
      by_cases he : l[k - 1] = l[k]
      · rw [Go.Lib.keeps_neg h0 (by rw [hxe, hye, he]), if_pos he]; simp
      · rw [Go.Lib.keeps_pos (by rw [hxe, hye]; exact fun e => he e.symm), if_neg he, if_pos rfl, hxe]
theorem lib_compact (l : List (List UInt8)) : Go.Lib.compact l = Fn.compactL l := by
  unfold Go.Lib.compact
  rw [comp_upto l l.length (Nat.le_refl _), List.take_length]
def i_CompStr : Inl := cutT .str Fn.compactL
theorem in_CompStr : InO 93 i_CompStr := fun s c i => cutOK rfl ⟨_, Try.func93, rfl, rfl⟩
  (fun xs => compact_len xs) (fun xs x hx => compact_mem.1 hx)
  (fun ad w => AnyG.slices_Compact_string_empty Try.compStr ad 0 w)
  (fun w b cap cs e xs hb hcs hcap hl hr => by
    have hH := hold_str hb hr
    have hcon := AnyG.slices_Compact_string Try.compStr b 0 cap xs w hH (by unfold lim at hl; omega) hcap
    rw [lib_compact] at hcon
    refine Calls.mono hcon fun e' w' he => ?_
    obtain ⟨he, n, hw⟩ := he
    have hcl := compact_len xs
    have hlen : (Fn.compactL xs ++ List.replicate (xs.length - (Fn.compactL xs).length) []).length = xs.length := by rw [List.length_append, List.length_replicate]; omega
    obtain ⟨cs', hl', hr', hw'⟩ := sorted_row (t := .str) (ys := Fn.compactL xs ++ List.replicate (xs.length - (Fn.compactL xs).length) []) (xs := xs) rfl hb hlen hcs hcap n #[]
    refine ⟨he, cs', n, #[], hl', fun k x hx => hr' k x (by rw [List.getElem?_append_left (List.getElem?_eq_some_iff.1 hx).1]; exact hx), ?_⟩
    rw [hw, putRow_map, ← hw', Go.Sort.grow_empty]
    show _ = Go.Sort.putRow id (Go.Sort.ahead w n) b 0 (Go.Sort.flatK (cellsV .str) 1 _)
    rw [flat_str])
end Go.Proofs.Ytolminmmnckpkaa
namespace Go.Ab

def growT (t : Ty) : Inl := fun s args K =>
  match args with
  | [.emp true, .d (.int .i64) n] => (0 ≤ (n : Int) ∧ (n : Int) ≤ 1000000) ∧ K { s with objs := s.objs ++ [some (.arr t [] false)] } [.os s.objs.length]
  | _ => False
theorem growOK {P : Program} {E : Env} {f : Nat} {t : Ty} (hE : Enters P f)
    (hc : ∀ (w : World) (n : Nat), n ≤ 1000000 → Calls P f [.slice none 0 0, .int .i64 (n : Int)].toArray w fun e w' => ∃ ad cap, e = .returned (.slice ad 0 cap) ∧
      ((ad = none ∧ cap = 0 ∧ w' = w) ∨ ∃ (cs : List Value) (ety : TypeId), ad = some ⟨w.heap.size, 0, none⟩ ∧ w' = w.drew.alloc (.cells cs.toArray ety) ∧ cs.length = cap * t.size ∧ cap ≤ 9223372036854775807)) :
    InlOK P E f (growT t) := by
  refine .inl ⟨hE, fun {G s a w m args vals K} hP hEq h hv hk => ?_⟩
  unfold growT at hk
  split at hk
  · rename_i n
    obtain ⟨⟨h0, h1⟩, hk⟩ := hk
    obtain ⟨v, q, rfl, ⟨av, rfl, ha⟩, v2, q2, rfl, ⟨_, hr⟩, hq⟩ := hv
    obtain rfl : q2 = [] := hq
    obtain rfl : av = none := by cases av with | none => rfl | some _ => cases ha
    have hr : [v2] = [Value.int .i64 n] := hr
    cases hr
    obtain ⟨k, rfl⟩ : ∃ k : Nat, n = Int.ofNat k := ⟨Int.toNat n, (Int.toNat_of_nonneg h0).symm⟩
    have h1 : Int.ofNat k ≤ Int.ofNat 1000000 := h1
    refine Calls.mono (hc w k (Int.ofNat_le.1 h1)) fun e w' he => ?_
    obtain ⟨ad, cap, rfl, he⟩ := he
    have hkeep : Keep (fun _ => False) w w' := by
      rcases he with ⟨_, _, rfl⟩ | ⟨cs, ety, _, rfl, _⟩
      · exact Keep.refl _ _
      · exact (keep_drew w).trans (keep_alloc _ _ _)
    have hb : ∀ b, blk (.slice ad 0 cap) = some b → w.heap.size ≤ b := fun b hb => by
      rcases he with ⟨rfl, rfl, _⟩ | ⟨cs, ety, rfl, _, _⟩
      · simp [blk] at hb
      · simp only [blk] at hb
        split at hb
        · cases hb
        · simp only [Option.some.injEq] at hb; omega
    have hu : (upd1 m s.objs.length (.slice ad 0 cap)) s.objs.length = .slice ad 0 cap := by simp [upd1]
    obtain ⟨h2, h3⟩ := h.o.extend hkeep [.arr t [] false] (m' := upd1 m s.objs.length (.slice ad 0 cap)) (fun i hi => by unfold upd1; exact if_neg (Nat.ne_of_lt hi))
      (fun j o hj b hbk => by
        have hj0 : j = 0 := Nat.lt_one_iff.1 (get_lt hj)
        subst hj0
        rw [Nat.add_zero, hu] at hbk
        exact hb b hbk)
      (fun i j o o' b hi hj _ _ => (Nat.lt_one_iff.1 (get_lt hi)).trans (Nat.lt_one_iff.1 (get_lt hj)).symm)
      (fun hle j o hj => by
        have hj0 : j = 0 := Nat.lt_one_iff.1 (get_lt hj)
        subst hj0
        simp at hj
        subst hj
        rw [Nat.add_zero, hu]
        refine ⟨ad, 0, cap, rfl, rfl, Nat.zero_le _, by unfold lim; decide, ?_⟩
        rcases he with ⟨_, hc0, _⟩ | ⟨cs, ety, rfl, rfl, hl, hm⟩
        · exact .inl hc0
        · refine .inr ⟨w.heap.size, cs, ety, rfl, heap_alloc_new' w.drew _, hl, hm, fun k x hx => by simp at hx⟩)
    refine ⟨_, _, _, [.slice ad 0 cap], rfl, hk, { o := h2, tmps := h.tmps.mono h3, defers := h.defers, kp := h.kp.mono h3 }, .slice ad 0 cap, [], rfl, ⟨by simp [Ctx.rc], by simp [Ctx.rc, upd1], ad, 0, cap, rfl⟩, rfl⟩
  · cases hk
end Go.Ab
namespace Go.Fn
open Go.Ab
def itoaS (n : Int) : List UInt8 := Lib.itoa n
def joinS (l : List (List UInt8)) (u : List UInt8) : List UInt8 := Lib.join l u
def inI (n : Int) : Prop := -9223372036854775808 ≤ n ∧ n ≤ 9223372036854775807
def dm (n : Int) : Nat := 2 * n.natAbs + (if n < 0 then 1 else 0)
theorem itoa_len {n : Int} (h : inI n) : (itoaS n).length ≤ 21 := Lib.itoa_length_le n h.1 h.2
theorem dig_neg {n : Int} (h : inI n) (hm : ¬ n = -9223372036854775808) (hn : n < 0) : wNeg .i64 n = -n ∧ inI (-n) ∧ dm (-n) < dm n ∧ catS [45] (itoaS (-n)) = itoaS n := by
  unfold inI at *
  refine ⟨?_, by omega, ?_, ?_⟩
  · unfold wNeg
    rw [IntKind.wrap_i64]
    omega
  · unfold dm
    rw [if_pos hn, if_neg (by omega)]
    omega
  · obtain ⟨u, rfl⟩ : ∃ u : Nat, n = -(u : Int) := ⟨n.natAbs, by omega⟩
    unfold itoaS catS
    rw [Int.neg_neg, Lib.itoa_nonneg, Lib.itoa_neg u (by omega)]
    rfl
theorem dig_min : ([45, 57, 50, 50, 51, 51, 55, 50, 48, 51, 54, 56, 53, 52, 55, 55, 53, 56, 48, 56] : List UInt8) = itoaS (-9223372036854775808) := by
  have e : (-9223372036854775808 : Int) = -((9223372036854775808 : Nat) : Int) := rfl
  unfold itoaS
  rw [e, Lib.itoa_neg _ (by decide)]
  simp [Lib.decDigits]
theorem dig_small {n : Int} (hn : ¬ n < 0) (h : n < 10) : [UInt8.ofNat (IntKind.u8.wrap (wAdd .i64 48 n)).toNat] = itoaS n := by
  obtain ⟨u, rfl⟩ : ∃ u : Nat, n = (u : Int) := ⟨n.toNat, by omega⟩
  unfold itoaS
  rw [Lib.itoa_nonneg, Lib.decDigits, dif_pos (by omega), wAdd_in (by omega), IntKind.wrap_u8]
  congr 2
  omega
theorem dig_big {n : Int} (h : inI n) (hn : ¬ n < 0) (h10 : ¬ n < 10) : wQuo .i64 n 10 = n / 10 ∧ inI (n / 10) ∧ dm (n / 10) < dm n ∧ catS (itoaS (n / 10)) [UInt8.ofNat (IntKind.u8.wrap (wAdd .i64 48 (wRem n 10))).toNat] = itoaS n := by
  unfold inI at *
  obtain ⟨u, rfl⟩ : ∃ u : Nat, n = (u : Int) := ⟨n.toNat, by omega⟩
  have hq : ((u : Int) / 10) = ((u / 10 : Nat) : Int) := by omega
  refine ⟨?_, by omega, ?_, ?_⟩
  · unfold wQuo
    rw [Int.tdiv_eq_ediv_of_nonneg (by omega), i64_in (by omega)]
  · unfold dm
    rw [if_neg hn, if_neg (by omega)]
    omega
  · unfold itoaS catS
    have e2 : wRem (u : Int) 10 = ((u % 10 : Nat) : Int) := rfl
    rw [hq, Lib.itoa_nonneg, Lib.itoa_nonneg, Lib.decDigits.eq_1 u, dif_neg (by omega), e2, wAdd_in (by omega), IntKind.wrap_u8]
    congr 3
    omega
end Go.Fn
namespace Go.Fn
open Go.Ab
def anyText : AnyV → Option (List UInt8)
  | .n x => some (itoaS x)
  | .s t => some t
  | .b _ => none
def texts (l : List AnyV) : List (List UInt8) := l.filterMap anyText
def said (l : List AnyV) : List UInt8 := joinS (texts l) [32]
def saidOK (l : List AnyV) : Prop := (∀ n, AnyV.n n ∈ l → inI n) ∧ (said l).length ≤ 100000000 ∧ l.length ≤ 100000000
theorem texts_zero (l : List AnyV) : texts (l.take 0) = [] := by simp [texts]
theorem texts_n {l : List AnyV} {k : Nat} {n : Int} (h : l[k]? = some (.n n)) : texts (l.take k) ++ [itoaS n] = texts (l.take (k + 1)) := by
  unfold texts; rw [List.take_add_one, h, List.filterMap_append]; rfl
theorem texts_s {l : List AnyV} {k : Nat} {s : List UInt8} (h : l[k]? = some (.s s)) : texts (l.take k) ++ [s] = texts (l.take (k + 1)) := by
  unfold texts; rw [List.take_add_one, h, List.filterMap_append]; rfl
theorem texts_b {l : List AnyV} {k : Nat} {x : AnyV} (h : l[k]? = some x) (h1 : ∀ a, x ≠ .n a) (h2 : ∀ a, x ≠ .s a) : texts (l.take k) = texts (l.take (k + 1)) := by
  unfold texts; rw [List.take_add_one, h, List.filterMap_append]
  cases x with
  | n a => exact absurd rfl (h1 a)
  | s a => exact absurd rfl (h2 a)
  | b a => simp [anyText]
theorem texts_end {l : List AnyV} {k : Nat} (h : ¬ k < l.length) : texts (l.take k) = texts l := by rw [List.take_of_length_le (by omega)]
theorem texts_len (l : List AnyV) (k : Nat) : (texts (l.take k)).length ≤ l.length := by
  unfold texts
  exact Nat.le_trans (List.length_filterMap_le _ _) (by rw [List.length_take]; omega)
end Go.Fn
namespace Go.Fn
open Go.Ab
def stpBad (k : Int) (a b c : List UInt8) : Bool := !(within k 1 5) || (decide ((a.length : Int) > 12) || (decide ((b.length : Int) > 12) || decide ((c.length : Int) > 4096)))
def stepT (s : Step) : List UInt8 := if s.1 = 1 then said [.s [119, 114, 105, 116, 101], .s s.2.1, .n (iOf (lenL s.2.2.2.1))] else if s.1 = 2 then said [.s [115, 121, 110, 99], .s s.2.1]
  else if s.1 = 3 then said [.s [114, 101, 110, 97, 109, 101], .s s.2.1, .s s.2.2.1] else if s.1 = 4 then said [.s [114, 101, 109, 111, 118, 101], .s s.2.1] else [115, 121, 110, 99, 100, 105, 114]
def stepC (s : Step) : Int := if stpBad s.1 s.2.1 s.2.2.1 s.2.2.2.1 = true then 1 else 0
def stepS (s : Step) : List UInt8 := if stpBad s.1 s.2.1 s.2.2.1 s.2.2.2.1 = true then [] else stepT s
theorem join2 (a b : List UInt8) : joinS [a, b] [32] = a ++ ([32] ++ b) := by simp [joinS, Lib.join, List.intercalate, List.intersperse]
theorem join3 (a b c : List UInt8) : joinS [a, b, c] [32] = a ++ ([32] ++ (b ++ ([32] ++ c))) := by simp [joinS, Lib.join, List.intercalate, List.intersperse]
theorem join4 (a b c d : List UInt8) : joinS [a, b, c, d] [32] = a ++ ([32] ++ (b ++ ([32] ++ (c ++ ([32] ++ d))))) := by simp [joinS, Lib.join, List.intercalate, List.intersperse]
theorem stpBad_no {k : Int} {a b c : List UInt8} (h : stpBad k a b c = false) : a.length ≤ 12 ∧ b.length ≤ 12 ∧ c.length ≤ 4096 := by
  unfold stpBad at h
  simp only [Bool.or_eq_false_iff, decide_eq_false_iff_not] at h
  omega
theorem stpBad_w {k : Int} {a b c : List UInt8} (h : within k 1 5 = false) : true = stpBad k a b c := by unfold stpBad; rw [h]; rfl
theorem stpBad_a {k : Int} {a b c : List UInt8} (h : iOf a.length > 12) : true = stpBad k a b c := by
  unfold stpBad; rw [decide_eq_true (p := (a.length : Int) > 12) h]; simp
theorem stpBad_b {k : Int} {a b c : List UInt8} (h : iOf b.length > 12) : true = stpBad k a b c := by
  unfold stpBad; rw [decide_eq_true (p := (b.length : Int) > 12) h]; simp
theorem stpBad_c {k : Int} {a b c : List UInt8} (hk : within k 1 5 = true) (h1 : ¬ iOf a.length > 12) (h2 : ¬ iOf b.length > 12) : decide (iOf c.length > 4096) = stpBad k a b c := by
  unfold stpBad; rw [hk, decide_eq_false (p := (a.length : Int) > 12) h1, decide_eq_false (p := (b.length : Int) > 12) h2]; rfl
theorem step_bad {s : Step} (h : stpBad s.1 s.2.1 s.2.2.1 s.2.2.2.1 = true) : [] = stepS s ∧ 1 = stepC s := by unfold stepS stepC; rw [if_pos h, if_pos h]; exact ⟨rfl, rfl⟩
theorem step_ok {s : Step} (h : stpBad s.1 s.2.1 s.2.2.1 s.2.2.2.1 = false) : stepT s = stepS s ∧ 0 = stepC s := by unfold stepS stepC; rw [if_neg (by rw [h]; exact Bool.false_ne_true), if_neg (by rw [h]; exact Bool.false_ne_true)]; exact ⟨rfl, rfl⟩
def szStep (s : Step) (n : Int) : Int := if wSub .i64 n (iOf (lenL s.2.1)) < 0 then -1 else if wSub .i64 (wSub .i64 n (iOf (lenL s.2.1))) (iOf (lenL s.2.2.1)) < 0 then -1 else if wSub .i64 (wSub .i64 (wSub .i64 n (iOf (lenL s.2.1))) (iOf (lenL s.2.2.1))) (iOf (lenL s.2.2.2.1)) < 0 then -1 else wSub .i64 (wSub .i64 (wSub .i64 n (iOf (lenL s.2.1))) (iOf (lenL s.2.2.1))) (iOf (lenL s.2.2.2.1))
theorem inI_len {n : Nat} (h : n < 1099511627776) : inI (iOf n) := by unfold inI iOf; omega
theorem said_ss (w a : List UInt8) : said [.s w, .s a] = w ++ ([32] ++ a) := join2 w a
theorem said_sss (w a b : List UInt8) : said [.s w, .s a, .s b] = w ++ ([32] ++ (a ++ ([32] ++ b))) := join3 w a b
theorem said_ssn (w a : List UInt8) (n : Int) : said [.s w, .s a, .n n] = w ++ ([32] ++ (a ++ ([32] ++ itoaS n))) := join3 w a (itoaS n)
theorem said_ssns (w a b : List UInt8) (n : Int) : said [.s w, .s a, .n n, .s b] = w ++ ([32] ++ (a ++ ([32] ++ (itoaS n ++ ([32] ++ b))))) := join4 w a (itoaS n) b
theorem sok_ss {w a : List UInt8} (h1 : w.length ≤ 100) (h2 : a.length ≤ 10000) : saidOK [.s w, .s a] := by
  refine ⟨fun n hn => by simp at hn, ?_, by simp⟩
  rw [said_ss]; simp; omega
theorem sok_sss {w a b : List UInt8} (h1 : w.length ≤ 100) (h2 : a.length ≤ 10000) (h3 : b.length ≤ 10000) : saidOK [.s w, .s a, .s b] := by
  refine ⟨fun n hn => by simp at hn, ?_, by simp⟩
  rw [said_sss]; simp; omega
theorem sok_ssn {w a : List UInt8} {n : Int} (h1 : w.length ≤ 100) (h2 : a.length ≤ 10000) (hn : inI n) : saidOK [.s w, .s a, .n n] := by
  refine ⟨fun m hm => by simp at hm; rw [hm]; exact hn, ?_, by simp⟩
  have := itoa_len hn
  rw [said_ssn]; simp; omega
theorem sok_ssns {w a b : List UInt8} {n : Int} (h1 : w.length ≤ 100) (h2 : a.length ≤ 10000) (hn : inI n) (h3 : b.length ≤ 10000) : saidOK [.s w, .s a, .n n, .s b] := by
  refine ⟨fun m hm => by simp at hm; rw [hm]; exact hn, ?_, by simp⟩
  have := itoa_len hn
  rw [said_ssns]; simp; omega
theorem f_cat {a b : List UInt8} (h : a.length + b.length ≤ 1000000) : fits (a.length + b.length) := by show _ < 1099511627776; omega
end Go.Fn
namespace Go.Fn
open Go.Ab
def addN (all : List Slot) (s : Slot) : List Slot := if slotAt all s.1 < 0 then put s all else all
def allTo (b c : List Slot) (k : Nat) : List Slot := (b.take k).foldl addN c
def allN (b c : List Slot) : List Slot := b.foldl addN c
def namesB (b c : List Slot) : List (List UInt8) := (allN b c).map (fun s => s.1)
theorem slotAt_neg {l : List Slot} {n : List UInt8} : slotAt l n < 0 ↔ ∀ x ∈ l, x.1 ≠ n := by
  unfold slotAt
  constructor
  · intro h x hx e
    unfold idx at h
    split at h
    · exact absurd (Int.natCast_nonneg _) (Int.not_le.2 h)
    · rename_i hf
      have := List.findIdx?_eq_none_iff.1 hf x hx
      unfold nameIs at this
      rw [e] at this
      simp at this
  · intro h
    apply Classical.byContradiction
    intro hn
    obtain ⟨k, x, e, hx, hp, _⟩ := idx_some (p := nameIs n) (xs := l) (fun e => hn (by rw [e]; decide))
    unfold nameIs at hp
    exact h x (List.mem_of_getElem? hx) (by simpa using hp)
theorem put_names {s : Slot} {l : List Slot} (x : List UInt8) : x ∈ (put s l).map (fun s => s.1) ↔ x = s.1 ∨ x ∈ l.map (fun s => s.1) := by
  induction l with
  | nil => simp [put]
  | cons y r ih =>
    unfold put
    split
    · simp only [List.map_cons, List.mem_cons, ih]
      constructor
      · rintro (h | h | h)
        · exact .inr (.inl h)
        · exact .inl h
        · exact .inr (.inr h)
      · rintro (h | h | h)
        · exact .inr (.inl h)
        · exact .inl h
        · exact .inr (.inr h)
    · split
      · rename_i he
        simp only [List.map_cons, List.mem_cons]
        constructor
        · rintro (h | h)
          · exact .inl h
          · exact .inr (.inr h)
        · rintro (h | h | h)
          · exact .inl h
          · exact .inl (h.trans he)
          · exact .inr h
      · simp only [List.map_cons, List.mem_cons]
theorem addN_names {all : List Slot} {s : Slot} (x : List UInt8) : x ∈ (addN all s).map (fun s => s.1) ↔ x = s.1 ∨ x ∈ all.map (fun s => s.1) := by
  unfold addN
  split
  · exact put_names x
  · rename_i h
    constructor
    · exact .inr
    · rintro (rfl | h2)
      · apply Classical.byContradiction
        intro hn
        refine h (slotAt_neg.2 fun y hy e => hn ?_)
        exact List.mem_map.2 ⟨y, hy, e⟩
      · exact h2
theorem addN_sorted {all : List Slot} {s : Slot} (h : SortedN all) : SortedN (addN all s) := by
  unfold addN
  split
  · exact put_sorted h
  · exact h
theorem foldN_sorted : ∀ {b c : List Slot}, SortedN c → SortedN (b.foldl addN c)
  | [], _, h => h
  | s :: r, c, h => foldN_sorted (b := r) (addN_sorted h)
theorem foldN_names (x : List UInt8) : ∀ {b c : List Slot}, x ∈ (b.foldl addN c).map (fun s => s.1) ↔ x ∈ b.map (fun s => s.1) ∨ x ∈ c.map (fun s => s.1)
  | [], c => by simp
  | s :: r, c => by
    rw [List.foldl_cons, foldN_names x (b := r), addN_names]
    simp only [List.map_cons, List.mem_cons]
    constructor
    · rintro (h | h | h)
      · exact .inl (.inr h)
      · exact .inl (.inl h)
      · exact .inr h
    · rintro ((h | h) | h)
      · exact .inr (.inl h)
      · exact .inl h
      · exact .inr (.inr h)
theorem names_sortedT {l : List Slot} (h : SortedN l) : SortedT (l.map (fun s => s.1)) := by
  unfold SortedT
  rw [List.pairwise_map]
  exact h
theorem names_compact {b c : List Slot} {ys : List (List UInt8)} (hc : SortedN c) (hp : ys.Perm ((b ++ c).map (fun s => s.1))) (hw : WeakT ys) : compactL ys = namesB b c := by
  refine sortedT_ext (compact_sorted hw) (names_sortedT (foldN_sorted hc)) fun x => ?_
  rw [compact_mem, hp.mem_iff]
  unfold namesB allN
  rw [foldN_names x, List.map_append, List.mem_append]
theorem all_succ {b c : List Slot} {k : Nat} {x : Slot} (hx : b[k]? = some x) : addN (allTo b c k) x = allTo b c (k + 1) := by
  unfold allTo
  rw [List.take_add_one, hx]; simp
theorem all_end {b c : List Slot} {k : Nat} (h : ¬ k < b.length) : allTo b c k = allN b c := by
  unfold allTo allN
  rw [List.take_of_length_le (by omega)]
theorem addN_len (all : List Slot) (s : Slot) : (addN all s).length ≤ all.length + 1 := by
  unfold addN
  split
  · exact put_len s all
  · omega
theorem all_len (b c : List Slot) : ∀ k, k ≤ b.length → (allTo b c k).length ≤ c.length + k
  | 0, _ => by simp [allTo]
  | k + 1, hk => by
    have ih := all_len b c k (by omega)
    rw [← all_succ (List.getElem?_eq_getElem (show k < b.length by omega))]
    have := addN_len (allTo b c k) b[k]
    omega
end Go.Fn
namespace Go.Fn
open Go.Ab
def flatS (l : List (List Slot)) : List Slot := l.flatten
def flatTo (l : List (List Slot)) (k : Nat) : List Slot := (l.take k).flatten
def slotN (s : Slot) : List UInt8 := s.1
theorem flat_zero (l : List (List Slot)) : flatTo l 0 = [] := rfl
theorem flat_succ {l : List (List Slot)} {k : Nat} {x : List Slot} (h : l[k]? = some x) : flatTo l k ++ x = flatTo l (k + 1) := by
  unfold flatTo
  rw [List.take_add_one, h]; simp
theorem flat_end {l : List (List Slot)} {k : Nat} (h : ¬ k < l.length) : flatTo l k = flatS l := by
  unfold flatTo flatS
  rw [List.take_of_length_le (by omega)]
theorem flat_len (l : List (List Slot)) (k : Nat) : (flatTo l k).length ≤ (flatS l).length := by
  unfold flatTo flatS
  conv => rhs; rw [← List.take_append_drop k l]
  rw [List.flatten_append, List.length_append]; omega
theorem flat_add {l : List (List Slot)} {k : Nat} {x : List Slot} (hl : (flatS l).length ≤ 1000000) (h : l[k]? = some x) : wAdd .i64 (iOf (lenL (flatTo l k))) (iOf x.length) = iOf (lenL (flatTo l (k + 1))) ∧ ¬ iOf (lenL (flatTo l (k + 1))) < 0 ∧ iOf (lenL (flatTo l (k + 1))) ≤ 1000000 := by
  have h1 := flat_len l (k + 1)
  rw [← flat_succ h] at h1 ⊢
  rw [List.length_append] at h1
  unfold iOf lenL
  rw [List.length_append, wAdd_in (by omega)]
  omega
end Go.Fn
namespace Go.Fn
open Go.Ab
def idOf (l : List Slot) (n : List UInt8) : Int := if slotAt l n < 0 then 0 else slotId l n
theorem idOf_none {l : List Slot} {n : List UInt8} (h : slotAt l n < 0) : 0 = idOf l n := (if_pos h).symm
theorem idOf_at {l : List Slot} {n : List UInt8} (h : ¬ slotAt l n < 0) {x : Slot} (hx : nthI l (slotAt l n) = some x) : x.2.1 = idOf l n := by unfold idOf slotId; rw [if_neg h, hx]
theorem slot_name {ino : List Inode} {l : List Slot} (h : slotsOK ino l = true) {x : Slot} (hx : x ∈ l) : x.1.length ≤ 12 := by
  unfold slotsOK at h
  obtain ⟨k, hk⟩ := List.mem_iff_getElem?.1 hx
  have := allI_iff.1 h k x hk
  unfold badSlot at this
  simp only [Bool.not_eq_true', Bool.or_eq_false_iff, Bool.not_eq_false'] at this
  have hn := this.1.1
  unfold nameOK within at hn
  simp only [Bool.and_eq_true, decide_eq_true_eq] at hn
  omega
theorem ino_facts {d : Disk} (h : diskOK d = true) {x : Inode} (hx : x ∈ d.1) : 1 ≤ x.1 ∧ x.1 ≤ 1000000 ∧ x.2.1.length ≤ 4096 := by
  have hd := disk_next h
  unfold diskOK at h
  simp only [Bool.and_eq_true] at h
  obtain ⟨k, hk⟩ := List.mem_iff_getElem?.1 hx
  have := allI_iff.1 h.1.2 k x hk
  unfold badInode within at this
  simp only [Bool.not_eq_true', Bool.or_eq_false_iff, Bool.not_eq_false', Bool.and_eq_true, decide_eq_true_eq, decide_eq_false_iff_not] at this
  obtain ⟨⟨⟨⟨h1, h2⟩, _⟩, h3⟩, _⟩ := this
  exact ⟨h1, by omega, by omega⟩
theorem ino_at {a : List Inode} {i : Int} (h : ¬ inodeAt a i < 0) : ∃ x, nthI a (inodeAt a i) = some x ∧ x ∈ a ∧ x.1 = i := by
  obtain ⟨k, x, e, hx, hp, _⟩ := idx_some (p := inodeIs i) (xs := a) (fun e => h (by unfold inodeAt; rw [e]; decide))
  refine ⟨x, ?_, List.mem_of_getElem? hx, of_decide_eq_true hp⟩
  unfold inodeAt nthI
  rw [e]; exact hx
theorem ino_none {d : Disk} (h : diskOK d = true) : inodeAt d.1 0 < 0 := by
  apply Classical.byContradiction
  intro hn
  obtain ⟨x, _, hx, h0⟩ := ino_at hn
  have := (ino_facts h hx).1
  omega
theorem slot_at {l : List Slot} {n : List UInt8} (h : ¬ slotAt l n < 0) : ∃ x, nthI l (slotAt l n) = some x ∧ x ∈ l ∧ x.1 = n := by
  obtain ⟨k, x, e, hx, hp, _⟩ := idx_some (p := nameIs n) (xs := l) (fun e => h (by unfold slotAt; rw [e]; decide))
  refine ⟨x, ?_, List.mem_of_getElem? hx, by unfold nameIs at hp; simpa using hp⟩
  unfold slotAt nthI
  rw [e]; exact hx
theorem slot_ino {d : Disk} {l : List Slot} (h : slotsOK d.1 l = true) {x : Slot} (hx : x ∈ l) : ¬ inodeAt d.1 x.2.1 < 0 := by
  obtain ⟨k, hk⟩ := List.mem_iff_getElem?.1 hx
  exact slots_in h hk
theorem id_ok {d : Disk} (h : diskOK d = true) {l : List Slot} (hl : slotsOK d.1 l = true) {n : List UInt8} (hn : ¬ slotAt l n < 0) : (1 ≤ idOf l n ∧ idOf l n ≤ 1000000) ∧ ¬ inodeAt d.1 (idOf l n) < 0 := by
  obtain ⟨x, e, hx, _⟩ := slot_at hn
  rw [← idOf_at hn e]
  have h1 := slot_ino hl hx
  obtain ⟨y, _, hy, e2⟩ := ino_at h1
  have := ino_facts h hy
  exact ⟨by omega, h1⟩
theorem id_ino {d : Disk} (h : diskOK d = true) {n : List UInt8} : inodeAt d.1 (idOf d.2.1 n) ≥ 0 ↔ ¬ slotAt d.2.1 n < 0 := by
  constructor
  · intro h1 h2
    rw [← idOf_none h2] at h1
    have := ino_none h
    omega
  · intro h1
    have := (id_ok h (diskOK_parts h).1 h1).2
    omega
theorem id_pos {d : Disk} (h : diskOK d = true) {n : List UInt8} : idOf d.2.2.1 n > 0 ↔ ¬ slotAt d.2.2.1 n < 0 := by
  constructor
  · intro h1 h2
    rw [← idOf_none h2] at h1
    omega
  · intro h1
    have := (id_ok h (diskOK_parts h).2 h1).1
    omega
theorem names_in {d : Disk} {n : List UInt8} (h : n ∈ namesB d.2.1 d.2.2.1) : n ∈ d.2.1.map (fun s => s.1) ∨ n ∈ d.2.2.1.map (fun s => s.1) := by
  unfold namesB allN at h
  exact (foldN_names n).1 h
theorem names_12 {d : Disk} (h : diskOK d = true) {n : List UInt8} (hn : n ∈ namesB d.2.1 d.2.2.1) : n.length ≤ 12 := by
  have hp := diskOK_parts h
  rcases names_in hn with h1 | h1 <;> obtain ⟨x, hx, rfl⟩ := List.mem_map.1 h1
  · exact slot_name hp.1 hx
  · exact slot_name hp.2 hx
def inoX (a : List Inode) (i : Int) : Inode := match nthI a (inodeAt a i) with | some x => x | none => (0, [], false, ())
def nowT (n : List UInt8) (x : Inode) : List UInt8 := said [.s n, .s [110, 111, 119], .n x.1, .s [98, 121, 116, 101, 115], .n (iOf (lenL x.2.1))]
def nowS (n : List UInt8) (x : Inode) : List UInt8 := if x.2.2.1 = true then catS (nowT n x) [32, 115, 121, 110, 99, 101, 100] else nowT n x
def lineN (d : Disk) (n : List UInt8) : List UInt8 := if slotAt d.2.1 n < 0 then n else nowS n (inoX d.1 (idOf d.2.1 n))
def lineD (d : Disk) (n : List UInt8) : List UInt8 := if slotAt d.2.2.1 n < 0 then lineN d n else said [.s (lineN d n), .s [115, 97, 102, 101], .n (idOf d.2.2.1 n)]
def linesD (d : Disk) : List (List UInt8) := (namesB d.2.1 d.2.2.1).map (lineD d)
def dskC (d : Disk) : Int := if diskOK d = false then 1 else 0
def dskS (d : Disk) : List (List UInt8) := if diskOK d = false then [] else linesD d
theorem join5 (a b c d e : List UInt8) : joinS [a, b, c, d, e] [32] = a ++ ([32] ++ (b ++ ([32] ++ (c ++ ([32] ++ (d ++ ([32] ++ e))))))) := by simp [joinS, Lib.join, List.intercalate, List.intersperse]
theorem nowT_eq (n : List UInt8) (x : Inode) : nowT n x = n ++ ([32] ++ ([110, 111, 119] ++ ([32] ++ (itoaS x.1 ++ ([32] ++ ([98, 121, 116, 101, 115] ++ ([32] ++ itoaS (iOf (lenL x.2.1))))))))) := join5 _ _ _ _ _
theorem sok_now {n : List UInt8} {x : Inode} (h1 : n.length ≤ 12) (h2 : 1 ≤ x.1 ∧ x.1 ≤ 1000000 ∧ x.2.1.length ≤ 4096) : saidOK [.s n, .s [110, 111, 119], .n x.1, .s [98, 121, 116, 101, 115], .n (iOf (lenL x.2.1))] ∧ (nowT n x).length ≤ 100 := by
  have hi : inI x.1 := by unfold inI; omega
  have hj : inI (iOf (lenL x.2.1)) := inI_len (by unfold lenL; omega)
  have h3 := itoa_len hi
  have h4 := itoa_len hj
  have e : (nowT n x).length ≤ 100 := by
    rw [nowT_eq]
    simp only [List.length_append, List.length_cons, List.length_nil]
    omega
  refine ⟨⟨fun m hm => ?_, Nat.le_trans e (by decide), by simp⟩, e⟩
  simp at hm
  rcases hm with rfl | rfl
  · exact hi
  · exact hj
theorem nowS_len {n : List UInt8} {x : Inode} (h1 : n.length ≤ 12) (h2 : 1 ≤ x.1 ∧ x.1 ≤ 1000000 ∧ x.2.1.length ≤ 4096) : (nowS n x).length ≤ 107 := by
  have := (sok_now h1 h2).2
  unfold nowS
  split
  · unfold catS; simp only [List.length_append, List.length_cons, List.length_nil]; omega
  · omega
theorem ino_x {d : Disk} (h : diskOK d = true) {i : Int} (hi : ¬ inodeAt d.1 i < 0) {x : Inode} (hx : nthI d.1 (inodeAt d.1 i) = some x) : inoX d.1 i = x ∧ x.1 = i ∧ 1 ≤ x.1 ∧ x.1 ≤ 1000000 ∧ x.2.1.length ≤ 4096 := by
  obtain ⟨y, e, hy, ei⟩ := ino_at hi
  rw [e] at hx; cases hx
  refine ⟨?_, ei, ino_facts h hy⟩
  unfold inoX
  rw [e]
theorem lineN_len {d : Disk} (h : diskOK d = true) {n : List UInt8} (hn : n.length ≤ 12) : (lineN d n).length ≤ 107 := by
  unfold lineN
  split
  · omega
  · rename_i hs
    have hi := (id_ok h (diskOK_parts h).1 hs).2
    obtain ⟨y, e, hy, ei⟩ := ino_at hi
    have := ino_x h hi e
    rw [this.1]
    exact nowS_len hn this.2.2
theorem dsk_bad {d : Disk} (h : diskOK d = false) : [] = dskS d ∧ 1 = dskC d := by unfold dskS dskC; rw [if_pos h, if_pos h]; exact ⟨rfl, rfl⟩
theorem dsk_ok {d : Disk} (h : diskOK d = true) : linesD d = dskS d ∧ 0 = dskC d := by unfold dskS dskC; rw [h]; exact ⟨rfl, rfl⟩
end Go.Fn
namespace Go.Fn
open Go.Ab
def recAt (l : List Rec) (i : Nat) : Rec := l.getD i rec0
def upOf (l : List Rec) (i : Nat) : Int := if parentS (recAt l i).2.1 = [] then 0 else idx (atPath (parentS (recAt l i).2.1)) (l.take i)
def sameB (l : List Rec) (i : Int) : Bool := decide (i > 0) && decide ((recAt l (i.toNat - 1)).2.1 = (recAt l i.toNat).2.1)
def unlessB (l : List Rec) (i : Int) : Bool := decide (i > 0) && !(lessL (split 47 (recAt l (i.toNat - 1)).2.1) (split 47 (recAt l i.toNat).2.1))
def orderB (l : List Rec) (i : Int) : Bool := decide (i > 0) && !(pathLess (recAt l (i.toNat - 1)).2.1 (recAt l i.toNat).2.1)
def dirB (l : List Rec) (i : Int) : Bool := !(decide (parentS (recAt l i.toNat).2.1 = [])) && !(decide ((recAt l (upOf l i.toNat).toNat).1 = 3))
def faultAt (l : List Rec) (i : Nat) : Int := if 16 ≤ i then 6 else if ¬ recFault (recAt l i) = 0 then recFault (recAt l i) else if sameB l (Int.ofNat i) = true then 18 else if orderB l (Int.ofNat i) = true then 11 else if upOf l i < 0 then 12 else if dirB l (Int.ofNat i) = true then 13 else 0
def faultI (l : List Rec) (i : Int) : Int := faultAt l i.toNat
def okL (l : List Rec) : Prop := ∀ r ∈ l, r.2.1.length ≤ 100000000
end Go.Fn
namespace Go.Fn
open Go.Ab
def OKto (l : List Rec) (k : Nat) : Prop := k ≤ l.length ∧ ∀ j, j < k → faultAt l j = 0
def layI (l : List Rec) : Option Nat := (List.range l.length).find? fun i => !(decide (faultAt l i = 0))
def layN (l : List Rec) : Int := match layI l with | some i => Int.ofNat i | none => 0
def layC (l : List Rec) : Int := match layI l with | some i => faultAt l i | none => 0
end Go.Fn
namespace Go.Fn
open Go.Ab
theorem recAt_at {l : List Rec} {i : Nat} {x : Rec} (h : l[i]? = some x) : recAt l i = x := by unfold recAt; rw [List.getD_eq_getElem?_getD, h]; rfl
theorem ok0 (l : List Rec) : OKto l 0 := ⟨Nat.zero_le _, fun j hj => absurd hj (Nat.not_lt_zero _)⟩
theorem ok_step {l : List Rec} {i : Nat} (h : OKto l i) (hi : i < l.length) (hf : faultAt l i = 0) : OKto l (i + 1) := by
  refine ⟨hi, fun j hj => ?_⟩
  by_cases e : j = i
  · rw [e]; exact hf
  · exact h.2 j (by omega)
theorem lay_at {l : List Rec} {i : Nat} (h : OKto l i) (hi : i < l.length) (hf : ¬ faultAt l i = 0) : layI l = some i := by
  unfold layI
  rw [List.find?_range_eq_some]
  refine ⟨by simp [hf], List.mem_range.2 hi, fun j hj => by simp [h.2 j hj]⟩
theorem lay_c {l : List Rec} {i : Nat} {c : Int} (h : OKto l i) (hi : i < l.length) (hc : faultAt l i = c) (hn : ¬ c = 0) : Int.ofNat i = layN l ∧ c = layC l := by
  have := lay_at h hi (by rw [hc]; exact hn)
  unfold layN layC
  rw [this]
  exact ⟨rfl, hc.symm⟩
theorem lay_end {l : List Rec} {i : Nat} (h : OKto l i) (hi : ¬ i < l.length) : 0 = layN l ∧ 0 = layC l := by
  have : layI l = none := by
    unfold layI
    rw [List.find?_eq_none]
    intro j hj
    have := List.mem_range.1 hj
    simp [h.2 j (by omega)]
  unfold layN layC
  rw [this]
  exact ⟨rfl, rfl⟩
theorem fa_16 {l : List Rec} {i : Nat} (h : 16 ≤ i) : faultAt l i = 6 := by unfold faultAt; rw [if_pos h]
theorem ok_16 {l : List Rec} {i : Nat} (h : OKto l i) (hn : ¬ Int.ofNat i = 16) : ¬ 16 ≤ i := by
  intro hge
  have : ¬ i = 16 := fun e => hn (by rw [e]; rfl)
  have h2 := h.2 16 (by omega)
  rw [fa_16 (Nat.le_refl _)] at h2
  cases h2
theorem fa_rec {l : List Rec} {i : Nat} (h : ¬ 16 ≤ i) (hr : ¬ recFault (recAt l i) = 0) : faultAt l i = recFault (recAt l i) := by unfold faultAt; rw [if_neg h, if_pos hr]
theorem fa_18 {l : List Rec} {i : Nat} (h : ¬ 16 ≤ i) (hr : recFault (recAt l i) = 0) (hs : sameB l (Int.ofNat i) = true) : faultAt l i = 18 := by unfold faultAt; rw [if_neg h, if_neg (by simp [hr]), if_pos hs]
theorem fa_11 {l : List Rec} {i : Nat} (h : ¬ 16 ≤ i) (hr : recFault (recAt l i) = 0) (hs : sameB l (Int.ofNat i) = false) (ho : orderB l (Int.ofNat i) = true) : faultAt l i = 11 := by unfold faultAt; rw [if_neg h, if_neg (by simp [hr]), if_neg (by rw [hs]; exact Bool.false_ne_true), if_pos ho]
theorem fa_12 {l : List Rec} {i : Nat} (h : ¬ 16 ≤ i) (hr : recFault (recAt l i) = 0) (hs : sameB l (Int.ofNat i) = false) (ho : orderB l (Int.ofNat i) = false) (hu : upOf l i < 0) : faultAt l i = 12 := by unfold faultAt; rw [if_neg h, if_neg (by simp [hr]), if_neg (by rw [hs]; exact Bool.false_ne_true), if_neg (by rw [ho]; exact Bool.false_ne_true), if_pos hu]
theorem fa_13 {l : List Rec} {i : Nat} (h : ¬ 16 ≤ i) (hr : recFault (recAt l i) = 0) (hs : sameB l (Int.ofNat i) = false) (ho : orderB l (Int.ofNat i) = false) (hu : ¬ upOf l i < 0) (hd : dirB l (Int.ofNat i) = true) : faultAt l i = 13 := by unfold faultAt; rw [if_neg h, if_neg (by simp [hr]), if_neg (by rw [hs]; exact Bool.false_ne_true), if_neg (by rw [ho]; exact Bool.false_ne_true), if_neg hu, if_pos hd]
theorem fa_0 {l : List Rec} {i : Nat} (h : ¬ 16 ≤ i) (hr : recFault (recAt l i) = 0) (hs : sameB l (Int.ofNat i) = false) (ho : orderB l (Int.ofNat i) = false) (hu : ¬ upOf l i < 0) (hd : dirB l (Int.ofNat i) = false) : faultAt l i = 0 := by unfold faultAt; rw [if_neg h, if_neg (by simp [hr]), if_neg (by rw [hs]; exact Bool.false_ne_true), if_neg (by rw [ho]; exact Bool.false_ne_true), if_neg hu, if_neg (by rw [hd]; exact Bool.false_ne_true)]
theorem fa_fine {l : List Rec} {i : Nat} (h : faultAt l i = 0) : recFault (recAt l i) = 0 := by
  unfold faultAt at h
  split at h
  · cases h
  · split at h
    · exact h
    · rename_i h2
      simpa using h2
theorem rec_path {r : Rec} (h : recFault r = 0) : pathOK r.2.1 = true := by
  obtain ⟨k, p, b, m, o, ⟨⟩⟩ := r
  exact (rec_ok h).1
theorem order_eq {l : List Rec} {i : Nat} (h : OKto l i) (hr : recFault (recAt l i) = 0) : orderB l (Int.ofNat i) = unlessB l (Int.ofNat i) := by
  unfold orderB unlessB
  by_cases hp : Int.ofNat i > 0
  · have hp' : 0 < i := Int.ofNat_lt.1 hp
    have h1 : pathOK (recAt l (i - 1)).2.1 = true := rec_path (fa_fine (h.2 (i - 1) (by omega)))
    have h2 := rec_path hr
    unfold pathLess
    rw [show (Int.ofNat i).toNat = i from rfl, h1, h2]
    rfl
  · rw [decide_eq_false hp]; rfl
theorem ws1 {l : List Rec} {i : Nat} (hp : Int.ofNat i > 0) (hi : i < l.length) (hf : fits l.length) : wSub .i64 (Int.ofNat i) 1 = Int.ofNat (i - 1) := by
  have hf : l.length < 1099511627776 := hf
  have hp : 0 < i := Int.ofNat_lt.1 hp
  rw [wSub_in (by simp only [Int.ofNat_eq_natCast]; omega)]
  simp only [Int.ofNat_eq_natCast]
  omega
theorem same_at {l : List Rec} {i : Nat} {x y : Rec} (hp : Int.ofNat i > 0) (hx : l[i]? = some x) (hy : l[i - 1]? = some y) : (x.2.1 == y.2.1) = sameB l (Int.ofNat i) ∧ (y.2.1 == x.2.1) = sameB l (Int.ofNat i) := by
  unfold sameB
  rw [decide_eq_true hp, show (Int.ofNat i).toNat = i from rfl, recAt_at hx, recAt_at hy]
  by_cases e : y.2.1 = x.2.1
  · rw [decide_eq_true e, e]; simp
  · have e' : ¬ x.2.1 = y.2.1 := fun h => e h.symm
    rw [decide_eq_false e]
    simp [e, e']
theorem same_no {l : List Rec} {i : Nat} (hp : ¬ Int.ofNat i > 0) : false = sameB l (Int.ofNat i) := by unfold sameB; rw [decide_eq_false hp]; rfl
theorem unless_at {l : List Rec} {i : Nat} {x y : Rec} (hp : Int.ofNat i > 0) (hx : l[i]? = some x) (hy : l[i - 1]? = some y) : (!lessL (split 47 y.2.1) (split 47 x.2.1)) = unlessB l (Int.ofNat i) := by
  unfold unlessB
  rw [decide_eq_true hp, show (Int.ofNat i).toNat = i from rfl, recAt_at hx, recAt_at hy]; rfl
theorem unless_no {l : List Rec} {i : Nat} (hp : ¬ Int.ofNat i > 0) : false = unlessB l (Int.ofNat i) := by unfold unlessB; rw [decide_eq_false hp]; rfl
theorem order_at {l : List Rec} {i : Nat} {x y : Rec} (hp : Int.ofNat i > 0) (hx : l[i]? = some x) (hy : l[i - 1]? = some y) : (!pathLess y.2.1 x.2.1) = orderB l (Int.ofNat i) := by
  unfold orderB
  rw [decide_eq_true hp, show (Int.ofNat i).toNat = i from rfl, recAt_at hx, recAt_at hy]; rfl
theorem order_no {l : List Rec} {i : Nat} (hp : ¬ Int.ofNat i > 0) : false = orderB l (Int.ofNat i) := by unfold orderB; rw [decide_eq_false hp]; rfl
theorem up_none {l : List Rec} {i : Nat} {x : Rec} (hx : l[i]? = some x) (hp : parentS x.2.1 = []) : upOf l i = 0 := by unfold upOf; rw [recAt_at hx, if_pos hp]
theorem up_some {l : List Rec} {i : Nat} {x : Rec} (hx : l[i]? = some x) (hp : ¬ parentS x.2.1 = []) : idx (atPath (parentS x.2.1)) (subL l 0 (tN (Int.ofNat i))) = upOf l i := by
  unfold upOf; rw [recAt_at hx, if_neg hp]
  have : subL l 0 (tN (Int.ofNat i)) = l.take i := rfl
  rw [this]
theorem idx_lt {α : Type} (p : α → Bool) (l : List α) : idx p l < l.length ∧ -1 ≤ idx p l := by
  unfold idx
  cases h : l.findIdx? p with
  | none => simp; omega
  | some i =>
    have := (List.findIdx?_eq_some_iff_getElem.1 h).1
    simp only
    omega
theorem up_lt {l : List Rec} {i : Nat} (hi : i < l.length) : upOf l i < l.length := by
  unfold upOf
  split
  · omega
  · have := (idx_lt (atPath (parentS (recAt l i).2.1)) (l.take i)).1
    simp at this
    omega
theorem dir_none {l : List Rec} {i : Nat} {x : Rec} (hx : l[i]? = some x) (hp : parentS x.2.1 = []) : dirB l (Int.ofNat i) = false := by
  unfold dirB; rw [show (Int.ofNat i).toNat = i from rfl, recAt_at hx, decide_eq_true hp]; rfl
theorem dir_some {l : List Rec} {i : Nat} {x z : Rec} (hx : l[i]? = some x) (hp : ¬ parentS x.2.1 = []) (hu : ¬ upOf l i < 0) (hz : nthI l (upOf l i) = some z) : dirB l (Int.ofNat i) = !(decide (z.1 = 3)) := by
  have hz : l[(upOf l i).toNat]? = some z := hz
  unfold dirB; rw [show (Int.ofNat i).toNat = i from rfl, recAt_at hx, decide_eq_false hp, recAt_at hz]; rfl
theorem mm_toNat {u : Int} : (mm true u 0).toNat = u.toNat ∧ 0 ≤ mm true u 0 := by
  unfold mm
  simp only [if_true]
  split <;> omega
theorem ms1 {i : Nat} (hp : Int.ofNat i > 0) (hi : i < 1099511627776) : mm true (wSub .i64 (Int.ofNat i) 1) 0 = Int.ofNat (i - 1) := by
  have hp : 0 < i := Int.ofNat_lt.1 hp
  rw [wSub_in (by simp only [Int.ofNat_eq_natCast]; omega)]
  unfold mm
  simp only [if_true, Int.ofNat_eq_natCast]
  split <;> omega
theorem dir_any {l : List Rec} {i : Nat} {x : Rec} (hi : i < l.length) (hx : l[i]? = some x) (hp : ¬ parentS x.2.1 = []) : bnd (mm true (upOf l i) 0) l.length ∧ ∀ z, nthI l (mm true (upOf l i) 0) = some z → true = (!(parentS x.2.1 == [])) ∧ (z.1 != 3) = dirB l (Int.ofNat i) := by
  have hu := up_lt hi
  refine ⟨⟨mm_toNat.2, ?_⟩, fun z hz => ⟨?_, ?_⟩⟩
  · unfold mm
    simp only [if_true]
    split <;> omega
  · simpa using hp
  · unfold nthI at hz
    rw [mm_toNat.1] at hz
    unfold dirB
    rw [show (Int.ofNat i).toNat = i from rfl, recAt_at hx, decide_eq_false hp, recAt_at hz]
    by_cases h3 : z.1 = 3
    · rw [h3]; rfl
    · rw [decide_eq_false h3]; simpa using h3
theorem ge_16 {i : Nat} : decide (Int.ofNat i ≥ 16) = decide (16 ≤ i) := by
  by_cases h : 16 ≤ i
  · rw [decide_eq_true h, decide_eq_true (p := Int.ofNat i ≥ 16) (by simp only [Int.ofNat_eq_natCast]; omega)]
  · rw [decide_eq_false h, decide_eq_false (p := Int.ofNat i ≥ 16) (by simp only [Int.ofNat_eq_natCast]; omega)]
theorem fa_first {l : List Rec} {i : Nat} {x : Rec} (hx : l[i]? = some x) {o : Bool} {u : Int} (ho : o = orderB l (Int.ofNat i)) (hu : u = upOf l i) :
    first [.b (decide (Int.ofNat i ≥ 16)), .n 6, .b true, .n (first [.b (!decide (recFault x = 0)), .n (recFault x), .b (sameB l (Int.ofNat i)), .n 18, .b o, .n 11, .b (decide (u < 0)), .n 12, .b (dirB l (Int.ofNat i)), .n 13])] = faultI l (Int.ofNat i) := by
  have e : faultI l (Int.ofNat i) = faultAt l i := rfl
  rw [e, ge_16, ho, hu, ← recAt_at hx]
  unfold faultAt
  by_cases h16 : 16 ≤ i
  · rw [decide_eq_true h16, if_pos h16]; rfl
  rw [decide_eq_false h16, if_neg h16]
  by_cases hr : recFault (recAt l i) = 0
  · rw [decide_eq_true hr, if_neg (not_not_intro hr)]
    cases sameB l (Int.ofNat i) with
    | true => rfl
    | false =>
      rw [if_neg Bool.false_ne_true]
      cases orderB l (Int.ofNat i) with
      | true => rfl
      | false =>
        rw [if_neg Bool.false_ne_true]
        by_cases h5 : upOf l i < 0
        · rw [decide_eq_true h5, if_pos h5]; rfl
        · rw [decide_eq_false h5, if_neg h5]
          cases dirB l (Int.ofNat i) <;> rfl
  · rw [decide_eq_false hr, if_pos hr]; rfl
end Go.Fn
namespace Go.Fn
open Go.Ab
def encHead (l : List Rec) : List UInt8 := catS [76, 89, 82] [b8 (iOf (lenL l))]
def encStep (acc : List UInt8) (r : Rec) : List UInt8 := catS acc (catS (enc r) (two (sum (enc r))))
def encTo (l : List Rec) (k : Nat) : List UInt8 := (l.take k).foldl encStep (encHead l)
def encLay (l : List Rec) : List UInt8 := catS (encTo l l.length) (two (sum (encTo l l.length)))
theorem enc_len {r : Rec} (h : recFault r = 0) : (enc r).length ≤ 61 := by
  obtain ⟨k, p, b, m, o, ⟨⟩⟩ := r
  obtain ⟨hp, h8, -, h4, -⟩ := rec_ok h
  have h1 := path_len hp
  have h2 := body_len h8
  unfold enc
  simp only [catS, two, List.length_append, List.length_cons, List.length_nil]
  omega
theorem encTo_zero (l : List Rec) : encTo l 0 = encHead l := by unfold encTo; simp
theorem encTo_succ {l : List Rec} {k : Nat} {x : Rec} (hx : l[k]? = some x) : encTo l (k + 1) = encStep (encTo l k) x := by
  unfold encTo
  rw [List.take_add_one, hx, List.foldl_append]
  rfl
theorem encStep_len {acc : List UInt8} {r : Rec} (h : recFault r = 0) : (encStep acc r).length ≤ acc.length + 63 := by
  have := enc_len h
  unfold encStep
  simp only [catS, two, List.length_append, List.length_cons, List.length_nil]
  omega
theorem encTo_len {l : List Rec} (h : ∀ r ∈ l, recFault r = 0) : ∀ k, k ≤ l.length → (encTo l k).length ≤ 4 + 63 * k
  | 0, _ => by rw [encTo_zero]; unfold encHead; simp [catS]
  | k + 1, hk => by
    have hx := List.getElem?_eq_getElem (show k < l.length by omega)
    rw [encTo_succ hx]
    have h1 := encTo_len h k (by omega)
    have h2 := encStep_len (acc := encTo l k) (h _ (List.mem_of_getElem? hx))
    omega
theorem okto_all {l : List Rec} (h : OKto l l.length) : ∀ r ∈ l, recFault r = 0 := by
  intro r hr
  obtain ⟨j, hj, rfl⟩ := List.getElem_of_mem hr
  have := fa_fine (h.2 j hj)
  rwa [recAt_at (List.getElem?_eq_getElem hj)] at this
theorem okto_16 {l : List Rec} (h : OKto l l.length) : l.length ≤ 16 := by
  rcases Nat.lt_or_ge 16 l.length with hlt | hge
  · have := h.2 16 hlt
    rw [fa_16 (Nat.le_refl _)] at this
    cases this
  · exact hge
theorem layC_ok {l : List Rec} (h : layC l = 0) : OKto l l.length := by
  refine ⟨Nat.le_refl _, fun j hj => ?_⟩
  unfold layC layI at h
  split at h
  · rename_i i hi
    rw [List.find?_range_eq_some] at hi
    simp [h] at hi
  · rename_i hi
    rw [List.find?_eq_none] at hi
    have := hi j (List.mem_range.2 hj)
    simpa using this
def encLayC (l : List Rec) : Int := if l.length > 4096 then 2 else if ¬ layC l = 0 then 1 else 0
def encLayS (l : List Rec) : List UInt8 := if encLayC l = 0 then encLay l else []
theorem el_long {l : List Rec} (h : iOf l.length > 4096) : [] = encLayS l ∧ 2 = encLayC l := by
  have h : (l.length : Int) > 4096 := h
  have e : encLayC l = 2 := by unfold encLayC; rw [if_pos (by omega)]
  unfold encLayS
  rw [e]
  exact ⟨rfl, rfl⟩
theorem el_bad {l : List Rec} (h : ¬ iOf l.length > 4096) (hc : ¬ layC l = 0) : [] = encLayS l ∧ 1 = encLayC l := by
  have h : ¬ (l.length : Int) > 4096 := h
  have e : encLayC l = 1 := by unfold encLayC; rw [if_neg (by omega), if_pos hc]
  unfold encLayS
  rw [e]
  exact ⟨rfl, rfl⟩
theorem el_ok {l : List Rec} (h : ¬ iOf l.length > 4096) (hc : layC l = 0) : OKto l l.length ∧ encLay l = encLayS l ∧ 0 = encLayC l := by
  have h : ¬ (l.length : Int) > 4096 := h
  have e : encLayC l = 0 := by unfold encLayC; rw [if_neg (by omega), if_neg (not_not_intro hc)]
  unfold encLayS
  rw [e]
  exact ⟨layC_ok hc, rfl, rfl⟩
def layFC (l : List Rec) : Int := if l.length > 4096 then 2 else layC l
def layFN (l : List Rec) : Int := if l.length > 4096 then 0 else layN l
theorem lf_long {l : List Rec} (h : iOf l.length > 4096) : 0 = layFN l ∧ 2 = layFC l := by
  have h : (l.length : Int) > 4096 := h
  unfold layFN layFC
  rw [if_pos (by omega), if_pos (by omega)]; exact ⟨rfl, rfl⟩
theorem lf_ok {l : List Rec} (h : ¬ iOf l.length > 4096) : layN l = layFN l ∧ layC l = layFC l := by
  have h : ¬ (l.length : Int) > 4096 := h
  unfold layFN layFC
  rw [if_neg (by omega), if_neg (by omega)]; exact ⟨rfl, rfl⟩
theorem first_lay {l : List Rec} : first [.b (decide (iOf l.length > 4096)), .n 2, .b (!decide (layFC l = 0)), .n 1] = encLayC l := by
  unfold encLayC layFC iOf
  by_cases h : l.length > 4096
  · rw [if_pos h, if_pos h, decide_eq_true (p := (l.length : Int) > 4096) (by omega)]; rfl
  · rw [if_neg h, if_neg h, decide_eq_false (p := (l.length : Int) > 4096) (by omega)]
    by_cases h2 : layC l = 0
    · rw [decide_eq_true h2, if_neg (not_not_intro h2)]; rfl
    · rw [decide_eq_false h2, if_pos h2]; rfl
theorem enc_f1 {x : Rec} (h : recFault x = 0) : fits ((enc x).length + (two (sum (enc x))).length) := by
  have := enc_len h
  show _ < 1099511627776
  simp only [two, List.length_cons, List.length_nil]
  omega
theorem enc_f2 {l : List Rec} {i : Nat} {x : Rec} (ha : ∀ r ∈ l, recFault r = 0) (h16 : l.length ≤ 16) (hi : i ≤ l.length) (h : recFault x = 0) : fits ((encTo l i).length + (catS (enc x) (two (sum (enc x)))).length) := by
  have h1 := enc_len h
  have h2 := encTo_len ha i hi
  show _ < 1099511627776
  simp only [catS, two, List.length_append, List.length_cons, List.length_nil]
  omega
theorem enc_f3 {l : List Rec} {i : Nat} (ha : ∀ r ∈ l, recFault r = 0) (h16 : l.length ≤ 16) (hi : i ≤ l.length) : fits ((encTo l i).length + (two (sum (encTo l i))).length) := by
  have h2 := encTo_len ha i hi
  show _ < 1099511627776
  simp only [two, List.length_cons, List.length_nil]
  omega
theorem enc_end {l : List Rec} {i : Nat} (hi : i ≤ l.length) (he : ¬ i < l.length) : catS (encTo l i) (two (sum (encTo l i))) = encLay l := by
  have : i = l.length := by omega
  subst this; rfl
end Go.Fn
namespace Go.Fn
open Go.Ab
def hexD (n : Nat) : UInt8 := [48, 49, 50, 51, 52, 53, 54, 55, 56, 57, 97, 98, 99, 100, 101, 102].getD n 48
def plainB (c : UInt8) (i : Nat) : Bool := decide (32 < c.toNat) && (decide (c.toNat < 127) && (!(decide (c = 37)) && (!(decide (c = 45)) || decide (0 < i))))
def hexB (c : UInt8) : List UInt8 := [37, hexD (c.toNat / 16), hexD (c.toNat % 16)]
def wordB (c : UInt8) (i : Nat) : List UInt8 := if plainB c i = true then [c] else hexB c
def wordTo (t : List UInt8) : Nat → List UInt8
  | 0 => []
  | k + 1 => wordTo t k ++ wordB (t.getD k 0) k
def word (t : List UInt8) : List UInt8 := if t = [] then [45] else wordTo t t.length
def plainAt (t : List UInt8) (i : Int) : Bool := plainB (t.getD i.toNat 0) i.toNat
theorem getD_at {t : List UInt8} {i : Nat} {c : UInt8} (h : t[i]? = some c) : t.getD i 0 = c := by rw [List.getD_eq_getElem?_getD, h]; rfl
theorem plainAt_at {t : List UInt8} {i : Nat} {c : UInt8} (h : t[i]? = some c) : plainAt t (Int.ofNat i) = plainB c i := by
  unfold plainAt; rw [show (Int.ofNat i).toNat = i from rfl, getD_at h]
theorem wordTo_at {t : List UInt8} {i : Nat} {c : UInt8} (h : t[i]? = some c) : wordTo t (i + 1) = wordTo t i ++ wordB c i := by
  show wordTo t i ++ wordB (t.getD i 0) i = _
  rw [getD_at h]
theorem wordTo_len (t : List UInt8) : ∀ k, (wordTo t k).length ≤ 3 * k
  | 0 => Nat.le_refl _
  | k + 1 => by
    have := wordTo_len t k
    show (wordTo t k ++ wordB (t.getD k 0) k).length ≤ _
    rw [List.length_append]
    have h2 : (wordB (t.getD k 0) k).length ≤ 3 := by
      unfold wordB hexB
      split <;> simp
    omega
theorem word_len {t : List UInt8} : (word t).length ≤ 3 * t.length + 1 := by
  unfold word
  split
  · simp
  · have := wordTo_len t t.length
    omega
theorem back_map (l : List UInt8) : (l.map fun c => Int.ofNat c.toNat).map (fun n => UInt8.ofNat n.toNat) = l := by
  rw [List.map_map]
  have : ((fun n : Int => UInt8.ofNat n.toNat) ∘ fun c : UInt8 => Int.ofNat c.toNat) = id := by funext c; simp
  rw [this, List.map_id]
theorem word_end {t : List UInt8} {i : Nat} (hi : i ≤ t.length) (h : ¬ i < t.length) (hn : ¬ t = []) : (((wordTo t i).map fun c => Int.ofNat c.toNat).map fun n => UInt8.ofNat n.toNat) = word t := by
  rw [back_map]
  unfold word
  rw [if_neg hn, show i = t.length by omega]
theorem word_plain {t : List UInt8} {i : Nat} {c : UInt8} (h : t[i]? = some c) (hp : plainAt t (Int.ofNat i) = true) : ((wordTo t i).map fun c => Int.ofNat c.toNat) ++ [Int.ofNat c.toNat] = (wordTo t (i + 1)).map fun c => Int.ofNat c.toNat := by
  rw [plainAt_at h] at hp
  rw [wordTo_at h, List.map_append]
  unfold wordB
  rw [if_pos hp]; rfl
theorem word_hex {t : List UInt8} {i : Nat} {c a b : UInt8} (h : t[i]? = some c) (hp : plainAt t (Int.ofNat i) = false) (ha : a = hexD (c.toNat / 16)) (hb : b = hexD (c.toNat % 16)) : ((wordTo t i).map fun c => Int.ofNat c.toNat) ++ [37, Int.ofNat a.toNat, Int.ofNat b.toNat] = (wordTo t (i + 1)).map fun c => Int.ofNat c.toNat := by
  rw [plainAt_at h] at hp
  rw [wordTo_at h, List.map_append]
  unfold wordB hexB
  rw [if_neg (by rw [hp]; exact Bool.false_ne_true), ha, hb]; rfl
theorem hex_quo (c : UInt8) : wQuo .u8 (Int.ofNat c.toNat) 16 = Int.ofNat (c.toNat / 16) := by
  have h := c.toNat_lt
  unfold wQuo
  rw [show Int.tdiv (Int.ofNat c.toNat) 16 = Int.ofNat (c.toNat / 16) from rfl, IntKind.wrap_u8]
  simp only [Int.ofNat_eq_natCast]
  omega
theorem hex_rem (c : UInt8) : wRem (Int.ofNat c.toNat) 16 = Int.ofNat (c.toNat % 16) := rfl
theorem hex_shr (c : UInt8) : wShr .u8 (Int.ofNat c.toNat) 4 = Int.ofNat (c.toNat / 16) := rfl
theorem hex_and (c : UInt8) : wBits .and .u8 (Int.ofNat c.toNat) 15 = Int.ofNat (c.toNat % 16) := by
  have h := c.toNat_lt
  show IntKind.u8.wrap ((BitVec.ofInt 8 ((c.toNat : Nat) : Int) &&& BitVec.ofInt 8 ((15 : Nat) : Int)).toNat : Int) = _
  rw [BitVec.ofInt_natCast, BitVec.ofInt_natCast, BitVec.toNat_and, BitVec.toNat_ofNat, BitVec.toNat_ofNat, Nat.mod_eq_of_lt (by omega), Nat.mod_eq_of_lt (by decide)]
  rw [show (15 : Nat) = 2 ^ 4 - 1 from rfl, Nat.and_two_pow_sub_one_eq_mod, IntKind.wrap_u8]
  simp only [Int.ofNat_eq_natCast]
  omega
theorem hexD_at {n : Nat} {d : UInt8} (h : [48, 49, 50, 51, 52, 53, 54, 55, 56, 57, 97, 98, 99, 100, 101, 102][n]? = some d) : d = hexD n := by
  unfold hexD; rw [List.getD_eq_getElem?_getD, h]; rfl
theorem pb_low {t : List UInt8} {i : Nat} {c : UInt8} (h : t[i]? = some c) (hc : ¬ Int.ofNat c.toNat > 32) : false = plainAt t (Int.ofNat i) := by
  rw [plainAt_at h]; unfold plainB; rw [decide_eq_false (p := 32 < c.toNat) (by simp only [Int.ofNat_eq_natCast] at hc; omega)]; rfl
theorem pb_high {t : List UInt8} {i : Nat} {c : UInt8} (h : t[i]? = some c) (hc : ¬ Int.ofNat c.toNat < 127) : false = plainAt t (Int.ofNat i) := by
  rw [plainAt_at h]; unfold plainB; rw [decide_eq_false (p := c.toNat < 127) (by simp only [Int.ofNat_eq_natCast] at hc; omega)]; simp
theorem b_iff {c d : UInt8} : (Int.ofNat c.toNat = Int.ofNat d.toNat) = (c = d) := propext ⟨fun h => UInt8.toNat_inj.1 (Int.ofNat.inj h), fun h => by rw [h]⟩
theorem pb_pct {t : List UInt8} {i : Nat} {c : UInt8} (h : t[i]? = some c) (hc : Int.ofNat c.toNat = 37) : false = plainAt t (Int.ofNat i) := by
  have hc : c = 37 := b_iff.mp (show Int.ofNat c.toNat = Int.ofNat (37 : UInt8).toNat from hc)
  rw [plainAt_at h, hc]; unfold plainB; simp
theorem pb_rest {t : List UInt8} {i : Nat} {c : UInt8} (h : t[i]? = some c) (h1 : Int.ofNat c.toNat > 32) (h2 : Int.ofNat c.toNat < 127) (h3 : ¬ Int.ofNat c.toNat = 37) : plainAt t (Int.ofNat i) = (!(decide (c = 45)) || decide (0 < i)) := by
  have h3 : ¬ c = 37 := fun e => h3 (by rw [e]; rfl)
  rw [plainAt_at h]; unfold plainB
  rw [decide_eq_true (p := 32 < c.toNat) (by simp only [Int.ofNat_eq_natCast] at h1; omega), decide_eq_true (p := c.toNat < 127) (by simp only [Int.ofNat_eq_natCast] at h2; omega), decide_eq_false h3]; rfl
theorem pb_dash {t : List UInt8} {i : Nat} {c : UInt8} (h : t[i]? = some c) (h1 : Int.ofNat c.toNat > 32) (h2 : Int.ofNat c.toNat < 127) (h3 : ¬ Int.ofNat c.toNat = 37) (h4 : Int.ofNat c.toNat = 45) : decide (Int.ofNat i > 0) = plainAt t (Int.ofNat i) := by
  have h4 : c = 45 := b_iff.mp (show Int.ofNat c.toNat = Int.ofNat (45 : UInt8).toNat from h4)
  rw [pb_rest h h1 h2 h3, h4]
  simp
theorem pb_ok {t : List UInt8} {i : Nat} {c : UInt8} (h : t[i]? = some c) (h1 : Int.ofNat c.toNat > 32) (h2 : Int.ofNat c.toNat < 127) (h3 : ¬ Int.ofNat c.toNat = 37) (h4 : ¬ Int.ofNat c.toNat = 45) : true = plainAt t (Int.ofNat i) := by
  have h4 : ¬ c = 45 := fun e => h4 (by rw [e]; rfl)
  rw [pb_rest h h1 h2 h3, decide_eq_false h4]; rfl
theorem in_33 {c : UInt8} (h : within (IntKind.i64.wrap (Int.ofNat c.toNat)) 33 126 = true) : Int.ofNat c.toNat > 32 ∧ Int.ofNat c.toNat < 127 := by
  rw [i64_byte] at h
  unfold within at h
  simp only [Bool.and_eq_true, decide_eq_true_eq] at h
  simp only [Int.ofNat_eq_natCast]
  omega
theorem out_33 {t : List UInt8} {i : Nat} {c : UInt8} (ht : t[i]? = some c) (h : within (IntKind.i64.wrap (Int.ofNat c.toNat)) 33 126 = false) : false = plainAt t (Int.ofNat i) := by
  rw [i64_byte] at h
  by_cases h1 : Int.ofNat c.toNat > 32
  · refine pb_high ht fun h2 => ?_
    unfold within at h
    simp only [Int.ofNat_eq_natCast] at h1 h2
    rw [decide_eq_true (p := (33 : Int) ≤ (c.toNat : Int)) (by omega), decide_eq_true (p := (c.toNat : Int) ≤ 126) (by omega)] at h
    cases h
  · exact pb_low ht h1
end Go.Fn
namespace Go.Fn
open Go.Ab
def recT (r : Rec) : List UInt8 := if r.1 = 1 then said [.s [102, 105, 108, 101], .s r.2.1, .n r.2.2.2.1, .s (word r.2.2.1)] else if r.1 = 2 then said [.s [108, 105, 110, 107], .s r.2.1, .s (word r.2.2.1)]
  else if r.1 = 4 then said [.s [119, 104, 105, 116, 101], .s r.2.1] else if r.2.2.2.2.1 = true then said [.s [111, 112, 97, 113, 117, 101], .s r.2.1, .n r.2.2.2.1] else said [.s [100, 105, 114], .s r.2.1, .n r.2.2.2.1]
theorem rt_opq {k : Int} {p b : List UInt8} {m : Int} (h1 : ¬k = 1) (h2 : ¬k = 2) (h3 : ¬k = 4) : recT (k, p, b, m, true, ()) = said [.s [111, 112, 97, 113, 117, 101], .s p, .n m] := by unfold recT; rw [if_neg h1, if_neg h2, if_neg h3]; rfl
theorem rt_dir {k : Int} {p b : List UInt8} {m : Int} (h1 : ¬k = 1) (h2 : ¬k = 2) (h3 : ¬k = 4) : recT (k, p, b, m, false, ()) = said [.s [100, 105, 114], .s p, .n m] := by unfold recT; rw [if_neg h1, if_neg h2, if_neg h3]; rfl
def recTS (r : Rec) : List UInt8 := if recFault r = 0 then recT r else []
def recTC (r : Rec) : Int := if recFault r = 0 then 0 else 1
theorem rt_no {r : Rec} (h : ¬ recFault r = 0) : [] = recTS r ∧ 1 = recTC r := by unfold recTS recTC; rw [if_neg h, if_neg h]; exact ⟨rfl, rfl⟩
theorem rt_yes {r : Rec} (h : recFault r = 0) : recFault r = 0 ∧ recT r = recTS r ∧ 0 = recTC r := by unfold recTS recTC; rw [if_pos h, if_pos h]; exact ⟨h, rfl, rfl⟩
end Go.Fn
namespace Go.Fn
open Go.Ab
theorem map_take {α β : Type} {f : α → β} {l : List α} {k : Nat} {x : α} (hx : l[k]? = some x) : (l.take k).map f ++ [f x] = (l.take (k + 1)).map f := by
  rw [List.take_add_one, hx]; simp
theorem map_end {α β : Type} {f : α → β} {l : List α} {k : Nat} (h : ¬ k < l.length) : (l.take k).map f = l.map f := by
  rw [List.take_of_length_le (by omega)]
theorem map_fit {α β : Type} {f : α → β} {l : List α} {k : Nat} (hk : k < l.length) (hf : fits l.length) : fits (((l.take k).map f).length + 1) := by
  unfold fits at *
  rw [List.length_map, List.length_take]; omega
def lls (l : List Rec) : List (List UInt8) := if encLayC l = 0 then l.map recT else []
theorem ll_long {l : List Rec} (h : iOf l.length > 4096) : [] = lls l ∧ 2 = encLayC l := by
  have e := (el_long h).2
  unfold lls
  rw [if_neg (by rw [← e]; decide)]
  exact ⟨rfl, e⟩
theorem ll_bad {l : List Rec} (h : ¬ iOf l.length > 4096) (hc : ¬ layC l = 0) : [] = lls l ∧ 1 = encLayC l := by
  have e := (el_bad h hc).2
  unfold lls
  rw [if_neg (by rw [← e]; decide)]
  exact ⟨rfl, e⟩
theorem ll_ok {l : List Rec} (h : ¬ iOf l.length > 4096) (hc : layC l = 0) : OKto l l.length ∧ l.map recT = lls l ∧ 0 = encLayC l := by
  have e := el_ok h hc
  refine ⟨e.1, ?_, e.2.2⟩
  unfold lls
  rw [if_pos e.2.2.symm]
theorem ll_no {l : List Rec} (h : ¬ encLayC l = 0) : [] = lls l := by unfold lls; rw [if_neg h]
theorem ll_first {l : List Rec} (h : encLayC l = 0) : OKto l l.length ∧ l.map recT = lls l ∧ 0 = encLayC l := by
  have h2 : ¬ iOf l.length > 4096 := fun hg => by
    have := (el_long (l := l) hg).2
    rw [h] at this
    exact absurd this (by decide)
  exact ll_ok h2 (Classical.byContradiction fun hn => by
    have := (el_bad h2 hn).2
    rw [h] at this
    exact absurd this (by decide))
end Go.Fn
namespace Go.Proofs.Ytolminmmnckpkaa
open Go.Ab Go.Fn
theorem grow_info : (Try.prog.info? 67).map (fun i => (i.zero, i.size, i.bytes)) = some (some (.agg #[.string ⟨#[]⟩, .int .i64 0]), 2, 24) := by kernel_rfl
def i_Grow : Inl := growT tSlot
theorem in_Grow : InO 106 i_Grow := fun s c i => growOK ⟨_, Try.func106, rfl, rfl⟩ (fun w n hn => by
  obtain ⟨i0, hi, hz0, hz1, hz2⟩ := info_parts grow_info
  rcases Nat.eq_zero_or_pos n with h0 | hp
  · subst h0
    refine Calls.mono (Any8.slices_Grow_room Try.growSlot none 0 0 0 w (Nat.le_refl _) (by decide) (by decide) (Nat.le_refl _)) fun e w' he => ?_
    exact ⟨none, 0, he.1, .inl ⟨rfl, rfl, he.2⟩⟩
  · refine Calls.mono (Any8.slices_Grow_grow Try.growSlot i0 _ hi hz0 (by rw [hz1]; decide) none 0 0 n [] w (Nat.le_refl _) (by omega) (by rw [hz2]; omega) (by omega) (by simp) (fun _ => rfl) (fun a ha => by cases ha)) fun e w' he => ?_
    refine ⟨_, _, he.1, .inr ⟨(([] : List Value).toArray ++ Builtin.zeroCells (Value.agg #[.string ⟨#[]⟩, .int .i64 0]).cells (0 + n - 0) ++ Builtin.zeroCells (Value.agg #[.string ⟨#[]⟩, .int .i64 0]).cells (grownCap w (0 + n) 0 (Try.growSlot_ren.t 25) - (0 + n))).toList, _, rfl, he.2, ?_, ?_⟩⟩
    · have hge := grownCap_ge w (0 + n) 0 (Try.growSlot_ren.t 25)
      have hz : (Value.agg #[.string ⟨#[]⟩, .int .i64 0]).cells.size = 2 := rfl
      show _ = _ * 2
      rw [Array.length_toList, Array.size_append, Array.size_append, size_zeroCells, size_zeroCells, hz]
      simp only [List.size_toArray, List.length_nil]
      omega
    · have hm := grownCap_le_maxLen w (0 + n) 0 (Try.growSlot_ren.t 25) (by unfold maxLen; omega)
      unfold maxLen at hm
      exact hm)
end Go.Proofs.Ytolminmmnckpkaa
namespace Go.Proofs.Ytolminmmnckpkaa
open Go.Ab Go.Fn
def s_Concat : FSpec := { ps := [.v (.slice (.slice tSlot))], rs := [.o (.slice tSlot)], pre := fun x => (flatS x.1).length ≤ 1000000 ∧ List.length (α := List Fn.Slot) x.1 ≤ 1000000, fn := fun x => (flatS x.1, ()), upd := fun _ => () }
def L_cat1 (l : List (List Fn.Slot)) : LoopAnn := { ι := Nat, inv := fun k => k ≤ l.length, slots := fun k => [(11, .d I (Int.ofNat k)), (3, .d I (iOf (lenL (flatTo l k))))], objs := fun _ => [], μ := fun k => l.length - k }
def L_cat2 (l : List (List Fn.Slot)) : LoopAnn := { ι := Nat, inv := fun k => k ≤ l.length, slots := fun k => [(27, .d I (Int.ofNat k)), (6, .os 1)], objs := fun k => [(1, .arr tSlot (flatTo l k) false)], μ := fun k => l.length - k }
theorem fo_Concat : FO 91 s_Concat := by
  refine foI (specs := []) (clos := []) (inl := [(106, i_Grow)]) (fun x => [(3, .lv [0, 3, 9, 10, 11] <| fun _ => L_cat1 x.1), (11, .lv [6, 25, 26, 27] <| fun _ => L_cat2 x.1)]) trivial trivial ⟨in_Grow, trivial⟩ Try.func91 rfl rfl ?_
  rintro ⟨l, ⟨⟩⟩ ⟨h1, h2⟩
  refine vcOf (fits (lenL l) → (∃ (i : Nat), i ≤ List.length l ∧ (l = l ∧ (0 : Int) = iOf (lenL (flatTo l i)) ∧ l = l ∧ iOf (lenL l) = iOf (lenL l) ∧ (0 : Int) = Int.ofNat i ∧ True) ∧ ((([] : List (List UInt8 × Int × Unit)) = ([] : List (List UInt8 × Int × Unit)) ∧ false = false) ∧ True) ∧ True) ∧ ∀ (i : Nat), i ≤ List.length l → (decide (Int.ofNat i < iOf (lenL l)) = true → bnd (Int.ofNat i) (lenL l) ∧ ∀ (x : List (List UInt8 × Int × Unit)), nthI l (Int.ofNat i) = some x → nat_lit 1 ≤ nat_lit 1 ∧ (fits (lenL x) → (decide (wAdd IntKind.i64 (iOf (lenL (flatTo l i))) (iOf (lenL x)) < (0 : Int)) = true → False) ∧ (decide (wAdd IntKind.i64 (iOf (lenL (flatTo l i))) (iOf (lenL x)) < (0 : Int)) = false → ∃ (j : Nat), j ≤ List.length l ∧ (List.length l).sub j < (List.length l).sub i ∧ (l = l ∧ wAdd IntKind.i64 (iOf (lenL (flatTo l i))) (iOf (lenL x)) = iOf (lenL (flatTo l j)) ∧ l = l ∧ iOf (lenL l) = iOf (lenL l) ∧ wAdd IntKind.i64 (Int.ofNat i) (1 : Int) = Int.ofNat j ∧ True) ∧ ((([] : List (List UInt8 × Int × Unit)) = ([] : List (List UInt8 × Int × Unit)) ∧ false = false) ∧ True) ∧ True))) ∧ (decide (Int.ofNat i < iOf (lenL l)) = false → ((0 : (Ty.int IntKind.i64).den) ≤ iOf (lenL (flatTo l i)) ∧ iOf (lenL (flatTo l i)) ≤ (1000000 : (Ty.int IntKind.i64).den)) ∧ (fits (lenL l) → (∃ (i : Nat), i ≤ List.length l ∧ (nat_lit 1 = (1 : Nat) ∧ l = l ∧ iOf (lenL l) = iOf (lenL l) ∧ (0 : Int) = Int.ofNat i ∧ True) ∧ ((([] : List (List UInt8 × Int × Unit)) = ([] : List (List UInt8 × Int × Unit)) ∧ false = false) ∧ (([] : List (List UInt8 × Int × Unit)) = flatTo l i ∧ false = false) ∧ True) ∧ True) ∧ ∀ (i : Nat), i ≤ List.length l → (decide (Int.ofNat i < iOf (lenL l)) = true → bnd (Int.ofNat i) (lenL l) ∧ ∀ (x : List (List UInt8 × Int × Unit)), nthI l (Int.ofNat i) = some x → nat_lit 1 ≤ nat_lit 1 ∧ fits (lenL (flatTo l i) + lenL x) ∧ ∃ (j : Nat), j ≤ List.length l ∧ (List.length l).sub j < (List.length l).sub i ∧ ((1 : Nat) = (1 : Nat) ∧ l = l ∧ iOf (lenL l) = iOf (lenL l) ∧ wAdd IntKind.i64 (Int.ofNat i) (1 : Int) = Int.ofNat j ∧ True) ∧ ((([] : List (List UInt8 × Int × Unit)) = ([] : List (List UInt8 × Int × Unit)) ∧ false = false) ∧ (flatTo l i ++ x = flatTo l j ∧ false = false) ∧ True) ∧ True) ∧ (decide (Int.ofNat i < iOf (lenL l)) = false → (flatTo l i, ()) = (flatS l, ()) ∧ () = ())))) (by kernel_rfl) ?_
  simp only [Nat.le_refl, Nat.succ_eq_add_one, Nat.reduceAdd, Nat.reduceLeDiff, Nat.zero_le, pair_unit, mk_eta, len_bne, eqD_bne, bne_iff_ne, bne_eq_false_iff_eq, beq_iff_eq, beq_eq_false_iff_ne, true_and, and_true, and_self, eq_self, lt_iff, nthI_nat, bnd_iff, decide_eq_true_eq, decide_eq_false_iff_not, Nat.sub_eq, nz, ne_eq, not_false_eq_true, Prod.mk.injEq, Int.reduceEq, Nat.reduceEqDiff, forall_const, implies_true, bne_self_eq_false, Bool.true_eq_false, Bool.false_eq_true, false_implies, reduceCtorEq, Bool.not_true, Bool.not_false, List.all_cons, List.all_nil, Bool.and_true, Bool.not_eq_true, Bool.not_eq_false, Bool.not_eq_true', Bool.not_eq_false', Decidable.not_not]; try simp only [lenL]
  have h1 : (flatS l).length ≤ 1000000 := h1
  refine fun hf => ⟨⟨0, Nat.zero_le _, rfl, rfl⟩, fun i hi => ⟨fun h => ⟨h, fun x hx _ => ⟨fun hn => ?_, fun _ => ⟨i + 1, h, Nat.sub_lt_sub_left h (Nat.lt_succ_self i), (flat_add h1 hx).1, inc_in hf hi⟩⟩⟩, fun h => ⟨⟨Int.natCast_nonneg _, Int.ofNat_le.2 (Nat.le_trans (flat_len l i) h1)⟩, fun _ => ⟨⟨0, Nat.zero_le _, rfl, rfl⟩, fun i hi => ⟨fun h => ⟨h, fun x hx => ⟨?_, i + 1, h, Nat.sub_lt_sub_left h (Nat.lt_succ_self i), inc_in hf hi, flat_succ hx⟩⟩, fun h => flat_end h⟩⟩⟩⟩⟩
  · have hn : wAdd .i64 (iOf (lenL (flatTo l i))) (iOf x.length) < 0 := hn
    rw [(flat_add h1 hx).1] at hn
    exact (flat_add h1 hx).2.1 hn
  · have := flat_len l (i + 1)
    rw [← flat_succ hx, List.length_append] at this
    show _ < 1099511627776
    omega
end Go.Proofs.Ytolminmmnckpkaa
namespace Go.Proofs.Ytolminmmnckpkaa
open Go.Ab Go.Fn
def s_idOf : FSpec := { ps := [.v (.slice tSlot), .v .str], rs := [.v I], pre := fun _ => True, fn := fun x => (Fn.idOf x.1 x.2.1, ()), upd := fun _ => () }
theorem fo_idOf : FO 81 s_idOf := by
  refine fo (specs := [(45, s_slot)]) (clos := []) (fun x => []) ⟨fo_slot, trivial⟩ trivial Try.func81 rfl rfl ?_
  rintro ⟨l, n, ⟨⟩⟩ -
  refine vcOf (true = true ∧ True ∧ (decide (slotAt l n ≥ (0 : Int)) = true → bnd (slotAt l n) (lenL l) ∧ ∀ (x : List UInt8 × Int × Unit), nthI l (slotAt l n) = some x → nat_lit 1 ≤ nat_lit 1 ∧ (x.snd.fst, ()) = (idOf l n, ()) ∧ () = ()) ∧ (decide (slotAt l n ≥ (0 : Int)) = false → ((0 : Int), ()) = (idOf l n, ()) ∧ () = ())) (by kernel_rfl) ?_
  simp only [Nat.le_refl, Nat.succ_eq_add_one, Nat.reduceAdd, Nat.reduceLeDiff, Nat.zero_le, pair_unit, mk_eta, len_bne, eqD_bne, bne_iff_ne, bne_eq_false_iff_eq, beq_iff_eq, beq_eq_false_iff_ne, true_and, and_true, and_self, eq_self, lt_iff, nthI_nat, bnd_iff, decide_eq_true_eq, decide_eq_false_iff_not, Nat.sub_eq, nz, ne_eq, not_false_eq_true, Prod.mk.injEq, Int.reduceEq, Nat.reduceEqDiff, forall_const, implies_true, bne_self_eq_false, Bool.true_eq_false, Bool.false_eq_true, false_implies, reduceCtorEq, Bool.not_true, Bool.not_false, List.all_cons, List.all_nil, Bool.and_true, Bool.not_eq_true, Bool.not_eq_false, Bool.not_eq_true', Bool.not_eq_false', Decidable.not_not]; try simp only [lenL]
  exact ⟨fun h => ⟨idx_bnd (Int.not_lt.2 h), fun x hx => by rw [← idOf_at (Int.not_lt.2 h) hx]⟩, fun h => idOf_none (Int.not_le.1 h)⟩
end Go.Proofs.Ytolminmmnckpkaa
namespace Go.Proofs.Ytolminmmnckpkaa
open Go.Ab Go.Fn
def s_names : FSpec := { ps := [.v tDisk], rs := [.o (.slice .str)], pre := fun x => Fn.diskOK x.1 = true, fn := fun x => (Fn.namesB x.1.2.1 x.1.2.2.1, ()), upd := fun _ => () }
def L_nam (l : List Fn.Slot) : LoopAnn := { ι := Nat, inv := fun k => k ≤ l.length, slots := fun k => [(14, .d I (Int.ofNat k)), (3, .os 2)], objs := fun k => [(2, .arr .str ((l.take k).map Fn.slotN) false)], μ := fun k => l.length - k }
theorem fo_inames : FO 80 s_names := by
  refine foI (specs := [(91, s_Concat)]) (clos := []) (inl := [(92, i_SortStr), (93, i_CompStr)]) (fun x => [(3, .lv [3, 12, 13, 14] <| fun _ => L_nam (flatS [x.1.2.1, x.1.2.2.1]))]) ⟨fo_Concat, trivial⟩ trivial ⟨in_SortStr, in_CompStr, trivial⟩ Try.func80 rfl rfl ?_
  rintro ⟨⟨a, b, c, d, ⟨⟩⟩, ⟨⟩⟩ hd
  refine vcOf (nat_lit 2 ≤ (Nat.succ (nat_lit 1)).succ.succ ∧ nat_lit 3 ≤ (Nat.succ (nat_lit 1)).succ.succ ∧ true = true ∧ ((flatS (b :: c :: ([] : List (List (List UInt8 × Int × Unit))))).length ≤ (1000000 : Nat) ∧ Nat.succ (nat_lit 1) ≤ (1000000 : Nat)) ∧ (fits (lenL (flatS (b :: c :: ([] : List (List (List UInt8 × Int × Unit)))))) → (∃ (i : Nat), i ≤ (flatS (b :: c :: ([] : List (List Slot)))).length ∧ (nat_lit 2 = (2 : Nat) ∧ (Nat.succ (nat_lit 1)).succ.succ = (Nat.succ (nat_lit 1)).succ.succ ∧ iOf (lenL (flatS (b :: c :: ([] : List (List (List UInt8 × Int × Unit)))))) = iOf (lenL (flatS (b :: c :: ([] : List (List (List UInt8 × Int × Unit)))))) ∧ (0 : Int) = Int.ofNat i ∧ True) ∧ ((a = a ∧ b = b ∧ c = c ∧ d = d ∧ True) ∧ (([] : List (List UInt8)) = ([] : List (List UInt8)) ∧ false = false) ∧ (([] : List (List UInt8)) = List.map slotN (List.take i (flatS (b :: c :: ([] : List (List Slot))))) ∧ false = false) ∧ (b :: c :: ([] : List (List (List UInt8 × Int × Unit))) = b :: c :: ([] : List (List (List UInt8 × Int × Unit))) ∧ false = false) ∧ (flatS (b :: c :: ([] : List (List (List UInt8 × Int × Unit)))) = flatS (b :: c :: ([] : List (List (List UInt8 × Int × Unit)))) ∧ false = false) ∧ True) ∧ True) ∧ ∀ (i : Nat), i ≤ (flatS (b :: c :: ([] : List (List Slot)))).length → (decide (Int.ofNat i < iOf (lenL (flatS (b :: c :: ([] : List (List (List UInt8 × Int × Unit))))))) = true → bnd (Int.ofNat i) (lenL (flatS (b :: c :: ([] : List (List (List UInt8 × Int × Unit)))))) ∧ nat_lit 2 = nat_lit 2 ∧ nat_lit 2 ≤ nat_lit 2 ∧ tN (Int.ofNat i) < lenL (flatS (b :: c :: ([] : List (List (List UInt8 × Int × Unit))))) ∧ ∀ (x : List UInt8 × Int × Unit), nth (flatS (b :: c :: ([] : List (List (List UInt8 × Int × Unit))))) (tN (Int.ofNat i)) = some x → nat_lit 2 ≤ nat_lit 2 ∧ nat_lit 1 ≤ Nat.succ (nat_lit 1) ∧ fits (lenL (List.map slotN (List.take i (flatS (b :: c :: ([] : List (List Slot)))))) + lenL (x.fst :: ([] : List (List UInt8)))) ∧ ∃ (j : Nat), j ≤ (flatS (b :: c :: ([] : List (List Slot)))).length ∧ (flatS (b :: c :: ([] : List (List Slot)))).length.sub j < (flatS (b :: c :: ([] : List (List Slot)))).length.sub i ∧ ((2 : Nat) = (2 : Nat) ∧ (Nat.succ (nat_lit 1)).succ.succ = (Nat.succ (nat_lit 1)).succ.succ ∧ iOf (lenL (flatS (b :: c :: ([] : List (List (List UInt8 × Int × Unit)))))) = iOf (lenL (flatS (b :: c :: ([] : List (List (List UInt8 × Int × Unit)))))) ∧ wAdd IntKind.i64 (Int.ofNat i) (1 : Int) = Int.ofNat j ∧ True) ∧ ((a = a ∧ b = b ∧ c = c ∧ d = d ∧ True) ∧ (([] : List (List UInt8)) = ([] : List (List UInt8)) ∧ false = false) ∧ (List.map slotN (List.take i (flatS (b :: c :: ([] : List (List Slot))))) ++ x.fst :: ([] : List (List UInt8)) = List.map slotN (List.take j (flatS (b :: c :: ([] : List (List Slot))))) ∧ false = false) ∧ (b :: c :: ([] : List (List (List UInt8 × Int × Unit))) = b :: c :: ([] : List (List (List UInt8 × Int × Unit))) ∧ false = false) ∧ (flatS (b :: c :: ([] : List (List (List UInt8 × Int × Unit)))) = flatS (b :: c :: ([] : List (List (List UInt8 × Int × Unit)))) ∧ false = false) ∧ True) ∧ True) ∧ (decide (Int.ofNat i < iOf (lenL (flatS (b :: c :: ([] : List (List (List UInt8 × Int × Unit))))))) = false → ([] : List AV) = ([] : List AV) ∧ ∀ (ys : List (List UInt8)), ys.Perm (List.map slotN (List.take i (flatS (b :: c :: ([] : List (List Slot)))))) → List.Pairwise (fun (a b : List UInt8) => ltT b a = false) ys → (compactL ys, ()) = (namesB b c, ()) ∧ () = ()))) (by kernel_rfl) ?_
  simp only [Nat.le_refl, Nat.succ_eq_add_one, Nat.reduceAdd, Nat.reduceLeDiff, Nat.zero_le, pair_unit, mk_eta, len_bne, eqD_bne, bne_iff_ne, bne_eq_false_iff_eq, beq_iff_eq, beq_eq_false_iff_ne, true_and, and_true, and_self, eq_self, lt_iff, nthI_nat, bnd_iff, decide_eq_true_eq, decide_eq_false_iff_not, Nat.sub_eq, nz, ne_eq, not_false_eq_true, Prod.mk.injEq, Int.reduceEq, Nat.reduceEqDiff, forall_const, implies_true, bne_self_eq_false, Bool.true_eq_false, Bool.false_eq_true, false_implies, reduceCtorEq, Bool.not_true, Bool.not_false, List.all_cons, List.all_nil, Bool.and_true, Bool.not_eq_true, Bool.not_eq_false, Bool.not_eq_true', Bool.not_eq_false', Decidable.not_not]; try simp only [lenL]
  have hd : diskOK (a, b, c, d, ()) = true := hd
  have hsh := disk_short hd
  have hb : List.length b ≤ 24 := hsh.2.1
  have hc : List.length c ≤ 24 := hsh.2.2
  have e : flatS [b, c] = b ++ c := by simp [flatS]
  have hl : (flatS [b, c]).length ≤ 48 := by rw [e, List.length_append]; omega
  refine ⟨Nat.le_trans hl (by decide), fun hf => ⟨⟨0, Nat.zero_le _, rfl, rfl⟩, fun i hi => ⟨fun h => ⟨h, h, fun x hx => ⟨?_, i + 1, h, Nat.sub_lt_sub_left h (Nat.lt_succ_self i), inc_in hf hi, map_take (f := slotN) hx⟩⟩, fun h ys hp hw => ?_⟩⟩⟩
  · show _ < 1099511627776
    rw [List.length_map, List.length_take]; simp only [List.length_cons, List.length_nil]; omega
  · rw [map_end h, e] at hp
    exact names_compact (slots_sorted (diskOK_parts hd).2) hp hw
end Go.Proofs.Ytolminmmnckpkaa
namespace Go.Proofs.Ytolminmmnckpkaa
open Go.Ab Go.Fn
def s_putV : FSpec := { ps := [.v (.slice tSlot), .v tSlot], rs := [.v (.slice tSlot)], pre := fun x => List.length (α := Fn.Slot) x.1 ≤ 1000000, fn := fun x => (Fn.put x.2.1 x.1, ()), upd := fun _ => () }
theorem fo_l11PutV : FO 56 s_putV := by
  refine fo (specs := []) (clos := []) (fun x => [(2, .lv [0, 3, 5] <| fun _ => L_put x.1 x.2.1)]) trivial trivial Try.func56 rfl rfl ?_
  rintro ⟨l, ⟨n, i, ⟨⟩⟩, ⟨⟩⟩ hl
  refine vcOf ((∃ (i_1 : Nat), LeadAt (n, i, ()) l i_1 ∧ (l = l ∧ (nat_lit 0 = nat_lit 0 ∧ (0 : Nat) = (0 : Nat)) ∧ (0 : Int) = Int.ofNat i_1 ∧ True) ∧ ((n = n ∧ i = i ∧ True) ∧ (([] : List (List UInt8 × Int × Unit)) = ([] : List (List UInt8 × Int × Unit)) ∧ false = false) ∧ True) ∧ True) ∧ ∀ (i_1 : Nat), LeadAt (n, i, ()) l i_1 → fits (lenL l) → (decide (Int.ofNat i_1 < iOf (lenL l)) = true → bnd (Int.ofNat i_1) (lenL l) ∧ ∀ (x : List UInt8 × Int × Unit), nthI l (Int.ofNat i_1) = some x → nat_lit 1 ≤ Nat.succ (nat_lit 1) ∧ nat_lit 1 ≤ Nat.succ (nat_lit 1) ∧ (Op.bytesLess x.fst n = true → ∃ (j : Nat), LeadAt (n, i, ()) l j ∧ (List.length l).sub j < (List.length l).sub i_1 ∧ (l = l ∧ (nat_lit 0 = nat_lit 0 ∧ (0 : Nat) = (0 : Nat)) ∧ wAdd IntKind.i64 (Int.ofNat i_1) (1 : Int) = Int.ofNat j ∧ True) ∧ ((n = n ∧ i = i ∧ True) ∧ (([] : List (List UInt8 × Int × Unit)) = ([] : List (List UInt8 × Int × Unit)) ∧ false = false) ∧ True) ∧ True) ∧ (Op.bytesLess x.fst n = false → boundLo (Int.ofNat i_1) (lenL l) ∧ (fits (lenL l) → (decide (Int.ofNat i_1 < iOf (lenL l)) = true → bnd (Int.ofNat i_1) (lenL l) ∧ ∀ (x : List UInt8 × Int × Unit), nthI l (Int.ofNat i_1) = some x → nat_lit 1 ≤ Nat.succ (nat_lit 1) ∧ nat_lit 1 ≤ Nat.succ (nat_lit 1) ∧ ((x.fst == n) = true → boundLo (wAdd IntKind.i64 (Int.ofNat i_1) (1 : Int)) (lenL l) ∧ boundLo (Int.ofNat i_1) (lenL l) ∧ nat_lit 2 ≤ Nat.succ (nat_lit 1) ∧ ((fits (lenL (subL l (0 : Nat) (tN (Int.ofNat i_1)))) → fits (lenL (subL l (0 : Nat) (tN (Int.ofNat i_1))) + lenL ((n, i, ()) :: ([] : List (List UInt8 × Int × Unit)))) ∧ fits (lenL (subL l (0 : Nat) (tN (Int.ofNat i_1)) ++ (n, i, ()) :: ([] : List (List UInt8 × Int × Unit))) + lenL (subL l (tN (wAdd IntKind.i64 (Int.ofNat i_1) (1 : Int))) (lenL l))) ∧ (subL l (0 : Nat) (tN (Int.ofNat i_1)) ++ (n, i, ()) :: ([] : List (List UInt8 × Int × Unit)) ++ subL l (tN (wAdd IntKind.i64 (Int.ofNat i_1) (1 : Int))) (lenL l), ()) = (put (n, i, ()) l, ()) ∧ () = ()) ∧ (fits (lenL (subL l (0 : Nat) (tN (Int.ofNat i_1)))) → fits (lenL (subL l (0 : Nat) (tN (Int.ofNat i_1))) + lenL ((n, i, ()) :: ([] : List (List UInt8 × Int × Unit)))) ∧ fits (lenL (subL l (0 : Nat) (tN (Int.ofNat i_1)) ++ (n, i, ()) :: ([] : List (List UInt8 × Int × Unit))) + lenL (subL l (tN (wAdd IntKind.i64 (Int.ofNat i_1) (1 : Int))) (lenL l))) ∧ (subL l (0 : Nat) (tN (Int.ofNat i_1)) ++ (n, i, ()) :: ([] : List (List UInt8 × Int × Unit)) ++ subL l (tN (wAdd IntKind.i64 (Int.ofNat i_1) (1 : Int))) (lenL l), ()) = (put (n, i, ()) l, ()) ∧ () = ())) ∧ (fits (lenL (subL l (0 : Nat) (tN (Int.ofNat i_1)))) → fits (lenL (subL l (0 : Nat) (tN (Int.ofNat i_1))) + lenL ((n, i, ()) :: ([] : List (List UInt8 × Int × Unit)))) ∧ fits (lenL (subL l (0 : Nat) (tN (Int.ofNat i_1)) ++ (n, i, ()) :: ([] : List (List UInt8 × Int × Unit))) + lenL (subL l (tN (wAdd IntKind.i64 (Int.ofNat i_1) (1 : Int))) (lenL l))) ∧ (subL l (0 : Nat) (tN (Int.ofNat i_1)) ++ (n, i, ()) :: ([] : List (List UInt8 × Int × Unit)) ++ subL l (tN (wAdd IntKind.i64 (Int.ofNat i_1) (1 : Int))) (lenL l), ()) = (put (n, i, ()) l, ()) ∧ () = ())) ∧ ((x.fst == n) = false → boundLo (Int.ofNat i_1) (lenL l) ∧ nat_lit 2 ≤ Nat.succ (nat_lit 1) ∧ ((fits (lenL (subL l (0 : Nat) (tN (Int.ofNat i_1)))) → fits (lenL (subL l (0 : Nat) (tN (Int.ofNat i_1))) + lenL ((n, i, ()) :: ([] : List (List UInt8 × Int × Unit)))) ∧ fits (lenL (subL l (0 : Nat) (tN (Int.ofNat i_1)) ++ (n, i, ()) :: ([] : List (List UInt8 × Int × Unit))) + lenL (subL l (tN (Int.ofNat i_1)) (lenL l))) ∧ (subL l (0 : Nat) (tN (Int.ofNat i_1)) ++ (n, i, ()) :: ([] : List (List UInt8 × Int × Unit)) ++ subL l (tN (Int.ofNat i_1)) (lenL l), ()) = (put (n, i, ()) l, ()) ∧ () = ()) ∧ (fits (lenL (subL l (0 : Nat) (tN (Int.ofNat i_1)))) → fits (lenL (subL l (0 : Nat) (tN (Int.ofNat i_1))) + lenL ((n, i, ()) :: ([] : List (List UInt8 × Int × Unit)))) ∧ fits (lenL (subL l (0 : Nat) (tN (Int.ofNat i_1)) ++ (n, i, ()) :: ([] : List (List UInt8 × Int × Unit))) + lenL (subL l (tN (Int.ofNat i_1)) (lenL l))) ∧ (subL l (0 : Nat) (tN (Int.ofNat i_1)) ++ (n, i, ()) :: ([] : List (List UInt8 × Int × Unit)) ++ subL l (tN (Int.ofNat i_1)) (lenL l), ()) = (put (n, i, ()) l, ()) ∧ () = ())) ∧ (fits (lenL (subL l (0 : Nat) (tN (Int.ofNat i_1)))) → fits (lenL (subL l (0 : Nat) (tN (Int.ofNat i_1))) + lenL ((n, i, ()) :: ([] : List (List UInt8 × Int × Unit)))) ∧ fits (lenL (subL l (0 : Nat) (tN (Int.ofNat i_1)) ++ (n, i, ()) :: ([] : List (List UInt8 × Int × Unit))) + lenL (subL l (tN (Int.ofNat i_1)) (lenL l))) ∧ (subL l (0 : Nat) (tN (Int.ofNat i_1)) ++ (n, i, ()) :: ([] : List (List UInt8 × Int × Unit)) ++ subL l (tN (Int.ofNat i_1)) (lenL l), ()) = (put (n, i, ()) l, ()) ∧ () = ()))) ∧ (decide (Int.ofNat i_1 < iOf (lenL l)) = false → boundLo (Int.ofNat i_1) (lenL l) ∧ nat_lit 2 ≤ Nat.succ (nat_lit 1) ∧ ((fits (lenL (subL l (0 : Nat) (tN (Int.ofNat i_1)))) → fits (lenL (subL l (0 : Nat) (tN (Int.ofNat i_1))) + lenL ((n, i, ()) :: ([] : List (List UInt8 × Int × Unit)))) ∧ fits (lenL (subL l (0 : Nat) (tN (Int.ofNat i_1)) ++ (n, i, ()) :: ([] : List (List UInt8 × Int × Unit))) + lenL (subL l (tN (Int.ofNat i_1)) (lenL l))) ∧ (subL l (0 : Nat) (tN (Int.ofNat i_1)) ++ (n, i, ()) :: ([] : List (List UInt8 × Int × Unit)) ++ subL l (tN (Int.ofNat i_1)) (lenL l), ()) = (put (n, i, ()) l, ()) ∧ () = ()) ∧ (fits (lenL (subL l (0 : Nat) (tN (Int.ofNat i_1)))) → fits (lenL (subL l (0 : Nat) (tN (Int.ofNat i_1))) + lenL ((n, i, ()) :: ([] : List (List UInt8 × Int × Unit)))) ∧ fits (lenL (subL l (0 : Nat) (tN (Int.ofNat i_1)) ++ (n, i, ()) :: ([] : List (List UInt8 × Int × Unit))) + lenL (subL l (tN (Int.ofNat i_1)) (lenL l))) ∧ (subL l (0 : Nat) (tN (Int.ofNat i_1)) ++ (n, i, ()) :: ([] : List (List UInt8 × Int × Unit)) ++ subL l (tN (Int.ofNat i_1)) (lenL l), ()) = (put (n, i, ()) l, ()) ∧ () = ())) ∧ (fits (lenL (subL l (0 : Nat) (tN (Int.ofNat i_1)))) → fits (lenL (subL l (0 : Nat) (tN (Int.ofNat i_1))) + lenL ((n, i, ()) :: ([] : List (List UInt8 × Int × Unit)))) ∧ fits (lenL (subL l (0 : Nat) (tN (Int.ofNat i_1)) ++ (n, i, ()) :: ([] : List (List UInt8 × Int × Unit))) + lenL (subL l (tN (Int.ofNat i_1)) (lenL l))) ∧ (subL l (0 : Nat) (tN (Int.ofNat i_1)) ++ (n, i, ()) :: ([] : List (List UInt8 × Int × Unit)) ++ subL l (tN (Int.ofNat i_1)) (lenL l), ()) = (put (n, i, ()) l, ()) ∧ () = ()))))) ∧ (decide (Int.ofNat i_1 < iOf (lenL l)) = false → boundLo (Int.ofNat i_1) (lenL l) ∧ (fits (lenL l) → (decide (Int.ofNat i_1 < iOf (lenL l)) = true → bnd (Int.ofNat i_1) (lenL l) ∧ ∀ (x : List UInt8 × Int × Unit), nthI l (Int.ofNat i_1) = some x → nat_lit 1 ≤ Nat.succ (nat_lit 1) ∧ nat_lit 1 ≤ Nat.succ (nat_lit 1) ∧ ((x.fst == n) = true → boundLo (wAdd IntKind.i64 (Int.ofNat i_1) (1 : Int)) (lenL l) ∧ boundLo (Int.ofNat i_1) (lenL l) ∧ nat_lit 2 ≤ Nat.succ (nat_lit 1) ∧ ((fits (lenL (subL l (0 : Nat) (tN (Int.ofNat i_1)))) → fits (lenL (subL l (0 : Nat) (tN (Int.ofNat i_1))) + lenL ((n, i, ()) :: ([] : List (List UInt8 × Int × Unit)))) ∧ fits (lenL (subL l (0 : Nat) (tN (Int.ofNat i_1)) ++ (n, i, ()) :: ([] : List (List UInt8 × Int × Unit))) + lenL (subL l (tN (wAdd IntKind.i64 (Int.ofNat i_1) (1 : Int))) (lenL l))) ∧ (subL l (0 : Nat) (tN (Int.ofNat i_1)) ++ (n, i, ()) :: ([] : List (List UInt8 × Int × Unit)) ++ subL l (tN (wAdd IntKind.i64 (Int.ofNat i_1) (1 : Int))) (lenL l), ()) = (put (n, i, ()) l, ()) ∧ () = ()) ∧ (fits (lenL (subL l (0 : Nat) (tN (Int.ofNat i_1)))) → fits (lenL (subL l (0 : Nat) (tN (Int.ofNat i_1))) + lenL ((n, i, ()) :: ([] : List (List UInt8 × Int × Unit)))) ∧ fits (lenL (subL l (0 : Nat) (tN (Int.ofNat i_1)) ++ (n, i, ()) :: ([] : List (List UInt8 × Int × Unit))) + lenL (subL l (tN (wAdd IntKind.i64 (Int.ofNat i_1) (1 : Int))) (lenL l))) ∧ (subL l (0 : Nat) (tN (Int.ofNat i_1)) ++ (n, i, ()) :: ([] : List (List UInt8 × Int × Unit)) ++ subL l (tN (wAdd IntKind.i64 (Int.ofNat i_1) (1 : Int))) (lenL l), ()) = (put (n, i, ()) l, ()) ∧ () = ())) ∧ (fits (lenL (subL l (0 : Nat) (tN (Int.ofNat i_1)))) → fits (lenL (subL l (0 : Nat) (tN (Int.ofNat i_1))) + lenL ((n, i, ()) :: ([] : List (List UInt8 × Int × Unit)))) ∧ fits (lenL (subL l (0 : Nat) (tN (Int.ofNat i_1)) ++ (n, i, ()) :: ([] : List (List UInt8 × Int × Unit))) + lenL (subL l (tN (wAdd IntKind.i64 (Int.ofNat i_1) (1 : Int))) (lenL l))) ∧ (subL l (0 : Nat) (tN (Int.ofNat i_1)) ++ (n, i, ()) :: ([] : List (List UInt8 × Int × Unit)) ++ subL l (tN (wAdd IntKind.i64 (Int.ofNat i_1) (1 : Int))) (lenL l), ()) = (put (n, i, ()) l, ()) ∧ () = ())) ∧ ((x.fst == n) = false → boundLo (Int.ofNat i_1) (lenL l) ∧ nat_lit 2 ≤ Nat.succ (nat_lit 1) ∧ ((fits (lenL (subL l (0 : Nat) (tN (Int.ofNat i_1)))) → fits (lenL (subL l (0 : Nat) (tN (Int.ofNat i_1))) + lenL ((n, i, ()) :: ([] : List (List UInt8 × Int × Unit)))) ∧ fits (lenL (subL l (0 : Nat) (tN (Int.ofNat i_1)) ++ (n, i, ()) :: ([] : List (List UInt8 × Int × Unit))) + lenL (subL l (tN (Int.ofNat i_1)) (lenL l))) ∧ (subL l (0 : Nat) (tN (Int.ofNat i_1)) ++ (n, i, ()) :: ([] : List (List UInt8 × Int × Unit)) ++ subL l (tN (Int.ofNat i_1)) (lenL l), ()) = (put (n, i, ()) l, ()) ∧ () = ()) ∧ (fits (lenL (subL l (0 : Nat) (tN (Int.ofNat i_1)))) → fits (lenL (subL l (0 : Nat) (tN (Int.ofNat i_1))) + lenL ((n, i, ()) :: ([] : List (List UInt8 × Int × Unit)))) ∧ fits (lenL (subL l (0 : Nat) (tN (Int.ofNat i_1)) ++ (n, i, ()) :: ([] : List (List UInt8 × Int × Unit))) + lenL (subL l (tN (Int.ofNat i_1)) (lenL l))) ∧ (subL l (0 : Nat) (tN (Int.ofNat i_1)) ++ (n, i, ()) :: ([] : List (List UInt8 × Int × Unit)) ++ subL l (tN (Int.ofNat i_1)) (lenL l), ()) = (put (n, i, ()) l, ()) ∧ () = ())) ∧ (fits (lenL (subL l (0 : Nat) (tN (Int.ofNat i_1)))) → fits (lenL (subL l (0 : Nat) (tN (Int.ofNat i_1))) + lenL ((n, i, ()) :: ([] : List (List UInt8 × Int × Unit)))) ∧ fits (lenL (subL l (0 : Nat) (tN (Int.ofNat i_1)) ++ (n, i, ()) :: ([] : List (List UInt8 × Int × Unit))) + lenL (subL l (tN (Int.ofNat i_1)) (lenL l))) ∧ (subL l (0 : Nat) (tN (Int.ofNat i_1)) ++ (n, i, ()) :: ([] : List (List UInt8 × Int × Unit)) ++ subL l (tN (Int.ofNat i_1)) (lenL l), ()) = (put (n, i, ()) l, ()) ∧ () = ()))) ∧ (decide (Int.ofNat i_1 < iOf (lenL l)) = false → boundLo (Int.ofNat i_1) (lenL l) ∧ nat_lit 2 ≤ Nat.succ (nat_lit 1) ∧ ((fits (lenL (subL l (0 : Nat) (tN (Int.ofNat i_1)))) → fits (lenL (subL l (0 : Nat) (tN (Int.ofNat i_1))) + lenL ((n, i, ()) :: ([] : List (List UInt8 × Int × Unit)))) ∧ fits (lenL (subL l (0 : Nat) (tN (Int.ofNat i_1)) ++ (n, i, ()) :: ([] : List (List UInt8 × Int × Unit))) + lenL (subL l (tN (Int.ofNat i_1)) (lenL l))) ∧ (subL l (0 : Nat) (tN (Int.ofNat i_1)) ++ (n, i, ()) :: ([] : List (List UInt8 × Int × Unit)) ++ subL l (tN (Int.ofNat i_1)) (lenL l), ()) = (put (n, i, ()) l, ()) ∧ () = ()) ∧ (fits (lenL (subL l (0 : Nat) (tN (Int.ofNat i_1)))) → fits (lenL (subL l (0 : Nat) (tN (Int.ofNat i_1))) + lenL ((n, i, ()) :: ([] : List (List UInt8 × Int × Unit)))) ∧ fits (lenL (subL l (0 : Nat) (tN (Int.ofNat i_1)) ++ (n, i, ()) :: ([] : List (List UInt8 × Int × Unit))) + lenL (subL l (tN (Int.ofNat i_1)) (lenL l))) ∧ (subL l (0 : Nat) (tN (Int.ofNat i_1)) ++ (n, i, ()) :: ([] : List (List UInt8 × Int × Unit)) ++ subL l (tN (Int.ofNat i_1)) (lenL l), ()) = (put (n, i, ()) l, ()) ∧ () = ())) ∧ (fits (lenL (subL l (0 : Nat) (tN (Int.ofNat i_1)))) → fits (lenL (subL l (0 : Nat) (tN (Int.ofNat i_1))) + lenL ((n, i, ()) :: ([] : List (List UInt8 × Int × Unit)))) ∧ fits (lenL (subL l (0 : Nat) (tN (Int.ofNat i_1)) ++ (n, i, ()) :: ([] : List (List UInt8 × Int × Unit))) + lenL (subL l (tN (Int.ofNat i_1)) (lenL l))) ∧ (subL l (0 : Nat) (tN (Int.ofNat i_1)) ++ (n, i, ()) :: ([] : List (List UInt8 × Int × Unit)) ++ subL l (tN (Int.ofNat i_1)) (lenL l), ()) = (put (n, i, ()) l, ()) ∧ () = ()))))) (by kernel_rfl) ?_
  simp only [Nat.le_refl, Nat.succ_eq_add_one, Nat.reduceAdd, Nat.reduceLeDiff, Nat.zero_le, pair_unit, mk_eta, len_bne, eqD_bne, bne_iff_ne, bne_eq_false_iff_eq, beq_iff_eq, beq_eq_false_iff_ne, true_and, and_true, and_self, eq_self, lt_iff, nthI_nat, bnd_iff, decide_eq_true_eq, decide_eq_false_iff_not, Nat.sub_eq, nz, ne_eq, not_false_eq_true, Prod.mk.injEq, Int.reduceEq, Nat.reduceEqDiff, forall_const, implies_true, bne_self_eq_false, Bool.true_eq_false, Bool.false_eq_true, false_implies, reduceCtorEq, Bool.not_true, Bool.not_false, List.all_cons, List.all_nil, Bool.and_true, Bool.not_eq_true, Bool.not_eq_false, Bool.not_eq_true', Bool.not_eq_false', Decidable.not_not]; try simp only [lenL]
  have hl : List.length l ≤ 1000000 := hl
  refine ⟨⟨0, lead0 _ l, rfl⟩, fun k h hf => ⟨fun hlt => ⟨hlt, fun x hx => ⟨fun hn => ⟨k + 1, lead_step h hx hn, Nat.sub_lt_sub_left hlt (Nat.lt_succ_self k), inc_in hf h.1⟩, fun hn => ?_⟩⟩, fun he0 => ?_⟩⟩
  · refine ⟨bound_lo h.1, fun _ => ⟨fun hlt2 => ⟨hlt2, fun y hy => ⟨fun he => ?_, fun he => ⟨bound_lo h.1, fun _ => ⟨(put_fit hl k k).1, (put_fit hl k k).2, ?_⟩⟩⟩⟩, fun hge => ⟨bound_lo h.1, fun _ => ⟨(put_fit hl k k).1, (put_fit hl k k).2, ?_⟩⟩⟩⟩
    · rw [inc_in hf h.1]
      refine ⟨bound_lo hlt2, bound_lo h.1, fun _ => ⟨(put_fit hl k (k + 1)).1, (put_fit hl k (k + 1)).2, ?_⟩⟩
      rw [sub_take, sub_drop]
      exact put_same (s := (n, i, ())) h hy (by rw [hx] at hy; cases hy; rw [hn]; exact Bool.false_ne_true) he
    · rw [sub_take, sub_drop]
      exact put_more (s := (n, i, ())) h hy (by rw [hx] at hy; cases hy; rw [hn]; exact Bool.false_ne_true) he
    · rw [sub_take, sub_drop]
      exact put_end (s := (n, i, ())) h hge
  · refine ⟨bound_lo h.1, fun _ => ⟨fun hlt2 => ⟨hlt2, fun y hy => ⟨fun he => ?_, fun he => ⟨bound_lo h.1, fun _ => ⟨(put_fit hl k k).1, (put_fit hl k k).2, ?_⟩⟩⟩⟩, fun hge => ⟨bound_lo h.1, fun _ => ⟨(put_fit hl k k).1, (put_fit hl k k).2, ?_⟩⟩⟩⟩
    · rw [inc_in hf h.1]
      refine ⟨bound_lo hlt2, bound_lo h.1, fun _ => ⟨(put_fit hl k (k + 1)).1, (put_fit hl k (k + 1)).2, ?_⟩⟩
      rw [sub_take, sub_drop]
      exact put_same (s := (n, i, ())) h hy (absurd hlt2 he0) he
    · rw [sub_take, sub_drop]
      exact put_more (s := (n, i, ())) h hy (absurd hlt2 he0) he
    · rw [sub_take, sub_drop]
      exact put_end (s := (n, i, ())) h hge
def L_lnam1 (b c : List Fn.Slot) : LoopAnn := { ι := Nat, inv := fun k => k ≤ b.length, slots := fun k => [(4, .d I (Int.ofNat k)), (3, .d (.slice tSlot) (Fn.allTo b c k))], objs := fun _ => [], μ := fun k => b.length - k, fz := [3] }
def L_lnam2 (l : List Fn.Slot) : LoopAnn := { ι := Nat, inv := fun k => k ≤ l.length, slots := fun k => [(6, .d I (Int.ofNat k)), (5, .os 3)], objs := fun k => [(3, .arr .str ((l.take k).map Fn.slotN) false)], μ := fun k => l.length - k }
theorem fo_l11Names : FO 78 s_names := by
  refine fo (specs := [(25, s_slot), (56, s_putV)]) (clos := []) (fun x => [(3, .lv [1, 3, 4] <| fun _ => L_lnam1 x.1.2.1 x.1.2.2.1), (9, .lv [3, 5, 6] <| fun _ => L_lnam2 (Fn.allN x.1.2.1 x.1.2.2.1))]) ⟨fo_l11At, fo_l11PutV, trivial⟩ trivial Try.func78 rfl rfl ?_
  rintro ⟨⟨a, b, c, d, ⟨⟩⟩, ⟨⟩⟩ hd
  refine vcOf (nat_lit 3 ≤ (Nat.succ (nat_lit 1)).succ.succ ∧ (fits (lenL c) → (∃ (i : Nat), i ≤ List.length b ∧ ((nat_lit 0 = nat_lit 0 ∧ (0 : Nat) = (0 : Nat)) ∧ c = allTo b c i ∧ (0 : Int) = Int.ofNat i ∧ True) ∧ ((a = a ∧ b = b ∧ c = c ∧ d = d ∧ True) ∧ (([] : List (List UInt8)) = ([] : List (List UInt8)) ∧ false = false) ∧ True ∧ True) ∧ True) ∧ ∀ (i : Nat), i ≤ List.length b → nat_lit 2 ≤ (Nat.succ (nat_lit 1)).succ.succ ∧ (fits (lenL b) → (decide (Int.ofNat i < iOf (lenL b)) = true → nat_lit 2 ≤ (Nat.succ (nat_lit 1)).succ.succ ∧ bnd (Int.ofNat i) (lenL b) ∧ ∀ (x : List UInt8 × Int × Unit), nthI b (Int.ofNat i) = some x → nat_lit 1 ≤ Nat.succ (nat_lit 1) ∧ true = true ∧ True ∧ (decide (slotAt (allTo b c i) x.fst < (0 : Int)) = true → nat_lit 2 ≤ (Nat.succ (nat_lit 1)).succ.succ ∧ bnd (Int.ofNat i) (lenL b) ∧ ∀ (x : List UInt8 × Int × Unit), nthI b (Int.ofNat i) = some x → nat_lit 2 ≤ Nat.succ (nat_lit 1) ∧ true = true ∧ (allTo b c i).length ≤ (1000000 : Nat) ∧ ∃ (j : Nat), j ≤ List.length b ∧ (List.length b).sub j < (List.length b).sub i ∧ ((nat_lit 0 = nat_lit 0 ∧ (0 : Nat) = (0 : Nat)) ∧ put (x.fst, x.snd.fst, ()) (allTo b c i) = allTo b c j ∧ wAdd IntKind.i64 (Int.ofNat i) (1 : Int) = Int.ofNat j ∧ True) ∧ ((a = a ∧ b = b ∧ c = c ∧ d = d ∧ True) ∧ (([] : List (List UInt8)) = ([] : List (List UInt8)) ∧ false = false) ∧ True ∧ True) ∧ True) ∧ (decide (slotAt (allTo b c i) x.fst < (0 : Int)) = false → ∃ (j : Nat), j ≤ List.length b ∧ (List.length b).sub j < (List.length b).sub i ∧ ((nat_lit 0 = nat_lit 0 ∧ (0 : Nat) = (0 : Nat)) ∧ allTo b c i = allTo b c j ∧ wAdd IntKind.i64 (Int.ofNat i) (1 : Int) = Int.ofNat j ∧ True) ∧ ((a = a ∧ b = b ∧ c = c ∧ d = d ∧ True) ∧ (([] : List (List UInt8)) = ([] : List (List UInt8)) ∧ false = false) ∧ True ∧ True) ∧ True)) ∧ (decide (Int.ofNat i < iOf (lenL b)) = false → (∃ (i_1 : Nat), i_1 ≤ (allN b c).length ∧ (allTo b c i = allTo b c i ∧ nat_lit 3 = (3 : Nat) ∧ (0 : Int) = Int.ofNat i_1 ∧ True) ∧ ((a = a ∧ b = b ∧ c = c ∧ d = d ∧ True) ∧ (([] : List (List UInt8)) = ([] : List (List UInt8)) ∧ false = false) ∧ True ∧ (([] : List (List UInt8)) = List.map slotN (List.take i_1 (allN b c)) ∧ false = false) ∧ True) ∧ True) ∧ ∀ (i_1 : Nat), i_1 ≤ (allN b c).length → fits (lenL (allTo b c i)) → (decide (Int.ofNat i_1 < iOf (lenL (allTo b c i))) = true → bnd (Int.ofNat i_1) (lenL (allTo b c i)) ∧ ∀ (x : List UInt8 × Int × Unit), nthI (allTo b c i) (Int.ofNat i_1) = some x → nat_lit 1 ≤ Nat.succ (nat_lit 1) ∧ fits (lenL (List.map slotN (List.take i_1 (allN b c))) + lenL (x.fst :: ([] : List (List UInt8)))) ∧ ∃ (j : Nat), j ≤ (allN b c).length ∧ (allN b c).length.sub j < (allN b c).length.sub i_1 ∧ (allTo b c i = allTo b c i ∧ (3 : Nat) = (3 : Nat) ∧ wAdd IntKind.i64 (Int.ofNat i_1) (1 : Int) = Int.ofNat j ∧ True) ∧ ((a = a ∧ b = b ∧ c = c ∧ d = d ∧ True) ∧ (([] : List (List UInt8)) = ([] : List (List UInt8)) ∧ false = false) ∧ True ∧ (List.map slotN (List.take i_1 (allN b c)) ++ x.fst :: ([] : List (List UInt8)) = List.map slotN (List.take j (allN b c)) ∧ false = false) ∧ True) ∧ True) ∧ (decide (Int.ofNat i_1 < iOf (lenL (allTo b c i))) = false → (List.map slotN (List.take i_1 (allN b c)), ()) = (namesB b c, ()) ∧ () = ()))))) (by kernel_rfl) ?_
  simp only [Nat.le_refl, Nat.succ_eq_add_one, Nat.reduceAdd, Nat.reduceLeDiff, Nat.zero_le, pair_unit, mk_eta, len_bne, eqD_bne, bne_iff_ne, bne_eq_false_iff_eq, beq_iff_eq, beq_eq_false_iff_ne, true_and, and_true, and_self, eq_self, lt_iff, nthI_nat, bnd_iff, decide_eq_true_eq, decide_eq_false_iff_not, Nat.sub_eq, nz, ne_eq, not_false_eq_true, Prod.mk.injEq, Int.reduceEq, Nat.reduceEqDiff, forall_const, implies_true, bne_self_eq_false, Bool.true_eq_false, Bool.false_eq_true, false_implies, reduceCtorEq, Bool.not_true, Bool.not_false, List.all_cons, List.all_nil, Bool.and_true, Bool.not_eq_true, Bool.not_eq_false, Bool.not_eq_true', Bool.not_eq_false', Decidable.not_not]; try simp only [lenL]
  have hd : diskOK (a, b, c, d, ()) = true := hd
  have hsh := disk_short hd
  have hb : List.length b ≤ 24 := hsh.2.1
  have hc : List.length c ≤ 24 := hsh.2.2
  refine fun _ => ⟨⟨0, Nat.zero_le _, rfl, rfl⟩, fun i hi hfb => ⟨fun h => ⟨h, fun x hx => ⟨fun hn => ⟨h, fun x2 hx2 => ⟨?_, i + 1, h, Nat.sub_lt_sub_left h (Nat.lt_succ_self i), ?_, inc_in hfb hi⟩⟩, fun hn => ⟨i + 1, h, Nat.sub_lt_sub_left h (Nat.lt_succ_self i), ?_, inc_in hfb hi⟩⟩⟩, fun h => ?_⟩⟩
  · have := all_len b c i hi; omega
  · rw [hx] at hx2; cases hx2
    rw [← all_succ hx]; unfold addN; rw [if_pos hn]
  · rw [← all_succ hx]; unfold addN; rw [if_neg hn]
  · have hal := all_len b c i hi
    rw [all_end h] at hal ⊢
    refine ⟨⟨0, Nat.zero_le _, rfl, rfl⟩, fun i hi hf => ⟨fun h => ⟨h, fun x hx => ⟨?_, i + 1, h, Nat.sub_lt_sub_left h (Nat.lt_succ_self i), inc_in hf hi, map_take (f := slotN) hx⟩⟩, fun h => map_end h⟩⟩
    show _ < 1099511627776
    rw [List.length_map, List.length_take]; simp only [List.length_cons, List.length_nil]; omega
end Go.Proofs.Ytolminmmnckpkaa
namespace Go.Fn
open Go.Ab
def badName (n : List UInt8) : Bool := !(nameOK n) || (decide (n = [77, 65, 78, 73, 70, 69, 83, 84]) || (decide (n = [116, 109, 112]) || decide (n = [109, 116, 109, 112])))
def nameS (l : List (List UInt8)) (i : Nat) : List UInt8 := l.getD i []
def nameBad (l : List (List UInt8)) (i : Nat) : Bool := badName (nameS l i) || (l.take i).any (fun y => decide (y = nameS l i))
def nameBadI (l : List (List UInt8)) (i : Int) : Bool := nameBad l i.toNat
def namesOK (l : List (List UInt8)) : Bool := decide (l.length ≤ 5) && (List.range l.length).all fun i => !(nameBad l i)
def OKM (l : List (List UInt8)) (k : Nat) : Prop := k ≤ l.length ∧ ∀ j, j < k → nameBad l j = false
theorem nameS_at {l : List (List UInt8)} {i : Nat} {x : List UInt8} (h : l[i]? = some x) : nameS l i = x := by unfold nameS; rw [List.getD_eq_getElem?_getD, h]; rfl
theorem okm0 (l : List (List UInt8)) : OKM l 0 := ⟨Nat.zero_le _, fun j hj => absurd hj (Nat.not_lt_zero _)⟩
theorem okm_step {l : List (List UInt8)} {i : Nat} (h : OKM l i) (hi : i < l.length) (hf : nameBad l i = false) : OKM l (i + 1) := by
  refine ⟨hi, fun j hj => ?_⟩
  rcases Nat.lt_or_ge j i with h1 | h1
  · exact h.2 j h1
  · obtain rfl : j = i := by omega
    exact hf
theorem okm_bad {l : List (List UInt8)} {i : Nat} (hi : i < l.length) (hf : nameBad l i = true) : false = namesOK l := by
  symm
  unfold namesOK
  rw [show ((List.range l.length).all fun i => !(nameBad l i)) = false from List.all_eq_false.2 ⟨i, List.mem_range.2 hi, by simp [hf]⟩, Bool.and_false]
theorem okm_end {l : List (List UInt8)} {i : Nat} (h : OKM l i) (hi : ¬ i < l.length) (h16 : ¬ iOf l.length > 5) : true = namesOK l := by
  symm
  unfold namesOK
  rw [decide_eq_true (p := l.length ≤ 5) (by unfold iOf at h16; omega), Bool.true_and, List.all_eq_true]
  intro j hj
  simp [h.2 j (by have := List.mem_range.1 hj; omega)]
theorem okm_16 {l : List (List UInt8)} (h : iOf l.length > 5) : false = namesOK l := by
  unfold namesOK
  rw [decide_eq_false (p := l.length ≤ 5) (by unfold iOf at h; omega)]; rfl
theorem nodup_take {l : List (List UInt8)} : l.Nodup ↔ ∀ i, i < l.length → (l.take i).any (fun y => decide (y = nameS l i)) = false := by
  rw [List.nodup_iff_pairwise_ne, List.pairwise_iff_getElem]
  constructor
  · intro h i hi
    rw [List.any_eq_false]
    intro y hy
    obtain ⟨j, hj⟩ := List.mem_iff_getElem?.1 hy
    have hji : j < i := by
      have := (List.getElem?_eq_some_iff.1 hj).1
      simp at this; omega
    rw [List.getElem?_take_of_lt hji] at hj
    have e1 := (List.getElem?_eq_some_iff.1 hj)
    obtain ⟨h1, e1⟩ := e1
    have e2 := nameS_at (List.getElem?_eq_getElem hi)
    have := h j i h1 hi hji
    rw [e2, ← e1]
    simpa using this
  · intro h i j hi hj hij e
    have := h j hj
    rw [List.any_eq_false] at this
    refine this l[i] ?_ ?_
    · rw [List.mem_iff_getElem?]
      exact ⟨i, by rw [List.getElem?_take_of_lt hij]; exact List.getElem?_eq_getElem hi⟩
    · rw [nameS_at (List.getElem?_eq_getElem hj)]
      exact decide_eq_true e
theorem all_names {l : List (List UInt8)} : (l.all fun n => !(badName n)) = true ↔ ∀ i, i < l.length → badName (nameS l i) = false := by
  rw [List.all_eq_true]
  constructor
  · intro h i hi
    rw [nameS_at (List.getElem?_eq_getElem hi)]
    have := h _ (List.getElem_mem hi)
    simpa using this
  · intro h x hx
    obtain ⟨j, hj⟩ := List.mem_iff_getElem?.1 hx
    have := h j (List.getElem?_eq_some_iff.1 hj).1
    rw [nameS_at hj] at this
    simp [this]
theorem namesOK_iff {l : List (List UInt8)} : namesOK l = (decide (l.length ≤ 5) && (decide (l.Nodup) && (l.all fun n => !(badName n)))) := by
  rw [Bool.eq_iff_iff]
  unfold namesOK
  simp only [Bool.and_eq_true, decide_eq_true_eq, all_names, nodup_take]
  refine and_congr_right fun _ => ?_
  rw [List.all_eq_true]
  simp only [nameBad, Bool.not_eq_true', Bool.or_eq_false_iff, List.mem_range]
  constructor
  · intro h; exact ⟨fun i hi => (h i hi).2, fun i hi => (h i hi).1⟩
  · intro h i hi; exact ⟨h.2 i hi, h.1 i hi⟩
theorem names_ok {l : List (List UInt8)} (h : namesOK l = true) : l.length ≤ 5 ∧ ∀ x ∈ l, x.length ≤ 12 := by
  rw [namesOK_iff] at h
  simp only [Bool.and_eq_true, decide_eq_true_eq] at h
  refine ⟨h.1, fun x hx => ?_⟩
  have := List.all_eq_true.1 h.2.2 x hx
  simp only [Bool.not_eq_true', badName, Bool.or_eq_false_iff, Bool.not_eq_false'] at this
  have hn := this.1
  unfold nameOK within at hn
  simp only [Bool.and_eq_true, decide_eq_true_eq] at hn
  omega
def manStep (acc t : List UInt8) : List UInt8 := catS acc (catS t [10])
def manTo (l : List (List UInt8)) (k : Nat) : List UInt8 := (l.take k).foldl manStep []
def manT (l : List (List UInt8)) : List UInt8 := catS (catS (catS (manTo l l.length) [115, 117, 109, 32]) (itoaS (sum (manTo l l.length)))) [10]
theorem man_succ {l : List (List UInt8)} {k : Nat} {x : List UInt8} (hx : l[k]? = some x) : catS (manTo l k) (catS x [10]) = manTo l (k + 1) := by
  unfold manTo
  rw [List.take_add_one, hx]
  simp [manStep]
theorem man_len {l : List (List UInt8)} (h : ∀ x ∈ l, x.length ≤ 12) : ∀ k, k ≤ l.length → (manTo l k).length ≤ 13 * k
  | 0, _ => by simp [manTo]
  | k + 1, hk => by
    have ih := man_len h k (by omega)
    have hx := List.getElem?_eq_getElem (show k < l.length by omega)
    rw [← man_succ hx]
    have := h _ (List.mem_of_getElem? hx)
    simp only [catS, List.length_append, List.length_cons, List.length_nil]
    omega
theorem sum_inI (t : List UInt8) : inI (sum t) := by
  unfold inI
  have h := sum_range t
  omega
theorem man_sum {l : List (List UInt8)} (h : namesOK l = true) : layerSum (manTo l l.length) = sum (manTo l l.length) := by
  have h2 := names_ok h
  have := man_len h2.2 l.length (Nat.le_refl _)
  unfold layerSum short
  rw [decide_eq_true (by omega)]; rfl
def manC (l : List (List UInt8)) : Int := if iOf l.length > 4096 then 2 else if namesOK l = false then 1 else 0
def manS (l : List (List UInt8)) : List UInt8 := if manC l = 0 then manT l else []
theorem mc_long {l : List (List UInt8)} (h : iOf l.length > 4096) : [] = manS l ∧ 2 = manC l := by
  have e : manC l = 2 := by unfold manC; rw [if_pos h]
  unfold manS
  rw [e]; exact ⟨rfl, rfl⟩
theorem mc_bad {l : List (List UInt8)} (h : ¬ iOf l.length > 4096) (hb : namesOK l = false) : [] = manS l ∧ 1 = manC l := by
  have e : manC l = 1 := by unfold manC; rw [if_neg h, if_pos hb]
  unfold manS
  rw [e]; exact ⟨rfl, rfl⟩
theorem mc_ok {l : List (List UInt8)} (h : ¬ iOf l.length > 4096) (hb : namesOK l = true) : manT l = manS l ∧ 0 = manC l := by
  have e : manC l = 0 := by unfold manC; rw [if_neg h, if_neg (by rw [hb]; exact fun e => Bool.noConfusion e)]
  unfold manS
  rw [e]; exact ⟨rfl, rfl⟩
theorem mc_first {l : List (List UInt8)} : first [.b (decide (iOf l.length > 4096)), .n 2, .b (!(namesOK l)), .n 1] = manC l := by
  rw [first2]
  unfold manC
  by_cases h : iOf l.length > 4096
  · rw [if_pos h, decide_eq_true h]; rfl
  · rw [if_neg h, decide_eq_false h]
    cases namesOK l <;> rfl
theorem mc_zero {l : List (List UInt8)} (h : manC l = 0) : ¬ iOf l.length > 4096 ∧ namesOK l = true := by
  unfold manC at h
  split at h
  · cases h
  · rename_i h1
    split at h
    · cases h
    · rename_i h2
      exact ⟨h1, by simpa using h2⟩
end Go.Fn
namespace Go.Fn
open Go.Ab
def pickN (p : List Int) (n : Nat) : Bool := match p[n]? with | some x => !(decide (wRem x 2 = 0)) | none => false
def pickI (p : List Int) (n : Int) : Bool := pickN p n.toNat
def entryS (n : List UInt8) (i : Int) : List Slot := if i = 0 then [] else [(n, i, ())]
def crId (d : Disk) (p : List Int) (k : Nat) (n : List UInt8) : Int := if idOf d.2.1 n = idOf d.2.2.1 n then idOf d.2.2.1 n else if pickN p k = true then idOf d.2.1 n else idOf d.2.2.1 n
def crK (d : Disk) (k : Nat) (n : List UInt8) : Nat := if idOf d.2.1 n = idOf d.2.2.1 n then k else k + 1
def crGo (d : Disk) (p : List Int) (q : Nat × List Slot) (n : List UInt8) : Nat × List Slot := (crK d q.1 n, q.2 ++ entryS n (crId d p q.1 n))
def crTo (d : Disk) (p : List Int) (k : Nat) : Nat × List Slot := ((namesB d.2.1 d.2.2.1).take k).foldl (crGo d p) (0, [])
def crL (d : Disk) (p : List Int) : Nat × List Slot := (namesB d.2.1 d.2.2.1).foldl (crGo d p) (0, [])
theorem cr_zero (d : Disk) (p : List Int) : crTo d p 0 = (0, []) := rfl
theorem cr_succ {d : Disk} {p : List Int} {k : Nat} {n : List UInt8} (h : (namesB d.2.1 d.2.2.1)[k]? = some n) : crTo d p (k + 1) = crGo d p (crTo d p k) n := by
  unfold crTo
  rw [List.take_add_one, h]; simp
theorem cr_end {d : Disk} {p : List Int} {k : Nat} (h : ¬ k < (namesB d.2.1 d.2.2.1).length) : crTo d p k = crL d p := by
  unfold crTo crL
  rw [List.take_of_length_le (by omega)]
theorem cr_len (d : Disk) (p : List Int) : ∀ k, k ≤ (namesB d.2.1 d.2.2.1).length → (crTo d p k).1 ≤ k ∧ (crTo d p k).2.length ≤ k
  | 0, _ => by rw [cr_zero]; exact ⟨Nat.le_refl _, Nat.le_refl _⟩
  | k + 1, h => by
    have ih := cr_len d p k (by omega)
    rw [cr_succ (List.getElem?_eq_getElem (show k < _ by omega))]
    unfold crGo crK entryS
    simp only [List.length_append]
    refine ⟨?_, ?_⟩
    · split <;> omega
    · split <;> simp <;> omega
def crX (p : List Int) (k : Nat) (x : Inode) : Inode := if x.2.2.1 = true then x else (x.1, if pickN p k = true then x.2.1 else [], true, ())
def crM (k : Nat) (x : Inode) : Nat := if x.2.2.1 = true then k else k + 1
def crI (p : List Int) : Nat → List Inode → List Inode
  | _, [] => []
  | k, x :: r => crX p k x :: crI p (crM k x) r
def crC (k : Nat) (l : List Inode) : Nat := l.foldl crM k
theorem crI_app (p : List Int) : ∀ (a b : List Inode) (k : Nat), crI p k (a ++ b) = crI p k a ++ crI p (crC k a) b
  | [], _, _ => rfl
  | x :: a, b, k => by
    show crX p k x :: crI p (crM k x) (a ++ b) = _
    rw [crI_app p a b]; rfl
theorem crI_len (p : List Int) : ∀ (a : List Inode) (k : Nat), (crI p k a).length = a.length
  | [], _ => rfl
  | x :: a, k => by show (crI p (crM k x) a).length + 1 = _; rw [crI_len p a]; rfl
def crAt (p : List Int) (k0 : Nat) (l : List Inode) (j : Nat) : List Inode := crI p k0 (l.take j) ++ l.drop j
def crN (k0 : Nat) (l : List Inode) (j : Nat) : Nat := crC k0 (l.take j)
theorem crAt_zero (p : List Int) (k0 : Nat) (l : List Inode) : crAt p k0 l 0 = l := by simp [crAt, crI]
theorem crN_zero (k0 : Nat) (l : List Inode) : crN k0 l 0 = k0 := rfl
theorem crAt_len {p : List Int} {k0 : Nat} {l : List Inode} {j : Nat} (h : j ≤ l.length) : (crAt p k0 l j).length = l.length := by
  unfold crAt; rw [List.length_append, crI_len]; simp; omega
theorem crAt_get {p : List Int} {k0 : Nat} {l : List Inode} {j : Nat} {x : Inode} (h : (crAt p k0 l j)[j]? = some x) (hj : j ≤ l.length) : l[j]? = some x := by
  unfold crAt at h
  rw [List.getElem?_append_right (by rw [crI_len]; simp; omega), crI_len] at h
  have e : j - (l.take j).length = 0 := by simp; omega
  rw [e] at h
  simpa using h
theorem crAt_set {p : List Int} {k0 : Nat} {l : List Inode} {j : Nat} {x : Inode} (h : l[j]? = some x) : (crAt p k0 l j).set j (crX p (crN k0 l j) x) = crAt p k0 l (j + 1) := by
  have hj := (List.getElem?_eq_some_iff.1 h).1
  unfold crAt crN
  rw [List.take_add_one, h, crI_app]
  have e1 : l.drop j = x :: l.drop (j + 1) := by
    rw [List.drop_eq_getElem_cons hj, (List.getElem?_eq_some_iff.1 h).2]
  rw [e1, List.set_append_right _ _ (by rw [crI_len]; simp; omega), crI_len]
  have e : j - (l.take j).length = 0 := by simp; omega
  rw [e]
  simp [crI]
theorem crN_succ {k0 : Nat} {l : List Inode} {j : Nat} {x : Inode} (h : l[j]? = some x) : crN k0 l (j + 1) = crM (crN k0 l j) x := by
  unfold crN crC
  rw [List.take_add_one, h]; simp
theorem crN_le {k0 : Nat} {l : List Inode} : ∀ {j : Nat}, j ≤ l.length → crN k0 l j ≤ k0 + j
  | 0, _ => Nat.le_refl _
  | j + 1, h => by
    have ih := crN_le (k0 := k0) (l := l) (j := j) (by omega)
    rw [crN_succ (List.getElem?_eq_getElem (show j < l.length by omega))]
    unfold crM; split <;> omega
theorem crAt_end {p : List Int} {k0 : Nat} {l : List Inode} {j : Nat} (h : ¬ j < l.length) : crAt p k0 l j = crI p k0 l := by
  unfold crAt
  rw [List.take_of_length_le (by omega), List.drop_eq_nil_of_le (by omega), List.append_nil]
def crT (d : Disk) (p : List Int) : Disk := tidy (d.1, (crL d p).2, (crL d p).2, d.2.2.2.1, ())
def crashD (d : Disk) (p : List Int) : Disk := (crI p (crL d p).1 (crT d p).1, (crL d p).2, (crL d p).2, d.2.2.2.1, ())
def crC0 (d : Disk) (p : List Int) : Int := if iOf p.length > 4096 then 2 else if diskOK d = false then 1 else if iOf (lenL (crL d p).2) > 24 then 7 else 0
def crD0 (d : Disk) (p : List Int) : Disk := if iOf p.length > 4096 then zeroDisk else if diskOK d = false then zeroDisk else if iOf (lenL (crL d p).2) > 24 then d else crashD d p
theorem ids_of {d : Disk} (h : diskOK d = true) {n : List UInt8} (hn : n ∈ namesB d.2.1 d.2.2.1) : ¬ (slotAt d.2.1 n < 0 ∧ slotAt d.2.2.1 n < 0) := by
  rintro ⟨h1, h2⟩
  rcases names_in hn with h3 | h3 <;> obtain ⟨x, hx, e⟩ := List.mem_map.1 h3
  · exact slotAt_neg.1 h1 x hx e
  · exact slotAt_neg.1 h2 x hx e
end Go.Fn
namespace Go.Fn
open Go.Ab
def crDiff (d : Disk) (n : List UInt8) : Bool := !(decide (idOf d.2.1 n = idOf d.2.2.1 n))
theorem id_zero {d : Disk} (hd : diskOK d = true) {l : List Slot} (hl : slotsOK d.1 l = true) {n : List UInt8} : idOf l n = 0 ↔ slotAt l n < 0 := by
  constructor
  · intro h
    apply Classical.byContradiction
    intro hn
    have := (id_ok hd hl hn).1
    omega
  · intro h; exact (idOf_none h).symm
theorem diff_k {d : Disk} (hd : diskOK d = true) {n : List UInt8} (hn : n ∈ namesB d.2.1 d.2.2.1) (hk : slotAt d.2.2.1 n < 0) : true = crDiff d n := by
  have hb : ¬ slotAt d.2.1 n < 0 := fun h => ids_of hd hn ⟨h, hk⟩
  have h1 := (id_ok hd (diskOK_parts hd).1 hb).1
  have h2 := idOf_none hk
  unfold crDiff
  rw [decide_eq_false (by omega)]; rfl
theorem diff_n {d : Disk} (hd : diskOK d = true) {n : List UInt8} (hn : n ∈ namesB d.2.1 d.2.2.1) (hb : slotAt d.2.1 n < 0) : true = crDiff d n := by
  have hk : ¬ slotAt d.2.2.1 n < 0 := fun h => ids_of hd hn ⟨hb, h⟩
  have h1 := (id_ok hd (diskOK_parts hd).2 hk).1
  have h2 := idOf_none hb
  unfold crDiff
  rw [decide_eq_false (by omega)]; rfl
theorem diff_id {d : Disk} {n : List UInt8} (hk : ¬ slotAt d.2.2.1 n < 0) (hb : ¬ slotAt d.2.1 n < 0) {x y : Slot} (hx : nthI d.2.2.1 (slotAt d.2.2.1 n) = some x) (hy : nthI d.2.1 (slotAt d.2.1 n) = some y) : (x.2.1 != y.2.1) = crDiff d n := by
  unfold crDiff
  rw [← idOf_at hk hx, ← idOf_at hb hy]
  by_cases h : x.2.1 = y.2.1
  · rw [decide_eq_true h.symm, h]; simp
  · rw [decide_eq_false (fun e => h e.symm)]; simpa using h
theorem entry_at {d : Disk} (hd : diskOK d = true) {l : List Slot} (hl : slotsOK d.1 l = true) {n : List UInt8} (h : ¬ slotAt l n < 0) {x : Slot} (hx : nthI l (slotAt l n) = some x) : [x] = entryS n (idOf l n) := by
  obtain ⟨⟨yn, yi, ⟨⟩⟩, e, _, h1⟩ := slot_at h
  rw [e] at hx; cases hx
  have h1 : yn = n := h1
  have h2 : yi = idOf l n := idOf_at h e
  unfold entryS
  rw [if_neg (fun h0 => absurd ((id_zero hd hl).1 h0) h), ← h2, h1]
theorem entry_no {l : List Slot} {n : List UInt8} (h : slotAt l n < 0) : [] = entryS n (idOf l n) := by
  unfold entryS; rw [if_pos (idOf_none h).symm]
theorem cr_diff {d : Disk} {p : List Int} {k : Nat} {n : List UInt8} (hk : (namesB d.2.1 d.2.2.1)[k]? = some n) (h : crDiff d n = true) : (crTo d p (k + 1)).1 = (crTo d p k).1 + 1 ∧ (crTo d p (k + 1)).2 = (crTo d p k).2 ++ entryS n (if pickN p (crTo d p k).1 = true then idOf d.2.1 n else idOf d.2.2.1 n) := by
  have hne : ¬ idOf d.2.1 n = idOf d.2.2.1 n := by
    unfold crDiff at h
    simpa using h
  rw [cr_succ hk]
  unfold crGo crK crId
  rw [if_neg hne, if_neg hne]
  exact ⟨rfl, rfl⟩
theorem cr_same {d : Disk} {p : List Int} {k : Nat} {n : List UInt8} (hk : (namesB d.2.1 d.2.2.1)[k]? = some n) (h : crDiff d n = false) : (crTo d p (k + 1)).1 = (crTo d p k).1 ∧ (crTo d p (k + 1)).2 = (crTo d p k).2 ++ entryS n (idOf d.2.2.1 n) := by
  have he : idOf d.2.1 n = idOf d.2.2.1 n := by
    unfold crDiff at h
    simpa using h
  rw [cr_succ hk]
  unfold crGo crK crId
  rw [if_pos he, if_pos he]
  exact ⟨rfl, rfl⟩
theorem same_safe {d : Disk} (hd : diskOK d = true) {n : List UInt8} (hn : n ∈ namesB d.2.1 d.2.2.1) (h : crDiff d n = false) : ¬ slotAt d.2.2.1 n < 0 := fun hk => by
  rw [← diff_k hd hn hk] at h; cases h
theorem crAt_same {p : List Int} {k0 : Nat} {l : List Inode} {j : Nat} {x : Inode} (h : l[j]? = some x) (hs : x.2.2.1 = true) : crAt p k0 l j = crAt p k0 l (j + 1) ∧ crN k0 l (j + 1) = crN k0 l j := by
  have h1 := crAt_set (p := p) (k0 := k0) h
  have e : crX p (crN k0 l j) x = x := by unfold crX; rw [if_pos hs]
  rw [e] at h1
  refine ⟨?_, by rw [crN_succ h]; unfold crM; rw [if_pos hs]⟩
  rw [← h1]
  have hj := (List.getElem?_eq_some_iff.1 h).1
  have hg : (crAt p k0 l j)[j]? = some x := by
    unfold crAt
    rw [List.getElem?_append_right (by rw [crI_len]; simp; omega), crI_len]
    have e0 : j - (l.take j).length = 0 := by simp; omega
    rw [e0]
    simpa using h
  obtain ⟨hlt, hx⟩ := List.getElem?_eq_some_iff.1 hg
  rw [← hx, List.set_getElem_self]
theorem crAt_diff {p : List Int} {k0 : Nat} {l : List Inode} {j : Nat} {x : Inode} (h : l[j]? = some x) (hs : x.2.2.1 = false) : (crAt p k0 l j).set j (x.1, if pickN p (crN k0 l j) = true then x.2.1 else [], true, ()) = crAt p k0 l (j + 1) ∧ crN k0 l (j + 1) = crN k0 l j + 1 := by
  have h1 := crAt_set (p := p) (k0 := k0) h
  have e : crX p (crN k0 l j) x = (x.1, if pickN p (crN k0 l j) = true then x.2.1 else [], true, ()) := by unfold crX; rw [if_neg (by rw [hs]; exact Bool.false_ne_true)]
  rw [e] at h1
  exact ⟨h1, by rw [crN_succ h]; unfold crM; rw [if_neg (by rw [hs]; exact Bool.false_ne_true)]⟩
theorem pick_at {p : List Int} {n x : Int} (h : nthI p n = some x) : (wRem x 2 != 0) = pickI p n := by
  unfold pickI pickN
  rw [show p[n.toNat]? = some x from h]
  by_cases e : wRem x 2 = 0
  · simp [e]
  · simp [e]
theorem pick_no {p : List Int} {n : Int} (h : ¬ n < iOf p.length) : false = pickI p n := by
  have h : ¬ n < (p.length : Int) := h
  unfold pickI pickN
  rw [List.getElem?_eq_none (by omega)]
theorem names_48 {d : Disk} (hd : diskOK d = true) : (namesB d.2.1 d.2.2.1).length ≤ 48 := by
  have h := disk_short hd
  have h1 := all_len d.2.1 d.2.2.1 d.2.1.length (Nat.le_refl _)
  rw [all_end (Nat.lt_irrefl _)] at h1
  unfold namesB
  rw [List.length_map]
  omega
end Go.Fn
namespace Go.Fn
open Go.Ab
theorem odd_in {p : List Int} {n : Nat} (hn : n ≤ 1000000) : wAdd .i64 (Int.ofNat n) 1 = Int.ofNat (n + 1) ∧ wSub .i64 (wAdd .i64 (Int.ofNat n) 1) 1 = Int.ofNat n := by
  have e : wAdd .i64 (Int.ofNat n) 1 = Int.ofNat (n + 1) := inc_small (by omega)
  refine ⟨e, ?_⟩
  rw [e, wSub_in (by simp only [Int.ofNat_eq_natCast]; omega)]
  simp only [Int.ofNat_eq_natCast]; omega
theorem odd_bnd {p : List Int} {n : Nat} (h : Int.ofNat (n + 1) ≤ iOf p.length) : bnd (Int.ofNat n) p.length := ⟨Int.natCast_nonneg _, Int.ofNat_lt.2 (Int.ofNat_le.1 h)⟩
theorem odd_yes {p : List Int} {n : Nat} {y : Int} (h : nthI p (Int.ofNat n) = some y) (hy : ¬ wRem y 2 = 0) : pickN p n = true := by
  unfold pickN
  rw [show p[n]? = some y from h]
  simp [hy]
theorem odd_no {p : List Int} {n : Nat} {y : Int} (h : nthI p (Int.ofNat n) = some y) (hy : wRem y 2 = 0) : pickN p n = false := by
  unfold pickN
  rw [show p[n]? = some y from h]
  simp [hy]
theorem odd_out {p : List Int} {n : Nat} (h : ¬ Int.ofNat (n + 1) ≤ iOf p.length) : pickN p n = false := by
  unfold pickN
  rw [List.getElem?_eq_none]
  exact Nat.not_lt.1 fun hn => h (Int.ofNat_le.2 hn)
theorem diff_yes {d : Disk} {n : List UInt8} (h : ¬ idOf d.2.1 n = idOf d.2.2.1 n) : crDiff d n = true := by unfold crDiff; rw [decide_eq_false h]; rfl
theorem diff_no {d : Disk} {n : List UInt8} (h : idOf d.2.1 n = idOf d.2.2.1 n) : crDiff d n = false := by unfold crDiff; rw [decide_eq_true h]; rfl
theorem entry_pos {n : List UInt8} {i : Int} (h : ¬ i = 0) : [(n, i, ())] = entryS n i := (if_neg h).symm
theorem entry_zero {n : List UInt8} {i : Int} (h : i = 0) : [] = entryS n i := (if_pos h).symm
theorem crAt_true {p : List Int} {k0 : Nat} {l : List Inode} {j : Nat} {x : Inode} (h : l[j]? = some x) (hs : x.2.2.1 = true) : (crAt p k0 l j).set j (x.1, x.2.1, true, ()) = crAt p k0 l (j + 1) ∧ crN k0 l (j + 1) = crN k0 l j := by
  have h1 := crAt_set (p := p) (k0 := k0) h
  have e : crX p (crN k0 l j) x = (x.1, x.2.1, true, ()) := by
    obtain ⟨a, b, c, ⟨⟩⟩ := x
    have hs : c = true := hs
    subst hs
    unfold crX; rfl
  rw [e] at h1
  exact ⟨h1, (crAt_same (p := p) h hs).2⟩
theorem cr_first {d : Disk} {p : List Int} (h : ¬ first [.b (decide (iOf p.length > 4096)), .n 2, .b (!(diskOK d)), .n 1] = 0) : zeroDisk = crD0 d p ∧ first [.b (decide (iOf p.length > 4096)), .n 2, .b (!(diskOK d)), .n 1] = crC0 d p := by
  rw [first2] at h ⊢
  unfold crD0 crC0
  by_cases h1 : iOf p.length > 4096
  · rw [if_pos h1, if_pos h1, decide_eq_true h1]; exact ⟨rfl, rfl⟩
  · rw [if_neg h1, if_neg h1, decide_eq_false h1] at *
    cases hd : diskOK d with
    | false => exact ⟨rfl, rfl⟩
    | true => rw [hd] at h; exact absurd rfl h
theorem cr_good {d : Disk} {p : List Int} (h : first [.b (decide (iOf p.length > 4096)), .n 2, .b (!(diskOK d)), .n 1] = 0) : ¬ iOf p.length > 4096 ∧ diskOK d = true := by
  rw [first2] at h
  by_cases h1 : iOf p.length > 4096
  · rw [decide_eq_true h1] at h; simp at h
  · rw [decide_eq_false h1] at h
    cases hd : diskOK d with
    | false => rw [hd] at h; simp at h
    | true => exact ⟨h1, rfl⟩
theorem cr_full {d : Disk} {p : List Int} (h1 : ¬ iOf p.length > 4096) (hd : diskOK d = true) (h : iOf (crL d p).2.length > 24) : d = crD0 d p ∧ 7 = crC0 d p := by
  have e1 : crD0 d p = d := by
    unfold crD0
    rw [if_neg h1, hd, if_neg (fun e => Bool.noConfusion e)]
    exact if_pos h
  have e2 : crC0 d p = 7 := by
    unfold crC0
    rw [if_neg h1, hd, if_neg (fun e => Bool.noConfusion e)]
    exact if_pos h
  exact ⟨e1.symm, e2.symm⟩
theorem cr_done {d : Disk} {p : List Int} (h1 : ¬ iOf p.length > 4096) (hd : diskOK d = true) (h : ¬ iOf (crL d p).2.length > 24) : crashD d p = crD0 d p ∧ 0 = crC0 d p := by
  have e1 : crD0 d p = crashD d p := by
    unfold crD0
    rw [if_neg h1, hd, if_neg (fun e => Bool.noConfusion e)]
    exact if_neg h
  have e2 : crC0 d p = 0 := by
    unfold crC0
    rw [if_neg h1, hd, if_neg (fun e => Bool.noConfusion e)]
    exact if_neg h
  exact ⟨e1.symm, e2.symm⟩
theorem cr_long {d : Disk} {p : List Int} (h1 : iOf p.length > 4096) : zeroDisk = crD0 d p ∧ 2 = crC0 d p := by
  unfold crD0 crC0
  rw [if_pos h1, if_pos h1]; exact ⟨rfl, rfl⟩
theorem cr_bad {d : Disk} {p : List Int} (h1 : ¬ iOf p.length > 4096) (hd : diskOK d = false) : zeroDisk = crD0 d p ∧ 1 = crC0 d p := by
  unfold crD0 crC0
  rw [if_neg h1, if_neg h1, if_pos hd, if_pos hd]; exact ⟨rfl, rfl⟩
end Go.Fn
namespace Go.Fn
open Go.Ab
theorem small_crash {d : Disk} {p : List Int} (h : smallD d) : smallD (crD0 d p) := by
  have hz : smallD zeroDisk := ⟨Nat.zero_le _, Nat.zero_le _, Nat.zero_le _⟩
  unfold crD0
  split
  · exact hz
  · split
    · exact hz
    · rename_i hd
      split
      · exact h
      · have hd : diskOK d = true := by simpa using hd
        have h48 := names_48 hd
        have hc := (cr_len d p (namesB d.2.1 d.2.2.1).length (Nat.le_refl _)).2
        rw [cr_end (Nat.lt_irrefl _)] at hc
        have ha := (disk_short hd).1
        refine ⟨?_, ?_, ?_⟩
        · show (crI p (crL d p).1 (crT d p).1).length ≤ 2000000
          rw [crI_len]
          have : (crT d p).1.length ≤ d.1.length := List.length_filter_le _ _
          omega
        · show (crL d p).2.length ≤ 2000000; omega
        · show (crL d p).2.length ≤ 2000000; omega
end Go.Fn
namespace Go.Proofs.Ytolminmmnckpkaa
open Go.Ab Go.Fn
def s_pick : FSpec := { ps := [.v (.slice I), .v I], rs := [.v .bool], pre := fun x => (0 : Int) ≤ x.2.1, fn := fun x => (Fn.pickI x.1 x.2.1, ()), upd := fun _ => () }
theorem fo_l11Pick : FO 79 s_pick := by
  refine fo (specs := []) (clos := []) (fun x => []) trivial trivial Try.func79 rfl rfl ?_
  rintro ⟨p, (n : Int), ⟨⟩⟩ (hn : 0 ≤ n)
  refine vcOf (fits (lenL p) → (decide (n < iOf (lenL p)) = true → bnd n (lenL p) ∧ ∀ (x : Int), nthI p n = some x → nat_lit 1 ≤ nat_lit 1 ∧ nz (2 : Int) ∧ (wRem x (2 : Int) != (0 : Int), ()) = (pickI p n, ()) ∧ () = ()) ∧ (decide (n < iOf (lenL p)) = false → (false, ()) = (pickI p n, ()) ∧ () = ())) (by kernel_rfl) ?_
  simp only [Nat.le_refl, Nat.succ_eq_add_one, Nat.reduceAdd, Nat.reduceLeDiff, Nat.zero_le, pair_unit, mk_eta, len_bne, eqD_bne, bne_iff_ne, bne_eq_false_iff_eq, beq_iff_eq, beq_eq_false_iff_ne, true_and, and_true, and_self, eq_self, lt_iff, nthI_nat, bnd_iff, decide_eq_true_eq, decide_eq_false_iff_not, Nat.sub_eq, nz, ne_eq, not_false_eq_true, Prod.mk.injEq, Int.reduceEq, Nat.reduceEqDiff, forall_const, implies_true, bne_self_eq_false, Bool.true_eq_false, Bool.false_eq_true, false_implies, reduceCtorEq, Bool.not_true, Bool.not_false, List.all_cons, List.all_nil, Bool.and_true, Bool.not_eq_true, Bool.not_eq_false, Bool.not_eq_true', Bool.not_eq_false', Decidable.not_not]; try simp only [lenL]
  exact fun _ => ⟨fun h => ⟨⟨hn, h⟩, fun x hx => pick_at hx⟩, fun h => pick_no h⟩
end Go.Proofs.Ytolminmmnckpkaa
namespace Go.Proofs.Ytolminmmnckpkaa
open Go.Ab Go.Fn
def s_crash : FSpec := { ps := [.v tDisk, .v (.slice I)], rs := [.o tDisk], pre := fun x => Fn.diskOK x.1 = true, fn := fun x => (Fn.crashD x.1 x.2.1, ()), upd := fun _ => () }
def L_scr1 (d : Fn.Disk) (p : List Int) : LoopAnn := { ι := Nat, inv := fun k => k ≤ (namesB d.2.1 d.2.2.1).length, slots := fun k => [(6, .os 3), (7, .d I (Int.ofNat (Fn.crTo d p k).1)), (8, .d I (Int.ofNat k))], objs := fun k => [(3, .arr tSlot (Fn.crTo d p k).2 false)], μ := fun k => (namesB d.2.1 d.2.2.1).length - k }
def L_scr2 (l : List Fn.Inode) (p : List Int) (n : Nat) : LoopAnn := { ι := Nat, inv := fun k => k ≤ l.length, slots := fun k => [(13, .d I (Int.ofNat k)), (7, .d I (Int.ofNat (Fn.crN n l k)))], objs := fun k => [(4, .arr tInode (Fn.crAt p n l k) false)], μ := fun k => l.length - k }
theorem fo_l11Crash : FO 46 s_crash := by
  refine fo (specs := [(78, s_names), (25, s_slot), (79, s_pick), (24, s_l11Tidy)]) (clos := []) (fun x => [(5, .lv [1, 2, 4, 5, 6, 7, 8] <| fun _ => L_scr1 x.1 x.2.1), (1000010, .lv [1, 2, 4, 5, 6, 7, 8, 9, 10, 11, 59] <| .ofCut fun s => [(59, .d .bool (Fn.crDiff x.1 (Fn.nameS (Fn.namesB x.1.2.1 x.1.2.2.1) (s.tI 8).toNat)))]), (19, .lv [1, 4, 7, 12, 13] <| fun _ => L_scr2 (Fn.crT x.1 x.2.1).1 x.2.1 (Fn.crL x.1 x.2.1).1)]) ⟨fo_l11Names, fo_l11At, fo_l11Pick, fo_l11Tidy, trivial⟩ trivial Try.func46 rfl rfl ?_
  rintro ⟨⟨a, b, c, d, ⟨⟩⟩, p, ⟨⟩⟩ hd
  refine vcOf (nat_lit 4 ≤ (Nat.succ (nat_lit 1)).succ.succ ∧ true = true ∧ diskOK (a, b, c, d, ()) = true ∧ (∃ (i : Nat), i ≤ (namesB b c).length ∧ (p = p ∧ (nat_lit 0 = nat_lit 0 ∧ (0 : Nat) = (0 : Nat)) ∧ (nat_lit 1 = nat_lit 1 ∧ (0 : Nat) = (0 : Nat)) ∧ nat_lit 2 = nat_lit 2 ∧ (Nat.succ (nat_lit 1)).succ = (3 : Nat) ∧ (0 : Int) = Int.ofNat (crTo (a, b, c, d, ()) p i).fst ∧ (0 : Int) = Int.ofNat i ∧ True) ∧ ((a = a ∧ b = b ∧ c = c ∧ d = d ∧ True) ∧ (true = true ∧ true = true ∧ true = true ∧ (0 : (Ty.int IntKind.i64).den) = (0 : (Ty.int IntKind.i64).den) ∧ True) ∧ (namesB b c = namesB b c ∧ false = false) ∧ (([] : List (List UInt8 × Int × Unit)) = (crTo (a, b, c, d, ()) p i).snd ∧ false = false) ∧ True) ∧ True) ∧ ∀ (i : Nat), i ≤ (namesB b c).length → fits (lenL (namesB b c)) → (decide (Int.ofNat i < iOf (lenL (namesB b c))) = true → nat_lit 3 ≤ (Nat.succ (nat_lit 1)).succ.succ ∧ bnd (Int.ofNat i) (lenL (namesB b c)) ∧ nat_lit 1 = nat_lit 1 ∧ nat_lit 1 ≤ nat_lit 1 ∧ tN (Int.ofNat i) < lenL (namesB b c) ∧ ∀ (x : List UInt8), nth (namesB b c) (tN (Int.ofNat i)) = some x → true = true ∧ True ∧ nat_lit 2 ≤ (Nat.succ (nat_lit 1)).succ.succ ∧ bnd (Int.ofNat i) (lenL (namesB b c)) ∧ nat_lit 1 = nat_lit 1 ∧ nat_lit 1 ≤ nat_lit 1 ∧ tN (Int.ofNat i) < lenL (namesB b c) ∧ ∀ (x_1 : List UInt8), nth (namesB b c) (tN (Int.ofNat i)) = some x_1 → true = true ∧ True ∧ nat_lit 3 ≤ (Nat.succ (nat_lit 1)).succ.succ ∧ ((decide (slotAt c x < (0 : Int)) = false → (decide (slotAt b x_1 < (0 : Int)) = false → nat_lit 3 ≤ (Nat.succ (nat_lit 1)).succ.succ ∧ bnd (slotAt c x) (lenL c) ∧ ∀ (x_2 : List UInt8 × Int × Unit), nthI c (slotAt c x) = some x_2 → nat_lit 1 ≤ nat_lit 1 ∧ nat_lit 2 ≤ (Nat.succ (nat_lit 1)).succ.succ ∧ bnd (slotAt b x_1) (lenL b) ∧ ∀ (x_3 : List UInt8 × Int × Unit), nthI b (slotAt b x_1) = some x_3 → nat_lit 1 ≤ nat_lit 1 ∧ (p = p ∧ (nat_lit 0 = nat_lit 0 ∧ (0 : Nat) = (0 : Nat)) ∧ (nat_lit 1 = nat_lit 1 ∧ (0 : Nat) = (0 : Nat)) ∧ nat_lit 2 = nat_lit 2 ∧ (3 : Nat) = (3 : Nat) ∧ Int.ofNat (crTo (a, b, c, d, ()) p i).fst = Int.ofNat (crTo (a, b, c, d, ()) p i).fst ∧ Int.ofNat i = Int.ofNat i ∧ slotAt c x = slotAt c x ∧ slotAt b x_1 = slotAt b x_1 ∧ c = c ∧ (x_2.snd.fst != x_3.snd.fst) = crDiff (a, b, c, d, ()) (nameS (namesB b c) (Int.ofNat i).toNat) ∧ True) ∧ ((a = a ∧ b = b ∧ c = c ∧ d = d ∧ True) ∧ (true = true ∧ true = true ∧ true = true ∧ (0 : (Ty.int IntKind.i64).den) = (0 : (Ty.int IntKind.i64).den) ∧ True) ∧ (namesB b c = namesB b c ∧ false = false) ∧ ((crTo (a, b, c, d, ()) p i).snd = (crTo (a, b, c, d, ()) p i).snd ∧ false = false) ∧ True) ∧ True) ∧ (decide (slotAt b x_1 < (0 : Int)) = true → (p = p ∧ (nat_lit 0 = nat_lit 0 ∧ (0 : Nat) = (0 : Nat)) ∧ (nat_lit 1 = nat_lit 1 ∧ (0 : Nat) = (0 : Nat)) ∧ nat_lit 2 = nat_lit 2 ∧ (3 : Nat) = (3 : Nat) ∧ Int.ofNat (crTo (a, b, c, d, ()) p i).fst = Int.ofNat (crTo (a, b, c, d, ()) p i).fst ∧ Int.ofNat i = Int.ofNat i ∧ slotAt c x = slotAt c x ∧ slotAt b x_1 = slotAt b x_1 ∧ c = c ∧ true = crDiff (a, b, c, d, ()) (nameS (namesB b c) (Int.ofNat i).toNat) ∧ True) ∧ ((a = a ∧ b = b ∧ c = c ∧ d = d ∧ True) ∧ (true = true ∧ true = true ∧ true = true ∧ (0 : (Ty.int IntKind.i64).den) = (0 : (Ty.int IntKind.i64).den) ∧ True) ∧ (namesB b c = namesB b c ∧ false = false) ∧ ((crTo (a, b, c, d, ()) p i).snd = (crTo (a, b, c, d, ()) p i).snd ∧ false = false) ∧ True) ∧ True)) ∧ (decide (slotAt c x < (0 : Int)) = true → (p = p ∧ (nat_lit 0 = nat_lit 0 ∧ (0 : Nat) = (0 : Nat)) ∧ (nat_lit 1 = nat_lit 1 ∧ (0 : Nat) = (0 : Nat)) ∧ nat_lit 2 = nat_lit 2 ∧ (3 : Nat) = (3 : Nat) ∧ Int.ofNat (crTo (a, b, c, d, ()) p i).fst = Int.ofNat (crTo (a, b, c, d, ()) p i).fst ∧ Int.ofNat i = Int.ofNat i ∧ slotAt c x = slotAt c x ∧ slotAt b x_1 = slotAt b x_1 ∧ c = c ∧ true = crDiff (a, b, c, d, ()) (nameS (namesB b c) (Int.ofNat i).toNat) ∧ True) ∧ ((a = a ∧ b = b ∧ c = c ∧ d = d ∧ True) ∧ (true = true ∧ true = true ∧ true = true ∧ (0 : (Ty.int IntKind.i64).den) = (0 : (Ty.int IntKind.i64).den) ∧ True) ∧ (namesB b c = namesB b c ∧ false = false) ∧ ((crTo (a, b, c, d, ()) p i).snd = (crTo (a, b, c, d, ()) p i).snd ∧ false = false) ∧ True) ∧ True)) ∧ (crDiff (a, b, c, d, ()) (nameS (namesB b c) (Int.ofNat i).toNat) = true → true = true ∧ (0 : Int) ≤ Int.ofNat (crTo (a, b, c, d, ()) p i).fst ∧ (pickI p (Int.ofNat (crTo (a, b, c, d, ()) p i).fst) = true → nat_lit 2 ≤ (Nat.succ (nat_lit 1)).succ.succ ∧ (decide (slotAt b x_1 ≥ (0 : Int)) = true → bnd (slotAt b x_1) (lenL b) ∧ ∀ (x : List UInt8 × Int × Unit), nthI b (slotAt b x_1) = some x → nat_lit 2 ≤ Nat.succ (nat_lit 1) ∧ fits (lenL (crTo (a, b, c, d, ()) p i).snd + lenL ((x.fst, x.snd.fst, ()) :: ([] : List (List UInt8 × Int × Unit)))) ∧ ∃ (j : Nat), j ≤ (namesB b c).length ∧ (namesB b c).length.sub j < (namesB b c).length.sub i ∧ (p = p ∧ (nat_lit 0 = nat_lit 0 ∧ (0 : Nat) = (0 : Nat)) ∧ (nat_lit 1 = nat_lit 1 ∧ (0 : Nat) = (0 : Nat)) ∧ nat_lit 2 = nat_lit 2 ∧ (3 : Nat) = (3 : Nat) ∧ wAdd IntKind.i64 (Int.ofNat (crTo (a, b, c, d, ()) p i).fst) (1 : Int) = Int.ofNat (crTo (a, b, c, d, ()) p j).fst ∧ wAdd IntKind.i64 (Int.ofNat i) (1 : Int) = Int.ofNat j ∧ True) ∧ ((a = a ∧ b = b ∧ c = c ∧ d = d ∧ True) ∧ (true = true ∧ true = true ∧ true = true ∧ (0 : (Ty.int IntKind.i64).den) = (0 : (Ty.int IntKind.i64).den) ∧ True) ∧ (namesB b c = namesB b c ∧ false = false) ∧ ((crTo (a, b, c, d, ()) p i).snd ++ (x.fst, x.snd.fst, ()) :: ([] : List (List UInt8 × Int × Unit)) = (crTo (a, b, c, d, ()) p j).snd ∧ false = false) ∧ True) ∧ True) ∧ (decide (slotAt b x_1 ≥ (0 : Int)) = false → ∃ (j : Nat), j ≤ (namesB b c).length ∧ (namesB b c).length.sub j < (namesB b c).length.sub i ∧ (p = p ∧ (nat_lit 0 = nat_lit 0 ∧ (0 : Nat) = (0 : Nat)) ∧ (nat_lit 1 = nat_lit 1 ∧ (0 : Nat) = (0 : Nat)) ∧ nat_lit 2 = nat_lit 2 ∧ (3 : Nat) = (3 : Nat) ∧ wAdd IntKind.i64 (Int.ofNat (crTo (a, b, c, d, ()) p i).fst) (1 : Int) = Int.ofNat (crTo (a, b, c, d, ()) p j).fst ∧ wAdd IntKind.i64 (Int.ofNat i) (1 : Int) = Int.ofNat j ∧ True) ∧ ((a = a ∧ b = b ∧ c = c ∧ d = d ∧ True) ∧ (true = true ∧ true = true ∧ true = true ∧ (0 : (Ty.int IntKind.i64).den) = (0 : (Ty.int IntKind.i64).den) ∧ True) ∧ (namesB b c = namesB b c ∧ false = false) ∧ ((crTo (a, b, c, d, ()) p i).snd = (crTo (a, b, c, d, ()) p j).snd ∧ false = false) ∧ True) ∧ True)) ∧ (pickI p (Int.ofNat (crTo (a, b, c, d, ()) p i).fst) = false → (decide (slotAt c x ≥ (0 : Int)) = true → bnd (slotAt c x) (lenL c) ∧ ∀ (x_2 : List UInt8 × Int × Unit), nthI c (slotAt c x) = some x_2 → nat_lit 2 ≤ Nat.succ (nat_lit 1) ∧ fits (lenL (crTo (a, b, c, d, ()) p i).snd + lenL ((x_2.fst, x_2.snd.fst, ()) :: ([] : List (List UInt8 × Int × Unit)))) ∧ ∃ (j : Nat), j ≤ (namesB b c).length ∧ (namesB b c).length.sub j < (namesB b c).length.sub i ∧ (p = p ∧ (nat_lit 0 = nat_lit 0 ∧ (0 : Nat) = (0 : Nat)) ∧ (nat_lit 1 = nat_lit 1 ∧ (0 : Nat) = (0 : Nat)) ∧ nat_lit 2 = nat_lit 2 ∧ (3 : Nat) = (3 : Nat) ∧ wAdd IntKind.i64 (Int.ofNat (crTo (a, b, c, d, ()) p i).fst) (1 : Int) = Int.ofNat (crTo (a, b, c, d, ()) p j).fst ∧ wAdd IntKind.i64 (Int.ofNat i) (1 : Int) = Int.ofNat j ∧ True) ∧ ((a = a ∧ b = b ∧ c = c ∧ d = d ∧ True) ∧ (true = true ∧ true = true ∧ true = true ∧ (0 : (Ty.int IntKind.i64).den) = (0 : (Ty.int IntKind.i64).den) ∧ True) ∧ (namesB b c = namesB b c ∧ false = false) ∧ ((crTo (a, b, c, d, ()) p i).snd ++ (x_2.fst, x_2.snd.fst, ()) :: ([] : List (List UInt8 × Int × Unit)) = (crTo (a, b, c, d, ()) p j).snd ∧ false = false) ∧ True) ∧ True) ∧ (decide (slotAt c x ≥ (0 : Int)) = false → ∃ (j : Nat), j ≤ (namesB b c).length ∧ (namesB b c).length.sub j < (namesB b c).length.sub i ∧ (p = p ∧ (nat_lit 0 = nat_lit 0 ∧ (0 : Nat) = (0 : Nat)) ∧ (nat_lit 1 = nat_lit 1 ∧ (0 : Nat) = (0 : Nat)) ∧ nat_lit 2 = nat_lit 2 ∧ (3 : Nat) = (3 : Nat) ∧ wAdd IntKind.i64 (Int.ofNat (crTo (a, b, c, d, ()) p i).fst) (1 : Int) = Int.ofNat (crTo (a, b, c, d, ()) p j).fst ∧ wAdd IntKind.i64 (Int.ofNat i) (1 : Int) = Int.ofNat j ∧ True) ∧ ((a = a ∧ b = b ∧ c = c ∧ d = d ∧ True) ∧ (true = true ∧ true = true ∧ true = true ∧ (0 : (Ty.int IntKind.i64).den) = (0 : (Ty.int IntKind.i64).den) ∧ True) ∧ (namesB b c = namesB b c ∧ false = false) ∧ ((crTo (a, b, c, d, ()) p i).snd = (crTo (a, b, c, d, ()) p j).snd ∧ false = false) ∧ True) ∧ True))) ∧ (crDiff (a, b, c, d, ()) (nameS (namesB b c) (Int.ofNat i).toNat) = false → (decide (slotAt c x ≥ (0 : Int)) = true → bnd (slotAt c x) (lenL c) ∧ ∀ (x_2 : List UInt8 × Int × Unit), nthI c (slotAt c x) = some x_2 → nat_lit 2 ≤ Nat.succ (nat_lit 1) ∧ fits (lenL (crTo (a, b, c, d, ()) p i).snd + lenL ((x_2.fst, x_2.snd.fst, ()) :: ([] : List (List UInt8 × Int × Unit)))) ∧ ∃ (j : Nat), j ≤ (namesB b c).length ∧ (namesB b c).length.sub j < (namesB b c).length.sub i ∧ (p = p ∧ (nat_lit 0 = nat_lit 0 ∧ (0 : Nat) = (0 : Nat)) ∧ (nat_lit 1 = nat_lit 1 ∧ (0 : Nat) = (0 : Nat)) ∧ nat_lit 2 = nat_lit 2 ∧ (3 : Nat) = (3 : Nat) ∧ Int.ofNat (crTo (a, b, c, d, ()) p i).fst = Int.ofNat (crTo (a, b, c, d, ()) p j).fst ∧ wAdd IntKind.i64 (Int.ofNat i) (1 : Int) = Int.ofNat j ∧ True) ∧ ((a = a ∧ b = b ∧ c = c ∧ d = d ∧ True) ∧ (true = true ∧ true = true ∧ true = true ∧ (0 : (Ty.int IntKind.i64).den) = (0 : (Ty.int IntKind.i64).den) ∧ True) ∧ (namesB b c = namesB b c ∧ false = false) ∧ ((crTo (a, b, c, d, ()) p i).snd ++ (x_2.fst, x_2.snd.fst, ()) :: ([] : List (List UInt8 × Int × Unit)) = (crTo (a, b, c, d, ()) p j).snd ∧ false = false) ∧ True) ∧ True) ∧ (decide (slotAt c x ≥ (0 : Int)) = false → ∃ (j : Nat), j ≤ (namesB b c).length ∧ (namesB b c).length.sub j < (namesB b c).length.sub i ∧ (p = p ∧ (nat_lit 0 = nat_lit 0 ∧ (0 : Nat) = (0 : Nat)) ∧ (nat_lit 1 = nat_lit 1 ∧ (0 : Nat) = (0 : Nat)) ∧ nat_lit 2 = nat_lit 2 ∧ (3 : Nat) = (3 : Nat) ∧ Int.ofNat (crTo (a, b, c, d, ()) p i).fst = Int.ofNat (crTo (a, b, c, d, ()) p j).fst ∧ wAdd IntKind.i64 (Int.ofNat i) (1 : Int) = Int.ofNat j ∧ True) ∧ ((a = a ∧ b = b ∧ c = c ∧ d = d ∧ True) ∧ (true = true ∧ true = true ∧ true = true ∧ (0 : (Ty.int IntKind.i64).den) = (0 : (Ty.int IntKind.i64).den) ∧ True) ∧ (namesB b c = namesB b c ∧ false = false) ∧ ((crTo (a, b, c, d, ()) p i).snd = (crTo (a, b, c, d, ()) p j).snd ∧ false = false) ∧ True) ∧ True))) ∧ (decide (Int.ofNat i < iOf (lenL (namesB b c))) = false → nat_lit 1 ≤ (Nat.succ (nat_lit 1)).succ.succ ∧ nat_lit 4 ≤ (Nat.succ (nat_lit 1)).succ.succ ∧ true = true ∧ True ∧ nat_lit 4 ≤ nat_lit 4 ∧ (∃ (i_1 : Nat), i_1 ≤ (crT (a, b, c, d, ()) p).fst.length ∧ (p = p ∧ (nat_lit 1 = nat_lit 1 ∧ (0 : Nat) = (0 : Nat)) ∧ Int.ofNat (crTo (a, b, c, d, ()) p i).fst = Int.ofNat (crN (crL (a, b, c, d, ()) p).fst (crT (a, b, c, d, ()) p).fst i_1) ∧ ((Nat.succ (nat_lit 1)).succ.succ.succ.succ.succ = (Nat.succ (nat_lit 1)).succ.succ.succ.succ.succ ∧ (0 : Nat) = (0 : Nat)) ∧ (0 : Int) = Int.ofNat i_1 ∧ True) ∧ ((a = a ∧ b = b ∧ c = c ∧ d = d ∧ True) ∧ (true = true ∧ true = true ∧ true = true ∧ (0 : (Ty.int IntKind.i64).den) = (0 : (Ty.int IntKind.i64).den) ∧ True) ∧ (namesB b c = namesB b c ∧ false = false) ∧ ((crTo (a, b, c, d, ()) p i).snd = (crTo (a, b, c, d, ()) p i).snd ∧ false = false) ∧ ((tidy (a, (crTo (a, b, c, d, ()) p i).snd, (crTo (a, b, c, d, ()) p i).snd, d, ())).fst = crAt p (crL (a, b, c, d, ()) p).fst (crT (a, b, c, d, ()) p).fst i_1 ∧ false = false) ∧ ((tidy (a, (crTo (a, b, c, d, ()) p i).snd, (crTo (a, b, c, d, ()) p i).snd, d, ())).snd.fst = (tidy (a, (crTo (a, b, c, d, ()) p i).snd, (crTo (a, b, c, d, ()) p i).snd, d, ())).snd.fst ∧ false = false) ∧ ((tidy (a, (crTo (a, b, c, d, ()) p i).snd, (crTo (a, b, c, d, ()) p i).snd, d, ())).snd.snd.fst = (tidy (a, (crTo (a, b, c, d, ()) p i).snd, (crTo (a, b, c, d, ()) p i).snd, d, ())).snd.snd.fst ∧ false = false) ∧ ((Nat.succ (nat_lit 1)).succ.succ = (Nat.succ (nat_lit 1)).succ.succ ∧ (Nat.succ (nat_lit 1)).succ.succ.succ = (Nat.succ (nat_lit 1)).succ.succ.succ ∧ (Nat.succ (nat_lit 1)).succ.succ.succ.succ = (Nat.succ (nat_lit 1)).succ.succ.succ.succ ∧ (tidy (a, (crTo (a, b, c, d, ()) p i).snd, (crTo (a, b, c, d, ()) p i).snd, d, ())).snd.snd.snd.fst = (tidy (a, (crTo (a, b, c, d, ()) p i).snd, (crTo (a, b, c, d, ()) p i).snd, d, ())).snd.snd.snd.fst ∧ True) ∧ True) ∧ True) ∧ ∀ (i_1 : Nat), i_1 ≤ (crT (a, b, c, d, ()) p).fst.length → nat_lit 1 ≤ (Nat.succ (nat_lit 1)).succ.succ ∧ (fits (lenL (crAt p (crL (a, b, c, d, ()) p).fst (crT (a, b, c, d, ()) p).fst i_1)) → (decide (Int.ofNat i_1 < iOf (lenL (crAt p (crL (a, b, c, d, ()) p).fst (crT (a, b, c, d, ()) p).fst i_1))) = true → nat_lit 1 ≤ (Nat.succ (nat_lit 1)).succ.succ ∧ bnd (Int.ofNat i_1) (lenL (crAt p (crL (a, b, c, d, ()) p).fst (crT (a, b, c, d, ()) p).fst i_1)) ∧ nat_lit 3 = nat_lit 3 ∧ nat_lit 3 ≤ nat_lit 3 ∧ tN (Int.ofNat i_1) < lenL (crAt p (crL (a, b, c, d, ()) p).fst (crT (a, b, c, d, ()) p).fst i_1) ∧ ∀ (x : Int × List UInt8 × Bool × Unit), nth (crAt p (crL (a, b, c, d, ()) p).fst (crT (a, b, c, d, ()) p).fst i_1) (tN (Int.ofNat i_1)) = some x → ((!x.snd.snd.fst) = true → true = true ∧ (0 : Int) ≤ Int.ofNat (crN (crL (a, b, c, d, ()) p).fst (crT (a, b, c, d, ()) p).fst i_1) ∧ ((!pickI p (Int.ofNat (crN (crL (a, b, c, d, ()) p).fst (crT (a, b, c, d, ()) p).fst i_1))) = true → nat_lit 1 ≤ (Nat.succ (nat_lit 1)).succ.succ ∧ bnd (Int.ofNat i_1) (lenL (crAt p (crL (a, b, c, d, ()) p).fst (crT (a, b, c, d, ()) p).fst i_1)) ∧ (nat_lit 2 ≤ nat_lit 3 ∧ tN (Int.ofNat i_1) < lenL (crAt p (crL (a, b, c, d, ()) p).fst (crT (a, b, c, d, ()) p).fst i_1)) ∧ ∀ (x : Int × List UInt8 × Bool × Unit), nth (crAt p (crL (a, b, c, d, ()) p).fst (crT (a, b, c, d, ()) p).fst i_1) (tN (Int.ofNat i_1)) = some x → nat_lit 1 ≤ (Nat.succ (nat_lit 1)).succ.succ ∧ bnd (Int.ofNat i_1) (lenL ((crAt p (crL (a, b, c, d, ()) p).fst (crT (a, b, c, d, ()) p).fst i_1).set (tN (Int.ofNat i_1)) (x.fst, ([] : List UInt8), x.snd.snd.fst, ()))) ∧ (nat_lit 3 ≤ nat_lit 3 ∧ tN (Int.ofNat i_1) < lenL ((crAt p (crL (a, b, c, d, ()) p).fst (crT (a, b, c, d, ()) p).fst i_1).set (tN (Int.ofNat i_1)) (x.fst, ([] : List UInt8), x.snd.snd.fst, ()))) ∧ ∀ (x_1 : Int × List UInt8 × Bool × Unit), nth ((crAt p (crL (a, b, c, d, ()) p).fst (crT (a, b, c, d, ()) p).fst i_1).set (tN (Int.ofNat i_1)) (x.fst, ([] : List UInt8), x.snd.snd.fst, ())) (tN (Int.ofNat i_1)) = some x_1 → ∃ (j : Nat), j ≤ (crT (a, b, c, d, ()) p).fst.length ∧ (crT (a, b, c, d, ()) p).fst.length.sub j < (crT (a, b, c, d, ()) p).fst.length.sub i_1 ∧ (p = p ∧ (nat_lit 1 = nat_lit 1 ∧ (0 : Nat) = (0 : Nat)) ∧ wAdd IntKind.i64 (Int.ofNat (crN (crL (a, b, c, d, ()) p).fst (crT (a, b, c, d, ()) p).fst i_1)) (1 : Int) = Int.ofNat (crN (crL (a, b, c, d, ()) p).fst (crT (a, b, c, d, ()) p).fst j) ∧ ((Nat.succ (nat_lit 1)).succ.succ.succ.succ.succ = (Nat.succ (nat_lit 1)).succ.succ.succ.succ.succ ∧ (0 : Nat) = (0 : Nat)) ∧ wAdd IntKind.i64 (Int.ofNat i_1) (1 : Int) = Int.ofNat j ∧ True) ∧ ((a = a ∧ b = b ∧ c = c ∧ d = d ∧ True) ∧ (true = true ∧ true = true ∧ true = true ∧ (0 : (Ty.int IntKind.i64).den) = (0 : (Ty.int IntKind.i64).den) ∧ True) ∧ (namesB b c = namesB b c ∧ false = false) ∧ ((crTo (a, b, c, d, ()) p i).snd = (crTo (a, b, c, d, ()) p i).snd ∧ false = false) ∧ (((crAt p (crL (a, b, c, d, ()) p).fst (crT (a, b, c, d, ()) p).fst i_1).set (tN (Int.ofNat i_1)) (x.fst, ([] : List UInt8), x.snd.snd.fst, ())).set (tN (Int.ofNat i_1)) (x_1.fst, x_1.snd.fst, true, ()) = crAt p (crL (a, b, c, d, ()) p).fst (crT (a, b, c, d, ()) p).fst j ∧ false = false) ∧ ((tidy (a, (crTo (a, b, c, d, ()) p i).snd, (crTo (a, b, c, d, ()) p i).snd, d, ())).snd.fst = (tidy (a, (crTo (a, b, c, d, ()) p i).snd, (crTo (a, b, c, d, ()) p i).snd, d, ())).snd.fst ∧ false = false) ∧ ((tidy (a, (crTo (a, b, c, d, ()) p i).snd, (crTo (a, b, c, d, ()) p i).snd, d, ())).snd.snd.fst = (tidy (a, (crTo (a, b, c, d, ()) p i).snd, (crTo (a, b, c, d, ()) p i).snd, d, ())).snd.snd.fst ∧ false = false) ∧ ((Nat.succ (nat_lit 1)).succ.succ = (Nat.succ (nat_lit 1)).succ.succ ∧ (Nat.succ (nat_lit 1)).succ.succ.succ = (Nat.succ (nat_lit 1)).succ.succ.succ ∧ (Nat.succ (nat_lit 1)).succ.succ.succ.succ = (Nat.succ (nat_lit 1)).succ.succ.succ.succ ∧ (tidy (a, (crTo (a, b, c, d, ()) p i).snd, (crTo (a, b, c, d, ()) p i).snd, d, ())).snd.snd.snd.fst = (tidy (a, (crTo (a, b, c, d, ()) p i).snd, (crTo (a, b, c, d, ()) p i).snd, d, ())).snd.snd.snd.fst ∧ True) ∧ True) ∧ True) ∧ ((!pickI p (Int.ofNat (crN (crL (a, b, c, d, ()) p).fst (crT (a, b, c, d, ()) p).fst i_1))) = false → nat_lit 1 ≤ (Nat.succ (nat_lit 1)).succ.succ ∧ bnd (Int.ofNat i_1) (lenL (crAt p (crL (a, b, c, d, ()) p).fst (crT (a, b, c, d, ()) p).fst i_1)) ∧ (nat_lit 3 ≤ nat_lit 3 ∧ tN (Int.ofNat i_1) < lenL (crAt p (crL (a, b, c, d, ()) p).fst (crT (a, b, c, d, ()) p).fst i_1)) ∧ ∀ (x : Int × List UInt8 × Bool × Unit), nth (crAt p (crL (a, b, c, d, ()) p).fst (crT (a, b, c, d, ()) p).fst i_1) (tN (Int.ofNat i_1)) = some x → ∃ (j : Nat), j ≤ (crT (a, b, c, d, ()) p).fst.length ∧ (crT (a, b, c, d, ()) p).fst.length.sub j < (crT (a, b, c, d, ()) p).fst.length.sub i_1 ∧ (p = p ∧ (nat_lit 1 = nat_lit 1 ∧ (0 : Nat) = (0 : Nat)) ∧ wAdd IntKind.i64 (Int.ofNat (crN (crL (a, b, c, d, ()) p).fst (crT (a, b, c, d, ()) p).fst i_1)) (1 : Int) = Int.ofNat (crN (crL (a, b, c, d, ()) p).fst (crT (a, b, c, d, ()) p).fst j) ∧ ((Nat.succ (nat_lit 1)).succ.succ.succ.succ.succ = (Nat.succ (nat_lit 1)).succ.succ.succ.succ.succ ∧ (0 : Nat) = (0 : Nat)) ∧ wAdd IntKind.i64 (Int.ofNat i_1) (1 : Int) = Int.ofNat j ∧ True) ∧ ((a = a ∧ b = b ∧ c = c ∧ d = d ∧ True) ∧ (true = true ∧ true = true ∧ true = true ∧ (0 : (Ty.int IntKind.i64).den) = (0 : (Ty.int IntKind.i64).den) ∧ True) ∧ (namesB b c = namesB b c ∧ false = false) ∧ ((crTo (a, b, c, d, ()) p i).snd = (crTo (a, b, c, d, ()) p i).snd ∧ false = false) ∧ ((crAt p (crL (a, b, c, d, ()) p).fst (crT (a, b, c, d, ()) p).fst i_1).set (tN (Int.ofNat i_1)) (x.fst, x.snd.fst, true, ()) = crAt p (crL (a, b, c, d, ()) p).fst (crT (a, b, c, d, ()) p).fst j ∧ false = false) ∧ ((tidy (a, (crTo (a, b, c, d, ()) p i).snd, (crTo (a, b, c, d, ()) p i).snd, d, ())).snd.fst = (tidy (a, (crTo (a, b, c, d, ()) p i).snd, (crTo (a, b, c, d, ()) p i).snd, d, ())).snd.fst ∧ false = false) ∧ ((tidy (a, (crTo (a, b, c, d, ()) p i).snd, (crTo (a, b, c, d, ()) p i).snd, d, ())).snd.snd.fst = (tidy (a, (crTo (a, b, c, d, ()) p i).snd, (crTo (a, b, c, d, ()) p i).snd, d, ())).snd.snd.fst ∧ false = false) ∧ ((Nat.succ (nat_lit 1)).succ.succ = (Nat.succ (nat_lit 1)).succ.succ ∧ (Nat.succ (nat_lit 1)).succ.succ.succ = (Nat.succ (nat_lit 1)).succ.succ.succ ∧ (Nat.succ (nat_lit 1)).succ.succ.succ.succ = (Nat.succ (nat_lit 1)).succ.succ.succ.succ ∧ (tidy (a, (crTo (a, b, c, d, ()) p i).snd, (crTo (a, b, c, d, ()) p i).snd, d, ())).snd.snd.snd.fst = (tidy (a, (crTo (a, b, c, d, ()) p i).snd, (crTo (a, b, c, d, ()) p i).snd, d, ())).snd.snd.snd.fst ∧ True) ∧ True) ∧ True)) ∧ ((!x.snd.snd.fst) = false → ∃ (j : Nat), j ≤ (crT (a, b, c, d, ()) p).fst.length ∧ (crT (a, b, c, d, ()) p).fst.length.sub j < (crT (a, b, c, d, ()) p).fst.length.sub i_1 ∧ (p = p ∧ (nat_lit 1 = nat_lit 1 ∧ (0 : Nat) = (0 : Nat)) ∧ Int.ofNat (crN (crL (a, b, c, d, ()) p).fst (crT (a, b, c, d, ()) p).fst i_1) = Int.ofNat (crN (crL (a, b, c, d, ()) p).fst (crT (a, b, c, d, ()) p).fst j) ∧ ((Nat.succ (nat_lit 1)).succ.succ.succ.succ.succ = (Nat.succ (nat_lit 1)).succ.succ.succ.succ.succ ∧ (0 : Nat) = (0 : Nat)) ∧ wAdd IntKind.i64 (Int.ofNat i_1) (1 : Int) = Int.ofNat j ∧ True) ∧ ((a = a ∧ b = b ∧ c = c ∧ d = d ∧ True) ∧ (true = true ∧ true = true ∧ true = true ∧ (0 : (Ty.int IntKind.i64).den) = (0 : (Ty.int IntKind.i64).den) ∧ True) ∧ (namesB b c = namesB b c ∧ false = false) ∧ ((crTo (a, b, c, d, ()) p i).snd = (crTo (a, b, c, d, ()) p i).snd ∧ false = false) ∧ (crAt p (crL (a, b, c, d, ()) p).fst (crT (a, b, c, d, ()) p).fst i_1 = crAt p (crL (a, b, c, d, ()) p).fst (crT (a, b, c, d, ()) p).fst j ∧ false = false) ∧ ((tidy (a, (crTo (a, b, c, d, ()) p i).snd, (crTo (a, b, c, d, ()) p i).snd, d, ())).snd.fst = (tidy (a, (crTo (a, b, c, d, ()) p i).snd, (crTo (a, b, c, d, ()) p i).snd, d, ())).snd.fst ∧ false = false) ∧ ((tidy (a, (crTo (a, b, c, d, ()) p i).snd, (crTo (a, b, c, d, ()) p i).snd, d, ())).snd.snd.fst = (tidy (a, (crTo (a, b, c, d, ()) p i).snd, (crTo (a, b, c, d, ()) p i).snd, d, ())).snd.snd.fst ∧ false = false) ∧ ((Nat.succ (nat_lit 1)).succ.succ = (Nat.succ (nat_lit 1)).succ.succ ∧ (Nat.succ (nat_lit 1)).succ.succ.succ = (Nat.succ (nat_lit 1)).succ.succ.succ ∧ (Nat.succ (nat_lit 1)).succ.succ.succ.succ = (Nat.succ (nat_lit 1)).succ.succ.succ.succ ∧ (tidy (a, (crTo (a, b, c, d, ()) p i).snd, (crTo (a, b, c, d, ()) p i).snd, d, ())).snd.snd.snd.fst = (tidy (a, (crTo (a, b, c, d, ()) p i).snd, (crTo (a, b, c, d, ()) p i).snd, d, ())).snd.snd.snd.fst ∧ True) ∧ True) ∧ True)) ∧ (decide (Int.ofNat i_1 < iOf (lenL (crAt p (crL (a, b, c, d, ()) p).fst (crT (a, b, c, d, ()) p).fst i_1))) = false → nat_lit 4 ≤ (Nat.succ (nat_lit 1)).succ.succ ∧ nat_lit 4 ≤ nat_lit 4 ∧ ((crAt p (crL (a, b, c, d, ()) p).fst (crT (a, b, c, d, ()) p).fst i_1, (tidy (a, (crTo (a, b, c, d, ()) p i).snd, (crTo (a, b, c, d, ()) p i).snd, d, ())).snd.fst, (tidy (a, (crTo (a, b, c, d, ()) p i).snd, (crTo (a, b, c, d, ()) p i).snd, d, ())).snd.snd.fst, (tidy (a, (crTo (a, b, c, d, ()) p i).snd, (crTo (a, b, c, d, ()) p i).snd, d, ())).snd.snd.snd.fst, ()), ()) = (crashD (a, b, c, d, ()) p, ()) ∧ () = ())))) (by kernel_rfl) ?_
  simp only [Nat.le_refl, Nat.succ_eq_add_one, Nat.reduceAdd, Nat.reduceLeDiff, Nat.zero_le, pair_unit, mk_eta, len_bne, eqD_bne, bne_iff_ne, bne_eq_false_iff_eq, beq_iff_eq, beq_eq_false_iff_ne, true_and, and_true, and_self, eq_self, lt_iff, nthI_nat, bnd_iff, decide_eq_true_eq, decide_eq_false_iff_not, Nat.sub_eq, nz, ne_eq, not_false_eq_true, Prod.mk.injEq, Int.reduceEq, Nat.reduceEqDiff, forall_const, implies_true, bne_self_eq_false, Bool.true_eq_false, Bool.false_eq_true, false_implies, reduceCtorEq, Bool.not_true, Bool.not_false, List.all_cons, List.all_nil, Bool.and_true, Bool.not_eq_true, Bool.not_eq_false, Bool.not_eq_true', Bool.not_eq_false', Decidable.not_not]; try simp only [lenL]
  have hd : diskOK (a, b, c, d, ()) = true := hd
  have hp := diskOK_parts hd
  have h48 : (namesB b c).length ≤ 48 := names_48 hd
  refine ⟨hd, ⟨0, Nat.zero_le _, ⟨rfl, rfl⟩, rfl⟩, fun i hi hf => ⟨fun h => ⟨h, h, fun x hx => ⟨h, h, fun y hy => ?_⟩⟩, fun h => ?_⟩⟩
  · cases hx.symm.trans hy
    have hm : x ∈ namesB b c := List.mem_of_getElem? hx
    have en : nameS (namesB b c) (Int.toNat (Int.ofNat i)) = x := nameS_at hx
    have hc := cr_len (a, b, c, d, ()) p i hi
    have inc : wAdd .i64 (Int.ofNat (crTo (a, b, c, d, ()) p i).1) 1 = Int.ofNat ((crTo (a, b, c, d, ()) p i).1 + 1) := inc_small (by omega)
    have fit : ∀ s : Fn.Slot, fits ((crTo (a, b, c, d, ()) p i).2.length + [s].length) := fun s => by
      show _ < 1099511627776
      simp only [List.length_cons, List.length_nil]; omega
    have hxi : (namesB b c)[i]? = some x := hx
    rw [en]
    refine ⟨⟨fun h1 => ⟨fun h2 => ⟨idx_bnd h1, fun u hu => ⟨idx_bnd h2, fun v hv => diff_id (d := (a, b, c, d, ())) h1 h2 hu hv⟩⟩, fun h2 => diff_n hd hm h2⟩, fun h1 => diff_k hd hm h1⟩, fun hdf => ?_, fun hsm => ?_⟩
    · have q := cr_diff (d := (a, b, c, d, ())) (p := p) hxi hdf
      refine ⟨Int.natCast_nonneg _, fun hpk => ⟨fun hs => ⟨idx_bnd (Int.not_lt.2 hs), fun u hu => ⟨fit u, i + 1, h, Nat.sub_lt_sub_left h (Nat.lt_succ_self i), ⟨by rw [inc, q.1], inc_in hf hi⟩, ?_⟩⟩, fun hs => ⟨i + 1, h, Nat.sub_lt_sub_left h (Nat.lt_succ_self i), ⟨by rw [inc, q.1], inc_in hf hi⟩, ?_⟩⟩, fun hpk => ⟨fun hs => ⟨idx_bnd (Int.not_lt.2 hs), fun u hu => ⟨fit u, i + 1, h, Nat.sub_lt_sub_left h (Nat.lt_succ_self i), ⟨by rw [inc, q.1], inc_in hf hi⟩, ?_⟩⟩, fun hs => ⟨i + 1, h, Nat.sub_lt_sub_left h (Nat.lt_succ_self i), ⟨by rw [inc, q.1], inc_in hf hi⟩, ?_⟩⟩⟩
      · rw [q.2, if_pos (show pickN p (crTo (a, b, c, d, ()) p i).1 = true from hpk), entry_at hd hp.1 (Int.not_lt.2 hs) hu]
      · rw [q.2, if_pos (show pickN p (crTo (a, b, c, d, ()) p i).1 = true from hpk), ← entry_no (l := b) (Int.not_le.1 hs), List.append_nil]
      · rw [q.2, if_neg (by rw [show pickN p (crTo (a, b, c, d, ()) p i).1 = false from hpk]; exact Bool.false_ne_true), entry_at hd hp.2 (Int.not_lt.2 hs) hu]
      · rw [q.2, if_neg (by rw [show pickN p (crTo (a, b, c, d, ()) p i).1 = false from hpk]; exact Bool.false_ne_true), ← entry_no (l := c) (Int.not_le.1 hs), List.append_nil]
    · have q := cr_same (d := (a, b, c, d, ())) (p := p) hxi hsm
      have hk := same_safe hd hm hsm
      refine ⟨fun hs => ⟨idx_bnd hk, fun u hu => ⟨fit u, i + 1, h, Nat.sub_lt_sub_left h (Nat.lt_succ_self i), ⟨by rw [q.1], inc_in hf hi⟩, ?_⟩⟩, fun hs => absurd (Int.not_le.1 hs) hk⟩
      rw [q.2, entry_at hd hp.2 hk hu]
  · rw [cr_end h]
    generalize hT : crT (a, b, c, d, ()) p = T
    generalize hN : (crL (a, b, c, d, ()) p).1 = N0
    have hN0 : N0 ≤ 48 := by
      rw [← hN, ← cr_end (k := (namesB b c).length) (Nat.lt_irrefl _)]
      exact Nat.le_trans (cr_len (a, b, c, d, ()) p _ (Nat.le_refl _)).1 h48
    have hT48 : T.1.length ≤ 48 := by
      rw [← hT]
      exact Nat.le_trans (List.length_filter_le _ _) (disk_short hd).1
    refine ⟨⟨0, Nat.zero_le _, ⟨rfl, rfl⟩, ?_⟩, fun j hj hfj => ?_⟩
    · rw [crAt_zero, ← hT]; rfl
    have hlen : (crAt p N0 T.1 j).length = T.1.length := crAt_len hj
    have hle : crN N0 T.1 j ≤ N0 + j := crN_le hj
    have inc : wAdd .i64 (Int.ofNat (crN N0 T.1 j)) 1 = Int.ofNat (crN N0 T.1 j + 1) := inc_small (by omega)
    have inj : wAdd .i64 (Int.ofNat j) 1 = Int.ofNat (j + 1) := inc_small (by omega)
    simp only [List.length_set, hlen, tN_nat]
    refine ⟨fun hlt => ⟨hlt, hlt, fun x hx => ?_⟩, fun hge => ?_⟩
    · have hx0 := crAt_get hx hj
      refine ⟨fun hs => ⟨Int.natCast_nonneg _, fun hpk => ⟨hlt, hlt, fun x1 h1 => ⟨hlt, hlt, fun x2 h2 => ?_⟩⟩, fun hpk => ⟨hlt, hlt, fun x1 h1 => ?_⟩⟩, fun hs => ?_⟩
      · cases hx.symm.trans h1
        have e2 := nth_set h2
        subst e2
        have q := crAt_diff (p := p) (k0 := N0) hx0 hs
        rw [show pickN p (crN N0 T.1 j) = false from hpk, if_neg Bool.false_ne_true] at q
        exact ⟨j + 1, hlt, Nat.sub_lt_sub_left hlt (Nat.lt_succ_self j), ⟨by rw [inc, q.2], inj⟩, by rw [List.set_set]; exact q.1⟩
      · cases hx.symm.trans h1
        have q := crAt_diff (p := p) (k0 := N0) hx0 hs
        rw [show pickN p (crN N0 T.1 j) = true from hpk, if_pos rfl] at q
        exact ⟨j + 1, hlt, Nat.sub_lt_sub_left hlt (Nat.lt_succ_self j), ⟨by rw [inc, q.2], inj⟩, q.1⟩
      · have q := crAt_same (p := p) (k0 := N0) hx0 hs
        exact ⟨j + 1, hlt, Nat.sub_lt_sub_left hlt (Nat.lt_succ_self j), ⟨by rw [q.2], inj⟩, q.1⟩
    · rw [crAt_end hge, ← hT, ← hN]
      rfl
end Go.Proofs.Ytolminmmnckpkaa
namespace Go.Ab

def osOf : AV → Nat
  | .os i => i
  | _ => 0
def pOf : AV → Nat
  | .p i _ => i
  | _ => 0
def dskAt (s : St) (b : Nat) : tDisk.den := (lst s tInode (boxAt s b 0), lst s tSlot (boxAt s b 1), lst s tSlot (boxAt s b 2), (boxAt s b 3).getI, ())
end Go.Ab
