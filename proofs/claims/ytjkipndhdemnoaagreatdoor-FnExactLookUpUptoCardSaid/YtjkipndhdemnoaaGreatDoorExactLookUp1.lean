/- Every function that the law FnExactLookUp reaches does what its specification (a function on plain data) says; the law answers true wherever what it reads is of bulk at most 1048576. Conditions: that bound. -/
import Derived.Test.YtjkipndhdemnoaaGreatDoorAb2
import Derived.Deep.DeepHandedRow
import Derived.Deep.DeepLaidRun
import Derived.Laws.BitsLemmas
import Derived.Lib.Bytealg
import Derived.Lib.ItoaLen
import Derived.Lib.ItoaMem
import Derived.Lib.Join
import Derived.LoopIn
import Derived.LoopNIn
import Derived.OpenShut
import Derived.OwnWalkIn
import Derived.ProofKit
import Derived.RangeFuncBox
import Derived.RangeFuncCalls
import Derived.RangeFuncLeaves
import Derived.RangeFuncWrites
import Derived.Shelf.Abstract
import Derived.TacticsInMore
import Derived.Test.YtjkipndhdemnoaaGreatDoorCards
import Derived.Test.YtjkipndhdemnoaaGreatDoorRows
import Derived.Test.YtjkipndhdemnoaaGreatDoorTie
import Derived.WalkKit
import Derived.Test.YtjkipndhdemnoaaGreatDoorExactLookUp0
set_option autoImplicit true
set_option relaxedAutoImplicit true
set_option maxHeartbeats 4000000
set_option maxRecDepth 4000
set_option linter.unusedVariables false
set_option linter.unusedSimpArgs false
namespace Go.Fn
open Go.Ab
theorem recAt_at {l : List Rec} {i : Nat} {x : Rec} (h : l[i]? = some x) : recAt l i = x := by unfold recAt; rw [List.getD_eq_getElem?_getD, h]; rfl
theorem ok0 (l : List Rec) : OKto l 0 := ⟨Nat.zero_le _, fun j hj => absurd hj (Nat.not_lt_zero _)⟩
theorem ok_step {l : List Rec} {i : Nat} (h : OKto l i) (hi : i < l.length) (hf : faultAt l i = 0) : OKto l (i + 1) := by
  refine ⟨hi, fun j hj => ?_⟩
  by_cases e : j = i
  · rw [e]; exact hf
  · exact h.2 j (by omega)
theorem lay_at {l : List Rec} {i : Nat} (h : OKto l i) (hi : i < l.length) (hf : ¬ faultAt l i = 0) : layI l = some i := by
  unfold layI
  rw [List.find?_range_eq_some]
  refine ⟨by simp [hf], List.mem_range.2 hi, fun j hj => by simp [h.2 j hj]⟩
theorem lay_c {l : List Rec} {i : Nat} {c : Int} (h : OKto l i) (hi : i < l.length) (hc : faultAt l i = c) (hn : ¬ c = 0) : Int.ofNat i = layN l ∧ c = layC l := by
  have := lay_at h hi (by rw [hc]; exact hn)
  unfold layN layC
  rw [this]
  exact ⟨rfl, hc.symm⟩
theorem lay_end {l : List Rec} {i : Nat} (h : OKto l i) (hi : ¬ i < l.length) : 0 = layN l ∧ 0 = layC l := by
  have : layI l = none := by
    unfold layI
    rw [List.find?_eq_none]
    intro j hj
    have := List.mem_range.1 hj
    simp [h.2 j (by omega)]
  unfold layN layC
  rw [this]
  exact ⟨rfl, rfl⟩
theorem fa_16 {l : List Rec} {i : Nat} (h : 16 ≤ i) : faultAt l i = 6 := by unfold faultAt; rw [if_pos h]
theorem ok_16 {l : List Rec} {i : Nat} (h : OKto l i) (hn : ¬ Int.ofNat i = 16) : ¬ 16 ≤ i := by
  intro hge
  have : ¬ i = 16 := fun e => hn (by rw [e]; rfl)
  have h2 := h.2 16 (by omega)
  rw [fa_16 (Nat.le_refl _)] at h2
  cases h2
theorem fa_rec {l : List Rec} {i : Nat} (h : ¬ 16 ≤ i) (hr : ¬ recFault (recAt l i) = 0) : faultAt l i = recFault (recAt l i) := by unfold faultAt; rw [if_neg h, if_pos hr]
theorem fa_18 {l : List Rec} {i : Nat} (h : ¬ 16 ≤ i) (hr : recFault (recAt l i) = 0) (hs : sameB l (Int.ofNat i) = true) : faultAt l i = 18 := by unfold faultAt; rw [if_neg h, if_neg (by simp [hr]), if_pos hs]
theorem fa_11 {l : List Rec} {i : Nat} (h : ¬ 16 ≤ i) (hr : recFault (recAt l i) = 0) (hs : sameB l (Int.ofNat i) = false) (ho : orderB l (Int.ofNat i) = true) : faultAt l i = 11 := by unfold faultAt; rw [if_neg h, if_neg (by simp [hr]), if_neg (by rw [hs]; exact Bool.false_ne_true), if_pos ho]
theorem fa_12 {l : List Rec} {i : Nat} (h : ¬ 16 ≤ i) (hr : recFault (recAt l i) = 0) (hs : sameB l (Int.ofNat i) = false) (ho : orderB l (Int.ofNat i) = false) (hu : upOf l i < 0) : faultAt l i = 12 := by unfold faultAt; rw [if_neg h, if_neg (by simp [hr]), if_neg (by rw [hs]; exact Bool.false_ne_true), if_neg (by rw [ho]; exact Bool.false_ne_true), if_pos hu]
theorem fa_13 {l : List Rec} {i : Nat} (h : ¬ 16 ≤ i) (hr : recFault (recAt l i) = 0) (hs : sameB l (Int.ofNat i) = false) (ho : orderB l (Int.ofNat i) = false) (hu : ¬ upOf l i < 0) (hd : dirB l (Int.ofNat i) = true) : faultAt l i = 13 := by unfold faultAt; rw [if_neg h, if_neg (by simp [hr]), if_neg (by rw [hs]; exact Bool.false_ne_true), if_neg (by rw [ho]; exact Bool.false_ne_true), if_neg hu, if_pos hd]
theorem fa_0 {l : List Rec} {i : Nat} (h : ¬ 16 ≤ i) (hr : recFault (recAt l i) = 0) (hs : sameB l (Int.ofNat i) = false) (ho : orderB l (Int.ofNat i) = false) (hu : ¬ upOf l i < 0) (hd : dirB l (Int.ofNat i) = false) : faultAt l i = 0 := by unfold faultAt; rw [if_neg h, if_neg (by simp [hr]), if_neg (by rw [hs]; exact Bool.false_ne_true), if_neg (by rw [ho]; exact Bool.false_ne_true), if_neg hu, if_neg (by rw [hd]; exact Bool.false_ne_true)]
theorem fa_fine {l : List Rec} {i : Nat} (h : faultAt l i = 0) : recFault (recAt l i) = 0 := by
  unfold faultAt at h
  split at h
  · cases h
  · split at h
    · exact h
    · rename_i h2
      simpa using h2
theorem rec_path {r : Rec} (h : recFault r = 0) : pathOK r.2.1 = true := by
  obtain ⟨k, p, b, m, o, ⟨⟩⟩ := r
  exact (rec_ok h).1
theorem order_eq {l : List Rec} {i : Nat} (h : OKto l i) (hr : recFault (recAt l i) = 0) : orderB l (Int.ofNat i) = unlessB l (Int.ofNat i) := by
  unfold orderB unlessB
  by_cases hp : Int.ofNat i > 0
  · have hp' : 0 < i := Int.ofNat_lt.1 hp
    have h1 : pathOK (recAt l (i - 1)).2.1 = true := rec_path (fa_fine (h.2 (i - 1) (by omega)))
    have h2 := rec_path hr
    unfold pathLess
    rw [show (Int.ofNat i).toNat = i from rfl, h1, h2]
    rfl
  · rw [decide_eq_false hp]; rfl
theorem ws1 {l : List Rec} {i : Nat} (hp : Int.ofNat i > 0) (hi : i < l.length) (hf : fits l.length) : wSub .i64 (Int.ofNat i) 1 = Int.ofNat (i - 1) := by
  have hf : l.length < 1099511627776 := hf
  have hp : 0 < i := Int.ofNat_lt.1 hp
  rw [wSub_in (by simp only [Int.ofNat_eq_natCast]; omega)]
  simp only [Int.ofNat_eq_natCast]
  omega
theorem same_at {l : List Rec} {i : Nat} {x y : Rec} (hp : Int.ofNat i > 0) (hx : l[i]? = some x) (hy : l[i - 1]? = some y) : (x.2.1 == y.2.1) = sameB l (Int.ofNat i) ∧ (y.2.1 == x.2.1) = sameB l (Int.ofNat i) := by
  unfold sameB
  rw [decide_eq_true hp, show (Int.ofNat i).toNat = i from rfl, recAt_at hx, recAt_at hy]
  by_cases e : y.2.1 = x.2.1
  · rw [decide_eq_true e, e]; simp
  · have e' : ¬ x.2.1 = y.2.1 := fun h => e h.symm
    rw [decide_eq_false e]
    simp [e, e']
theorem same_no {l : List Rec} {i : Nat} (hp : ¬ Int.ofNat i > 0) : false = sameB l (Int.ofNat i) := by unfold sameB; rw [decide_eq_false hp]; rfl
theorem unless_at {l : List Rec} {i : Nat} {x y : Rec} (hp : Int.ofNat i > 0) (hx : l[i]? = some x) (hy : l[i - 1]? = some y) : (!lessL (split 47 y.2.1) (split 47 x.2.1)) = unlessB l (Int.ofNat i) := by
  unfold unlessB
  rw [decide_eq_true hp, show (Int.ofNat i).toNat = i from rfl, recAt_at hx, recAt_at hy]; rfl
theorem unless_no {l : List Rec} {i : Nat} (hp : ¬ Int.ofNat i > 0) : false = unlessB l (Int.ofNat i) := by unfold unlessB; rw [decide_eq_false hp]; rfl
theorem order_at {l : List Rec} {i : Nat} {x y : Rec} (hp : Int.ofNat i > 0) (hx : l[i]? = some x) (hy : l[i - 1]? = some y) : (!pathLess y.2.1 x.2.1) = orderB l (Int.ofNat i) := by
  unfold orderB
  rw [decide_eq_true hp, show (Int.ofNat i).toNat = i from rfl, recAt_at hx, recAt_at hy]; rfl
theorem order_no {l : List Rec} {i : Nat} (hp : ¬ Int.ofNat i > 0) : false = orderB l (Int.ofNat i) := by unfold orderB; rw [decide_eq_false hp]; rfl
theorem up_none {l : List Rec} {i : Nat} {x : Rec} (hx : l[i]? = some x) (hp : parentS x.2.1 = []) : upOf l i = 0 := by unfold upOf; rw [recAt_at hx, if_pos hp]
theorem up_some {l : List Rec} {i : Nat} {x : Rec} (hx : l[i]? = some x) (hp : ¬ parentS x.2.1 = []) : idx (atPath (parentS x.2.1)) (subL l 0 (tN (Int.ofNat i))) = upOf l i := by
  unfold upOf; rw [recAt_at hx, if_neg hp]
  have : subL l 0 (tN (Int.ofNat i)) = l.take i := rfl
  rw [this]
theorem idx_lt {α : Type} (p : α → Bool) (l : List α) : idx p l < l.length ∧ -1 ≤ idx p l := by
  unfold idx
  cases h : l.findIdx? p with
  | none => simp; omega
  | some i =>
    have := (List.findIdx?_eq_some_iff_getElem.1 h).1
    simp only
    omega
theorem up_lt {l : List Rec} {i : Nat} (hi : i < l.length) : upOf l i < l.length := by
  unfold upOf
  split
  · omega
  · have := (idx_lt (atPath (parentS (recAt l i).2.1)) (l.take i)).1
    simp at this
    omega
theorem dir_none {l : List Rec} {i : Nat} {x : Rec} (hx : l[i]? = some x) (hp : parentS x.2.1 = []) : dirB l (Int.ofNat i) = false := by
  unfold dirB; rw [show (Int.ofNat i).toNat = i from rfl, recAt_at hx, decide_eq_true hp]; rfl
theorem dir_some {l : List Rec} {i : Nat} {x z : Rec} (hx : l[i]? = some x) (hp : ¬ parentS x.2.1 = []) (hu : ¬ upOf l i < 0) (hz : nthI l (upOf l i) = some z) : dirB l (Int.ofNat i) = !(decide (z.1 = 3)) := by
  have hz : l[(upOf l i).toNat]? = some z := hz
  unfold dirB; rw [show (Int.ofNat i).toNat = i from rfl, recAt_at hx, decide_eq_false hp, recAt_at hz]; rfl
theorem mm_toNat {u : Int} : (mm true u 0).toNat = u.toNat ∧ 0 ≤ mm true u 0 := by
  unfold mm
  simp only [if_true]
  split <;> omega
theorem ms1 {i : Nat} (hp : Int.ofNat i > 0) (hi : i < 1099511627776) : mm true (wSub .i64 (Int.ofNat i) 1) 0 = Int.ofNat (i - 1) := by
  have hp : 0 < i := Int.ofNat_lt.1 hp
  rw [wSub_in (by simp only [Int.ofNat_eq_natCast]; omega)]
  unfold mm
  simp only [if_true, Int.ofNat_eq_natCast]
  split <;> omega
theorem dir_any {l : List Rec} {i : Nat} {x : Rec} (hi : i < l.length) (hx : l[i]? = some x) (hp : ¬ parentS x.2.1 = []) : bnd (mm true (upOf l i) 0) l.length ∧ ∀ z, nthI l (mm true (upOf l i) 0) = some z → true = (!(parentS x.2.1 == [])) ∧ (z.1 != 3) = dirB l (Int.ofNat i) := by
  have hu := up_lt hi
  refine ⟨⟨mm_toNat.2, ?_⟩, fun z hz => ⟨?_, ?_⟩⟩
  · unfold mm
    simp only [if_true]
    split <;> omega
  · simpa using hp
  · unfold nthI at hz
    rw [mm_toNat.1] at hz
    unfold dirB
    rw [show (Int.ofNat i).toNat = i from rfl, recAt_at hx, decide_eq_false hp, recAt_at hz]
    by_cases h3 : z.1 = 3
    · rw [h3]; rfl
    · rw [decide_eq_false h3]; simpa using h3
theorem ge_16 {i : Nat} : decide (Int.ofNat i ≥ 16) = decide (16 ≤ i) := by
  by_cases h : 16 ≤ i
  · rw [decide_eq_true h, decide_eq_true (p := Int.ofNat i ≥ 16) (by simp only [Int.ofNat_eq_natCast]; omega)]
  · rw [decide_eq_false h, decide_eq_false (p := Int.ofNat i ≥ 16) (by simp only [Int.ofNat_eq_natCast]; omega)]
theorem fa_first {l : List Rec} {i : Nat} {x : Rec} (hx : l[i]? = some x) {o : Bool} {u : Int} (ho : o = orderB l (Int.ofNat i)) (hu : u = upOf l i) :
    first [.b (decide (Int.ofNat i ≥ 16)), .n 6, .b true, .n (first [.b (!decide (recFault x = 0)), .n (recFault x), .b (sameB l (Int.ofNat i)), .n 18, .b o, .n 11, .b (decide (u < 0)), .n 12, .b (dirB l (Int.ofNat i)), .n 13])] = faultI l (Int.ofNat i) := by
  have e : faultI l (Int.ofNat i) = faultAt l i := rfl
  rw [e, ge_16, ho, hu, ← recAt_at hx]
  unfold faultAt
  by_cases h16 : 16 ≤ i
  · rw [decide_eq_true h16, if_pos h16]; rfl
  rw [decide_eq_false h16, if_neg h16]
  by_cases hr : recFault (recAt l i) = 0
  · rw [decide_eq_true hr, if_neg (not_not_intro hr)]
    cases sameB l (Int.ofNat i) with
    | true => rfl
    | false =>
      rw [if_neg Bool.false_ne_true]
      cases orderB l (Int.ofNat i) with
      | true => rfl
      | false =>
        rw [if_neg Bool.false_ne_true]
        by_cases h5 : upOf l i < 0
        · rw [decide_eq_true h5, if_pos h5]; rfl
        · rw [decide_eq_false h5, if_neg h5]
          cases dirB l (Int.ofNat i) <;> rfl
  · rw [decide_eq_false hr, if_pos hr]; rfl
end Go.Fn
namespace Go.Fn
open Go.Ab
def stepBad (t : List UInt8) (k : Nat) : Bool := decide (decL (t.drop k) = 0) || decide (t.length < k + decL (t.drop k) + 2)
def stepSum (t : List UInt8) (k : Nat) : Bool := decide (subL t (k + decL (t.drop k)) (k + decL (t.drop k) + 2) = two (sum (subL t k (k + decL (t.drop k)))))
def readL (t : List UInt8) : Nat → List Rec → Nat → List Rec × Int × Int
  | 0, out, k => if ¬ t.length = k + 2 then ([], Int.ofNat k, 3) else if ¬ t.drop k = two (sum (t.take k)) then ([], Int.ofNat k, 15) else (out, 0, 0)
  | n + 1, out, k => if stepBad t k = true then ([], Int.ofNat k, 3) else if stepSum t k = false then ([], Int.ofNat k, 15)
    else if ¬ faultAt (out ++ [decR (t.drop k)]) out.length = 0 then ([], Int.ofNat k, faultAt (out ++ [decR (t.drop k)]) out.length)
    else readL t n (out ++ [decR (t.drop k)]) (k + decL (t.drop k) + 2)
def headBad (t : List UInt8) : Bool := decide (t.length < 4) || !(hasPre t [76, 89, 82])
def whole (t : List UInt8) : List Rec × Int × Int := if headBad t = true then ([], 0, 3) else readL t (byteN t 3) [] 4
def wholeL (t : List UInt8) : List Rec := (whole t).1
def wholeN (t : List UInt8) : Int := (whole t).2.1
def wholeC (t : List UInt8) : Int := (whole t).2.2
def RInv (t : List UInt8) (q : List Rec × Nat × Nat) : Prop := q.2.1 ≤ t.length ∧ readL t q.2.2 q.1 q.2.1 = whole t ∧ OKto q.1 q.1.length ∧ q.1.length + q.2.2 = byteN t 3 ∧ okL q.1
theorem wh_head {t : List UInt8} (h : headBad t = true) : [] = wholeL t ∧ 0 = wholeN t ∧ 3 = wholeC t := by
  unfold wholeL wholeN wholeC whole; rw [if_pos h]; exact ⟨rfl, rfl, rfl⟩
theorem head_a {t : List UInt8} (h : iOf t.length < 4) : headBad t = true := by
  have h : (t.length : Int) < 4 := h
  unfold headBad; rw [decide_eq_true (p := t.length < 4) (by omega)]; rfl
theorem take3 {t : List UInt8} : subL t 0 (tN 3) = t.take 3 := rfl
theorem head_b {t : List UInt8} (h : ¬ subL t 0 (tN 3) = [76, 89, 82]) : headBad t = true := by
  rw [take3] at h
  unfold headBad hasPre
  have : ¬ t.take [(76 : UInt8), 89, 82].length = [76, 89, 82] := h
  rw [decide_eq_false this, Bool.and_false]
  simp
theorem head_no {t : List UInt8} (h : ¬ iOf t.length < 4) (h2 : subL t 0 (tN 3) = [76, 89, 82]) : headBad t = false := by
  have h : ¬ (t.length : Int) < 4 := h
  rw [take3] at h2
  unfold headBad hasPre
  have : t.take [(76 : UInt8), 89, 82].length = [76, 89, 82] := h2
  rw [decide_eq_true this, decide_eq_false (p := t.length < 4) (by omega), decide_eq_true (p := [(76 : UInt8), 89, 82].length ≤ t.length) (by show 3 ≤ t.length; omega)]
  rfl
theorem head_len {t : List UInt8} (h : headBad t = false) : 4 ≤ t.length := by
  unfold headBad at h
  simp only [Bool.or_eq_false_iff, decide_eq_false_iff_not] at h
  omega
theorem r_start {t : List UInt8} (h : headBad t = false) : RInv t ([], 4, byteN t 3) :=
  ⟨head_len h, by unfold whole; rw [if_neg (by rw [h]; exact Bool.false_ne_true)], ⟨Nat.le_refl _, fun j hj => absurd hj (Nat.not_lt_zero _)⟩, Nat.zero_add _, fun r hr => by cases hr⟩
theorem wh_of {t : List UInt8} {a : List Rec × Int × Int} (h : a = whole t) : a.1 = wholeL t ∧ a.2.1 = wholeN t ∧ a.2.2 = wholeC t := by subst h; exact ⟨rfl, rfl, rfl⟩
theorem readL_succ (t : List UInt8) (n : Nat) (out : List Rec) (k : Nat) : readL t (n + 1) out k = if stepBad t k = true then ([], Int.ofNat k, 3) else if stepSum t k = false then ([], Int.ofNat k, 15)
    else if ¬ faultAt (out ++ [decR (t.drop k)]) out.length = 0 then ([], Int.ofNat k, faultAt (out ++ [decR (t.drop k)]) out.length)
    else readL t n (out ++ [decR (t.drop k)]) (k + decL (t.drop k) + 2) := rfl
theorem wh_a {t : List UInt8} {out : List Rec} {k n : Nat} (h : RInv t (out, k, n + 1)) (hb : stepBad t k = true) : [] = wholeL t ∧ Int.ofNat k = wholeN t ∧ 3 = wholeC t := by
  have e : readL t (n + 1) out k = whole t := h.2.1
  rw [readL_succ, if_pos hb] at e
  exact wh_of e
theorem wh_b {t : List UInt8} {out : List Rec} {k n : Nat} (h : RInv t (out, k, n + 1)) (hb : ¬ stepBad t k = true) (hs : stepSum t k = false) : [] = wholeL t ∧ Int.ofNat k = wholeN t ∧ 15 = wholeC t := by
  have e : readL t (n + 1) out k = whole t := h.2.1
  rw [readL_succ, if_neg hb, if_pos hs] at e
  exact wh_of e
theorem wh_c {t : List UInt8} {out : List Rec} {k n : Nat} {c : Int} (h : RInv t (out, k, n + 1)) (hb : ¬ stepBad t k = true) (hs : ¬ stepSum t k = false) (hc : faultAt (out ++ [decR (t.drop k)]) out.length = c) (hn : ¬ c = 0) : [] = wholeL t ∧ Int.ofNat k = wholeN t ∧ c = wholeC t := by
  have e : readL t (n + 1) out k = whole t := h.2.1
  rw [readL_succ, if_neg hb, if_neg hs, hc, if_pos hn] at e
  exact wh_of e
theorem recAt_pre {out : List Rec} {r : Rec} {j : Nat} (hj : j < out.length) : recAt (out ++ [r]) j = recAt out j := by
  unfold recAt
  rw [List.getD_eq_getElem?_getD, List.getD_eq_getElem?_getD, List.getElem?_append_left hj]
theorem up_pre {out : List Rec} {r : Rec} {j : Nat} (hj : j < out.length) : upOf (out ++ [r]) j = upOf out j := by
  unfold upOf
  rw [recAt_pre hj, List.take_append_of_le_length (Nat.le_of_lt hj)]
theorem fa_pre {out : List Rec} {r : Rec} {j : Nat} (hj : j < out.length) : faultAt (out ++ [r]) j = faultAt out j := by
  have h1 : recAt (out ++ [r]) (j - 1) = recAt out (j - 1) := recAt_pre (by omega)
  have h2 := recAt_pre (r := r) hj
  have h3 := up_pre (r := r) hj
  have h4 : recAt (out ++ [r]) (upOf out j).toNat = recAt out (upOf out j).toNat := recAt_pre (by have := up_lt hj; omega)
  unfold faultAt sameB orderB dirB
  simp only [show (Int.ofNat j).toNat = j from rfl, h1, h2, h3, h4]
theorem ok_pre {out : List Rec} {r : Rec} (h : OKto out out.length) : OKto (out ++ [r]) out.length :=
  ⟨by simp, fun j hj => by rw [fa_pre hj]; exact h.2 j hj⟩
theorem wh_step {t : List UInt8} {out : List Rec} {k n : Nat} (h : RInv t (out, k, n + 1)) (ht : t.length ≤ 100000000) (hb : ¬ stepBad t k = true) (hs : ¬ stepSum t k = false) (hc : faultAt (out ++ [decR (t.drop k)]) out.length = 0) : RInv t (out ++ [decR (t.drop k)], k + decL (t.drop k) + 2, n) := by
  obtain ⟨h1, e, h3, h4, h5⟩ := h
  have e : readL t (n + 1) out k = whole t := e
  rw [readL_succ, if_neg hb, if_neg hs, if_neg (not_not_intro hc)] at e
  have h4 : out.length + (n + 1) = byteN t 3 := h4
  have hb' : ¬ t.length < k + decL (t.drop k) + 2 := by
    intro hlt
    apply hb
    unfold stepBad
    rw [decide_eq_true hlt]; simp
  refine ⟨?_, e, ?_, ?_, ?_⟩
  · show k + decL (t.drop k) + 2 ≤ t.length
    omega
  · have := ok_step (ok_pre (r := decR (t.drop k)) h3) (by simp) hc
    simpa using this
  · show (out ++ [decR (t.drop k)]).length + n = byteN t 3
    simp; omega
  · intro r hr
    rcases List.mem_append.1 hr with hr | hr
    · exact h5 r hr
    · rw [List.mem_singleton.1 hr]
      have := decR_path (t.drop k)
      simp at this
      omega
theorem okL_snoc {t : List UInt8} {out : List Rec} {k n : Nat} (h : RInv t (out, k, n)) (ht : t.length ≤ 100000000) : okL (out ++ [decR (t.drop k)]) := by
  intro r hr
  rcases List.mem_append.1 hr with hr | hr
  · exact h.2.2.2.2 r hr
  · rw [List.mem_singleton.1 hr]
    have := decR_path (t.drop k)
    simp at this
    omega
theorem wh_e1 {t : List UInt8} {out : List Rec} {k : Nat} (h : RInv t (out, k, 0)) (h1 : ¬ t.length = k + 2) : [] = wholeL t ∧ Int.ofNat k = wholeN t ∧ 3 = wholeC t := by
  have e : readL t 0 out k = whole t := h.2.1
  unfold readL at e
  rw [if_pos h1] at e
  exact wh_of e
theorem wh_e2 {t : List UInt8} {out : List Rec} {k : Nat} (h : RInv t (out, k, 0)) (h1 : t.length = k + 2) (h2 : ¬ t.drop k = two (sum (t.take k))) : [] = wholeL t ∧ Int.ofNat k = wholeN t ∧ 15 = wholeC t := by
  have e : readL t 0 out k = whole t := h.2.1
  unfold readL at e
  rw [if_neg (not_not_intro h1), if_pos h2] at e
  exact wh_of e
theorem wh_e3 {t : List UInt8} {out : List Rec} {k : Nat} (h : RInv t (out, k, 0)) (h1 : t.length = k + 2) (h2 : t.drop k = two (sum (t.take k))) : out = wholeL t ∧ 0 = wholeN t ∧ 0 = wholeC t := by
  have e : readL t 0 out k = whole t := h.2.1
  unfold readL at e
  rw [if_neg (not_not_intro h1), if_neg (not_not_intro h2)] at e
  exact wh_of e
theorem decL_le (t : List UInt8) : decL t ≤ t.length := by
  unfold decL
  split
  · omega
  · split
    · omega
    · split <;> omega
theorem sub_all {α : Type} {l : List α} {k : Nat} : subL l k l.length = l.drop k := by unfold subL; rw [List.take_length]
theorem sum_two {t : List UInt8} : (0 : Int) ≤ sum t ∧ sum t < 65536 := ⟨(sum_range t).1, Int.lt_trans (sum_range t).2 (by decide)⟩
theorem lay_last {l : List Rec} {r : Rec} (h : OKto l l.length) : (¬ layC (l ++ [r]) = 0 → layN (l ++ [r]) = Int.ofNat l.length ∧ faultAt (l ++ [r]) l.length = layC (l ++ [r])) ∧ (layC (l ++ [r]) = 0 → faultAt (l ++ [r]) l.length = 0) := by
  by_cases hf : faultAt (l ++ [r]) l.length = 0
  · have := lay_end (l := l ++ [r]) (i := l.length + 1) (by have := ok_step (ok_pre (r := r) h) (by simp) hf; exact this) (by simp)
    exact ⟨fun hn => absurd this.2.symm hn, fun _ => hf⟩
  · have := lay_c (ok_pre (r := r) h) (by simp) rfl hf
    exact ⟨fun _ => ⟨this.1.symm, this.2⟩, fun h0 => by rw [this.2]; exact h0⟩
def ffN (t : List UInt8) : Int := if short t = false then 0 else wholeN t
def ffC (t : List UInt8) : Int := if short t = false then 2 else wholeC t
theorem ff_long {t : List UInt8} (h : short t = false) : 0 = ffN t ∧ 2 = ffC t := by unfold ffN ffC; rw [if_pos h, if_pos h]; exact ⟨rfl, rfl⟩
theorem ff_ok {t : List UInt8} (h : ¬ short t = false) : wholeN t = ffN t ∧ wholeC t = ffC t := by unfold ffN ffC; rw [if_neg h, if_neg h]; exact ⟨rfl, rfl⟩
end Go.Fn
namespace Go.Fn
open Go.Ab
def encHead (l : List Rec) : List UInt8 := catS [76, 89, 82] [b8 (iOf (lenL l))]
def encStep (acc : List UInt8) (r : Rec) : List UInt8 := catS acc (catS (enc r) (two (sum (enc r))))
def encTo (l : List Rec) (k : Nat) : List UInt8 := (l.take k).foldl encStep (encHead l)
def encLay (l : List Rec) : List UInt8 := catS (encTo l l.length) (two (sum (encTo l l.length)))
theorem enc_len {r : Rec} (h : recFault r = 0) : (enc r).length ≤ 61 := by
  obtain ⟨k, p, b, m, o, ⟨⟩⟩ := r
  obtain ⟨hp, h8, -, h4, -⟩ := rec_ok h
  have h1 := path_len hp
  have h2 := body_len h8
  unfold enc
  simp only [catS, two, List.length_append, List.length_cons, List.length_nil]
  omega
theorem encTo_zero (l : List Rec) : encTo l 0 = encHead l := by unfold encTo; simp
theorem encTo_succ {l : List Rec} {k : Nat} {x : Rec} (hx : l[k]? = some x) : encTo l (k + 1) = encStep (encTo l k) x := by
  unfold encTo
  rw [List.take_add_one, hx, List.foldl_append]
  rfl
theorem encStep_len {acc : List UInt8} {r : Rec} (h : recFault r = 0) : (encStep acc r).length ≤ acc.length + 63 := by
  have := enc_len h
  unfold encStep
  simp only [catS, two, List.length_append, List.length_cons, List.length_nil]
  omega
theorem encTo_len {l : List Rec} (h : ∀ r ∈ l, recFault r = 0) : ∀ k, k ≤ l.length → (encTo l k).length ≤ 4 + 63 * k
  | 0, _ => by rw [encTo_zero]; unfold encHead; simp [catS]
  | k + 1, hk => by
    have hx := List.getElem?_eq_getElem (show k < l.length by omega)
    rw [encTo_succ hx]
    have h1 := encTo_len h k (by omega)
    have h2 := encStep_len (acc := encTo l k) (h _ (List.mem_of_getElem? hx))
    omega
theorem okto_all {l : List Rec} (h : OKto l l.length) : ∀ r ∈ l, recFault r = 0 := by
  intro r hr
  obtain ⟨j, hj, rfl⟩ := List.getElem_of_mem hr
  have := fa_fine (h.2 j hj)
  rwa [recAt_at (List.getElem?_eq_getElem hj)] at this
theorem okto_16 {l : List Rec} (h : OKto l l.length) : l.length ≤ 16 := by
  rcases Nat.lt_or_ge 16 l.length with hlt | hge
  · have := h.2 16 hlt
    rw [fa_16 (Nat.le_refl _)] at this
    cases this
  · exact hge
theorem layC_ok {l : List Rec} (h : layC l = 0) : OKto l l.length := by
  refine ⟨Nat.le_refl _, fun j hj => ?_⟩
  unfold layC layI at h
  split at h
  · rename_i i hi
    rw [List.find?_range_eq_some] at hi
    simp [h] at hi
  · rename_i hi
    rw [List.find?_eq_none] at hi
    have := hi j (List.mem_range.2 hj)
    simpa using this
def encLayC (l : List Rec) : Int := if l.length > 4096 then 2 else if ¬ layC l = 0 then 1 else 0
def encLayS (l : List Rec) : List UInt8 := if encLayC l = 0 then encLay l else []
theorem el_long {l : List Rec} (h : iOf l.length > 4096) : [] = encLayS l ∧ 2 = encLayC l := by
  have h : (l.length : Int) > 4096 := h
  have e : encLayC l = 2 := by unfold encLayC; rw [if_pos (by omega)]
  unfold encLayS
  rw [e]
  exact ⟨rfl, rfl⟩
theorem el_bad {l : List Rec} (h : ¬ iOf l.length > 4096) (hc : ¬ layC l = 0) : [] = encLayS l ∧ 1 = encLayC l := by
  have h : ¬ (l.length : Int) > 4096 := h
  have e : encLayC l = 1 := by unfold encLayC; rw [if_neg (by omega), if_pos hc]
  unfold encLayS
  rw [e]
  exact ⟨rfl, rfl⟩
theorem el_ok {l : List Rec} (h : ¬ iOf l.length > 4096) (hc : layC l = 0) : OKto l l.length ∧ encLay l = encLayS l ∧ 0 = encLayC l := by
  have h : ¬ (l.length : Int) > 4096 := h
  have e : encLayC l = 0 := by unfold encLayC; rw [if_neg (by omega), if_neg (not_not_intro hc)]
  unfold encLayS
  rw [e]
  exact ⟨layC_ok hc, rfl, rfl⟩
def layFC (l : List Rec) : Int := if l.length > 4096 then 2 else layC l
def layFN (l : List Rec) : Int := if l.length > 4096 then 0 else layN l
theorem lf_long {l : List Rec} (h : iOf l.length > 4096) : 0 = layFN l ∧ 2 = layFC l := by
  have h : (l.length : Int) > 4096 := h
  unfold layFN layFC
  rw [if_pos (by omega), if_pos (by omega)]; exact ⟨rfl, rfl⟩
theorem lf_ok {l : List Rec} (h : ¬ iOf l.length > 4096) : layN l = layFN l ∧ layC l = layFC l := by
  have h : ¬ (l.length : Int) > 4096 := h
  unfold layFN layFC
  rw [if_neg (by omega), if_neg (by omega)]; exact ⟨rfl, rfl⟩
theorem first_lay {l : List Rec} : first [.b (decide (iOf l.length > 4096)), .n 2, .b (!decide (layFC l = 0)), .n 1] = encLayC l := by
  unfold encLayC layFC iOf
  by_cases h : l.length > 4096
  · rw [if_pos h, if_pos h, decide_eq_true (p := (l.length : Int) > 4096) (by omega)]; rfl
  · rw [if_neg h, if_neg h, decide_eq_false (p := (l.length : Int) > 4096) (by omega)]
    by_cases h2 : layC l = 0
    · rw [decide_eq_true h2, if_neg (not_not_intro h2)]; rfl
    · rw [decide_eq_false h2, if_pos h2]; rfl
theorem enc_f1 {x : Rec} (h : recFault x = 0) : fits ((enc x).length + (two (sum (enc x))).length) := by
  have := enc_len h
  show _ < 1099511627776
  simp only [two, List.length_cons, List.length_nil]
  omega
theorem enc_f2 {l : List Rec} {i : Nat} {x : Rec} (ha : ∀ r ∈ l, recFault r = 0) (h16 : l.length ≤ 16) (hi : i ≤ l.length) (h : recFault x = 0) : fits ((encTo l i).length + (catS (enc x) (two (sum (enc x)))).length) := by
  have h1 := enc_len h
  have h2 := encTo_len ha i hi
  show _ < 1099511627776
  simp only [catS, two, List.length_append, List.length_cons, List.length_nil]
  omega
theorem enc_f3 {l : List Rec} {i : Nat} (ha : ∀ r ∈ l, recFault r = 0) (h16 : l.length ≤ 16) (hi : i ≤ l.length) : fits ((encTo l i).length + (two (sum (encTo l i))).length) := by
  have h2 := encTo_len ha i hi
  show _ < 1099511627776
  simp only [two, List.length_cons, List.length_nil]
  omega
theorem enc_end {l : List Rec} {i : Nat} (hi : i ≤ l.length) (he : ¬ i < l.length) : catS (encTo l i) (two (sum (encTo l i))) = encLay l := by
  have : i = l.length := by omega
  subst this; rfl
end Go.Fn
namespace Go.Fn
open Go.Ab
instance recDecEq : DecidableEq Rec := @instDecidableEqProd _ _ _ (@instDecidableEqProd _ _ _ (@instDecidableEqProd _ _ _ (inferInstanceAs (DecidableEq (Int × Bool × Unit)))))
theorem szRec_le (r : Rec) (n : Int) (h : 0 ≤ n) : szRec r n ≤ n := by
  unfold szRec
  split
  · omega
  · split <;> omega
theorem eqRec_dec (a b : Rec) : eqRec a b = decide (a = b) := by
  obtain ⟨k, p, b', m, o, ⟨⟩⟩ := a
  obtain ⟨k2, p2, b2, m2, o2, ⟨⟩⟩ := b
  unfold eqRec
  by_cases h : (k, p, b', m, o, ()) = (k2, p2, b2, m2, o2, ())
  · rw [decide_eq_true h]
    simp only [Prod.mk.injEq] at h
    simp [h.1, h.2.1, h.2.2.1, h.2.2.2.1, h.2.2.2.2.1]
  · rw [decide_eq_false h]
    simp only [Prod.mk.injEq, and_true] at h
    by_cases h1 : k = k2 <;> by_cases h2 : p = p2 <;> by_cases h3 : b' = b2 <;> by_cases h4 : m = m2 <;> by_cases h5 : o = o2 <;> simp [h1, h2, h3, h4, h5] at h ⊢
theorem eqRec_ne {a b : Rec} (h : eqRec a b = false) : a ≠ b := by rw [eqRec_dec] at h; simpa using h
theorem eqRec_eq {a b : Rec} (h : eqRec a b = true) : a = b := by rw [eqRec_dec] at h; simpa using h
theorem szS_small {l : List Rec} : ∀ {n : Int}, n ≤ 1048576 → ¬ szGo szRec l n < 0 → okL l := by
  induction l with
  | nil => intro n _ _ r hr; cases hr
  | cons a r ih =>
    intro n hn h x hx
    have e : szGo szRec (a :: r) n = if szRec a n < 0 then -1 else szGo szRec r (szRec a n) := rfl
    rw [e] at h
    split at h
    · omega
    · rename_i h2
      obtain ⟨k, p, b, m, o, ⟨⟩⟩ := a
      have h3 := szRec_small hn h2
      rcases List.mem_cons.1 hx with rfl | hx
      · exact Nat.le_trans h3.1 (by decide)
      · have h4 : szRec (k, p, b, m, o, ()) n ≤ n := by
          unfold szRec at h2 ⊢
          split at h2
          · omega
          · split at h2
            · omega
            · rename_i q1 q2
              rw [if_neg q1, if_neg q2]; omega
        exact ih (Int.le_trans h4 hn) h x hx
theorem szL_small {l : List Rec} (h : ¬ szList szRec l 1048576 < 0) : okL l := by
  unfold szList at h
  split at h
  · omega
  · exact szS_small (by omega) h
end Go.Fn
namespace Go.Fn
open Go.Ab
def drop (n : List UInt8) (l : List Slot) : List Slot := l.filter (fun s => !(nameIs n s))
def dropTo (n : List UInt8) (l : List Slot) (k : Nat) : List Slot := (l.take k).filter (fun s => !(nameIs n s))
theorem dropTo_keep {n : List UInt8} {l : List Slot} {k : Nat} {x : Slot} (hx : l[k]? = some x) (h : ¬ x.1 = n) : dropTo n l k ++ [x] = dropTo n l (k + 1) := by
  have : nameIs n x = false := by unfold nameIs; simpa using h
  unfold dropTo; rw [List.take_add_one, hx]; simp [this]
theorem dropTo_del {n : List UInt8} {l : List Slot} {k : Nat} {x : Slot} (hx : l[k]? = some x) (h : x.1 = n) : dropTo n l k = dropTo n l (k + 1) := by
  have : nameIs n x = true := by unfold nameIs; simpa using h
  unfold dropTo; rw [List.take_add_one, hx]; simp [this]
theorem dropTo_end {n : List UInt8} {l : List Slot} {k : Nat} (h : ¬ k < l.length) : dropTo n l k = drop n l := by
  unfold dropTo drop; rw [List.take_of_length_le (by omega)]
theorem dropTo_len (n : List UInt8) (l : List Slot) (k : Nat) : (dropTo n l k).length ≤ l.length := Nat.le_trans (List.length_filter_le _ _) (by rw [List.length_take]; omega)
theorem dropTo_less (n : List UInt8) {l : List Slot} {k : Nat} (hk : k ≤ l.length) (h : k < l.length) : (dropTo n l k).length + 1 ≤ l.length := by
  have h1 : (dropTo n l k).length ≤ (l.take k).length := List.length_filter_le _ _
  rw [List.length_take] at h1
  omega
def removeC (d : Disk) (n : List UInt8) : Int := if short n = false then 2 else if diskOK d = false then 1 else if readB d n = false then 5 else 0
def removeD (d : Disk) (n : List UInt8) : Disk := if short n = false then zeroDisk else if diskOK d = false then zeroDisk else if readB d n = false then d else tidy (d.1, drop n d.2.1, d.2.2.1, d.2.2.2.1, ())
theorem used_all {d : Disk} (h : diskOK d = true) : ∀ x ∈ d.1, used d x.1 = true := by
  intro x hx
  obtain ⟨j, hj, rfl⟩ := List.getElem_of_mem hx
  unfold diskOK at h
  simp only [Bool.and_eq_true] at h
  have := allI_iff.1 h.1.2 j _ (List.getElem?_eq_getElem hj)
  simp only [Bool.not_eq_true', Bool.or_eq_false_iff, Bool.not_eq_false'] at this
  exact this.2
theorem tidy_all {d : Disk} (h : ∀ x ∈ d.1, used d x.1 = true) : tidy d = d := by
  unfold tidy
  rw [List.filter_eq_self.2 h]
theorem tidy_ok {d : Disk} (h : diskOK d = true) : tidy d = d := tidy_all (used_all h)
theorem del_none {α : Type} {p : α → Bool} {xs : List α} (h : idx p xs = -1) : xs = xs.filter (fun x => !(p x)) := by
  symm
  rw [List.filter_eq_self]
  intro x hx
  unfold idx at h
  cases hf : xs.findIdx? p with
  | none => rw [List.findIdx?_eq_none_iff] at hf; simp [hf x hx]
  | some k => rw [hf] at h; cases h
theorem small_remove {d : Disk} {n : List UInt8} (h : smallD d) : smallD (removeD d n) := by
  unfold removeD
  split
  · exact small_zero
  split
  · exact small_zero
  split
  · exact h
  · exact small_tidy ⟨h.1, Nat.le_trans (List.length_filter_le _ _) h.2.1, h.2.2⟩
end Go.Fn
namespace Go.Fn
open Go.Ab
def ancF : Nat → List UInt8 → List (List UInt8)
  | 0, _ => []
  | n + 1, t => if parentS t = [] then [] else parentS t :: ancF n (parentS t)
def anc (t : List UInt8) : List (List UInt8) := ancF t.length t
def ancR (t : List UInt8) : List (List UInt8) := if t = [] then [] else t :: anc t
theorem parent_lt {t : List UInt8} (h : t ≠ []) : (parentS t).length < t.length := by
  have h1 := (lastI_ge 47 t).2
  have h2 : 0 < t.length := List.length_pos_iff.2 h
  unfold parentS subL
  rw [List.drop_zero, List.length_take]
  omega
theorem ancF_more : ∀ (n : Nat) (t : List UInt8), t.length ≤ n → ancF n t = ancF t.length t
  | 0, t, h => by rw [Nat.le_zero.1 h]
  | n + 1, [], _ => by
    show ancF (n + 1) [] = ancF 0 []
    have e : parentS [] = [] := rfl
    unfold ancF
    rw [e]; rfl
  | n + 1, x :: r, h => by
    have hl := parent_lt (t := x :: r) (by simp)
    simp only [List.length_cons] at hl h
    show ancF (n + 1) (x :: r) = ancF (r.length + 1) (x :: r)
    unfold ancF
    rw [ancF_more n _ (by omega), ancF_more r.length _ (by omega)]
theorem anc_eq (t : List UInt8) : anc t = ancR (parentS t) := by
  unfold anc ancR
  cases t with
  | nil => rfl
  | cons x r =>
    have hl := parent_lt (t := x :: r) (by simp)
    simp only [List.length_cons] at hl ⊢
    show ancF (r.length + 1) (x :: r) = _
    rw [ancF]
    split
    · rfl
    · rw [ancF_more r.length _ (by omega)]; rfl
theorem ancR_cons {t : List UInt8} (h : t ≠ []) : ancR t = t :: ancR (parentS t) := by
  rw [← anc_eq]; unfold ancR; rw [if_neg h]
theorem ancR_nil : ancR [] = [] := rfl
theorem anc_len : ∀ (n : Nat) (t : List UInt8), (ancF n t).length ≤ n
  | 0, _ => Nat.le_refl _
  | n + 1, t => by
    unfold ancF
    split
    · simp
    · simp only [List.length_cons]; have := anc_len n (parentS t); omega
theorem anc_mem : ∀ (n : Nat) (t p : List UInt8), p ∈ ancF n t → p.length ≤ t.length
  | 0, _, _, h => by cases h
  | n + 1, t, p, h => by
    unfold ancF at h
    split at h
    · cases h
    · rcases List.mem_cons.1 h with rfl | h
      · exact parent_len
      · exact Nat.le_trans (anc_mem n _ p h) parent_len
def AncInv (t : List UInt8) (q : List (List UInt8) × List UInt8) : Prop := q.1 ++ ancR q.2 = anc t ∧ q.1.length + q.2.length ≤ t.length ∧ q.2.length ≤ t.length
theorem anc_start (t : List UInt8) : AncInv t ([], parentS t) := ⟨by rw [anc_eq]; rfl, by show 0 + (parentS t).length ≤ _; have := @parent_len t; omega, parent_len⟩
theorem anc_step {t u : List UInt8} {out : List (List UInt8)} (h : AncInv t (out, u)) (hn : u ≠ []) : AncInv t (out ++ [u], parentS u) := by
  obtain ⟨h1, h2, h3⟩ := h
  have hl := parent_lt hn
  refine ⟨?_, ?_, ?_⟩
  · show out ++ [u] ++ ancR (parentS u) = anc t
    rw [← h1]
    show _ = out ++ ancR u
    rw [ancR_cons hn]; simp
  · show (out ++ [u]).length + (parentS u).length ≤ _
    rw [List.length_append, List.length_singleton]
    have : out.length + u.length ≤ t.length := h2
    omega
  · exact Nat.le_trans parent_len h3
theorem anc_end {t : List UInt8} {out : List (List UInt8)} (h : AncInv t (out, [])) : out = anc t := by
  have := h.1
  simpa [ancR] using this
end Go.Fn
namespace Go.Fn
open Go.Ab
def stopsR (r : Rec) : Bool := !(decide (r.1 = 3)) || r.2.2.2.2.1
def hitB (l : List Rec) (f : Rec → Bool) (p : List UInt8) : Bool := decide (idx (atPath p) l ≥ 0) && f (recAt l (idx (atPath p) l).toNat)
def cutsL (l : List Rec) (t : List UInt8) : Bool := (anc t).any (hitB l stopsR)
def CutInv (l : List Rec) (t p : List UInt8) : Prop := (ancR p).any (hitB l stopsR) = cutsL l t ∧ p.length ≤ t.length
theorem cut_go {l : List Rec} {t : List UInt8} : CutInv l t (parentS t) := ⟨by unfold cutsL; rw [anc_eq], parent_len⟩
theorem cut_next {l : List Rec} {t p : List UInt8} (h : CutInv l t p) (hn : p ≠ []) (hb : hitB l stopsR p = false) : CutInv l t (parentS p) := by
  refine ⟨?_, Nat.le_trans parent_len h.2⟩
  rw [← h.1, ancR_cons hn, List.any_cons, hb, Bool.false_or]
theorem cut_yes {l : List Rec} {t p : List UInt8} (h : CutInv l t p) (hn : p ≠ []) (hb : hitB l stopsR p = true) : true = cutsL l t := by
  rw [← h.1, ancR_cons hn, List.any_cons, hb, Bool.true_or]
theorem cut_no {l : List Rec} {t : List UInt8} (h : CutInv l t []) : false = cutsL l t := by rw [← h.1]; rfl
def hiCut (c : Nat → Bool) : Nat → Nat
  | 0 => 0
  | n + 1 => if c n = true then n + 1 else hiCut c n
theorem hi_zero {c : Nat → Bool} : ∀ {n : Nat}, (∀ j, j < n → c j = false) → hiCut c n = 0
  | 0, _ => rfl
  | n + 1, h => by
    unfold hiCut
    rw [if_neg (by rw [h n (Nat.lt_succ_self n)]; exact Bool.false_ne_true)]
    exact hi_zero fun j hj => h j (by omega)
theorem hi_le {c : Nat → Bool} : ∀ {n : Nat}, hiCut c n ≤ n
  | 0 => Nat.le_refl _
  | n + 1 => by
    unfold hiCut
    split
    · exact Nat.le_refl _
    · exact Nat.le_succ_of_le hi_le
def rowL (ls : List (List Rec)) (i : Nat) : List Rec := ls.getD i []
theorem rowL_at {ls : List (List Rec)} {i : Nat} {l : List Rec} (h : ls[i]? = some l) : rowL ls i = l := by unfold rowL; rw [List.getD_eq_getElem?_getD, h]; rfl
def cutD (ls : List (List Rec)) (t : List UInt8) : Int := Int.ofNat (hiCut (fun j => cutsL (rowL ls j) t) ls.length)
def DInv (ls : List (List Rec)) (t : List UInt8) (j : Nat) : Prop := hiCut (fun j => cutsL (rowL ls j) t) j = hiCut (fun j => cutsL (rowL ls j) t) ls.length
theorem d_no {ls : List (List Rec)} {t : List UInt8} {j : Nat} {l : List Rec} (hl : ls[j]? = some l) (hc : cutsL l t = false) (h : DInv ls t (j + 1)) : DInv ls t j := by
  unfold DInv at *
  rw [← h]
  conv => rhs; unfold hiCut
  rw [rowL_at hl, if_neg (by rw [hc]; exact Bool.false_ne_true)]
theorem d_yes {ls : List (List Rec)} {t : List UInt8} {j : Nat} {l : List Rec} (hl : ls[j]? = some l) (hc : cutsL l t = true) (h : DInv ls t (j + 1)) : Int.ofNat (j + 1) = cutD ls t := by
  unfold DInv at h
  unfold cutD
  rw [← h]
  conv => rhs; unfold hiCut
  rw [rowL_at hl, if_pos hc]
theorem d_end {ls : List (List Rec)} {t : List UInt8} (h : DInv ls t 0) : 0 = cutD ls t := by
  unfold DInv at h
  unfold cutD
  rw [← h]; rfl
theorem cutD_ge {ls : List (List Rec)} {t : List UInt8} : 0 ≤ cutD ls t ∧ cutD ls t ≤ ls.length := ⟨Int.natCast_nonneg _, Int.ofNat_le.2 hi_le⟩
end Go.Fn
namespace Go.Fn
open Go.Ab
theorem anc_bnd {t u : List UInt8} {out : List (List UInt8)} (h : AncInv t (out, u)) (hl : t.length ≤ 100000000) (hn : u ≠ []) : fits (out.length + ([u] : List (List UInt8)).length) ∧ u.length ≤ 100000000 := by
  have h2 : out.length + u.length ≤ t.length := h.2.1
  have h3 : u.length ≤ t.length := h.2.2
  have : 0 < u.length := List.length_pos_iff.2 hn
  refine ⟨?_, by omega⟩
  show out.length + 1 < 1099511627776
  omega
theorem stops_dir {k m : Int} {p b : List UInt8} {o : Bool} (h : k = 3) : o = stopsR (k, p, b, m, o, ()) := by unfold stopsR; simp [h]
theorem stops_not {k m : Int} {p b : List UInt8} {o : Bool} (h : ¬ k = 3) : true = stopsR (k, p, b, m, o, ()) := by unfold stopsR; simp [h]
theorem recAt_nth {l : List Rec} {i : Int} {x : Rec} (hx : nthI l i = some x) : recAt l i.toNat = x := by
  unfold recAt nthI at *
  rw [List.getD_eq_getElem?_getD, hx]; rfl
theorem idx_in {p : Rec → Bool} {l : List Rec} (h : idx p l ≥ 0) : bnd (idx p l) l.length := ⟨h, (idx_lt p l).1⟩
theorem hit_at {l : List Rec} {f : Rec → Bool} {p : List UInt8} {x : Rec} (h : idx (atPath p) l ≥ 0) (hx : nthI l (idx (atPath p) l) = some x) : f x = hitB l f p := by
  unfold hitB
  rw [decide_eq_true h, recAt_nth hx]; rfl
theorem hit_no {l : List Rec} {f : Rec → Bool} {p : List UInt8} (h : ¬ idx (atPath p) l ≥ 0) : false = hitB l f p := by
  unfold hitB
  rw [decide_eq_false h]; rfl
theorem nthI_mem {l : List Rec} {i : Int} {x : Rec} (h : nthI l i = some x) : x ∈ l := List.mem_of_getElem? h
theorem add1_in {j n : Nat} (h : j < n) (hf : fits n) : wAdd .i64 (iOf j) 1 = Int.ofNat (j + 1) := by
  unfold fits at hf
  unfold wAdd iOf
  rw [IntKind.wrap_i64]
  simp only [Int.ofNat_eq_natCast, Int.natCast_add, Int.natCast_one]
  omega
theorem get_lt_len {α : Type} {l : List α} {j : Nat} {x : α} (h : nth l j = some x) : j < l.length := (List.getElem?_eq_some_iff.1 h).1
theorem pred_ge {i : Nat} (h : Int.ofNat i - 1 ≥ 0) : ∃ k, i = k + 1 ∧ Int.ofNat i - 1 = Int.ofNat k := by
  cases i with
  | zero => simp at h
  | succ k => exact ⟨k, rfl, by simp only [Int.ofNat_eq_natCast]; omega⟩
theorem pred_no {i : Nat} (h : ¬ Int.ofNat i - 1 ≥ 0) : i = 0 := by simp only [Int.ofNat_eq_natCast] at h; omega
theorem sub1_in {k n : Nat} (h : k ≤ n) (hf : fits n) : wSub .i64 (Int.ofNat k) 1 = Int.ofNat k - 1 := by
  unfold fits at hf
  exact wSub_in (by simp only [Int.ofNat_eq_natCast]; omega)
end Go.Fn
namespace Go.Proofs.YtjkipndhdemnoaaGreatDoor
open Go.Ab Go.Fn
def s_anc : FSpec := { ps := [.v .str], rs := [.o (.slice .str)], pre := fun x => List.length (α := UInt8) x.1 ≤ 100000000, fn := fun x => (Fn.anc x.1, ()), upd := fun _ => () }
def L_anc (t : List UInt8) : LoopAnn := { ι := List (List UInt8) × List UInt8, inv := fun q => AncInv t q, slots := fun q => [(0, .d .str q.2), (3, .os 1)], objs := fun q => [(1, .arr .str q.1 false)], μ := fun q => q.2.length }
theorem fo_ancestors : FO 124 s_anc := by
  refine fo (specs := [(147, s_parent)]) (clos := []) (fun x => [(3, .lv [0, 3] <| fun _ => L_anc x.1)]) ⟨fo_parent, trivial⟩ trivial Tryz.func124 rfl rfl ?_
  rintro ⟨t, ⟨⟩⟩ hl
  refine vcOf (true = true ∧ List.length t ≤ (100000000 : Nat) ∧ (∃ (i : List (List UInt8) × List UInt8), AncInv t i ∧ (parentS t = i.snd ∧ nat_lit 1 = (1 : Nat) ∧ True) ∧ ((([] : List (List UInt8)) = ([] : List (List UInt8)) ∧ false = false) ∧ (([] : List (List UInt8)) = i.fst ∧ false = false) ∧ True) ∧ True) ∧ ∀ (i : List (List UInt8) × List UInt8), AncInv t i → ((!i.snd == ([] : List UInt8)) = true → fits (lenL i.fst + lenL (i.snd :: ([] : List (List UInt8)))) ∧ true = true ∧ i.snd.length ≤ (100000000 : Nat) ∧ ∃ (j : List (List UInt8) × List UInt8), AncInv t j ∧ j.snd.length < i.snd.length ∧ (parentS i.snd = j.snd ∧ (1 : Nat) = (1 : Nat) ∧ True) ∧ ((([] : List (List UInt8)) = ([] : List (List UInt8)) ∧ false = false) ∧ (i.fst ++ i.snd :: ([] : List (List UInt8)) = j.fst ∧ false = false) ∧ True) ∧ True) ∧ ((!i.snd == ([] : List UInt8)) = false → (i.fst, ()) = (anc t, ()) ∧ () = ())) (by kernel_rfl) ?_
  simp only [Nat.le_refl, Nat.succ_eq_add_one, Nat.reduceAdd, Nat.reduceLeDiff, Nat.zero_le, pair_unit, mk_eta, len_bne, eqD_bne, bne_iff_ne, bne_eq_false_iff_eq, beq_iff_eq, beq_eq_false_iff_ne, true_and, and_true, and_self, eq_self, lt_iff, nthI_nat, bnd_iff, decide_eq_true_eq, decide_eq_false_iff_not, Nat.sub_eq, nz, ne_eq, not_false_eq_true, Prod.mk.injEq, Int.reduceEq, Nat.reduceEqDiff, forall_const, implies_true, bne_self_eq_false, Bool.true_eq_false, Bool.false_eq_true, false_implies, reduceCtorEq, Bool.not_true, Bool.not_false, List.all_cons, List.all_nil, Bool.and_true, Bool.not_eq_true, Bool.not_eq_false, Bool.not_eq_true', Bool.not_eq_false', Decidable.not_not]; try simp only [lenL]
  have hl : List.length t ≤ 100000000 := hl
  refine ⟨hl, ⟨([], parentS t), anc_start t, rfl, rfl⟩, ?_⟩
  rintro ⟨out, u⟩ h
  exact ⟨fun hn => ⟨(anc_bnd h hl hn).1, (anc_bnd h hl hn).2, (out ++ [u], parentS u), anc_step h hn, parent_lt hn, rfl, rfl⟩, fun he => by have he : u = [] := he; subst he; exact anc_end h⟩
end Go.Proofs.YtjkipndhdemnoaaGreatDoor
namespace Go.Proofs.YtjkipndhdemnoaaGreatDoor
open Go.Ab Go.Fn
def s_stops : FSpec := { ps := [.v tRec], rs := [.v .bool], pre := fun _ => True, fn := fun x => (Fn.stopsR x.1, ()), upd := fun _ => () }
theorem fo_stops : FO 162 s_stops := by
  refine fo (specs := []) (clos := []) (fun x => []) trivial trivial Tryz.func162 rfl rfl ?_
  rintro ⟨⟨k, p, b, m, o, ⟨⟩⟩, ⟨⟩⟩ -
  refine vcOf (nat_lit 1 ≤ (Nat.succ (nat_lit 1)).succ.succ.succ ∧ ((k != (3 : Int)) = false → nat_lit 5 ≤ (Nat.succ (nat_lit 1)).succ.succ.succ ∧ (o, ()) = (stopsR (k, p, b, m, o, ()), ()) ∧ () = ()) ∧ ((k != (3 : Int)) = true → (true, ()) = (stopsR (k, p, b, m, o, ()), ()) ∧ () = ())) (by kernel_rfl) ?_
  simp only [Nat.le_refl, Nat.succ_eq_add_one, Nat.reduceAdd, Nat.reduceLeDiff, Nat.zero_le, pair_unit, mk_eta, len_bne, eqD_bne, bne_iff_ne, bne_eq_false_iff_eq, beq_iff_eq, beq_eq_false_iff_ne, true_and, and_true, and_self, eq_self, lt_iff, nthI_nat, bnd_iff, decide_eq_true_eq, decide_eq_false_iff_not, Nat.sub_eq, nz, ne_eq, not_false_eq_true, Prod.mk.injEq, Int.reduceEq, Nat.reduceEqDiff, forall_const, implies_true, bne_self_eq_false, Bool.true_eq_false, Bool.false_eq_true, false_implies, reduceCtorEq, Bool.not_true, Bool.not_false, List.all_cons, List.all_nil, Bool.and_true, Bool.not_eq_true, Bool.not_eq_false, Bool.not_eq_true', Bool.not_eq_false', Decidable.not_not]; try simp only [lenL]
  exact ⟨fun h => stops_dir h, fun h => stops_not h⟩
end Go.Proofs.YtjkipndhdemnoaaGreatDoor
namespace Go.Proofs.YtjkipndhdemnoaaGreatDoor
open Go.Ab Go.Fn
def c_above : CSpec := { ats := [.str], b := .bool, cs := [.r (.slice tRec), .rf [tRec] .bool], pre := fun c _ => ∀ y, y ∈ c.1 → c.2.1.2 (y, ()), fn := fun c a => Fn.hitB c.1 (fun r => c.2.1.1 (r, ())) a.1 }
theorem fo_abovec : FO 221 c_above.fspec := by
  refine fo (specs := [(148, s_find)]) (clos := []) (fun x => []) ⟨fo_find, trivial⟩ trivial Tryz.func221 rfl rfl ?_
  rintro ⟨y, l, ⟨p, q⟩, ⟨⟩⟩ hp
  refine vcOf (nat_lit 1 ≤ nat_lit 1 ∧ true = true ∧ True ∧ (decide (idx (atPath y) l ≥ (0 : Int)) = true → nat_lit 1 ≤ nat_lit 1 ∧ nat_lit 1 ≤ nat_lit 1 ∧ bnd (idx (atPath y) l) (lenL l) ∧ ∀ (x : Int × List UInt8 × List UInt8 × Int × Bool × Unit), nthI l (idx (atPath y) l) = some x → nat_lit 5 ≤ (Nat.succ (nat_lit 1)).succ.succ.succ ∧ q ((x.fst, x.snd.fst, x.snd.snd.fst, x.snd.snd.snd.fst, x.snd.snd.snd.snd.fst, ()), ()) ∧ (p ((x.fst, x.snd.fst, x.snd.snd.fst, x.snd.snd.snd.fst, x.snd.snd.snd.snd.fst, ()), ()), ()) = (hitB l (fun (r : Rec) => p (r, ())) y, ()) ∧ () = ()) ∧ (decide (idx (atPath y) l ≥ (0 : Int)) = false → (false, ()) = (hitB l (fun (r : Rec) => p (r, ())) y, ()) ∧ () = ())) (by kernel_rfl) ?_
  simp only [Nat.le_refl, Nat.succ_eq_add_one, Nat.reduceAdd, Nat.reduceLeDiff, Nat.zero_le, pair_unit, mk_eta, len_bne, eqD_bne, bne_iff_ne, bne_eq_false_iff_eq, beq_iff_eq, beq_eq_false_iff_ne, true_and, and_true, and_self, eq_self, lt_iff, nthI_nat, bnd_iff, decide_eq_true_eq, decide_eq_false_iff_not, Nat.sub_eq, nz, ne_eq, not_false_eq_true, Prod.mk.injEq, Int.reduceEq, Nat.reduceEqDiff, forall_const, implies_true, bne_self_eq_false, Bool.true_eq_false, Bool.false_eq_true, false_implies, reduceCtorEq, Bool.not_true, Bool.not_false, List.all_cons, List.all_nil, Bool.and_true, Bool.not_eq_true, Bool.not_eq_false, Bool.not_eq_true', Bool.not_eq_false', Decidable.not_not]; try simp only [lenL]
  exact ⟨fun h => ⟨idx_in h, fun x hx => ⟨hp x (nthI_mem hx), hit_at (f := fun r => p (r, ())) h hx⟩⟩, fun h => hit_no h⟩
def s_above : FSpec := { ps := [.v (.slice tRec), .v .str, .f [tRec] .bool], rs := [.v .bool], pre := fun x => List.length (α := UInt8) x.2.1 ≤ 100000000 ∧ ∀ y, y ∈ x.1 → x.2.2.1.2 (y, ()), fn := fun x => ((Fn.anc x.2.1).any (Fn.hitB x.1 fun r => x.2.2.1.1 (r, ())), ()), upd := fun _ => () }
theorem fo_above : FO 204 s_above := by
  refine fo (specs := [(124, s_anc), (154, s_ContainsFunc_str)]) (clos := [(221, c_above)]) (fun x => []) ⟨fo_ancestors, fo_ContainsFunc_str, trivial⟩ ⟨co fo_abovec rfl rfl, trivial⟩ Tryz.func204 rfl rfl ?_
  rintro ⟨l, t, ⟨p, q⟩, ⟨⟩⟩ ⟨hl, hp⟩
  refine vcOf (true = true ∧ List.length t ≤ (100000000 : Nat) ∧ true = true ∧ (∀ (y : List UInt8), y ∈ anc t → ∀ (y : Int × List UInt8 × List UInt8 × Int × Bool × Unit), y ∈ l → q (y, ())) ∧ ((anc t).any fun (y : List UInt8) => (fun (a : List UInt8 × Unit) => hitB l (fun (r : Rec) => p (r, ())) a.fst, fun (x : List UInt8 × Unit) => ∀ (y : Int × List UInt8 × List UInt8 × Int × Bool × Unit), y ∈ l → q (y, ())).fst (y, ()), ()) = ((anc t).any (hitB l fun (r : Rec) => p (r, ())), ()) ∧ () = ()) (by kernel_rfl) ?_
  simp only [Nat.le_refl, Nat.succ_eq_add_one, Nat.reduceAdd, Nat.reduceLeDiff, Nat.zero_le, pair_unit, mk_eta, len_bne, eqD_bne, bne_iff_ne, bne_eq_false_iff_eq, beq_iff_eq, beq_eq_false_iff_ne, true_and, and_true, and_self, eq_self, lt_iff, nthI_nat, bnd_iff, decide_eq_true_eq, decide_eq_false_iff_not, Nat.sub_eq, nz, ne_eq, not_false_eq_true, Prod.mk.injEq, Int.reduceEq, Nat.reduceEqDiff, forall_const, implies_true, bne_self_eq_false, Bool.true_eq_false, Bool.false_eq_true, false_implies, reduceCtorEq, Bool.not_true, Bool.not_false, List.all_cons, List.all_nil, Bool.and_true, Bool.not_eq_true, Bool.not_eq_false, Bool.not_eq_true', Bool.not_eq_false', Decidable.not_not]; try simp only [lenL]
  exact ⟨hl, fun _ _ y hy => hp y hy⟩
end Go.Proofs.YtjkipndhdemnoaaGreatDoor
namespace Go.Proofs.YtjkipndhdemnoaaGreatDoor
open Go.Ab Go.Fn
def c_stops : CSpec := { ats := [tRec], b := .bool, cs := [], pre := fun _ _ => True, fn := fun _ a => Fn.stopsR a.1 }
theorem fo_stopsc : FO 162 c_stops.fspec := fo_stops
def s_cuts : FSpec := { ps := [.v (.slice tRec), .v .str], rs := [.v .bool], pre := fun x => List.length (α := UInt8) x.2.1 ≤ 100000000, fn := fun x => (Fn.cutsL x.1 x.2.1, ()), upd := fun _ => () }
theorem fo_cuts : FO 180 s_cuts := by
  refine fo (specs := [(204, s_above)]) (clos := [(162, c_stops)]) (fun x => []) ⟨fo_above, trivial⟩ ⟨co fo_stopsc rfl rfl, trivial⟩ Tryz.func180 rfl rfl ?_
  rintro ⟨l, t, ⟨⟩⟩ hl
  refine vcOf (true = true ∧ (List.length t ≤ (100000000 : Nat) ∧ ∀ (y : Int × List UInt8 × List UInt8 × Int × Bool × Unit), y ∈ l → True) ∧ ((anc t).any (hitB l fun (r : Rec) => (fun (a : (Int × List UInt8 × List UInt8 × Int × Bool × Unit) × Unit) => stopsR a.fst, fun (x : (Int × List UInt8 × List UInt8 × Int × Bool × Unit) × Unit) => True).fst (r, ())), ()) = (cutsL l t, ()) ∧ () = ()) (by kernel_rfl) ?_
  simp only [Nat.le_refl, Nat.succ_eq_add_one, Nat.reduceAdd, Nat.reduceLeDiff, Nat.zero_le, pair_unit, mk_eta, len_bne, eqD_bne, bne_iff_ne, bne_eq_false_iff_eq, beq_iff_eq, beq_eq_false_iff_ne, true_and, and_true, and_self, eq_self, lt_iff, nthI_nat, bnd_iff, decide_eq_true_eq, decide_eq_false_iff_not, Nat.sub_eq, nz, ne_eq, not_false_eq_true, Prod.mk.injEq, Int.reduceEq, Nat.reduceEqDiff, forall_const, implies_true, bne_self_eq_false, Bool.true_eq_false, Bool.false_eq_true, false_implies, reduceCtorEq, Bool.not_true, Bool.not_false, List.all_cons, List.all_nil, Bool.and_true, Bool.not_eq_true, Bool.not_eq_false, Bool.not_eq_true', Bool.not_eq_false', Decidable.not_not]; try simp only [lenL]
  exact ⟨hl, rfl⟩
end Go.Proofs.YtjkipndhdemnoaaGreatDoor
namespace Go.Proofs.YtjkipndhdemnoaaGreatDoor
open Go.Ab Go.Fn
theorem fo_l06Stops : FO 153 s_stops := by
  refine fo (specs := []) (clos := []) (fun x => []) trivial trivial Tryz.func153 rfl rfl ?_
  rintro ⟨⟨k, p, b, m, o, ⟨⟩⟩, ⟨⟩⟩ -
  refine vcOf (nat_lit 1 ≤ (Nat.succ (nat_lit 1)).succ.succ.succ ∧ ((k != (3 : Int)) = false → nat_lit 5 ≤ (Nat.succ (nat_lit 1)).succ.succ.succ ∧ (o, ()) = (stopsR (k, p, b, m, o, ()), ()) ∧ () = ()) ∧ ((k != (3 : Int)) = true → (true, ()) = (stopsR (k, p, b, m, o, ()), ()) ∧ () = ())) (by kernel_rfl) ?_
  simp only [Nat.le_refl, Nat.succ_eq_add_one, Nat.reduceAdd, Nat.reduceLeDiff, Nat.zero_le, pair_unit, mk_eta, len_bne, eqD_bne, bne_iff_ne, bne_eq_false_iff_eq, beq_iff_eq, beq_eq_false_iff_ne, true_and, and_true, and_self, eq_self, lt_iff, nthI_nat, bnd_iff, decide_eq_true_eq, decide_eq_false_iff_not, Nat.sub_eq, nz, ne_eq, not_false_eq_true, Prod.mk.injEq, Int.reduceEq, Nat.reduceEqDiff, forall_const, implies_true, bne_self_eq_false, Bool.true_eq_false, Bool.false_eq_true, false_implies, reduceCtorEq, Bool.not_true, Bool.not_false, List.all_cons, List.all_nil, Bool.and_true, Bool.not_eq_true, Bool.not_eq_false, Bool.not_eq_true', Bool.not_eq_false', Decidable.not_not]; try simp only [lenL]
  exact ⟨fun h => stops_dir h, fun h => stops_not h⟩
def L_l06Cuts (l : List Rec) (t : List UInt8) : LoopAnn := { ι := List UInt8, inv := fun p => CutInv l t p, slots := fun p => [(5, .d .str p)], objs := fun _ => [], μ := fun p => p.length }
theorem fo_l06Cuts : FO 173 s_cuts := by
  refine fo (specs := [(145, s_parent), (146, s_find), (153, s_stops)]) (clos := []) (fun x => [(2, .lv [0, 5] <| fun _ => L_l06Cuts x.1 x.2.1)]) ⟨fo_l01Parent, fo_l03At, fo_l06Stops, trivial⟩ trivial Tryz.func173 rfl rfl ?_
  rintro ⟨l, t, ⟨⟩⟩ hl
  refine vcOf (true = true ∧ List.length t ≤ (100000000 : Nat) ∧ (∃ (i : List UInt8), CutInv l t i ∧ (l = l ∧ parentS t = i ∧ True) ∧ True ∧ True) ∧ ∀ (i : List UInt8), CutInv l t i → ((!i == ([] : List UInt8)) = true → true = true ∧ True ∧ (decide (idx (atPath i) l ≥ (0 : Int)) = true → bnd (idx (atPath i) l) (lenL l) ∧ ∀ (x : Int × List UInt8 × List UInt8 × Int × Bool × Unit), nthI l (idx (atPath i) l) = some x → nat_lit 5 ≤ (Nat.succ (nat_lit 1)).succ.succ.succ ∧ true = true ∧ True ∧ (stopsR (x.fst, x.snd.fst, x.snd.snd.fst, x.snd.snd.snd.fst, x.snd.snd.snd.snd.fst, ()) = true → (true, ()) = (cutsL l t, ()) ∧ () = ()) ∧ (stopsR (x.fst, x.snd.fst, x.snd.snd.fst, x.snd.snd.snd.fst, x.snd.snd.snd.snd.fst, ()) = false → true = true ∧ i.length ≤ (100000000 : Nat) ∧ ∃ (j : List UInt8), CutInv l t j ∧ j.length < i.length ∧ (l = l ∧ parentS i = j ∧ True) ∧ True ∧ True)) ∧ (decide (idx (atPath i) l ≥ (0 : Int)) = false → true = true ∧ i.length ≤ (100000000 : Nat) ∧ ∃ (j : List UInt8), CutInv l t j ∧ j.length < i.length ∧ (l = l ∧ parentS i = j ∧ True) ∧ True ∧ True)) ∧ ((!i == ([] : List UInt8)) = false → (false, ()) = (cutsL l t, ()) ∧ () = ())) (by kernel_rfl) ?_
  simp only [Nat.le_refl, Nat.succ_eq_add_one, Nat.reduceAdd, Nat.reduceLeDiff, Nat.zero_le, pair_unit, mk_eta, len_bne, eqD_bne, bne_iff_ne, bne_eq_false_iff_eq, beq_iff_eq, beq_eq_false_iff_ne, true_and, and_true, and_self, eq_self, lt_iff, nthI_nat, bnd_iff, decide_eq_true_eq, decide_eq_false_iff_not, Nat.sub_eq, nz, ne_eq, not_false_eq_true, Prod.mk.injEq, Int.reduceEq, Nat.reduceEqDiff, forall_const, implies_true, bne_self_eq_false, Bool.true_eq_false, Bool.false_eq_true, false_implies, reduceCtorEq, Bool.not_true, Bool.not_false, List.all_cons, List.all_nil, Bool.and_true, Bool.not_eq_true, Bool.not_eq_false, Bool.not_eq_true', Bool.not_eq_false', Decidable.not_not]; try simp only [lenL]
  have hl : List.length t ≤ 100000000 := hl
  have nx : ∀ {i : List UInt8}, CutInv l t i → ¬ i = [] → hitB l stopsR i = false → i.length ≤ 100000000 ∧ ∃ j, CutInv l t j ∧ j.length < i.length ∧ parentS i = j := fun h hn hb => ⟨Nat.le_trans h.2 hl, _, cut_next h hn hb, parent_lt hn, rfl⟩
  exact ⟨hl, ⟨parentS t, cut_go, rfl⟩, fun i h => ⟨fun hn => ⟨fun hi => ⟨idx_in hi, fun x hx => ⟨fun hs => cut_yes h hn (by rw [← hit_at hi hx]; exact hs), fun hs => nx h hn (by rw [← hit_at hi hx]; exact hs)⟩⟩, fun hi => nx h hn (hit_no hi).symm⟩, fun he => by subst he; exact cut_no h⟩⟩
end Go.Proofs.YtjkipndhdemnoaaGreatDoor
namespace Go.Proofs.YtjkipndhdemnoaaGreatDoor
open Go.Ab Go.Fn
def s_cutD : FSpec := { ps := [.v (.slice (.slice tRec)), .v .str], rs := [.v I], pre := fun x => List.length (α := UInt8) x.2.1 ≤ 100000000, fn := fun x => (Fn.cutD x.1 x.2.1, ()), upd := fun _ => () }
theorem fo_cutDepth : FO 161 s_cutD := by
  refine foB (specs := [(180, s_cuts)]) (clos := []) (inl := [(179, backT 203)]) (fun x => []) 203 (.slice tRec) [(9, false), (10, true), (5, false), (6, true)] 16 (fun x j => DInv x.1 x.2.1 j) ⟨fo_cuts, trivial⟩ trivial ⟨inBackR, trivial⟩ Tryz.func161 rfl rfl backOKR rfl ?_ rfl ?_
  · repeat' (first | exact trivial | apply And.intro)
    exact ⟨9, 10, rfl, rfl, asg2 (by decide) (by decide) (by decide) (by decide)⟩
  rintro ⟨ls, t, ⟨⟩⟩ hl
  refine vcOf (fits (List.length ls) → DInv ls t (List.length ls) ∧ (∀ (j : Nat) (x : List (Int × List UInt8 × List UInt8 × Int × Bool × Unit)), nth ls j = some x → nat_lit 1 ≤ nat_lit 1 ∧ true = true ∧ List.length t ≤ (100000000 : Nat) ∧ (cutsL x t = true → nat_lit 1 ≤ nat_lit 1 ∧ true = true ∧ (DInv ls t j.succ → true = true ∧ (wAdd IntKind.i64 (iOf j) (1 : Int), ()) = (cutD ls t, ()) ∧ () = ())) ∧ (cutsL x t = false → (DInv ls t j.succ → DInv ls t j) ∧ (ls = ls ∧ t = t ∧ (nat_lit 0 = nat_lit 0 ∧ (0 : Nat) = (0 : Nat)) ∧ (nat_lit 1 = nat_lit 1 ∧ (0 : Nat) = (0 : Nat)) ∧ ls = ls ∧ ((203 : Nat) = (203 : Nat) ∧ (ls = ls ∧ True) ∧ True) ∧ True) ∧ ((t = t ∧ True) ∧ ((0 : (Ty.int IntKind.i64).den) = (0 : (Ty.int IntKind.i64).den) ∧ True) ∧ True) ∧ True)) ∧ (DInv ls t (0 : Nat) → nat_lit 1 ≤ nat_lit 1 ∧ true = true ∧ ((0 : Int), ()) = (cutD ls t, ()) ∧ () = ())) (by kernel_rfl) ?_
  simp only [Nat.le_refl, Nat.succ_eq_add_one, Nat.reduceAdd, Nat.reduceLeDiff, Nat.zero_le, pair_unit, mk_eta, len_bne, eqD_bne, bne_iff_ne, bne_eq_false_iff_eq, beq_iff_eq, beq_eq_false_iff_ne, true_and, and_true, and_self, eq_self, lt_iff, nthI_nat, bnd_iff, decide_eq_true_eq, decide_eq_false_iff_not, Nat.sub_eq, nz, ne_eq, not_false_eq_true, Prod.mk.injEq, Int.reduceEq, Nat.reduceEqDiff, forall_const, implies_true, bne_self_eq_false, Bool.true_eq_false, Bool.false_eq_true, false_implies, reduceCtorEq, Bool.not_true, Bool.not_false, List.all_cons, List.all_nil, Bool.and_true, Bool.not_eq_true, Bool.not_eq_false, Bool.not_eq_true', Bool.not_eq_false', Decidable.not_not]; try simp only [lenL]
  exact fun hf => ⟨rfl, fun j x hx => ⟨hl, fun hc hi => by rw [add1_in (get_lt_len hx) hf]; exact d_yes hx hc hi, fun hc hi => d_no hx hc hi⟩, fun h => d_end h⟩
end Go.Proofs.YtjkipndhdemnoaaGreatDoor
namespace Go.Proofs.YtjkipndhdemnoaaGreatDoor
open Go.Ab Go.Fn
def L_l07Cut (ls : List (List Rec)) (t : List UInt8) : LoopAnn := { ι := Nat, inv := fun j => j ≤ ls.length ∧ DInv ls t j, slots := fun j => [(5, .d I (Int.ofNat j - 1))], objs := fun _ => [], μ := fun j => j }
theorem fo_l07Cut : FO 152 s_cutD := by
  refine fo (specs := [(173, s_cuts)]) (clos := []) (fun x => [(2, .lv [0, 1, 5] <| fun _ => L_l07Cut x.1 x.2.1)]) ⟨fo_l06Cuts, trivial⟩ trivial Tryz.func152 rfl rfl ?_
  rintro ⟨ls, t, ⟨⟩⟩ hl
  refine vcOf (fits (lenL ls) → (∃ (i : Nat), (i ≤ List.length ls ∧ DInv ls t i) ∧ (ls = ls ∧ t = t ∧ wSub IntKind.i64 (iOf (lenL ls)) (1 : Int) = Int.ofNat i - (1 : I.den) ∧ True) ∧ True ∧ True) ∧ ∀ (i : Nat), i ≤ List.length ls ∧ DInv ls t i → (decide (Int.ofNat i - (1 : I.den) ≥ (0 : Int)) = true → bnd (Int.ofNat i - (1 : I.den)) (lenL ls) ∧ ∀ (x : List (Int × List UInt8 × List UInt8 × Int × Bool × Unit)), nthI ls (Int.ofNat i - (1 : I.den)) = some x → nat_lit 1 ≤ nat_lit 1 ∧ true = true ∧ List.length t ≤ (100000000 : Nat) ∧ (cutsL x t = true → (wAdd IntKind.i64 (Int.ofNat i - (1 : I.den)) (1 : Int), ()) = (cutD ls t, ()) ∧ () = ()) ∧ (cutsL x t = false → ∃ (j : Nat), (j ≤ List.length ls ∧ DInv ls t j) ∧ j < i ∧ (ls = ls ∧ t = t ∧ wSub IntKind.i64 (Int.ofNat i - (1 : I.den)) (1 : Int) = Int.ofNat j - (1 : I.den) ∧ True) ∧ True ∧ True)) ∧ (decide (Int.ofNat i - (1 : I.den) ≥ (0 : Int)) = false → ((0 : Int), ()) = (cutD ls t, ()) ∧ () = ())) (by kernel_rfl) ?_
  simp only [Nat.le_refl, Nat.succ_eq_add_one, Nat.reduceAdd, Nat.reduceLeDiff, Nat.zero_le, pair_unit, mk_eta, len_bne, eqD_bne, bne_iff_ne, bne_eq_false_iff_eq, beq_iff_eq, beq_eq_false_iff_ne, true_and, and_true, and_self, eq_self, lt_iff, nthI_nat, bnd_iff, decide_eq_true_eq, decide_eq_false_iff_not, Nat.sub_eq, nz, ne_eq, not_false_eq_true, Prod.mk.injEq, Int.reduceEq, Nat.reduceEqDiff, forall_const, implies_true, bne_self_eq_false, Bool.true_eq_false, Bool.false_eq_true, false_implies, reduceCtorEq, Bool.not_true, Bool.not_false, List.all_cons, List.all_nil, Bool.and_true, Bool.not_eq_true, Bool.not_eq_false, Bool.not_eq_true', Bool.not_eq_false', Decidable.not_not]; try simp only [lenL]
  have hl : List.length t ≤ 100000000 := hl
  refine fun hf => ⟨⟨ls.length, ⟨Nat.le_refl _, rfl⟩, sub1_in (Nat.le_refl _) hf⟩, fun i ⟨hi, hd⟩ => ⟨fun h => ?_, fun h => ?_⟩⟩
  · obtain ⟨k, rfl, e⟩ := pred_ge h
    rw [e]
    refine ⟨bnd_nat hi, fun x hx => ⟨hl, fun hc => ?_, fun hc => ⟨k, ⟨Nat.le_of_lt hi, d_no hx hc hd⟩, Nat.lt_succ_self k, sub1_in (Nat.le_of_lt hi) hf⟩⟩⟩
    rw [show wAdd .i64 (Int.ofNat k) 1 = Int.ofNat (k + 1) from add1_in hi hf]
    exact d_yes hx hc hd
  · have := pred_no h
    subst this
    exact d_end hd
end Go.Proofs.YtjkipndhdemnoaaGreatDoor
namespace Go.Fn
open Go.Ab
def hitR (l : List Rec) (t : List UInt8) : Option Rec := if idx (atPath t) l ≥ 0 then some (recAt l (idx (atPath t) l).toNat) else none
def winTo (ls : List (List Rec)) (t : List UInt8) (lo : Nat) : Nat → Rec × Int × Bool
  | 0 => (rec0, 0, false)
  | n + 1 => if n < lo then (rec0, 0, false) else match hitR (rowL ls n) t with
    | none => winTo ls t lo n
    | some r => (r, Int.ofNat (n + 1), (winTo ls t lo n).2.2 || stopsR r)
def lowN (ls : List (List Rec)) (t : List UInt8) : Nat := (cutD ls t).toNat - 1
def winW (ls : List (List Rec)) (t : List UInt8) : Rec × Int × Bool := winTo ls t (lowN ls t) ls.length
def winL (ls : List (List Rec)) (t : List UInt8) : Int := (winW ls t).2.1
def setO (r : Rec) (o : Bool) : Rec := (r.1, r.2.1, r.2.2.1, r.2.2.2.1, o, ())
def winR (ls : List (List Rec)) (t : List UInt8) : Rec := if (winW ls t).1.1 = 3 then setO (winW ls t).1 (winW ls t).2.2 else (winW ls t).1
def okO (ls : List (List Rec)) : Prop := ∀ l ∈ ls, ∀ r ∈ l, ¬ r.1 = 3 → r.2.2.2.2.1 = false
end Go.Fn
namespace Go.Fn
open Go.Ab
theorem hit_none {l : List Rec} {t : List UInt8} (h : ¬ idx (atPath t) l ≥ 0) : hitR l t = none := if_neg h
theorem hit_some {l : List Rec} {t : List UInt8} {x : Rec} (h : idx (atPath t) l ≥ 0) (hx : nthI l (idx (atPath t) l) = some x) : hitR l t = some x := by
  unfold hitR
  rw [if_pos h, recAt_nth hx]
theorem low_in (ls : List (List Rec)) (t : List UInt8) : mm true (cutD ls t) 1 = Int.ofNat (lowN ls t + 1) := by
  have h := @cutD_ge ls t
  unfold mm lowN
  simp only [if_true, Int.ofNat_eq_natCast]
  split <;> omega
theorem low_le (ls : List (List Rec)) (t : List UInt8) : lowN ls t ≤ ls.length := by
  have h := @cutD_ge ls t
  unfold lowN; omega
theorem winTo_low (ls : List (List Rec)) (t : List UInt8) (lo : Nat) : winTo ls t lo lo = (rec0, 0, false) := by
  cases lo with
  | zero => rfl
  | succ n => unfold winTo; rw [if_pos (Nat.lt_succ_self n)]
theorem winTo_none {ls : List (List Rec)} {t : List UInt8} {lo n : Nat} {l : List Rec} (h : lo ≤ n) (hl : ls[n]? = some l) (hh : hitR l t = none) : winTo ls t lo (n + 1) = winTo ls t lo n := by
  conv => lhs; unfold winTo
  rw [if_neg (Nat.not_lt.2 h), rowL_at hl, hh]
theorem winTo_some {ls : List (List Rec)} {t : List UInt8} {lo n : Nat} {l : List Rec} {r : Rec} (h : lo ≤ n) (hl : ls[n]? = some l) (hh : hitR l t = some r) : winTo ls t lo (n + 1) = (r, Int.ofNat (n + 1), (winTo ls t lo n).2.2 || stopsR r) := by
  conv => lhs; unfold winTo
  rw [if_neg (Nat.not_lt.2 h), rowL_at hl, hh]
theorem winTo_lay {ls : List (List Rec)} {t : List UInt8} {lo : Nat} : ∀ {n : Nat}, 0 ≤ (winTo ls t lo n).2.1 ∧ (winTo ls t lo n).2.1 ≤ n
  | 0 => ⟨Int.le_refl _, Int.le_refl _⟩
  | n + 1 => by
    have ih := @winTo_lay ls t lo n
    unfold winTo
    split
    · exact ⟨Int.le_refl _, by show (0 : Int) ≤ ((n + 1 : Nat) : Int); omega⟩
    · split
      · exact ⟨ih.1, by omega⟩
      · exact ⟨by show (0 : Int) ≤ ((n + 1 : Nat) : Int); omega, Int.le_refl _⟩
theorem win_dir {ls : List (List Rec)} {t : List UInt8} (h : (winTo ls t (lowN ls t) ls.length).1.1 = 3) : (winTo ls t (lowN ls t) ls.length).1.1 = (winR ls t).1 ∧ (winTo ls t (lowN ls t) ls.length).1.2.1 = (winR ls t).2.1 ∧ (winTo ls t (lowN ls t) ls.length).1.2.2.1 = (winR ls t).2.2.1 ∧ (winTo ls t (lowN ls t) ls.length).1.2.2.2.1 = (winR ls t).2.2.2.1 ∧ (winTo ls t (lowN ls t) ls.length).2.2 = (winR ls t).2.2.2.2.1 := by
  unfold winR winW
  rw [if_pos h]
  exact ⟨rfl, rfl, rfl, rfl, rfl⟩
theorem win_not {ls : List (List Rec)} {t : List UInt8} (h : ¬ (winTo ls t (lowN ls t) ls.length).1.1 = 3) : (winTo ls t (lowN ls t) ls.length).1 = winR ls t := by
  unfold winR winW
  rw [if_neg h]
def WInv (ls : List (List Rec)) (t : List UInt8) (q : Nat × Rec × Int) : Prop :=
  lowN ls t ≤ q.1 ∧ q.1 ≤ ls.length ∧ (if q.2.2 = 0 then winTo ls t (lowN ls t) q.1 else (q.2.1, q.2.2, (winTo ls t (lowN ls t) q.1).2.2)) = winW ls t ∧ (q.2.2 = 0 → q.2.1 = rec0) ∧ (¬ q.2.2 = 0 → stopsR q.2.1 = false)
theorem wn_start (ls : List (List Rec)) (t : List UInt8) : WInv ls t (ls.length, rec0, 0) := ⟨low_le ls t, Nat.le_refl _, rfl, fun _ => rfl, fun h => absurd rfl h⟩
theorem wn_none {ls : List (List Rec)} {t : List UInt8} {i : Nat} {r : Rec} {f : Int} {l : List Rec} (h : WInv ls t (i + 1, r, f)) (hi : lowN ls t ≤ i) (hl : ls[i]? = some l) (hh : hitR l t = none) : WInv ls t (i, r, f) := by
  obtain ⟨_, h2, h3, h4, h5⟩ := h
  refine ⟨hi, Nat.le_of_succ_le h2, ?_, h4, h5⟩
  rw [← h3, winTo_none hi hl hh]
theorem wn_first {ls : List (List Rec)} {t : List UInt8} {i : Nat} {r x : Rec} {l : List Rec} (h : WInv ls t (i + 1, r, 0)) (hi : lowN ls t ≤ i) (hl : ls[i]? = some l) (hh : hitR l t = some x) (hs : stopsR x = false) : WInv ls t (i, x, Int.ofNat (i + 1)) := by
  obtain ⟨_, h2, h3, h4, h5⟩ := h
  have hn : ¬ Int.ofNat (i + 1) = 0 := by simp only [Int.ofNat_eq_natCast]; omega
  refine ⟨hi, Nat.le_of_succ_le h2, ?_, fun h0 => absurd h0 hn, fun _ => hs⟩
  rw [if_pos rfl, winTo_some hi hl hh, hs, Bool.or_false] at h3
  rw [if_neg hn, ← h3]
theorem wn_keep {ls : List (List Rec)} {t : List UInt8} {i : Nat} {r x : Rec} {f : Int} {l : List Rec} (h : WInv ls t (i + 1, r, f)) (hf : ¬ f = 0) (hi : lowN ls t ≤ i) (hl : ls[i]? = some l) (hh : hitR l t = some x) (hs : stopsR x = false) : WInv ls t (i, r, f) := by
  obtain ⟨_, h2, h3, h4, h5⟩ := h
  refine ⟨hi, Nat.le_of_succ_le h2, ?_, h4, h5⟩
  rw [if_neg hf] at h3 ⊢
  rw [← h3, winTo_some hi hl hh, hs, Bool.or_false]
theorem not_stops {r : Rec} (h : stopsR r = false) : r.1 = 3 ∧ r.2.2.2.2.1 = false := by
  unfold stopsR at h
  simp only [Bool.or_eq_false_iff, Bool.not_eq_false', decide_eq_true_eq] at h
  exact h
theorem win_set {ls : List (List Rec)} {t : List UInt8} {r : Rec} {f : Int} (h : (r, f, true) = winW ls t) (ho : ¬ r.1 = 3 → r.2.2.2.2.1 = false) : r.1 = (winR ls t).1 ∧ r.2.1 = (winR ls t).2.1 ∧ r.2.2.1 = (winR ls t).2.2.1 ∧ r.2.2.2.1 = (winR ls t).2.2.2.1 ∧ decide (r.1 = 3) = (winR ls t).2.2.2.2.1 := by
  unfold winR
  rw [← h]
  by_cases hk : r.1 = 3
  · rw [if_pos hk]; simp [setO, hk]
  · rw [if_neg hk]; simp [hk, ho hk]
theorem wn_stop0 {ls : List (List Rec)} {t : List UInt8} {i : Nat} {r x : Rec} {l : List Rec} (h : WInv ls t (i + 1, r, 0)) (hi : lowN ls t ≤ i) (hl : ls[i]? = some l) (hh : hitR l t = some x) (hs : stopsR x = true) : (x, Int.ofNat (i + 1), true) = winW ls t := by
  obtain ⟨_, h2, h3, h4, h5⟩ := h
  rw [if_pos rfl, winTo_some hi hl hh, hs, Bool.or_true] at h3
  exact h3
theorem wn_stop1 {ls : List (List Rec)} {t : List UInt8} {i : Nat} {r x : Rec} {f : Int} {l : List Rec} (h : WInv ls t (i + 1, r, f)) (hf : ¬ f = 0) (hi : lowN ls t ≤ i) (hl : ls[i]? = some l) (hh : hitR l t = some x) (hs : stopsR x = true) : (r, f, true) = winW ls t := by
  obtain ⟨_, h2, h3, h4, h5⟩ := h
  rw [if_neg hf, winTo_some hi hl hh, hs, Bool.or_true] at h3
  exact h3
theorem wn_end {ls : List (List Rec)} {t : List UInt8} {i : Nat} {r : Rec} {f : Int} (h : WInv ls t (i, r, f)) (hi : i = lowN ls t) : r = winR ls t ∧ f = winL ls t := by
  obtain ⟨_, h2, h3, h4, h5⟩ := h
  simp only at h3 h4 h5
  subst hi
  rw [winTo_low] at h3
  unfold winR winL
  by_cases hf : f = 0
  · rw [if_pos hf] at h3
    rw [← h3, h4 hf, hf]
    refine ⟨?_, rfl⟩
    rw [if_neg (by decide)]
  · rw [if_neg hf] at h3
    obtain ⟨k3, ko⟩ := not_stops (h5 hf)
    rw [← h3]
    simp only
    rw [if_pos k3]
    refine ⟨?_, trivial⟩
    obtain ⟨k, p, b, m, o, ⟨⟩⟩ := r
    simp only at ko
    rw [ko]; rfl
theorem ok_hit {ls : List (List Rec)} {t : List UInt8} {i : Nat} {l : List Rec} {x : Rec} (ho : okO ls) (hl : ls[i]? = some l) (hx : nthI l (idx (atPath t) l) = some x) : ¬ x.1 = 3 → x.2.2.2.2.1 = false :=
  ho l (List.mem_of_getElem? hl) x (nthI_mem hx)
end Go.Fn
namespace Go.Fn
open Go.Ab
theorem sub1_succ {k n : Nat} (h : k ≤ n) (hf : fits n) : wSub .i64 (Int.ofNat (k + 1)) 1 = Int.ofNat k := by
  unfold fits at hf
  rw [wSub_in (by simp only [Int.ofNat_eq_natCast]; omega)]
  simp only [Int.ofNat_eq_natCast]; omega
theorem add1_le {j n : Nat} (h : j ≤ n) (hf : fits n) : wAdd .i64 (Int.ofNat j) 1 = Int.ofNat (j + 1) := by
  unfold fits at hf
  unfold wAdd
  rw [IntKind.wrap_i64]
  simp only [Int.ofNat_eq_natCast, Int.natCast_add, Int.natCast_one]
  omega
theorem win_dir2 {ls : List (List Rec)} {t : List UInt8} (h : (winTo ls t (lowN ls t) ls.length).1.1 = 3) : ((winTo ls t (lowN ls t) ls.length).1.1, (winTo ls t (lowN ls t) ls.length).1.2.1, (winTo ls t (lowN ls t) ls.length).1.2.2.1, (winTo ls t (lowN ls t) ls.length).1.2.2.2.1, (winTo ls t (lowN ls t) ls.length).2.2, ()) = winR ls t := by
  unfold winR winW
  rw [if_pos h]; rfl
theorem win_set2 {ls : List (List Rec)} {t : List UInt8} {r : Rec} {f : Int} (h : (r, f, true) = winW ls t) (ho : ¬ r.1 = 3 → r.2.2.2.2.1 = false) : (r.1, r.2.1, r.2.2.1, r.2.2.2.1, r.1 == 3, ()) = winR ls t ∧ f = winL ls t := by
  unfold winR winL
  rw [← h]
  refine ⟨?_, rfl⟩
  obtain ⟨k, p, b, m, o, ⟨⟩⟩ := r
  by_cases hk : k = 3
  · rw [if_pos hk]; simp [setO, hk]
  · rw [if_neg hk]
    have : o = false := ho hk
    simp [this, hk]
end Go.Fn
namespace Go.Proofs.YtjkipndhdemnoaaGreatDoor
open Go.Ab Go.Fn
def s_winner : FSpec := { ps := [.v (.slice (.slice tRec)), .v .str], rs := [.v tRec, .v I, .v .bool], pre := fun x => List.length (α := UInt8) x.2.1 ≤ 100000000, fn := fun x => (Fn.winR x.1 x.2.1, Fn.winL x.1 x.2.1, decide (Fn.winL x.1 x.2.1 > 0), ()), upd := fun _ => () }
def L_winner (ls : List (List Rec)) (t : List UInt8) : LoopAnn := { ι := Nat, inv := fun k => lowN ls t ≤ k ∧ k ≤ ls.length, slots := fun k => [(8, .d I (winTo ls t (lowN ls t) k).2.1), (9, .d .bool (winTo ls t (lowN ls t) k).2.2), (10, .d I (Int.ofNat (k + 1)))], objs := fun k => [(1, .box (cellsOf tRec (winTo ls t (lowN ls t) k).1))], μ := fun k => ls.length - k }
theorem fo_winner : FO 126 s_winner := by
  refine fo (specs := [(161, s_cutD), (148, s_find), (162, s_stops)]) (clos := []) (fun x => [(3, .lv [0, 1, 4, 7, 8, 9, 10] <| fun _ => L_winner x.1 x.2.1)]) ⟨fo_cutDepth, fo_find, fo_stops, trivial⟩ trivial Tryz.func126 rfl rfl ?_
  rintro ⟨ls, t, ⟨⟩⟩ hl
  refine vcOf (nat_lit 5 ≤ nat_lit 5 ∧ true = true ∧ List.length t ≤ (100000000 : Nat) ∧ IntKind.i64 = IntKind.i64 ∧ (∃ (i : Nat), (lowN ls t ≤ i ∧ i ≤ List.length ls) ∧ (ls = ls ∧ t = t ∧ (nat_lit 0 = nat_lit 0 ∧ (0 : Nat) = (0 : Nat)) ∧ (nat_lit 1 = nat_lit 1 ∧ (0 : Nat) = (0 : Nat)) ∧ (0 : Int) = (winTo ls t (lowN ls t) i).snd.fst ∧ false = (winTo ls t (lowN ls t) i).snd.snd ∧ mm true (cutD ls t) (1 : Int) = Int.ofNat i.succ ∧ True) ∧ (((0 : (Ty.int IntKind.i64).den) = (0 : (Ty.int IntKind.i64).den) ∧ ([] : List UInt8) = ([] : List UInt8) ∧ ([] : List UInt8) = ([] : List UInt8) ∧ (0 : (Ty.int IntKind.i64).den) = (0 : (Ty.int IntKind.i64).den) ∧ false = false ∧ True) ∧ ((0 : (Ty.int IntKind.i64).den) = (winTo ls t (lowN ls t) i).fst.fst ∧ ([] : List UInt8) = (winTo ls t (lowN ls t) i).fst.snd.fst ∧ ([] : List UInt8) = (winTo ls t (lowN ls t) i).fst.snd.snd.fst ∧ (0 : (Ty.int IntKind.i64).den) = (winTo ls t (lowN ls t) i).fst.snd.snd.snd.fst ∧ false = (winTo ls t (lowN ls t) i).fst.snd.snd.snd.snd.fst ∧ True) ∧ True) ∧ True) ∧ ∀ (i : Nat), lowN ls t ≤ i ∧ i ≤ List.length ls → fits (lenL ls) → (decide (Int.ofNat i.succ ≤ iOf (lenL ls)) = true → bnd (wSub IntKind.i64 (Int.ofNat i.succ) (1 : Int)) (lenL ls) ∧ ∀ (x : List (Int × List UInt8 × List UInt8 × Int × Bool × Unit)), nthI ls (wSub IntKind.i64 (Int.ofNat i.succ) (1 : Int)) = some x → nat_lit 1 ≤ nat_lit 1 ∧ true = true ∧ True ∧ (decide (idx (atPath t) x ≥ (0 : Int)) = true → bnd (wSub IntKind.i64 (Int.ofNat i.succ) (1 : Int)) (lenL ls) ∧ ∀ (x_1 : List (Int × List UInt8 × List UInt8 × Int × Bool × Unit)), nthI ls (wSub IntKind.i64 (Int.ofNat i.succ) (1 : Int)) = some x_1 → nat_lit 1 ≤ nat_lit 1 ∧ bnd (idx (atPath t) x) (lenL x_1) ∧ ∀ (x_2 : Int × List UInt8 × List UInt8 × Int × Bool × Unit), nthI x_1 (idx (atPath t) x) = some x_2 → nat_lit 5 ≤ (Nat.succ (nat_lit 1)).succ.succ.succ ∧ nat_lit 5 ≤ (Nat.succ (nat_lit 1)).succ.succ.succ ∧ ((winTo ls t (lowN ls t) i).snd.snd = false → nat_lit 5 ≤ (Nat.succ (nat_lit 1)).succ.succ.succ ∧ true = true ∧ True ∧ ∃ (j : Nat), (lowN ls t ≤ j ∧ j ≤ List.length ls) ∧ (List.length ls).sub j < (List.length ls).sub i ∧ (ls = ls ∧ t = t ∧ (nat_lit 0 = nat_lit 0 ∧ (0 : Nat) = (0 : Nat)) ∧ (nat_lit 1 = nat_lit 1 ∧ (0 : Nat) = (0 : Nat)) ∧ Int.ofNat i.succ = (winTo ls t (lowN ls t) j).snd.fst ∧ stopsR (x_2.fst, x_2.snd.fst, x_2.snd.snd.fst, x_2.snd.snd.snd.fst, x_2.snd.snd.snd.snd.fst, ()) = (winTo ls t (lowN ls t) j).snd.snd ∧ wAdd IntKind.i64 (Int.ofNat i.succ) (1 : Int) = Int.ofNat j.succ ∧ True) ∧ (((0 : (Ty.int IntKind.i64).den) = (0 : (Ty.int IntKind.i64).den) ∧ ([] : List UInt8) = ([] : List UInt8) ∧ ([] : List UInt8) = ([] : List UInt8) ∧ (0 : (Ty.int IntKind.i64).den) = (0 : (Ty.int IntKind.i64).den) ∧ false = false ∧ True) ∧ (x_2.fst = (winTo ls t (lowN ls t) j).fst.fst ∧ x_2.snd.fst = (winTo ls t (lowN ls t) j).fst.snd.fst ∧ x_2.snd.snd.fst = (winTo ls t (lowN ls t) j).fst.snd.snd.fst ∧ x_2.snd.snd.snd.fst = (winTo ls t (lowN ls t) j).fst.snd.snd.snd.fst ∧ x_2.snd.snd.snd.snd.fst = (winTo ls t (lowN ls t) j).fst.snd.snd.snd.snd.fst ∧ True) ∧ True) ∧ True) ∧ ((winTo ls t (lowN ls t) i).snd.snd = true → ∃ (j : Nat), (lowN ls t ≤ j ∧ j ≤ List.length ls) ∧ (List.length ls).sub j < (List.length ls).sub i ∧ (ls = ls ∧ t = t ∧ (nat_lit 0 = nat_lit 0 ∧ (0 : Nat) = (0 : Nat)) ∧ (nat_lit 1 = nat_lit 1 ∧ (0 : Nat) = (0 : Nat)) ∧ Int.ofNat i.succ = (winTo ls t (lowN ls t) j).snd.fst ∧ true = (winTo ls t (lowN ls t) j).snd.snd ∧ wAdd IntKind.i64 (Int.ofNat i.succ) (1 : Int) = Int.ofNat j.succ ∧ True) ∧ (((0 : (Ty.int IntKind.i64).den) = (0 : (Ty.int IntKind.i64).den) ∧ ([] : List UInt8) = ([] : List UInt8) ∧ ([] : List UInt8) = ([] : List UInt8) ∧ (0 : (Ty.int IntKind.i64).den) = (0 : (Ty.int IntKind.i64).den) ∧ false = false ∧ True) ∧ (x_2.fst = (winTo ls t (lowN ls t) j).fst.fst ∧ x_2.snd.fst = (winTo ls t (lowN ls t) j).fst.snd.fst ∧ x_2.snd.snd.fst = (winTo ls t (lowN ls t) j).fst.snd.snd.fst ∧ x_2.snd.snd.snd.fst = (winTo ls t (lowN ls t) j).fst.snd.snd.snd.fst ∧ x_2.snd.snd.snd.snd.fst = (winTo ls t (lowN ls t) j).fst.snd.snd.snd.snd.fst ∧ True) ∧ True) ∧ True)) ∧ (decide (idx (atPath t) x ≥ (0 : Int)) = false → ∃ (j : Nat), (lowN ls t ≤ j ∧ j ≤ List.length ls) ∧ (List.length ls).sub j < (List.length ls).sub i ∧ (ls = ls ∧ t = t ∧ (nat_lit 0 = nat_lit 0 ∧ (0 : Nat) = (0 : Nat)) ∧ (nat_lit 1 = nat_lit 1 ∧ (0 : Nat) = (0 : Nat)) ∧ (winTo ls t (lowN ls t) i).snd.fst = (winTo ls t (lowN ls t) j).snd.fst ∧ (winTo ls t (lowN ls t) i).snd.snd = (winTo ls t (lowN ls t) j).snd.snd ∧ wAdd IntKind.i64 (Int.ofNat i.succ) (1 : Int) = Int.ofNat j.succ ∧ True) ∧ (((0 : (Ty.int IntKind.i64).den) = (0 : (Ty.int IntKind.i64).den) ∧ ([] : List UInt8) = ([] : List UInt8) ∧ ([] : List UInt8) = ([] : List UInt8) ∧ (0 : (Ty.int IntKind.i64).den) = (0 : (Ty.int IntKind.i64).den) ∧ false = false ∧ True) ∧ ((winTo ls t (lowN ls t) i).fst.fst = (winTo ls t (lowN ls t) j).fst.fst ∧ (winTo ls t (lowN ls t) i).fst.snd.fst = (winTo ls t (lowN ls t) j).fst.snd.fst ∧ (winTo ls t (lowN ls t) i).fst.snd.snd.fst = (winTo ls t (lowN ls t) j).fst.snd.snd.fst ∧ (winTo ls t (lowN ls t) i).fst.snd.snd.snd.fst = (winTo ls t (lowN ls t) j).fst.snd.snd.snd.fst ∧ (winTo ls t (lowN ls t) i).fst.snd.snd.snd.snd.fst = (winTo ls t (lowN ls t) j).fst.snd.snd.snd.snd.fst ∧ True) ∧ True) ∧ True)) ∧ (decide (Int.ofNat i.succ ≤ iOf (lenL ls)) = false → nat_lit 1 ≤ (Nat.succ (nat_lit 1)).succ.succ.succ ∧ (((winTo ls t (lowN ls t) i).fst.fst == (3 : Int)) = true → nat_lit 5 ≤ (Nat.succ (nat_lit 1)).succ.succ.succ ∧ nat_lit 5 ≤ (Nat.succ (nat_lit 1)).succ.succ.succ ∧ nat_lit 5 ≤ nat_lit 5 ∧ (((winTo ls t (lowN ls t) i).fst.fst, (winTo ls t (lowN ls t) i).fst.snd.fst, (winTo ls t (lowN ls t) i).fst.snd.snd.fst, (winTo ls t (lowN ls t) i).fst.snd.snd.snd.fst, (winTo ls t (lowN ls t) i).snd.snd, ()), (winTo ls t (lowN ls t) i).snd.fst, decide ((winTo ls t (lowN ls t) i).snd.fst > (0 : Int)), ()) = (winR ls t, winL ls t, decide (winL ls t > (0 : Int)), ()) ∧ () = ()) ∧ (((winTo ls t (lowN ls t) i).fst.fst == (3 : Int)) = false → nat_lit 5 ≤ (Nat.succ (nat_lit 1)).succ.succ.succ ∧ nat_lit 5 ≤ nat_lit 5 ∧ (((winTo ls t (lowN ls t) i).fst.fst, (winTo ls t (lowN ls t) i).fst.snd.fst, (winTo ls t (lowN ls t) i).fst.snd.snd.fst, (winTo ls t (lowN ls t) i).fst.snd.snd.snd.fst, (winTo ls t (lowN ls t) i).fst.snd.snd.snd.snd.fst, ()), (winTo ls t (lowN ls t) i).snd.fst, decide ((winTo ls t (lowN ls t) i).snd.fst > (0 : Int)), ()) = (winR ls t, winL ls t, decide (winL ls t > (0 : Int)), ()) ∧ () = ()))) (by kernel_rfl) ?_
  simp only [Nat.le_refl, Nat.succ_eq_add_one, Nat.reduceAdd, Nat.reduceLeDiff, Nat.zero_le, pair_unit, mk_eta, len_bne, eqD_bne, bne_iff_ne, bne_eq_false_iff_eq, beq_iff_eq, beq_eq_false_iff_ne, true_and, and_true, and_self, eq_self, lt_iff, nthI_nat, bnd_iff, decide_eq_true_eq, decide_eq_false_iff_not, Nat.sub_eq, nz, ne_eq, not_false_eq_true, Prod.mk.injEq, Int.reduceEq, Nat.reduceEqDiff, forall_const, implies_true, bne_self_eq_false, Bool.true_eq_false, Bool.false_eq_true, false_implies, reduceCtorEq, Bool.not_true, Bool.not_false, List.all_cons, List.all_nil, Bool.and_true, Bool.not_eq_true, Bool.not_eq_false, Bool.not_eq_true', Bool.not_eq_false', Decidable.not_not]; try simp only [lenL]
  refine ⟨hl, ⟨lowN ls t, ⟨Nat.le_refl _, low_le ls t⟩, by rw [winTo_low]; exact ⟨⟨rfl, rfl, low_in ls t⟩, rfl, rfl, rfl, rfl, rfl⟩⟩, ?_⟩
  rintro i ⟨h1, h2⟩ hf
  have hi2 : i ≤ List.length ls := h2
  have e := sub1_succ hi2 hf
  refine ⟨fun hi => ?_, fun hi => ?_⟩
  · have hlt : i < List.length ls := Int.ofNat_le.1 hi
    rw [e]
    refine ⟨bnd_nat hlt, fun l hx => ⟨fun hh => ⟨bnd_nat hlt, fun l' hx' => ?_⟩, fun hh => ?_⟩⟩
    · obtain rfl : l = l' := Option.some.inj (hx.symm.trans hx')
      refine ⟨idx_in hh, fun r hr => ?_⟩
      have hw := winTo_some h1 hx (hit_some hh hr)
      exact ⟨fun hst => ⟨i + 1, ⟨Nat.le_succ_of_le h1, hlt⟩, Nat.sub_lt_sub_left hlt (Nat.lt_succ_self i), by rw [hw, hst]; exact ⟨⟨rfl, rfl, add1_le hlt hf⟩, rfl, rfl, rfl, rfl, rfl⟩⟩, fun hst => ⟨i + 1, ⟨Nat.le_succ_of_le h1, hlt⟩, Nat.sub_lt_sub_left hlt (Nat.lt_succ_self i), by rw [hw, hst]; exact ⟨⟨rfl, rfl, add1_le hlt hf⟩, rfl, rfl, rfl, rfl, rfl⟩⟩⟩
    · have hw := winTo_none h1 hx (hit_none hh)
      exact ⟨i + 1, ⟨Nat.le_succ_of_le h1, hlt⟩, Nat.sub_lt_sub_left hlt (Nat.lt_succ_self i), by rw [hw]; exact ⟨⟨rfl, rfl, add1_le hlt hf⟩, rfl, rfl, rfl, rfl, rfl⟩⟩
  · obtain rfl : i = List.length ls := by
      have : ¬ i + 1 ≤ List.length ls := fun h => hi (Int.ofNat_le.2 h)
      omega
    exact ⟨fun h => ⟨win_dir2 h, rfl, rfl⟩, fun h => ⟨win_not h, rfl, rfl⟩⟩
end Go.Proofs.YtjkipndhdemnoaaGreatDoor
namespace Go.Proofs.YtjkipndhdemnoaaGreatDoor
open Go.Ab Go.Fn
def s_l07Winner : FSpec := { ps := [.v (.slice (.slice tRec)), .v .str], rs := [.v tRec, .v I], pre := fun x => List.length (α := UInt8) x.2.1 ≤ 100000000 ∧ okO x.1, fn := fun x => (Fn.winR x.1 x.2.1, Fn.winL x.1 x.2.1, ()), upd := fun _ => () }
def L_l07Winner (ls : List (List Rec)) (t : List UInt8) : LoopAnn := { ι := Nat × Rec × Int, inv := fun q => WInv ls t q, slots := fun q => [(8, .d I q.2.2), (9, .d I (Int.ofNat q.1))], objs := fun q => [(1, .box (cellsOf tRec q.2.1))], μ := fun q => q.1 }
theorem fo_l07Winner : FO 117 s_l07Winner := by
  refine fo (specs := [(152, s_cutD), (146, s_find), (153, s_stops)]) (clos := []) (fun x => [(5, .lv [0, 1, 4, 6, 7, 8, 9] <| fun _ => L_l07Winner x.1 x.2.1)]) ⟨fo_l07Cut, fo_l03At, fo_l06Stops, trivial⟩ trivial Tryz.func117 rfl rfl ?_
  rintro ⟨ls, t, ⟨⟩⟩ ⟨hl, ho⟩
  refine vcOf (true = true ∧ List.length t ≤ (100000000 : Nat) ∧ IntKind.i64 = IntKind.i64 ∧ nat_lit 5 ≤ nat_lit 5 ∧ (fits (lenL ls) → (∃ (i : Nat × Rec × Int), WInv ls t i ∧ (ls = ls ∧ t = t ∧ (nat_lit 0 = nat_lit 0 ∧ (0 : Nat) = (0 : Nat)) ∧ mm true (cutD ls t) (1 : Int) = mm true (cutD ls t) (1 : Int) ∧ (nat_lit 1 = nat_lit 1 ∧ (0 : Nat) = (0 : Nat)) ∧ (0 : Int) = i.snd.snd ∧ iOf (lenL ls) = Int.ofNat i.fst ∧ True) ∧ (((0 : (Ty.int IntKind.i64).den) = (0 : (Ty.int IntKind.i64).den) ∧ ([] : List UInt8) = ([] : List UInt8) ∧ ([] : List UInt8) = ([] : List UInt8) ∧ (0 : (Ty.int IntKind.i64).den) = (0 : (Ty.int IntKind.i64).den) ∧ false = false ∧ True) ∧ ((0 : (Ty.int IntKind.i64).den) = i.snd.fst.fst ∧ ([] : List UInt8) = i.snd.fst.snd.fst ∧ ([] : List UInt8) = i.snd.fst.snd.snd.fst ∧ (0 : (Ty.int IntKind.i64).den) = i.snd.fst.snd.snd.snd.fst ∧ false = i.snd.fst.snd.snd.snd.snd.fst ∧ True) ∧ True) ∧ True) ∧ ∀ (i : Nat × Rec × Int), WInv ls t i → (decide (Int.ofNat i.fst ≥ mm true (cutD ls t) (1 : Int)) = true → bnd (wSub IntKind.i64 (Int.ofNat i.fst) (1 : Int)) (lenL ls) ∧ ∀ (x : List (Int × List UInt8 × List UInt8 × Int × Bool × Unit)), nthI ls (wSub IntKind.i64 (Int.ofNat i.fst) (1 : Int)) = some x → nat_lit 1 ≤ nat_lit 1 ∧ true = true ∧ True ∧ (decide (idx (atPath t) x < (0 : Int)) = true → ∃ (j : Nat × Rec × Int), WInv ls t j ∧ j.fst < i.fst ∧ (ls = ls ∧ t = t ∧ (nat_lit 0 = nat_lit 0 ∧ (0 : Nat) = (0 : Nat)) ∧ mm true (cutD ls t) (1 : Int) = mm true (cutD ls t) (1 : Int) ∧ (nat_lit 1 = nat_lit 1 ∧ (0 : Nat) = (0 : Nat)) ∧ i.snd.snd = j.snd.snd ∧ wSub IntKind.i64 (Int.ofNat i.fst) (1 : Int) = Int.ofNat j.fst ∧ True) ∧ (((0 : (Ty.int IntKind.i64).den) = (0 : (Ty.int IntKind.i64).den) ∧ ([] : List UInt8) = ([] : List UInt8) ∧ ([] : List UInt8) = ([] : List UInt8) ∧ (0 : (Ty.int IntKind.i64).den) = (0 : (Ty.int IntKind.i64).den) ∧ false = false ∧ True) ∧ (i.snd.fst.fst = j.snd.fst.fst ∧ i.snd.fst.snd.fst = j.snd.fst.snd.fst ∧ i.snd.fst.snd.snd.fst = j.snd.fst.snd.snd.fst ∧ i.snd.fst.snd.snd.snd.fst = j.snd.fst.snd.snd.snd.fst ∧ i.snd.fst.snd.snd.snd.snd.fst = j.snd.fst.snd.snd.snd.snd.fst ∧ True) ∧ True) ∧ True) ∧ (decide (idx (atPath t) x < (0 : Int)) = false → bnd (wSub IntKind.i64 (Int.ofNat i.fst) (1 : Int)) (lenL ls) ∧ ∀ (x_1 : List (Int × List UInt8 × List UInt8 × Int × Bool × Unit)), nthI ls (wSub IntKind.i64 (Int.ofNat i.fst) (1 : Int)) = some x_1 → nat_lit 1 ≤ nat_lit 1 ∧ bnd (idx (atPath t) x) (lenL x_1) ∧ ∀ (x_2 : Int × List UInt8 × List UInt8 × Int × Bool × Unit), nthI x_1 (idx (atPath t) x) = some x_2 → nat_lit 5 ≤ (Nat.succ (nat_lit 1)).succ.succ.succ ∧ nat_lit 5 ≤ nat_lit 5 ∧ ((i.snd.snd == (0 : Int)) = true → nat_lit 5 ≤ (Nat.succ (nat_lit 1)).succ.succ.succ ∧ nat_lit 5 ≤ (Nat.succ (nat_lit 1)).succ.succ.succ ∧ nat_lit 5 ≤ (Nat.succ (nat_lit 1)).succ.succ.succ ∧ true = true ∧ True ∧ (stopsR (x_2.fst, x_2.snd.fst, x_2.snd.snd.fst, x_2.snd.snd.snd.fst, x_2.snd.snd.snd.snd.fst, ()) = true → nat_lit 1 ≤ (Nat.succ (nat_lit 1)).succ.succ.succ ∧ nat_lit 5 ≤ (Nat.succ (nat_lit 1)).succ.succ.succ ∧ nat_lit 5 ≤ (Nat.succ (nat_lit 1)).succ.succ.succ ∧ nat_lit 5 ≤ nat_lit 5 ∧ ((x_2.fst, x_2.snd.fst, x_2.snd.snd.fst, x_2.snd.snd.snd.fst, x_2.fst == (3 : Int), ()), Int.ofNat i.fst, ()) = (winR ls t, winL ls t, ()) ∧ () = ()) ∧ (stopsR (x_2.fst, x_2.snd.fst, x_2.snd.snd.fst, x_2.snd.snd.snd.fst, x_2.snd.snd.snd.snd.fst, ()) = false → ∃ (j : Nat × Rec × Int), WInv ls t j ∧ j.fst < i.fst ∧ (ls = ls ∧ t = t ∧ (nat_lit 0 = nat_lit 0 ∧ (0 : Nat) = (0 : Nat)) ∧ mm true (cutD ls t) (1 : Int) = mm true (cutD ls t) (1 : Int) ∧ (nat_lit 1 = nat_lit 1 ∧ (0 : Nat) = (0 : Nat)) ∧ Int.ofNat i.fst = j.snd.snd ∧ wSub IntKind.i64 (Int.ofNat i.fst) (1 : Int) = Int.ofNat j.fst ∧ True) ∧ (((0 : (Ty.int IntKind.i64).den) = (0 : (Ty.int IntKind.i64).den) ∧ ([] : List UInt8) = ([] : List UInt8) ∧ ([] : List UInt8) = ([] : List UInt8) ∧ (0 : (Ty.int IntKind.i64).den) = (0 : (Ty.int IntKind.i64).den) ∧ false = false ∧ True) ∧ (x_2.fst = j.snd.fst.fst ∧ x_2.snd.fst = j.snd.fst.snd.fst ∧ x_2.snd.snd.fst = j.snd.fst.snd.snd.fst ∧ x_2.snd.snd.snd.fst = j.snd.fst.snd.snd.snd.fst ∧ x_2.snd.snd.snd.snd.fst = j.snd.fst.snd.snd.snd.snd.fst ∧ True) ∧ True) ∧ True)) ∧ ((i.snd.snd == (0 : Int)) = false → nat_lit 5 ≤ (Nat.succ (nat_lit 1)).succ.succ.succ ∧ true = true ∧ True ∧ (stopsR (x_2.fst, x_2.snd.fst, x_2.snd.snd.fst, x_2.snd.snd.snd.fst, x_2.snd.snd.snd.snd.fst, ()) = true → nat_lit 1 ≤ (Nat.succ (nat_lit 1)).succ.succ.succ ∧ nat_lit 5 ≤ (Nat.succ (nat_lit 1)).succ.succ.succ ∧ nat_lit 5 ≤ (Nat.succ (nat_lit 1)).succ.succ.succ ∧ nat_lit 5 ≤ nat_lit 5 ∧ ((i.snd.fst.fst, i.snd.fst.snd.fst, i.snd.fst.snd.snd.fst, i.snd.fst.snd.snd.snd.fst, i.snd.fst.fst == (3 : Int), ()), i.snd.snd, ()) = (winR ls t, winL ls t, ()) ∧ () = ()) ∧ (stopsR (x_2.fst, x_2.snd.fst, x_2.snd.snd.fst, x_2.snd.snd.snd.fst, x_2.snd.snd.snd.snd.fst, ()) = false → ∃ (j : Nat × Rec × Int), WInv ls t j ∧ j.fst < i.fst ∧ (ls = ls ∧ t = t ∧ (nat_lit 0 = nat_lit 0 ∧ (0 : Nat) = (0 : Nat)) ∧ mm true (cutD ls t) (1 : Int) = mm true (cutD ls t) (1 : Int) ∧ (nat_lit 1 = nat_lit 1 ∧ (0 : Nat) = (0 : Nat)) ∧ i.snd.snd = j.snd.snd ∧ wSub IntKind.i64 (Int.ofNat i.fst) (1 : Int) = Int.ofNat j.fst ∧ True) ∧ (((0 : (Ty.int IntKind.i64).den) = (0 : (Ty.int IntKind.i64).den) ∧ ([] : List UInt8) = ([] : List UInt8) ∧ ([] : List UInt8) = ([] : List UInt8) ∧ (0 : (Ty.int IntKind.i64).den) = (0 : (Ty.int IntKind.i64).den) ∧ false = false ∧ True) ∧ (i.snd.fst.fst = j.snd.fst.fst ∧ i.snd.fst.snd.fst = j.snd.fst.snd.fst ∧ i.snd.fst.snd.snd.fst = j.snd.fst.snd.snd.fst ∧ i.snd.fst.snd.snd.snd.fst = j.snd.fst.snd.snd.snd.fst ∧ i.snd.fst.snd.snd.snd.snd.fst = j.snd.fst.snd.snd.snd.snd.fst ∧ True) ∧ True) ∧ True)))) ∧ (decide (Int.ofNat i.fst ≥ mm true (cutD ls t) (1 : Int)) = false → nat_lit 5 ≤ (Nat.succ (nat_lit 1)).succ.succ.succ ∧ nat_lit 5 ≤ nat_lit 5 ∧ ((i.snd.fst.fst, i.snd.fst.snd.fst, i.snd.fst.snd.snd.fst, i.snd.fst.snd.snd.snd.fst, i.snd.fst.snd.snd.snd.snd.fst, ()), i.snd.snd, ()) = (winR ls t, winL ls t, ()) ∧ () = ()))) (by kernel_rfl) ?_
  simp only [Nat.le_refl, Nat.succ_eq_add_one, Nat.reduceAdd, Nat.reduceLeDiff, Nat.zero_le, pair_unit, mk_eta, len_bne, eqD_bne, bne_iff_ne, bne_eq_false_iff_eq, beq_iff_eq, beq_eq_false_iff_ne, true_and, and_true, and_self, eq_self, lt_iff, nthI_nat, bnd_iff, decide_eq_true_eq, decide_eq_false_iff_not, Nat.sub_eq, nz, ne_eq, not_false_eq_true, Prod.mk.injEq, Int.reduceEq, Nat.reduceEqDiff, forall_const, implies_true, bne_self_eq_false, Bool.true_eq_false, Bool.false_eq_true, false_implies, reduceCtorEq, Bool.not_true, Bool.not_false, List.all_cons, List.all_nil, Bool.and_true, Bool.not_eq_true, Bool.not_eq_false, Bool.not_eq_true', Bool.not_eq_false', Decidable.not_not]; try simp only [lenL]
  simp only [low_in]
  refine ⟨hl, fun hf => ⟨⟨(List.length ls, rec0, 0), wn_start ls t, ⟨rfl, rfl⟩, rfl, rfl, rfl, rfl, rfl⟩, ?_⟩⟩
  rintro ⟨i, r, f⟩ h
  have hle : i ≤ List.length ls := h.2.1
  refine ⟨fun hi => ?_, fun hi => ?_⟩
  · have hi2 : lowN ls t + 1 ≤ i := Int.ofNat_le.1 hi
    obtain ⟨k, rfl⟩ : ∃ k, i = k + 1 := ⟨i - 1, by omega⟩
    have hk : lowN ls t ≤ k := Nat.le_of_succ_le_succ hi2
    have e : wSub .i64 (Int.ofNat (k + 1)) 1 = Int.ofNat k := sub1_succ (Nat.le_of_lt hle) hf
    simp only [e]
    refine ⟨bnd_nat hle, fun l hx => ⟨fun hh => ⟨(k, r, f), wn_none h hk hx (hit_none (Int.not_le.2 hh)), Nat.lt_succ_self k, ⟨rfl, rfl⟩, rfl, rfl, rfl, rfl, rfl⟩, fun hh => ⟨bnd_nat hle, fun l' hx' => ?_⟩⟩⟩
    obtain rfl : l = l' := Option.some.inj (hx.symm.trans hx')
    have hh : idx (atPath t) l ≥ 0 := Int.not_lt.1 hh
    refine ⟨idx_in hh, fun x hr => ?_⟩
    have hs := hit_some hh hr
    refine ⟨fun h0 => ?_, fun h0 => ?_⟩
    · have h0 : f = 0 := h0
      subst h0
      exact ⟨fun hst => win_set2 (wn_stop0 h hk hx hs hst) (ok_hit ho hx hr), fun hst => ⟨(k, x, Int.ofNat (k + 1)), wn_first h hk hx hs hst, Nat.lt_succ_self k, ⟨rfl, rfl⟩, rfl, rfl, rfl, rfl, rfl⟩⟩
    · exact ⟨fun hst => win_set2 (wn_stop1 h h0 hk hx hs hst) (fun hn => absurd (not_stops (h.2.2.2.2 h0)).1 hn), fun hst => ⟨(k, r, f), wn_keep h h0 hk hx hs hst, Nat.lt_succ_self k, ⟨rfl, rfl⟩, rfl, rfl, rfl, rfl, rfl⟩⟩
  · exact wn_end h (by
      have h1 : lowN ls t ≤ i := h.1
      have : ¬ lowN ls t + 1 ≤ i := fun h => hi (Int.ofNat_le.2 h)
      omega)
end Go.Proofs.YtjkipndhdemnoaaGreatDoor
namespace Go.Proofs.YtjkipndhdemnoaaGreatDoor
open Go.Ab Go.Fn
def s_faultAt : FSpec := { ps := [.v (.slice tRec), .v I], rs := [.v I], pre := fun x => okL x.1 ∧ ∃ k : Nat, x.2.1 = Int.ofNat k ∧ k < List.length (α := Rec) x.1 ∧ k < 1099511627776, fn := fun x => (Fn.faultI x.1 x.2.1, ()), upd := fun _ => () }
theorem fo_faultAt : FO 112 s_faultAt := by
  refine fo (specs := [(147, s_parent), (148, s_find), (149, s_recOK), (150, s_fault), (151, s_PathLess), (60, s_first)]) (clos := []) (fun x => [(2000005, .ofSegs fun _ => [(15, ([16,17,18,19,20,21,22,23,24,25], fun _ => [(47, .d .bool (Fn.sameB x.1 x.2.1))])), (54, ([55,56,57,58,59,60,61], fun _ => [(83, .d .bool (Fn.dirB x.1 x.2.1))]))])]) ⟨fo_parent, fo_find, fo_RecordOK, fo_RecordFault, fo_PathLess, fo_first, trivial⟩ trivial Tryz.func112 rfl rfl ?_
  rintro ⟨l, i, ⟨⟩⟩ ⟨hl, i, rfl, hi, hb⟩
  refine vcOf (bnd (Int.ofNat i) (lenL l) ∧ ∀ (x : Int × List UInt8 × List UInt8 × Int × Bool × Unit), nthI l (Int.ofNat i) = some x → nat_lit 5 ≤ (Nat.succ (nat_lit 1)).succ.succ.succ ∧ nat_lit 5 ≤ nat_lit 5 ∧ nat_lit 2 ≤ (Nat.succ (nat_lit 1)).succ.succ.succ ∧ true = true ∧ x.snd.fst.length ≤ (100000000 : Nat) ∧ ((!parentS x.snd.fst == ([] : List UInt8)) = true → boundLo (Int.ofNat i) (lenL l) ∧ true = true ∧ True ∧ nat_lit 5 ≤ (Nat.succ (nat_lit 1)).succ.succ.succ ∧ nat_lit 5 ≤ (Nat.succ (nat_lit 1)).succ.succ.succ ∧ nat_lit 2 ≤ (Nat.succ (nat_lit 1)).succ.succ.succ ∧ true = true ∧ x.snd.fst.length ≤ (100000000 : Nat) ∧ true = true ∧ x.snd.fst.length ≤ (100000000 : Nat) ∧ ((decide (Int.ofNat i > (0 : Int)) = true → IntKind.i64 = IntKind.i64 ∧ bnd (mm true (wSub IntKind.i64 (Int.ofNat i) (1 : Int)) (0 : Int)) (lenL l) ∧ ∀ (x_1 : Int × List UInt8 × List UInt8 × Int × Bool × Unit), nthI l (mm true (wSub IntKind.i64 (Int.ofNat i) (1 : Int)) (0 : Int)) = some x_1 → nat_lit 1 ≤ (Nat.succ (nat_lit 1)).succ.succ ∧ nat_lit 2 ≤ (Nat.succ (nat_lit 1)).succ.succ.succ ∧ (l = l ∧ Int.ofNat i = Int.ofNat i ∧ (0 : Int) = (0 : Int) ∧ (nat_lit 0 = nat_lit 0 ∧ (0 : Nat) = (0 : Nat)) ∧ idx (atPath (parentS x.snd.fst)) (subL l (0 : Nat) (tN (Int.ofNat i))) = idx (atPath (parentS x.snd.fst)) (subL l (0 : Nat) (tN (Int.ofNat i))) ∧ parentS x.snd.fst = parentS x.snd.fst ∧ l = l ∧ Int.ofNat i = Int.ofNat i ∧ (x.fst = x.fst ∧ x.snd.fst = x.snd.fst ∧ x.snd.snd.fst = x.snd.snd.fst ∧ x.snd.snd.snd.fst = x.snd.snd.snd.fst ∧ x.snd.snd.snd.snd.fst = x.snd.snd.snd.snd.fst ∧ True) ∧ (x.fst = x.fst ∧ x.snd.fst = x.snd.fst ∧ x.snd.snd.fst = x.snd.snd.fst ∧ x.snd.snd.snd.fst = x.snd.snd.snd.fst ∧ x.snd.snd.snd.snd.fst = x.snd.snd.snd.snd.fst ∧ True) ∧ (nat_lit 0 = nat_lit 0 ∧ nat_lit 1 = nat_lit 1) ∧ x.snd.fst = x.snd.fst ∧ parentS x.snd.fst = parentS x.snd.fst ∧ parentS x.snd.fst = parentS x.snd.fst ∧ (!parentS x.snd.fst == ([] : List UInt8)) = !parentS x.snd.fst == ([] : List UInt8) ∧ l = l ∧ Int.ofNat i = Int.ofNat i ∧ subL l (0 : Nat) (tN (Int.ofNat i)) = subL l (0 : Nat) (tN (Int.ofNat i)) ∧ parentS x.snd.fst = parentS x.snd.fst ∧ idx (atPath (parentS x.snd.fst)) (subL l (0 : Nat) (tN (Int.ofNat i))) = idx (atPath (parentS x.snd.fst)) (subL l (0 : Nat) (tN (Int.ofNat i))) ∧ Int.ofNat i = Int.ofNat i ∧ decide (Int.ofNat i ≥ (16 : Int)) = decide (Int.ofNat i ≥ (16 : Int)) ∧ ((4 : Nat) = (4 : Nat) ∧ decide (Int.ofNat i ≥ (16 : Int)) = decide (Int.ofNat i ≥ (16 : Int))) ∧ ((3 : Nat) = (3 : Nat) ∧ (6 : Int) = (6 : Int)) ∧ ((4 : Nat) = (4 : Nat) ∧ true = true) ∧ (x.fst = x.fst ∧ x.snd.fst = x.snd.fst ∧ x.snd.snd.fst = x.snd.snd.fst ∧ x.snd.snd.snd.fst = x.snd.snd.snd.fst ∧ x.snd.snd.snd.snd.fst = x.snd.snd.snd.snd.fst ∧ True) ∧ decide (recFault (x.fst, x.snd.fst, x.snd.snd.fst, x.snd.snd.snd.fst, x.snd.snd.snd.snd.fst, ()) = (0 : Int)) = decide (recFault (x.fst, x.snd.fst, x.snd.snd.fst, x.snd.snd.snd.fst, x.snd.snd.snd.snd.fst, ()) = (0 : Int)) ∧ (!decide (recFault (x.fst, x.snd.fst, x.snd.snd.fst, x.snd.snd.snd.fst, x.snd.snd.snd.snd.fst, ()) = (0 : Int))) = !decide (recFault (x.fst, x.snd.fst, x.snd.snd.fst, x.snd.snd.snd.fst, x.snd.snd.snd.snd.fst, ()) = (0 : Int)) ∧ ((4 : Nat) = (4 : Nat) ∧ (!decide (recFault (x.fst, x.snd.fst, x.snd.snd.fst, x.snd.snd.snd.fst, x.snd.snd.snd.snd.fst, ()) = (0 : Int))) = !decide (recFault (x.fst, x.snd.fst, x.snd.snd.fst, x.snd.snd.snd.fst, x.snd.snd.snd.snd.fst, ()) = (0 : Int))) ∧ (x.fst = x.fst ∧ x.snd.fst = x.snd.fst ∧ x.snd.snd.fst = x.snd.snd.fst ∧ x.snd.snd.snd.fst = x.snd.snd.snd.fst ∧ x.snd.snd.snd.snd.fst = x.snd.snd.snd.snd.fst ∧ True) ∧ recFault (x.fst, x.snd.fst, x.snd.snd.fst, x.snd.snd.snd.fst, x.snd.snd.snd.snd.fst, ()) = recFault (x.fst, x.snd.fst, x.snd.snd.fst, x.snd.snd.snd.fst, x.snd.snd.snd.snd.fst, ()) ∧ ((3 : Nat) = (3 : Nat) ∧ recFault (x.fst, x.snd.fst, x.snd.snd.fst, x.snd.snd.snd.fst, x.snd.snd.snd.snd.fst, ()) = recFault (x.fst, x.snd.fst, x.snd.snd.fst, x.snd.snd.snd.fst, x.snd.snd.snd.snd.fst, ())) ∧ Int.ofNat i = Int.ofNat i ∧ decide (Int.ofNat i > (0 : Int)) = decide (Int.ofNat i > (0 : Int)) ∧ true = decide (Int.ofNat i > (0 : Int)) ∧ (x_1.snd.fst == x.snd.fst) = sameB l (Int.ofNat i) ∧ ((3 : Nat) = (3 : Nat) ∧ (18 : Int) = (18 : Int)) ∧ Int.ofNat i = Int.ofNat i ∧ decide (Int.ofNat i > (0 : Int)) = decide (Int.ofNat i > (0 : Int)) ∧ ((3 : Nat) = (3 : Nat) ∧ (11 : Int) = (11 : Int)) ∧ idx (atPath (parentS x.snd.fst)) (subL l (0 : Nat) (tN (Int.ofNat i))) = idx (atPath (parentS x.snd.fst)) (subL l (0 : Nat) (tN (Int.ofNat i))) ∧ decide (idx (atPath (parentS x.snd.fst)) (subL l (0 : Nat) (tN (Int.ofNat i))) < (0 : Int)) = decide (idx (atPath (parentS x.snd.fst)) (subL l (0 : Nat) (tN (Int.ofNat i))) < (0 : Int)) ∧ ((4 : Nat) = (4 : Nat) ∧ decide (idx (atPath (parentS x.snd.fst)) (subL l (0 : Nat) (tN (Int.ofNat i))) < (0 : Int)) = decide (idx (atPath (parentS x.snd.fst)) (subL l (0 : Nat) (tN (Int.ofNat i))) < (0 : Int))) ∧ ((3 : Nat) = (3 : Nat) ∧ (12 : Int) = (12 : Int)) ∧ (nat_lit 0 = nat_lit 0 ∧ nat_lit 1 = nat_lit 1) ∧ x.snd.fst = x.snd.fst ∧ ((3 : Nat) = (3 : Nat) ∧ (13 : Int) = (13 : Int)) ∧ True) ∧ ((x.fst = x.fst ∧ x.snd.fst = x.snd.fst ∧ x.snd.snd.fst = x.snd.snd.fst ∧ x.snd.snd.snd.fst = x.snd.snd.snd.fst ∧ x.snd.snd.snd.snd.fst = x.snd.snd.snd.snd.fst ∧ True) ∧ True) ∧ True) ∧ (decide (Int.ofNat i > (0 : Int)) = false → (l = l ∧ Int.ofNat i = Int.ofNat i ∧ (0 : Int) = (0 : Int) ∧ (nat_lit 0 = nat_lit 0 ∧ (0 : Nat) = (0 : Nat)) ∧ idx (atPath (parentS x.snd.fst)) (subL l (0 : Nat) (tN (Int.ofNat i))) = idx (atPath (parentS x.snd.fst)) (subL l (0 : Nat) (tN (Int.ofNat i))) ∧ parentS x.snd.fst = parentS x.snd.fst ∧ l = l ∧ Int.ofNat i = Int.ofNat i ∧ (x.fst = x.fst ∧ x.snd.fst = x.snd.fst ∧ x.snd.snd.fst = x.snd.snd.fst ∧ x.snd.snd.snd.fst = x.snd.snd.snd.fst ∧ x.snd.snd.snd.snd.fst = x.snd.snd.snd.snd.fst ∧ True) ∧ (x.fst = x.fst ∧ x.snd.fst = x.snd.fst ∧ x.snd.snd.fst = x.snd.snd.fst ∧ x.snd.snd.snd.fst = x.snd.snd.snd.fst ∧ x.snd.snd.snd.snd.fst = x.snd.snd.snd.snd.fst ∧ True) ∧ (nat_lit 0 = nat_lit 0 ∧ nat_lit 1 = nat_lit 1) ∧ x.snd.fst = x.snd.fst ∧ parentS x.snd.fst = parentS x.snd.fst ∧ parentS x.snd.fst = parentS x.snd.fst ∧ (!parentS x.snd.fst == ([] : List UInt8)) = !parentS x.snd.fst == ([] : List UInt8) ∧ l = l ∧ Int.ofNat i = Int.ofNat i ∧ subL l (0 : Nat) (tN (Int.ofNat i)) = subL l (0 : Nat) (tN (Int.ofNat i)) ∧ parentS x.snd.fst = parentS x.snd.fst ∧ idx (atPath (parentS x.snd.fst)) (subL l (0 : Nat) (tN (Int.ofNat i))) = idx (atPath (parentS x.snd.fst)) (subL l (0 : Nat) (tN (Int.ofNat i))) ∧ Int.ofNat i = Int.ofNat i ∧ decide (Int.ofNat i ≥ (16 : Int)) = decide (Int.ofNat i ≥ (16 : Int)) ∧ ((4 : Nat) = (4 : Nat) ∧ decide (Int.ofNat i ≥ (16 : Int)) = decide (Int.ofNat i ≥ (16 : Int))) ∧ ((3 : Nat) = (3 : Nat) ∧ (6 : Int) = (6 : Int)) ∧ ((4 : Nat) = (4 : Nat) ∧ true = true) ∧ (x.fst = x.fst ∧ x.snd.fst = x.snd.fst ∧ x.snd.snd.fst = x.snd.snd.fst ∧ x.snd.snd.snd.fst = x.snd.snd.snd.fst ∧ x.snd.snd.snd.snd.fst = x.snd.snd.snd.snd.fst ∧ True) ∧ decide (recFault (x.fst, x.snd.fst, x.snd.snd.fst, x.snd.snd.snd.fst, x.snd.snd.snd.snd.fst, ()) = (0 : Int)) = decide (recFault (x.fst, x.snd.fst, x.snd.snd.fst, x.snd.snd.snd.fst, x.snd.snd.snd.snd.fst, ()) = (0 : Int)) ∧ (!decide (recFault (x.fst, x.snd.fst, x.snd.snd.fst, x.snd.snd.snd.fst, x.snd.snd.snd.snd.fst, ()) = (0 : Int))) = !decide (recFault (x.fst, x.snd.fst, x.snd.snd.fst, x.snd.snd.snd.fst, x.snd.snd.snd.snd.fst, ()) = (0 : Int)) ∧ ((4 : Nat) = (4 : Nat) ∧ (!decide (recFault (x.fst, x.snd.fst, x.snd.snd.fst, x.snd.snd.snd.fst, x.snd.snd.snd.snd.fst, ()) = (0 : Int))) = !decide (recFault (x.fst, x.snd.fst, x.snd.snd.fst, x.snd.snd.snd.fst, x.snd.snd.snd.snd.fst, ()) = (0 : Int))) ∧ (x.fst = x.fst ∧ x.snd.fst = x.snd.fst ∧ x.snd.snd.fst = x.snd.snd.fst ∧ x.snd.snd.snd.fst = x.snd.snd.snd.fst ∧ x.snd.snd.snd.snd.fst = x.snd.snd.snd.snd.fst ∧ True) ∧ recFault (x.fst, x.snd.fst, x.snd.snd.fst, x.snd.snd.snd.fst, x.snd.snd.snd.snd.fst, ()) = recFault (x.fst, x.snd.fst, x.snd.snd.fst, x.snd.snd.snd.fst, x.snd.snd.snd.snd.fst, ()) ∧ ((3 : Nat) = (3 : Nat) ∧ recFault (x.fst, x.snd.fst, x.snd.snd.fst, x.snd.snd.snd.fst, x.snd.snd.snd.snd.fst, ()) = recFault (x.fst, x.snd.fst, x.snd.snd.fst, x.snd.snd.snd.fst, x.snd.snd.snd.snd.fst, ())) ∧ Int.ofNat i = Int.ofNat i ∧ decide (Int.ofNat i > (0 : Int)) = decide (Int.ofNat i > (0 : Int)) ∧ false = decide (Int.ofNat i > (0 : Int)) ∧ false = sameB l (Int.ofNat i) ∧ ((3 : Nat) = (3 : Nat) ∧ (18 : Int) = (18 : Int)) ∧ Int.ofNat i = Int.ofNat i ∧ decide (Int.ofNat i > (0 : Int)) = decide (Int.ofNat i > (0 : Int)) ∧ ((3 : Nat) = (3 : Nat) ∧ (11 : Int) = (11 : Int)) ∧ idx (atPath (parentS x.snd.fst)) (subL l (0 : Nat) (tN (Int.ofNat i))) = idx (atPath (parentS x.snd.fst)) (subL l (0 : Nat) (tN (Int.ofNat i))) ∧ decide (idx (atPath (parentS x.snd.fst)) (subL l (0 : Nat) (tN (Int.ofNat i))) < (0 : Int)) = decide (idx (atPath (parentS x.snd.fst)) (subL l (0 : Nat) (tN (Int.ofNat i))) < (0 : Int)) ∧ ((4 : Nat) = (4 : Nat) ∧ decide (idx (atPath (parentS x.snd.fst)) (subL l (0 : Nat) (tN (Int.ofNat i))) < (0 : Int)) = decide (idx (atPath (parentS x.snd.fst)) (subL l (0 : Nat) (tN (Int.ofNat i))) < (0 : Int))) ∧ ((3 : Nat) = (3 : Nat) ∧ (12 : Int) = (12 : Int)) ∧ (nat_lit 0 = nat_lit 0 ∧ nat_lit 1 = nat_lit 1) ∧ x.snd.fst = x.snd.fst ∧ ((3 : Nat) = (3 : Nat) ∧ (13 : Int) = (13 : Int)) ∧ True) ∧ ((x.fst = x.fst ∧ x.snd.fst = x.snd.fst ∧ x.snd.snd.fst = x.snd.snd.fst ∧ x.snd.snd.snd.fst = x.snd.snd.snd.fst ∧ x.snd.snd.snd.snd.fst = x.snd.snd.snd.snd.fst ∧ True) ∧ True) ∧ True)) ∧ (decide (Int.ofNat i > (0 : Int)) = true → IntKind.i64 = IntKind.i64 ∧ bnd (mm true (wSub IntKind.i64 (Int.ofNat i) (1 : Int)) (0 : Int)) (lenL l) ∧ ∀ (x_1 : Int × List UInt8 × List UInt8 × Int × Bool × Unit), nthI l (mm true (wSub IntKind.i64 (Int.ofNat i) (1 : Int)) (0 : Int)) = some x_1 → nat_lit 1 ≤ (Nat.succ (nat_lit 1)).succ.succ ∧ nat_lit 2 ≤ (Nat.succ (nat_lit 1)).succ.succ.succ ∧ true = true ∧ (x_1.snd.fst.length ≤ (100000000 : Nat) ∧ x.snd.fst.length ≤ (100000000 : Nat)) ∧ true = true ∧ x.snd.fst.length ≤ (100000000 : Nat) ∧ (((!parentS x.snd.fst == ([] : List UInt8)) = true → IntKind.i64 = IntKind.i64 ∧ bnd (mm true (idx (atPath (parentS x.snd.fst)) (subL l (0 : Nat) (tN (Int.ofNat i)))) (0 : Int)) (lenL l) ∧ ∀ (x_2 : Int × List UInt8 × List UInt8 × Int × Bool × Unit), nthI l (mm true (idx (atPath (parentS x.snd.fst)) (subL l (0 : Nat) (tN (Int.ofNat i)))) (0 : Int)) = some x_2 → nat_lit 1 ≤ (Nat.succ (nat_lit 1)).succ.succ.succ ∧ (l = l ∧ Int.ofNat i = Int.ofNat i ∧ (0 : Int) = (0 : Int) ∧ (nat_lit 0 = nat_lit 0 ∧ (0 : Nat) = (0 : Nat)) ∧ idx (atPath (parentS x.snd.fst)) (subL l (0 : Nat) (tN (Int.ofNat i))) = idx (atPath (parentS x.snd.fst)) (subL l (0 : Nat) (tN (Int.ofNat i))) ∧ parentS x.snd.fst = parentS x.snd.fst ∧ l = l ∧ Int.ofNat i = Int.ofNat i ∧ (x.fst = x.fst ∧ x.snd.fst = x.snd.fst ∧ x.snd.snd.fst = x.snd.snd.fst ∧ x.snd.snd.snd.fst = x.snd.snd.snd.fst ∧ x.snd.snd.snd.snd.fst = x.snd.snd.snd.snd.fst ∧ True) ∧ (x.fst = x.fst ∧ x.snd.fst = x.snd.fst ∧ x.snd.snd.fst = x.snd.snd.fst ∧ x.snd.snd.snd.fst = x.snd.snd.snd.fst ∧ x.snd.snd.snd.snd.fst = x.snd.snd.snd.snd.fst ∧ True) ∧ (nat_lit 0 = nat_lit 0 ∧ nat_lit 1 = nat_lit 1) ∧ x.snd.fst = x.snd.fst ∧ parentS x.snd.fst = parentS x.snd.fst ∧ parentS x.snd.fst = parentS x.snd.fst ∧ (!parentS x.snd.fst == ([] : List UInt8)) = !parentS x.snd.fst == ([] : List UInt8) ∧ l = l ∧ Int.ofNat i = Int.ofNat i ∧ subL l (0 : Nat) (tN (Int.ofNat i)) = subL l (0 : Nat) (tN (Int.ofNat i)) ∧ parentS x.snd.fst = parentS x.snd.fst ∧ idx (atPath (parentS x.snd.fst)) (subL l (0 : Nat) (tN (Int.ofNat i))) = idx (atPath (parentS x.snd.fst)) (subL l (0 : Nat) (tN (Int.ofNat i))) ∧ Int.ofNat i = Int.ofNat i ∧ decide (Int.ofNat i ≥ (16 : Int)) = decide (Int.ofNat i ≥ (16 : Int)) ∧ ((4 : Nat) = (4 : Nat) ∧ decide (Int.ofNat i ≥ (16 : Int)) = decide (Int.ofNat i ≥ (16 : Int))) ∧ ((3 : Nat) = (3 : Nat) ∧ (6 : Int) = (6 : Int)) ∧ ((4 : Nat) = (4 : Nat) ∧ true = true) ∧ (x.fst = x.fst ∧ x.snd.fst = x.snd.fst ∧ x.snd.snd.fst = x.snd.snd.fst ∧ x.snd.snd.snd.fst = x.snd.snd.snd.fst ∧ x.snd.snd.snd.snd.fst = x.snd.snd.snd.snd.fst ∧ True) ∧ decide (recFault (x.fst, x.snd.fst, x.snd.snd.fst, x.snd.snd.snd.fst, x.snd.snd.snd.snd.fst, ()) = (0 : Int)) = decide (recFault (x.fst, x.snd.fst, x.snd.snd.fst, x.snd.snd.snd.fst, x.snd.snd.snd.snd.fst, ()) = (0 : Int)) ∧ (!decide (recFault (x.fst, x.snd.fst, x.snd.snd.fst, x.snd.snd.snd.fst, x.snd.snd.snd.snd.fst, ()) = (0 : Int))) = !decide (recFault (x.fst, x.snd.fst, x.snd.snd.fst, x.snd.snd.snd.fst, x.snd.snd.snd.snd.fst, ()) = (0 : Int)) ∧ ((4 : Nat) = (4 : Nat) ∧ (!decide (recFault (x.fst, x.snd.fst, x.snd.snd.fst, x.snd.snd.snd.fst, x.snd.snd.snd.snd.fst, ()) = (0 : Int))) = !decide (recFault (x.fst, x.snd.fst, x.snd.snd.fst, x.snd.snd.snd.fst, x.snd.snd.snd.snd.fst, ()) = (0 : Int))) ∧ (x.fst = x.fst ∧ x.snd.fst = x.snd.fst ∧ x.snd.snd.fst = x.snd.snd.fst ∧ x.snd.snd.snd.fst = x.snd.snd.snd.fst ∧ x.snd.snd.snd.snd.fst = x.snd.snd.snd.snd.fst ∧ True) ∧ recFault (x.fst, x.snd.fst, x.snd.snd.fst, x.snd.snd.snd.fst, x.snd.snd.snd.snd.fst, ()) = recFault (x.fst, x.snd.fst, x.snd.snd.fst, x.snd.snd.snd.fst, x.snd.snd.snd.snd.fst, ()) ∧ ((3 : Nat) = (3 : Nat) ∧ recFault (x.fst, x.snd.fst, x.snd.snd.fst, x.snd.snd.snd.fst, x.snd.snd.snd.snd.fst, ()) = recFault (x.fst, x.snd.fst, x.snd.snd.fst, x.snd.snd.snd.fst, x.snd.snd.snd.snd.fst, ())) ∧ Int.ofNat i = Int.ofNat i ∧ decide (Int.ofNat i > (0 : Int)) = decide (Int.ofNat i > (0 : Int)) ∧ decide (Int.ofNat i > (0 : Int)) = decide (Int.ofNat i > (0 : Int)) ∧ sameB l (Int.ofNat i) = sameB l (Int.ofNat i) ∧ ((4 : Nat) = (4 : Nat) ∧ sameB l (Int.ofNat i) = sameB l (Int.ofNat i)) ∧ ((3 : Nat) = (3 : Nat) ∧ (18 : Int) = (18 : Int)) ∧ Int.ofNat i = Int.ofNat i ∧ decide (Int.ofNat i > (0 : Int)) = decide (Int.ofNat i > (0 : Int)) ∧ true = true ∧ l = l ∧ Int.ofNat i = Int.ofNat i ∧ wSub IntKind.i64 (Int.ofNat i) (1 : Int) = wSub IntKind.i64 (Int.ofNat i) (1 : Int) ∧ mm true (wSub IntKind.i64 (Int.ofNat i) (1 : Int)) (0 : Int) = mm true (wSub IntKind.i64 (Int.ofNat i) (1 : Int)) (0 : Int) ∧ (x_1.fst = x_1.fst ∧ x_1.snd.fst = x_1.snd.fst ∧ x_1.snd.snd.fst = x_1.snd.snd.fst ∧ x_1.snd.snd.snd.fst = x_1.snd.snd.snd.fst ∧ x_1.snd.snd.snd.snd.fst = x_1.snd.snd.snd.snd.fst ∧ True) ∧ (x_1.snd.fst = x_1.snd.fst ∧ x_1.snd.snd.fst = x_1.snd.snd.fst ∧ x_1.snd.snd.snd.fst = x_1.snd.snd.snd.fst ∧ x_1.snd.snd.snd.snd.fst = x_1.snd.snd.snd.snd.fst ∧ True) ∧ x_1.snd.fst = x_1.snd.fst ∧ (nat_lit 0 = nat_lit 0 ∧ nat_lit 1 = nat_lit 1) ∧ x.snd.fst = x.snd.fst ∧ pathLess x_1.snd.fst x.snd.fst = pathLess x_1.snd.fst x.snd.fst ∧ (!pathLess x_1.snd.fst x.snd.fst) = !pathLess x_1.snd.fst x.snd.fst ∧ (!pathLess x_1.snd.fst x.snd.fst) = !pathLess x_1.snd.fst x.snd.fst ∧ ((4 : Nat) = (4 : Nat) ∧ (!pathLess x_1.snd.fst x.snd.fst) = !pathLess x_1.snd.fst x.snd.fst) ∧ ((3 : Nat) = (3 : Nat) ∧ (11 : Int) = (11 : Int)) ∧ idx (atPath (parentS x.snd.fst)) (subL l (0 : Nat) (tN (Int.ofNat i))) = idx (atPath (parentS x.snd.fst)) (subL l (0 : Nat) (tN (Int.ofNat i))) ∧ decide (idx (atPath (parentS x.snd.fst)) (subL l (0 : Nat) (tN (Int.ofNat i))) < (0 : Int)) = decide (idx (atPath (parentS x.snd.fst)) (subL l (0 : Nat) (tN (Int.ofNat i))) < (0 : Int)) ∧ ((4 : Nat) = (4 : Nat) ∧ decide (idx (atPath (parentS x.snd.fst)) (subL l (0 : Nat) (tN (Int.ofNat i))) < (0 : Int)) = decide (idx (atPath (parentS x.snd.fst)) (subL l (0 : Nat) (tN (Int.ofNat i))) < (0 : Int))) ∧ ((3 : Nat) = (3 : Nat) ∧ (12 : Int) = (12 : Int)) ∧ (nat_lit 0 = nat_lit 0 ∧ nat_lit 1 = nat_lit 1) ∧ x.snd.fst = x.snd.fst ∧ parentS x.snd.fst = parentS x.snd.fst ∧ (!parentS x.snd.fst == ([] : List UInt8)) = !parentS x.snd.fst == ([] : List UInt8) ∧ true = !parentS x.snd.fst == ([] : List UInt8) ∧ (x_2.fst != (3 : Int)) = dirB l (Int.ofNat i) ∧ ((3 : Nat) = (3 : Nat) ∧ (13 : Int) = (13 : Int)) ∧ True) ∧ ((x.fst = x.fst ∧ x.snd.fst = x.snd.fst ∧ x.snd.snd.fst = x.snd.snd.fst ∧ x.snd.snd.snd.fst = x.snd.snd.snd.fst ∧ x.snd.snd.snd.snd.fst = x.snd.snd.snd.snd.fst ∧ True) ∧ True) ∧ True) ∧ ((!parentS x.snd.fst == ([] : List UInt8)) = false → (l = l ∧ Int.ofNat i = Int.ofNat i ∧ (0 : Int) = (0 : Int) ∧ (nat_lit 0 = nat_lit 0 ∧ (0 : Nat) = (0 : Nat)) ∧ idx (atPath (parentS x.snd.fst)) (subL l (0 : Nat) (tN (Int.ofNat i))) = idx (atPath (parentS x.snd.fst)) (subL l (0 : Nat) (tN (Int.ofNat i))) ∧ parentS x.snd.fst = parentS x.snd.fst ∧ l = l ∧ Int.ofNat i = Int.ofNat i ∧ (x.fst = x.fst ∧ x.snd.fst = x.snd.fst ∧ x.snd.snd.fst = x.snd.snd.fst ∧ x.snd.snd.snd.fst = x.snd.snd.snd.fst ∧ x.snd.snd.snd.snd.fst = x.snd.snd.snd.snd.fst ∧ True) ∧ (x.fst = x.fst ∧ x.snd.fst = x.snd.fst ∧ x.snd.snd.fst = x.snd.snd.fst ∧ x.snd.snd.snd.fst = x.snd.snd.snd.fst ∧ x.snd.snd.snd.snd.fst = x.snd.snd.snd.snd.fst ∧ True) ∧ (nat_lit 0 = nat_lit 0 ∧ nat_lit 1 = nat_lit 1) ∧ x.snd.fst = x.snd.fst ∧ parentS x.snd.fst = parentS x.snd.fst ∧ parentS x.snd.fst = parentS x.snd.fst ∧ (!parentS x.snd.fst == ([] : List UInt8)) = !parentS x.snd.fst == ([] : List UInt8) ∧ l = l ∧ Int.ofNat i = Int.ofNat i ∧ subL l (0 : Nat) (tN (Int.ofNat i)) = subL l (0 : Nat) (tN (Int.ofNat i)) ∧ parentS x.snd.fst = parentS x.snd.fst ∧ idx (atPath (parentS x.snd.fst)) (subL l (0 : Nat) (tN (Int.ofNat i))) = idx (atPath (parentS x.snd.fst)) (subL l (0 : Nat) (tN (Int.ofNat i))) ∧ Int.ofNat i = Int.ofNat i ∧ decide (Int.ofNat i ≥ (16 : Int)) = decide (Int.ofNat i ≥ (16 : Int)) ∧ ((4 : Nat) = (4 : Nat) ∧ decide (Int.ofNat i ≥ (16 : Int)) = decide (Int.ofNat i ≥ (16 : Int))) ∧ ((3 : Nat) = (3 : Nat) ∧ (6 : Int) = (6 : Int)) ∧ ((4 : Nat) = (4 : Nat) ∧ true = true) ∧ (x.fst = x.fst ∧ x.snd.fst = x.snd.fst ∧ x.snd.snd.fst = x.snd.snd.fst ∧ x.snd.snd.snd.fst = x.snd.snd.snd.fst ∧ x.snd.snd.snd.snd.fst = x.snd.snd.snd.snd.fst ∧ True) ∧ decide (recFault (x.fst, x.snd.fst, x.snd.snd.fst, x.snd.snd.snd.fst, x.snd.snd.snd.snd.fst, ()) = (0 : Int)) = decide (recFault (x.fst, x.snd.fst, x.snd.snd.fst, x.snd.snd.snd.fst, x.snd.snd.snd.snd.fst, ()) = (0 : Int)) ∧ (!decide (recFault (x.fst, x.snd.fst, x.snd.snd.fst, x.snd.snd.snd.fst, x.snd.snd.snd.snd.fst, ()) = (0 : Int))) = !decide (recFault (x.fst, x.snd.fst, x.snd.snd.fst, x.snd.snd.snd.fst, x.snd.snd.snd.snd.fst, ()) = (0 : Int)) ∧ ((4 : Nat) = (4 : Nat) ∧ (!decide (recFault (x.fst, x.snd.fst, x.snd.snd.fst, x.snd.snd.snd.fst, x.snd.snd.snd.snd.fst, ()) = (0 : Int))) = !decide (recFault (x.fst, x.snd.fst, x.snd.snd.fst, x.snd.snd.snd.fst, x.snd.snd.snd.snd.fst, ()) = (0 : Int))) ∧ (x.fst = x.fst ∧ x.snd.fst = x.snd.fst ∧ x.snd.snd.fst = x.snd.snd.fst ∧ x.snd.snd.snd.fst = x.snd.snd.snd.fst ∧ x.snd.snd.snd.snd.fst = x.snd.snd.snd.snd.fst ∧ True) ∧ recFault (x.fst, x.snd.fst, x.snd.snd.fst, x.snd.snd.snd.fst, x.snd.snd.snd.snd.fst, ()) = recFault (x.fst, x.snd.fst, x.snd.snd.fst, x.snd.snd.snd.fst, x.snd.snd.snd.snd.fst, ()) ∧ ((3 : Nat) = (3 : Nat) ∧ recFault (x.fst, x.snd.fst, x.snd.snd.fst, x.snd.snd.snd.fst, x.snd.snd.snd.snd.fst, ()) = recFault (x.fst, x.snd.fst, x.snd.snd.fst, x.snd.snd.snd.fst, x.snd.snd.snd.snd.fst, ())) ∧ Int.ofNat i = Int.ofNat i ∧ decide (Int.ofNat i > (0 : Int)) = decide (Int.ofNat i > (0 : Int)) ∧ decide (Int.ofNat i > (0 : Int)) = decide (Int.ofNat i > (0 : Int)) ∧ sameB l (Int.ofNat i) = sameB l (Int.ofNat i) ∧ ((4 : Nat) = (4 : Nat) ∧ sameB l (Int.ofNat i) = sameB l (Int.ofNat i)) ∧ ((3 : Nat) = (3 : Nat) ∧ (18 : Int) = (18 : Int)) ∧ Int.ofNat i = Int.ofNat i ∧ decide (Int.ofNat i > (0 : Int)) = decide (Int.ofNat i > (0 : Int)) ∧ true = true ∧ l = l ∧ Int.ofNat i = Int.ofNat i ∧ wSub IntKind.i64 (Int.ofNat i) (1 : Int) = wSub IntKind.i64 (Int.ofNat i) (1 : Int) ∧ mm true (wSub IntKind.i64 (Int.ofNat i) (1 : Int)) (0 : Int) = mm true (wSub IntKind.i64 (Int.ofNat i) (1 : Int)) (0 : Int) ∧ (x_1.fst = x_1.fst ∧ x_1.snd.fst = x_1.snd.fst ∧ x_1.snd.snd.fst = x_1.snd.snd.fst ∧ x_1.snd.snd.snd.fst = x_1.snd.snd.snd.fst ∧ x_1.snd.snd.snd.snd.fst = x_1.snd.snd.snd.snd.fst ∧ True) ∧ (x_1.snd.fst = x_1.snd.fst ∧ x_1.snd.snd.fst = x_1.snd.snd.fst ∧ x_1.snd.snd.snd.fst = x_1.snd.snd.snd.fst ∧ x_1.snd.snd.snd.snd.fst = x_1.snd.snd.snd.snd.fst ∧ True) ∧ x_1.snd.fst = x_1.snd.fst ∧ (nat_lit 0 = nat_lit 0 ∧ nat_lit 1 = nat_lit 1) ∧ x.snd.fst = x.snd.fst ∧ pathLess x_1.snd.fst x.snd.fst = pathLess x_1.snd.fst x.snd.fst ∧ (!pathLess x_1.snd.fst x.snd.fst) = !pathLess x_1.snd.fst x.snd.fst ∧ (!pathLess x_1.snd.fst x.snd.fst) = !pathLess x_1.snd.fst x.snd.fst ∧ ((4 : Nat) = (4 : Nat) ∧ (!pathLess x_1.snd.fst x.snd.fst) = !pathLess x_1.snd.fst x.snd.fst) ∧ ((3 : Nat) = (3 : Nat) ∧ (11 : Int) = (11 : Int)) ∧ idx (atPath (parentS x.snd.fst)) (subL l (0 : Nat) (tN (Int.ofNat i))) = idx (atPath (parentS x.snd.fst)) (subL l (0 : Nat) (tN (Int.ofNat i))) ∧ decide (idx (atPath (parentS x.snd.fst)) (subL l (0 : Nat) (tN (Int.ofNat i))) < (0 : Int)) = decide (idx (atPath (parentS x.snd.fst)) (subL l (0 : Nat) (tN (Int.ofNat i))) < (0 : Int)) ∧ ((4 : Nat) = (4 : Nat) ∧ decide (idx (atPath (parentS x.snd.fst)) (subL l (0 : Nat) (tN (Int.ofNat i))) < (0 : Int)) = decide (idx (atPath (parentS x.snd.fst)) (subL l (0 : Nat) (tN (Int.ofNat i))) < (0 : Int))) ∧ ((3 : Nat) = (3 : Nat) ∧ (12 : Int) = (12 : Int)) ∧ (nat_lit 0 = nat_lit 0 ∧ nat_lit 1 = nat_lit 1) ∧ x.snd.fst = x.snd.fst ∧ parentS x.snd.fst = parentS x.snd.fst ∧ (!parentS x.snd.fst == ([] : List UInt8)) = !parentS x.snd.fst == ([] : List UInt8) ∧ false = !parentS x.snd.fst == ([] : List UInt8) ∧ false = dirB l (Int.ofNat i) ∧ ((3 : Nat) = (3 : Nat) ∧ (13 : Int) = (13 : Int)) ∧ True) ∧ ((x.fst = x.fst ∧ x.snd.fst = x.snd.fst ∧ x.snd.snd.fst = x.snd.snd.fst ∧ x.snd.snd.snd.fst = x.snd.snd.snd.fst ∧ x.snd.snd.snd.snd.fst = x.snd.snd.snd.snd.fst ∧ True) ∧ True) ∧ True)) ∧ true = true ∧ True ∧ true = true ∧ True ∧ (first (AnyV.b (decide (Int.ofNat i ≥ (16 : Int))) :: AnyV.n (6 : Int) :: AnyV.b true :: AnyV.n (first ((AnyV.b !decide (recFault (x.fst, x.snd.fst, x.snd.snd.fst, x.snd.snd.snd.fst, x.snd.snd.snd.snd.fst, ()) = (0 : Int))) :: AnyV.n (recFault (x.fst, x.snd.fst, x.snd.snd.fst, x.snd.snd.snd.fst, x.snd.snd.snd.snd.fst, ())) :: AnyV.b (sameB l (Int.ofNat i)) :: AnyV.n (18 : Int) :: (AnyV.b !pathLess x_1.snd.fst x.snd.fst) :: AnyV.n (11 : Int) :: AnyV.b (decide (idx (atPath (parentS x.snd.fst)) (subL l (0 : Nat) (tN (Int.ofNat i))) < (0 : Int))) :: AnyV.n (12 : Int) :: AnyV.b (dirB l (Int.ofNat i)) :: AnyV.n (13 : Int) :: ([] : List AnyV))) :: ([] : List AnyV)), ()) = (faultI l (Int.ofNat i), ()) ∧ () = ()) ∧ (decide (Int.ofNat i > (0 : Int)) = false → true = true ∧ x.snd.fst.length ≤ (100000000 : Nat) ∧ (((!parentS x.snd.fst == ([] : List UInt8)) = true → IntKind.i64 = IntKind.i64 ∧ bnd (mm true (idx (atPath (parentS x.snd.fst)) (subL l (0 : Nat) (tN (Int.ofNat i)))) (0 : Int)) (lenL l) ∧ ∀ (x_1 : Int × List UInt8 × List UInt8 × Int × Bool × Unit), nthI l (mm true (idx (atPath (parentS x.snd.fst)) (subL l (0 : Nat) (tN (Int.ofNat i)))) (0 : Int)) = some x_1 → nat_lit 1 ≤ (Nat.succ (nat_lit 1)).succ.succ.succ ∧ (l = l ∧ Int.ofNat i = Int.ofNat i ∧ (0 : Int) = (0 : Int) ∧ (nat_lit 0 = nat_lit 0 ∧ (0 : Nat) = (0 : Nat)) ∧ idx (atPath (parentS x.snd.fst)) (subL l (0 : Nat) (tN (Int.ofNat i))) = idx (atPath (parentS x.snd.fst)) (subL l (0 : Nat) (tN (Int.ofNat i))) ∧ parentS x.snd.fst = parentS x.snd.fst ∧ l = l ∧ Int.ofNat i = Int.ofNat i ∧ (x.fst = x.fst ∧ x.snd.fst = x.snd.fst ∧ x.snd.snd.fst = x.snd.snd.fst ∧ x.snd.snd.snd.fst = x.snd.snd.snd.fst ∧ x.snd.snd.snd.snd.fst = x.snd.snd.snd.snd.fst ∧ True) ∧ (x.fst = x.fst ∧ x.snd.fst = x.snd.fst ∧ x.snd.snd.fst = x.snd.snd.fst ∧ x.snd.snd.snd.fst = x.snd.snd.snd.fst ∧ x.snd.snd.snd.snd.fst = x.snd.snd.snd.snd.fst ∧ True) ∧ (nat_lit 0 = nat_lit 0 ∧ nat_lit 1 = nat_lit 1) ∧ x.snd.fst = x.snd.fst ∧ parentS x.snd.fst = parentS x.snd.fst ∧ parentS x.snd.fst = parentS x.snd.fst ∧ (!parentS x.snd.fst == ([] : List UInt8)) = !parentS x.snd.fst == ([] : List UInt8) ∧ l = l ∧ Int.ofNat i = Int.ofNat i ∧ subL l (0 : Nat) (tN (Int.ofNat i)) = subL l (0 : Nat) (tN (Int.ofNat i)) ∧ parentS x.snd.fst = parentS x.snd.fst ∧ idx (atPath (parentS x.snd.fst)) (subL l (0 : Nat) (tN (Int.ofNat i))) = idx (atPath (parentS x.snd.fst)) (subL l (0 : Nat) (tN (Int.ofNat i))) ∧ Int.ofNat i = Int.ofNat i ∧ decide (Int.ofNat i ≥ (16 : Int)) = decide (Int.ofNat i ≥ (16 : Int)) ∧ ((4 : Nat) = (4 : Nat) ∧ decide (Int.ofNat i ≥ (16 : Int)) = decide (Int.ofNat i ≥ (16 : Int))) ∧ ((3 : Nat) = (3 : Nat) ∧ (6 : Int) = (6 : Int)) ∧ ((4 : Nat) = (4 : Nat) ∧ true = true) ∧ (x.fst = x.fst ∧ x.snd.fst = x.snd.fst ∧ x.snd.snd.fst = x.snd.snd.fst ∧ x.snd.snd.snd.fst = x.snd.snd.snd.fst ∧ x.snd.snd.snd.snd.fst = x.snd.snd.snd.snd.fst ∧ True) ∧ decide (recFault (x.fst, x.snd.fst, x.snd.snd.fst, x.snd.snd.snd.fst, x.snd.snd.snd.snd.fst, ()) = (0 : Int)) = decide (recFault (x.fst, x.snd.fst, x.snd.snd.fst, x.snd.snd.snd.fst, x.snd.snd.snd.snd.fst, ()) = (0 : Int)) ∧ (!decide (recFault (x.fst, x.snd.fst, x.snd.snd.fst, x.snd.snd.snd.fst, x.snd.snd.snd.snd.fst, ()) = (0 : Int))) = !decide (recFault (x.fst, x.snd.fst, x.snd.snd.fst, x.snd.snd.snd.fst, x.snd.snd.snd.snd.fst, ()) = (0 : Int)) ∧ ((4 : Nat) = (4 : Nat) ∧ (!decide (recFault (x.fst, x.snd.fst, x.snd.snd.fst, x.snd.snd.snd.fst, x.snd.snd.snd.snd.fst, ()) = (0 : Int))) = !decide (recFault (x.fst, x.snd.fst, x.snd.snd.fst, x.snd.snd.snd.fst, x.snd.snd.snd.snd.fst, ()) = (0 : Int))) ∧ (x.fst = x.fst ∧ x.snd.fst = x.snd.fst ∧ x.snd.snd.fst = x.snd.snd.fst ∧ x.snd.snd.snd.fst = x.snd.snd.snd.fst ∧ x.snd.snd.snd.snd.fst = x.snd.snd.snd.snd.fst ∧ True) ∧ recFault (x.fst, x.snd.fst, x.snd.snd.fst, x.snd.snd.snd.fst, x.snd.snd.snd.snd.fst, ()) = recFault (x.fst, x.snd.fst, x.snd.snd.fst, x.snd.snd.snd.fst, x.snd.snd.snd.snd.fst, ()) ∧ ((3 : Nat) = (3 : Nat) ∧ recFault (x.fst, x.snd.fst, x.snd.snd.fst, x.snd.snd.snd.fst, x.snd.snd.snd.snd.fst, ()) = recFault (x.fst, x.snd.fst, x.snd.snd.fst, x.snd.snd.snd.fst, x.snd.snd.snd.snd.fst, ())) ∧ Int.ofNat i = Int.ofNat i ∧ decide (Int.ofNat i > (0 : Int)) = decide (Int.ofNat i > (0 : Int)) ∧ decide (Int.ofNat i > (0 : Int)) = decide (Int.ofNat i > (0 : Int)) ∧ sameB l (Int.ofNat i) = sameB l (Int.ofNat i) ∧ ((4 : Nat) = (4 : Nat) ∧ sameB l (Int.ofNat i) = sameB l (Int.ofNat i)) ∧ ((3 : Nat) = (3 : Nat) ∧ (18 : Int) = (18 : Int)) ∧ Int.ofNat i = Int.ofNat i ∧ decide (Int.ofNat i > (0 : Int)) = decide (Int.ofNat i > (0 : Int)) ∧ false = false ∧ True ∧ True ∧ True ∧ True ∧ True ∧ True ∧ True ∧ True ∧ True ∧ True ∧ True ∧ false = false ∧ ((4 : Nat) = (4 : Nat) ∧ false = false) ∧ ((3 : Nat) = (3 : Nat) ∧ (11 : Int) = (11 : Int)) ∧ idx (atPath (parentS x.snd.fst)) (subL l (0 : Nat) (tN (Int.ofNat i))) = idx (atPath (parentS x.snd.fst)) (subL l (0 : Nat) (tN (Int.ofNat i))) ∧ decide (idx (atPath (parentS x.snd.fst)) (subL l (0 : Nat) (tN (Int.ofNat i))) < (0 : Int)) = decide (idx (atPath (parentS x.snd.fst)) (subL l (0 : Nat) (tN (Int.ofNat i))) < (0 : Int)) ∧ ((4 : Nat) = (4 : Nat) ∧ decide (idx (atPath (parentS x.snd.fst)) (subL l (0 : Nat) (tN (Int.ofNat i))) < (0 : Int)) = decide (idx (atPath (parentS x.snd.fst)) (subL l (0 : Nat) (tN (Int.ofNat i))) < (0 : Int))) ∧ ((3 : Nat) = (3 : Nat) ∧ (12 : Int) = (12 : Int)) ∧ (nat_lit 0 = nat_lit 0 ∧ nat_lit 1 = nat_lit 1) ∧ x.snd.fst = x.snd.fst ∧ parentS x.snd.fst = parentS x.snd.fst ∧ (!parentS x.snd.fst == ([] : List UInt8)) = !parentS x.snd.fst == ([] : List UInt8) ∧ true = !parentS x.snd.fst == ([] : List UInt8) ∧ (x_1.fst != (3 : Int)) = dirB l (Int.ofNat i) ∧ ((3 : Nat) = (3 : Nat) ∧ (13 : Int) = (13 : Int)) ∧ True) ∧ ((x.fst = x.fst ∧ x.snd.fst = x.snd.fst ∧ x.snd.snd.fst = x.snd.snd.fst ∧ x.snd.snd.snd.fst = x.snd.snd.snd.fst ∧ x.snd.snd.snd.snd.fst = x.snd.snd.snd.snd.fst ∧ True) ∧ True) ∧ True) ∧ ((!parentS x.snd.fst == ([] : List UInt8)) = false → (l = l ∧ Int.ofNat i = Int.ofNat i ∧ (0 : Int) = (0 : Int) ∧ (nat_lit 0 = nat_lit 0 ∧ (0 : Nat) = (0 : Nat)) ∧ idx (atPath (parentS x.snd.fst)) (subL l (0 : Nat) (tN (Int.ofNat i))) = idx (atPath (parentS x.snd.fst)) (subL l (0 : Nat) (tN (Int.ofNat i))) ∧ parentS x.snd.fst = parentS x.snd.fst ∧ l = l ∧ Int.ofNat i = Int.ofNat i ∧ (x.fst = x.fst ∧ x.snd.fst = x.snd.fst ∧ x.snd.snd.fst = x.snd.snd.fst ∧ x.snd.snd.snd.fst = x.snd.snd.snd.fst ∧ x.snd.snd.snd.snd.fst = x.snd.snd.snd.snd.fst ∧ True) ∧ (x.fst = x.fst ∧ x.snd.fst = x.snd.fst ∧ x.snd.snd.fst = x.snd.snd.fst ∧ x.snd.snd.snd.fst = x.snd.snd.snd.fst ∧ x.snd.snd.snd.snd.fst = x.snd.snd.snd.snd.fst ∧ True) ∧ (nat_lit 0 = nat_lit 0 ∧ nat_lit 1 = nat_lit 1) ∧ x.snd.fst = x.snd.fst ∧ parentS x.snd.fst = parentS x.snd.fst ∧ parentS x.snd.fst = parentS x.snd.fst ∧ (!parentS x.snd.fst == ([] : List UInt8)) = !parentS x.snd.fst == ([] : List UInt8) ∧ l = l ∧ Int.ofNat i = Int.ofNat i ∧ subL l (0 : Nat) (tN (Int.ofNat i)) = subL l (0 : Nat) (tN (Int.ofNat i)) ∧ parentS x.snd.fst = parentS x.snd.fst ∧ idx (atPath (parentS x.snd.fst)) (subL l (0 : Nat) (tN (Int.ofNat i))) = idx (atPath (parentS x.snd.fst)) (subL l (0 : Nat) (tN (Int.ofNat i))) ∧ Int.ofNat i = Int.ofNat i ∧ decide (Int.ofNat i ≥ (16 : Int)) = decide (Int.ofNat i ≥ (16 : Int)) ∧ ((4 : Nat) = (4 : Nat) ∧ decide (Int.ofNat i ≥ (16 : Int)) = decide (Int.ofNat i ≥ (16 : Int))) ∧ ((3 : Nat) = (3 : Nat) ∧ (6 : Int) = (6 : Int)) ∧ ((4 : Nat) = (4 : Nat) ∧ true = true) ∧ (x.fst = x.fst ∧ x.snd.fst = x.snd.fst ∧ x.snd.snd.fst = x.snd.snd.fst ∧ x.snd.snd.snd.fst = x.snd.snd.snd.fst ∧ x.snd.snd.snd.snd.fst = x.snd.snd.snd.snd.fst ∧ True) ∧ decide (recFault (x.fst, x.snd.fst, x.snd.snd.fst, x.snd.snd.snd.fst, x.snd.snd.snd.snd.fst, ()) = (0 : Int)) = decide (recFault (x.fst, x.snd.fst, x.snd.snd.fst, x.snd.snd.snd.fst, x.snd.snd.snd.snd.fst, ()) = (0 : Int)) ∧ (!decide (recFault (x.fst, x.snd.fst, x.snd.snd.fst, x.snd.snd.snd.fst, x.snd.snd.snd.snd.fst, ()) = (0 : Int))) = !decide (recFault (x.fst, x.snd.fst, x.snd.snd.fst, x.snd.snd.snd.fst, x.snd.snd.snd.snd.fst, ()) = (0 : Int)) ∧ ((4 : Nat) = (4 : Nat) ∧ (!decide (recFault (x.fst, x.snd.fst, x.snd.snd.fst, x.snd.snd.snd.fst, x.snd.snd.snd.snd.fst, ()) = (0 : Int))) = !decide (recFault (x.fst, x.snd.fst, x.snd.snd.fst, x.snd.snd.snd.fst, x.snd.snd.snd.snd.fst, ()) = (0 : Int))) ∧ (x.fst = x.fst ∧ x.snd.fst = x.snd.fst ∧ x.snd.snd.fst = x.snd.snd.fst ∧ x.snd.snd.snd.fst = x.snd.snd.snd.fst ∧ x.snd.snd.snd.snd.fst = x.snd.snd.snd.snd.fst ∧ True) ∧ recFault (x.fst, x.snd.fst, x.snd.snd.fst, x.snd.snd.snd.fst, x.snd.snd.snd.snd.fst, ()) = recFault (x.fst, x.snd.fst, x.snd.snd.fst, x.snd.snd.snd.fst, x.snd.snd.snd.snd.fst, ()) ∧ ((3 : Nat) = (3 : Nat) ∧ recFault (x.fst, x.snd.fst, x.snd.snd.fst, x.snd.snd.snd.fst, x.snd.snd.snd.snd.fst, ()) = recFault (x.fst, x.snd.fst, x.snd.snd.fst, x.snd.snd.snd.fst, x.snd.snd.snd.snd.fst, ())) ∧ Int.ofNat i = Int.ofNat i ∧ decide (Int.ofNat i > (0 : Int)) = decide (Int.ofNat i > (0 : Int)) ∧ decide (Int.ofNat i > (0 : Int)) = decide (Int.ofNat i > (0 : Int)) ∧ sameB l (Int.ofNat i) = sameB l (Int.ofNat i) ∧ ((4 : Nat) = (4 : Nat) ∧ sameB l (Int.ofNat i) = sameB l (Int.ofNat i)) ∧ ((3 : Nat) = (3 : Nat) ∧ (18 : Int) = (18 : Int)) ∧ Int.ofNat i = Int.ofNat i ∧ decide (Int.ofNat i > (0 : Int)) = decide (Int.ofNat i > (0 : Int)) ∧ false = false ∧ True ∧ True ∧ True ∧ True ∧ True ∧ True ∧ True ∧ True ∧ True ∧ True ∧ True ∧ false = false ∧ ((4 : Nat) = (4 : Nat) ∧ false = false) ∧ ((3 : Nat) = (3 : Nat) ∧ (11 : Int) = (11 : Int)) ∧ idx (atPath (parentS x.snd.fst)) (subL l (0 : Nat) (tN (Int.ofNat i))) = idx (atPath (parentS x.snd.fst)) (subL l (0 : Nat) (tN (Int.ofNat i))) ∧ decide (idx (atPath (parentS x.snd.fst)) (subL l (0 : Nat) (tN (Int.ofNat i))) < (0 : Int)) = decide (idx (atPath (parentS x.snd.fst)) (subL l (0 : Nat) (tN (Int.ofNat i))) < (0 : Int)) ∧ ((4 : Nat) = (4 : Nat) ∧ decide (idx (atPath (parentS x.snd.fst)) (subL l (0 : Nat) (tN (Int.ofNat i))) < (0 : Int)) = decide (idx (atPath (parentS x.snd.fst)) (subL l (0 : Nat) (tN (Int.ofNat i))) < (0 : Int))) ∧ ((3 : Nat) = (3 : Nat) ∧ (12 : Int) = (12 : Int)) ∧ (nat_lit 0 = nat_lit 0 ∧ nat_lit 1 = nat_lit 1) ∧ x.snd.fst = x.snd.fst ∧ parentS x.snd.fst = parentS x.snd.fst ∧ (!parentS x.snd.fst == ([] : List UInt8)) = !parentS x.snd.fst == ([] : List UInt8) ∧ false = !parentS x.snd.fst == ([] : List UInt8) ∧ false = dirB l (Int.ofNat i) ∧ ((3 : Nat) = (3 : Nat) ∧ (13 : Int) = (13 : Int)) ∧ True) ∧ ((x.fst = x.fst ∧ x.snd.fst = x.snd.fst ∧ x.snd.snd.fst = x.snd.snd.fst ∧ x.snd.snd.snd.fst = x.snd.snd.snd.fst ∧ x.snd.snd.snd.snd.fst = x.snd.snd.snd.snd.fst ∧ True) ∧ True) ∧ True)) ∧ true = true ∧ True ∧ true = true ∧ True ∧ (first (AnyV.b (decide (Int.ofNat i ≥ (16 : Int))) :: AnyV.n (6 : Int) :: AnyV.b true :: AnyV.n (first ((AnyV.b !decide (recFault (x.fst, x.snd.fst, x.snd.snd.fst, x.snd.snd.snd.fst, x.snd.snd.snd.snd.fst, ()) = (0 : Int))) :: AnyV.n (recFault (x.fst, x.snd.fst, x.snd.snd.fst, x.snd.snd.snd.fst, x.snd.snd.snd.snd.fst, ())) :: AnyV.b (sameB l (Int.ofNat i)) :: AnyV.n (18 : Int) :: AnyV.b false :: AnyV.n (11 : Int) :: AnyV.b (decide (idx (atPath (parentS x.snd.fst)) (subL l (0 : Nat) (tN (Int.ofNat i))) < (0 : Int))) :: AnyV.n (12 : Int) :: AnyV.b (dirB l (Int.ofNat i)) :: AnyV.n (13 : Int) :: ([] : List AnyV))) :: ([] : List AnyV)), ()) = (faultI l (Int.ofNat i), ()) ∧ () = ())) ∧ ((!parentS x.snd.fst == ([] : List UInt8)) = false → nat_lit 5 ≤ (Nat.succ (nat_lit 1)).succ.succ.succ ∧ nat_lit 5 ≤ (Nat.succ (nat_lit 1)).succ.succ.succ ∧ nat_lit 2 ≤ (Nat.succ (nat_lit 1)).succ.succ.succ ∧ true = true ∧ x.snd.fst.length ≤ (100000000 : Nat) ∧ true = true ∧ x.snd.fst.length ≤ (100000000 : Nat) ∧ ((decide (Int.ofNat i > (0 : Int)) = true → IntKind.i64 = IntKind.i64 ∧ bnd (mm true (wSub IntKind.i64 (Int.ofNat i) (1 : Int)) (0 : Int)) (lenL l) ∧ ∀ (x_1 : Int × List UInt8 × List UInt8 × Int × Bool × Unit), nthI l (mm true (wSub IntKind.i64 (Int.ofNat i) (1 : Int)) (0 : Int)) = some x_1 → nat_lit 1 ≤ (Nat.succ (nat_lit 1)).succ.succ ∧ nat_lit 2 ≤ (Nat.succ (nat_lit 1)).succ.succ.succ ∧ (l = l ∧ Int.ofNat i = Int.ofNat i ∧ (0 : Int) = (0 : Int) ∧ (nat_lit 0 = nat_lit 0 ∧ (0 : Nat) = (0 : Nat)) ∧ (0 : Int) = (0 : Int) ∧ parentS x.snd.fst = parentS x.snd.fst ∧ l = l ∧ Int.ofNat i = Int.ofNat i ∧ (x.fst = x.fst ∧ x.snd.fst = x.snd.fst ∧ x.snd.snd.fst = x.snd.snd.fst ∧ x.snd.snd.snd.fst = x.snd.snd.snd.fst ∧ x.snd.snd.snd.snd.fst = x.snd.snd.snd.snd.fst ∧ True) ∧ (x.fst = x.fst ∧ x.snd.fst = x.snd.fst ∧ x.snd.snd.fst = x.snd.snd.fst ∧ x.snd.snd.snd.fst = x.snd.snd.snd.fst ∧ x.snd.snd.snd.snd.fst = x.snd.snd.snd.snd.fst ∧ True) ∧ (nat_lit 0 = nat_lit 0 ∧ nat_lit 1 = nat_lit 1) ∧ x.snd.fst = x.snd.fst ∧ parentS x.snd.fst = parentS x.snd.fst ∧ parentS x.snd.fst = parentS x.snd.fst ∧ (!parentS x.snd.fst == ([] : List UInt8)) = !parentS x.snd.fst == ([] : List UInt8) ∧ Int.ofNat i = Int.ofNat i ∧ decide (Int.ofNat i ≥ (16 : Int)) = decide (Int.ofNat i ≥ (16 : Int)) ∧ ((4 : Nat) = (4 : Nat) ∧ decide (Int.ofNat i ≥ (16 : Int)) = decide (Int.ofNat i ≥ (16 : Int))) ∧ ((3 : Nat) = (3 : Nat) ∧ (6 : Int) = (6 : Int)) ∧ ((4 : Nat) = (4 : Nat) ∧ true = true) ∧ (x.fst = x.fst ∧ x.snd.fst = x.snd.fst ∧ x.snd.snd.fst = x.snd.snd.fst ∧ x.snd.snd.snd.fst = x.snd.snd.snd.fst ∧ x.snd.snd.snd.snd.fst = x.snd.snd.snd.snd.fst ∧ True) ∧ decide (recFault (x.fst, x.snd.fst, x.snd.snd.fst, x.snd.snd.snd.fst, x.snd.snd.snd.snd.fst, ()) = (0 : Int)) = decide (recFault (x.fst, x.snd.fst, x.snd.snd.fst, x.snd.snd.snd.fst, x.snd.snd.snd.snd.fst, ()) = (0 : Int)) ∧ (!decide (recFault (x.fst, x.snd.fst, x.snd.snd.fst, x.snd.snd.snd.fst, x.snd.snd.snd.snd.fst, ()) = (0 : Int))) = !decide (recFault (x.fst, x.snd.fst, x.snd.snd.fst, x.snd.snd.snd.fst, x.snd.snd.snd.snd.fst, ()) = (0 : Int)) ∧ ((4 : Nat) = (4 : Nat) ∧ (!decide (recFault (x.fst, x.snd.fst, x.snd.snd.fst, x.snd.snd.snd.fst, x.snd.snd.snd.snd.fst, ()) = (0 : Int))) = !decide (recFault (x.fst, x.snd.fst, x.snd.snd.fst, x.snd.snd.snd.fst, x.snd.snd.snd.snd.fst, ()) = (0 : Int))) ∧ (x.fst = x.fst ∧ x.snd.fst = x.snd.fst ∧ x.snd.snd.fst = x.snd.snd.fst ∧ x.snd.snd.snd.fst = x.snd.snd.snd.fst ∧ x.snd.snd.snd.snd.fst = x.snd.snd.snd.snd.fst ∧ True) ∧ recFault (x.fst, x.snd.fst, x.snd.snd.fst, x.snd.snd.snd.fst, x.snd.snd.snd.snd.fst, ()) = recFault (x.fst, x.snd.fst, x.snd.snd.fst, x.snd.snd.snd.fst, x.snd.snd.snd.snd.fst, ()) ∧ ((3 : Nat) = (3 : Nat) ∧ recFault (x.fst, x.snd.fst, x.snd.snd.fst, x.snd.snd.snd.fst, x.snd.snd.snd.snd.fst, ()) = recFault (x.fst, x.snd.fst, x.snd.snd.fst, x.snd.snd.snd.fst, x.snd.snd.snd.snd.fst, ())) ∧ Int.ofNat i = Int.ofNat i ∧ decide (Int.ofNat i > (0 : Int)) = decide (Int.ofNat i > (0 : Int)) ∧ true = decide (Int.ofNat i > (0 : Int)) ∧ (x_1.snd.fst == x.snd.fst) = sameB l (Int.ofNat i) ∧ ((3 : Nat) = (3 : Nat) ∧ (18 : Int) = (18 : Int)) ∧ Int.ofNat i = Int.ofNat i ∧ decide (Int.ofNat i > (0 : Int)) = decide (Int.ofNat i > (0 : Int)) ∧ ((3 : Nat) = (3 : Nat) ∧ (11 : Int) = (11 : Int)) ∧ (0 : Int) = (0 : Int) ∧ decide ((0 : Int) < (0 : Int)) = decide ((0 : Int) < (0 : Int)) ∧ ((4 : Nat) = (4 : Nat) ∧ decide ((0 : Int) < (0 : Int)) = decide ((0 : Int) < (0 : Int))) ∧ ((3 : Nat) = (3 : Nat) ∧ (12 : Int) = (12 : Int)) ∧ (nat_lit 0 = nat_lit 0 ∧ nat_lit 1 = nat_lit 1) ∧ x.snd.fst = x.snd.fst ∧ ((3 : Nat) = (3 : Nat) ∧ (13 : Int) = (13 : Int)) ∧ True) ∧ ((x.fst = x.fst ∧ x.snd.fst = x.snd.fst ∧ x.snd.snd.fst = x.snd.snd.fst ∧ x.snd.snd.snd.fst = x.snd.snd.snd.fst ∧ x.snd.snd.snd.snd.fst = x.snd.snd.snd.snd.fst ∧ True) ∧ True) ∧ True) ∧ (decide (Int.ofNat i > (0 : Int)) = false → (l = l ∧ Int.ofNat i = Int.ofNat i ∧ (0 : Int) = (0 : Int) ∧ (nat_lit 0 = nat_lit 0 ∧ (0 : Nat) = (0 : Nat)) ∧ (0 : Int) = (0 : Int) ∧ parentS x.snd.fst = parentS x.snd.fst ∧ l = l ∧ Int.ofNat i = Int.ofNat i ∧ (x.fst = x.fst ∧ x.snd.fst = x.snd.fst ∧ x.snd.snd.fst = x.snd.snd.fst ∧ x.snd.snd.snd.fst = x.snd.snd.snd.fst ∧ x.snd.snd.snd.snd.fst = x.snd.snd.snd.snd.fst ∧ True) ∧ (x.fst = x.fst ∧ x.snd.fst = x.snd.fst ∧ x.snd.snd.fst = x.snd.snd.fst ∧ x.snd.snd.snd.fst = x.snd.snd.snd.fst ∧ x.snd.snd.snd.snd.fst = x.snd.snd.snd.snd.fst ∧ True) ∧ (nat_lit 0 = nat_lit 0 ∧ nat_lit 1 = nat_lit 1) ∧ x.snd.fst = x.snd.fst ∧ parentS x.snd.fst = parentS x.snd.fst ∧ parentS x.snd.fst = parentS x.snd.fst ∧ (!parentS x.snd.fst == ([] : List UInt8)) = !parentS x.snd.fst == ([] : List UInt8) ∧ Int.ofNat i = Int.ofNat i ∧ decide (Int.ofNat i ≥ (16 : Int)) = decide (Int.ofNat i ≥ (16 : Int)) ∧ ((4 : Nat) = (4 : Nat) ∧ decide (Int.ofNat i ≥ (16 : Int)) = decide (Int.ofNat i ≥ (16 : Int))) ∧ ((3 : Nat) = (3 : Nat) ∧ (6 : Int) = (6 : Int)) ∧ ((4 : Nat) = (4 : Nat) ∧ true = true) ∧ (x.fst = x.fst ∧ x.snd.fst = x.snd.fst ∧ x.snd.snd.fst = x.snd.snd.fst ∧ x.snd.snd.snd.fst = x.snd.snd.snd.fst ∧ x.snd.snd.snd.snd.fst = x.snd.snd.snd.snd.fst ∧ True) ∧ decide (recFault (x.fst, x.snd.fst, x.snd.snd.fst, x.snd.snd.snd.fst, x.snd.snd.snd.snd.fst, ()) = (0 : Int)) = decide (recFault (x.fst, x.snd.fst, x.snd.snd.fst, x.snd.snd.snd.fst, x.snd.snd.snd.snd.fst, ()) = (0 : Int)) ∧ (!decide (recFault (x.fst, x.snd.fst, x.snd.snd.fst, x.snd.snd.snd.fst, x.snd.snd.snd.snd.fst, ()) = (0 : Int))) = !decide (recFault (x.fst, x.snd.fst, x.snd.snd.fst, x.snd.snd.snd.fst, x.snd.snd.snd.snd.fst, ()) = (0 : Int)) ∧ ((4 : Nat) = (4 : Nat) ∧ (!decide (recFault (x.fst, x.snd.fst, x.snd.snd.fst, x.snd.snd.snd.fst, x.snd.snd.snd.snd.fst, ()) = (0 : Int))) = !decide (recFault (x.fst, x.snd.fst, x.snd.snd.fst, x.snd.snd.snd.fst, x.snd.snd.snd.snd.fst, ()) = (0 : Int))) ∧ (x.fst = x.fst ∧ x.snd.fst = x.snd.fst ∧ x.snd.snd.fst = x.snd.snd.fst ∧ x.snd.snd.snd.fst = x.snd.snd.snd.fst ∧ x.snd.snd.snd.snd.fst = x.snd.snd.snd.snd.fst ∧ True) ∧ recFault (x.fst, x.snd.fst, x.snd.snd.fst, x.snd.snd.snd.fst, x.snd.snd.snd.snd.fst, ()) = recFault (x.fst, x.snd.fst, x.snd.snd.fst, x.snd.snd.snd.fst, x.snd.snd.snd.snd.fst, ()) ∧ ((3 : Nat) = (3 : Nat) ∧ recFault (x.fst, x.snd.fst, x.snd.snd.fst, x.snd.snd.snd.fst, x.snd.snd.snd.snd.fst, ()) = recFault (x.fst, x.snd.fst, x.snd.snd.fst, x.snd.snd.snd.fst, x.snd.snd.snd.snd.fst, ())) ∧ Int.ofNat i = Int.ofNat i ∧ decide (Int.ofNat i > (0 : Int)) = decide (Int.ofNat i > (0 : Int)) ∧ false = decide (Int.ofNat i > (0 : Int)) ∧ false = sameB l (Int.ofNat i) ∧ ((3 : Nat) = (3 : Nat) ∧ (18 : Int) = (18 : Int)) ∧ Int.ofNat i = Int.ofNat i ∧ decide (Int.ofNat i > (0 : Int)) = decide (Int.ofNat i > (0 : Int)) ∧ ((3 : Nat) = (3 : Nat) ∧ (11 : Int) = (11 : Int)) ∧ (0 : Int) = (0 : Int) ∧ decide ((0 : Int) < (0 : Int)) = decide ((0 : Int) < (0 : Int)) ∧ ((4 : Nat) = (4 : Nat) ∧ decide ((0 : Int) < (0 : Int)) = decide ((0 : Int) < (0 : Int))) ∧ ((3 : Nat) = (3 : Nat) ∧ (12 : Int) = (12 : Int)) ∧ (nat_lit 0 = nat_lit 0 ∧ nat_lit 1 = nat_lit 1) ∧ x.snd.fst = x.snd.fst ∧ ((3 : Nat) = (3 : Nat) ∧ (13 : Int) = (13 : Int)) ∧ True) ∧ ((x.fst = x.fst ∧ x.snd.fst = x.snd.fst ∧ x.snd.snd.fst = x.snd.snd.fst ∧ x.snd.snd.snd.fst = x.snd.snd.snd.fst ∧ x.snd.snd.snd.snd.fst = x.snd.snd.snd.snd.fst ∧ True) ∧ True) ∧ True)) ∧ (decide (Int.ofNat i > (0 : Int)) = true → IntKind.i64 = IntKind.i64 ∧ bnd (mm true (wSub IntKind.i64 (Int.ofNat i) (1 : Int)) (0 : Int)) (lenL l) ∧ ∀ (x_1 : Int × List UInt8 × List UInt8 × Int × Bool × Unit), nthI l (mm true (wSub IntKind.i64 (Int.ofNat i) (1 : Int)) (0 : Int)) = some x_1 → nat_lit 1 ≤ (Nat.succ (nat_lit 1)).succ.succ ∧ nat_lit 2 ≤ (Nat.succ (nat_lit 1)).succ.succ.succ ∧ true = true ∧ (x_1.snd.fst.length ≤ (100000000 : Nat) ∧ x.snd.fst.length ≤ (100000000 : Nat)) ∧ true = true ∧ x.snd.fst.length ≤ (100000000 : Nat) ∧ (((!parentS x.snd.fst == ([] : List UInt8)) = true → IntKind.i64 = IntKind.i64 ∧ bnd (mm true (0 : Int) (0 : Int)) (lenL l) ∧ ∀ (x_2 : Int × List UInt8 × List UInt8 × Int × Bool × Unit), nthI l (mm true (0 : Int) (0 : Int)) = some x_2 → nat_lit 1 ≤ (Nat.succ (nat_lit 1)).succ.succ.succ ∧ (l = l ∧ Int.ofNat i = Int.ofNat i ∧ (0 : Int) = (0 : Int) ∧ (nat_lit 0 = nat_lit 0 ∧ (0 : Nat) = (0 : Nat)) ∧ (0 : Int) = (0 : Int) ∧ parentS x.snd.fst = parentS x.snd.fst ∧ l = l ∧ Int.ofNat i = Int.ofNat i ∧ (x.fst = x.fst ∧ x.snd.fst = x.snd.fst ∧ x.snd.snd.fst = x.snd.snd.fst ∧ x.snd.snd.snd.fst = x.snd.snd.snd.fst ∧ x.snd.snd.snd.snd.fst = x.snd.snd.snd.snd.fst ∧ True) ∧ (x.fst = x.fst ∧ x.snd.fst = x.snd.fst ∧ x.snd.snd.fst = x.snd.snd.fst ∧ x.snd.snd.snd.fst = x.snd.snd.snd.fst ∧ x.snd.snd.snd.snd.fst = x.snd.snd.snd.snd.fst ∧ True) ∧ (nat_lit 0 = nat_lit 0 ∧ nat_lit 1 = nat_lit 1) ∧ x.snd.fst = x.snd.fst ∧ parentS x.snd.fst = parentS x.snd.fst ∧ parentS x.snd.fst = parentS x.snd.fst ∧ (!parentS x.snd.fst == ([] : List UInt8)) = !parentS x.snd.fst == ([] : List UInt8) ∧ Int.ofNat i = Int.ofNat i ∧ decide (Int.ofNat i ≥ (16 : Int)) = decide (Int.ofNat i ≥ (16 : Int)) ∧ ((4 : Nat) = (4 : Nat) ∧ decide (Int.ofNat i ≥ (16 : Int)) = decide (Int.ofNat i ≥ (16 : Int))) ∧ ((3 : Nat) = (3 : Nat) ∧ (6 : Int) = (6 : Int)) ∧ ((4 : Nat) = (4 : Nat) ∧ true = true) ∧ (x.fst = x.fst ∧ x.snd.fst = x.snd.fst ∧ x.snd.snd.fst = x.snd.snd.fst ∧ x.snd.snd.snd.fst = x.snd.snd.snd.fst ∧ x.snd.snd.snd.snd.fst = x.snd.snd.snd.snd.fst ∧ True) ∧ decide (recFault (x.fst, x.snd.fst, x.snd.snd.fst, x.snd.snd.snd.fst, x.snd.snd.snd.snd.fst, ()) = (0 : Int)) = decide (recFault (x.fst, x.snd.fst, x.snd.snd.fst, x.snd.snd.snd.fst, x.snd.snd.snd.snd.fst, ()) = (0 : Int)) ∧ (!decide (recFault (x.fst, x.snd.fst, x.snd.snd.fst, x.snd.snd.snd.fst, x.snd.snd.snd.snd.fst, ()) = (0 : Int))) = !decide (recFault (x.fst, x.snd.fst, x.snd.snd.fst, x.snd.snd.snd.fst, x.snd.snd.snd.snd.fst, ()) = (0 : Int)) ∧ ((4 : Nat) = (4 : Nat) ∧ (!decide (recFault (x.fst, x.snd.fst, x.snd.snd.fst, x.snd.snd.snd.fst, x.snd.snd.snd.snd.fst, ()) = (0 : Int))) = !decide (recFault (x.fst, x.snd.fst, x.snd.snd.fst, x.snd.snd.snd.fst, x.snd.snd.snd.snd.fst, ()) = (0 : Int))) ∧ (x.fst = x.fst ∧ x.snd.fst = x.snd.fst ∧ x.snd.snd.fst = x.snd.snd.fst ∧ x.snd.snd.snd.fst = x.snd.snd.snd.fst ∧ x.snd.snd.snd.snd.fst = x.snd.snd.snd.snd.fst ∧ True) ∧ recFault (x.fst, x.snd.fst, x.snd.snd.fst, x.snd.snd.snd.fst, x.snd.snd.snd.snd.fst, ()) = recFault (x.fst, x.snd.fst, x.snd.snd.fst, x.snd.snd.snd.fst, x.snd.snd.snd.snd.fst, ()) ∧ ((3 : Nat) = (3 : Nat) ∧ recFault (x.fst, x.snd.fst, x.snd.snd.fst, x.snd.snd.snd.fst, x.snd.snd.snd.snd.fst, ()) = recFault (x.fst, x.snd.fst, x.snd.snd.fst, x.snd.snd.snd.fst, x.snd.snd.snd.snd.fst, ())) ∧ Int.ofNat i = Int.ofNat i ∧ decide (Int.ofNat i > (0 : Int)) = decide (Int.ofNat i > (0 : Int)) ∧ decide (Int.ofNat i > (0 : Int)) = decide (Int.ofNat i > (0 : Int)) ∧ sameB l (Int.ofNat i) = sameB l (Int.ofNat i) ∧ ((4 : Nat) = (4 : Nat) ∧ sameB l (Int.ofNat i) = sameB l (Int.ofNat i)) ∧ ((3 : Nat) = (3 : Nat) ∧ (18 : Int) = (18 : Int)) ∧ Int.ofNat i = Int.ofNat i ∧ decide (Int.ofNat i > (0 : Int)) = decide (Int.ofNat i > (0 : Int)) ∧ true = true ∧ l = l ∧ Int.ofNat i = Int.ofNat i ∧ wSub IntKind.i64 (Int.ofNat i) (1 : Int) = wSub IntKind.i64 (Int.ofNat i) (1 : Int) ∧ mm true (wSub IntKind.i64 (Int.ofNat i) (1 : Int)) (0 : Int) = mm true (wSub IntKind.i64 (Int.ofNat i) (1 : Int)) (0 : Int) ∧ (x_1.fst = x_1.fst ∧ x_1.snd.fst = x_1.snd.fst ∧ x_1.snd.snd.fst = x_1.snd.snd.fst ∧ x_1.snd.snd.snd.fst = x_1.snd.snd.snd.fst ∧ x_1.snd.snd.snd.snd.fst = x_1.snd.snd.snd.snd.fst ∧ True) ∧ (x_1.snd.fst = x_1.snd.fst ∧ x_1.snd.snd.fst = x_1.snd.snd.fst ∧ x_1.snd.snd.snd.fst = x_1.snd.snd.snd.fst ∧ x_1.snd.snd.snd.snd.fst = x_1.snd.snd.snd.snd.fst ∧ True) ∧ x_1.snd.fst = x_1.snd.fst ∧ (nat_lit 0 = nat_lit 0 ∧ nat_lit 1 = nat_lit 1) ∧ x.snd.fst = x.snd.fst ∧ pathLess x_1.snd.fst x.snd.fst = pathLess x_1.snd.fst x.snd.fst ∧ (!pathLess x_1.snd.fst x.snd.fst) = !pathLess x_1.snd.fst x.snd.fst ∧ (!pathLess x_1.snd.fst x.snd.fst) = !pathLess x_1.snd.fst x.snd.fst ∧ ((4 : Nat) = (4 : Nat) ∧ (!pathLess x_1.snd.fst x.snd.fst) = !pathLess x_1.snd.fst x.snd.fst) ∧ ((3 : Nat) = (3 : Nat) ∧ (11 : Int) = (11 : Int)) ∧ (0 : Int) = (0 : Int) ∧ decide ((0 : Int) < (0 : Int)) = decide ((0 : Int) < (0 : Int)) ∧ ((4 : Nat) = (4 : Nat) ∧ decide ((0 : Int) < (0 : Int)) = decide ((0 : Int) < (0 : Int))) ∧ ((3 : Nat) = (3 : Nat) ∧ (12 : Int) = (12 : Int)) ∧ (nat_lit 0 = nat_lit 0 ∧ nat_lit 1 = nat_lit 1) ∧ x.snd.fst = x.snd.fst ∧ parentS x.snd.fst = parentS x.snd.fst ∧ (!parentS x.snd.fst == ([] : List UInt8)) = !parentS x.snd.fst == ([] : List UInt8) ∧ true = !parentS x.snd.fst == ([] : List UInt8) ∧ (x_2.fst != (3 : Int)) = dirB l (Int.ofNat i) ∧ ((3 : Nat) = (3 : Nat) ∧ (13 : Int) = (13 : Int)) ∧ True) ∧ ((x.fst = x.fst ∧ x.snd.fst = x.snd.fst ∧ x.snd.snd.fst = x.snd.snd.fst ∧ x.snd.snd.snd.fst = x.snd.snd.snd.fst ∧ x.snd.snd.snd.snd.fst = x.snd.snd.snd.snd.fst ∧ True) ∧ True) ∧ True) ∧ ((!parentS x.snd.fst == ([] : List UInt8)) = false → (l = l ∧ Int.ofNat i = Int.ofNat i ∧ (0 : Int) = (0 : Int) ∧ (nat_lit 0 = nat_lit 0 ∧ (0 : Nat) = (0 : Nat)) ∧ (0 : Int) = (0 : Int) ∧ parentS x.snd.fst = parentS x.snd.fst ∧ l = l ∧ Int.ofNat i = Int.ofNat i ∧ (x.fst = x.fst ∧ x.snd.fst = x.snd.fst ∧ x.snd.snd.fst = x.snd.snd.fst ∧ x.snd.snd.snd.fst = x.snd.snd.snd.fst ∧ x.snd.snd.snd.snd.fst = x.snd.snd.snd.snd.fst ∧ True) ∧ (x.fst = x.fst ∧ x.snd.fst = x.snd.fst ∧ x.snd.snd.fst = x.snd.snd.fst ∧ x.snd.snd.snd.fst = x.snd.snd.snd.fst ∧ x.snd.snd.snd.snd.fst = x.snd.snd.snd.snd.fst ∧ True) ∧ (nat_lit 0 = nat_lit 0 ∧ nat_lit 1 = nat_lit 1) ∧ x.snd.fst = x.snd.fst ∧ parentS x.snd.fst = parentS x.snd.fst ∧ parentS x.snd.fst = parentS x.snd.fst ∧ (!parentS x.snd.fst == ([] : List UInt8)) = !parentS x.snd.fst == ([] : List UInt8) ∧ Int.ofNat i = Int.ofNat i ∧ decide (Int.ofNat i ≥ (16 : Int)) = decide (Int.ofNat i ≥ (16 : Int)) ∧ ((4 : Nat) = (4 : Nat) ∧ decide (Int.ofNat i ≥ (16 : Int)) = decide (Int.ofNat i ≥ (16 : Int))) ∧ ((3 : Nat) = (3 : Nat) ∧ (6 : Int) = (6 : Int)) ∧ ((4 : Nat) = (4 : Nat) ∧ true = true) ∧ (x.fst = x.fst ∧ x.snd.fst = x.snd.fst ∧ x.snd.snd.fst = x.snd.snd.fst ∧ x.snd.snd.snd.fst = x.snd.snd.snd.fst ∧ x.snd.snd.snd.snd.fst = x.snd.snd.snd.snd.fst ∧ True) ∧ decide (recFault (x.fst, x.snd.fst, x.snd.snd.fst, x.snd.snd.snd.fst, x.snd.snd.snd.snd.fst, ()) = (0 : Int)) = decide (recFault (x.fst, x.snd.fst, x.snd.snd.fst, x.snd.snd.snd.fst, x.snd.snd.snd.snd.fst, ()) = (0 : Int)) ∧ (!decide (recFault (x.fst, x.snd.fst, x.snd.snd.fst, x.snd.snd.snd.fst, x.snd.snd.snd.snd.fst, ()) = (0 : Int))) = !decide (recFault (x.fst, x.snd.fst, x.snd.snd.fst, x.snd.snd.snd.fst, x.snd.snd.snd.snd.fst, ()) = (0 : Int)) ∧ ((4 : Nat) = (4 : Nat) ∧ (!decide (recFault (x.fst, x.snd.fst, x.snd.snd.fst, x.snd.snd.snd.fst, x.snd.snd.snd.snd.fst, ()) = (0 : Int))) = !decide (recFault (x.fst, x.snd.fst, x.snd.snd.fst, x.snd.snd.snd.fst, x.snd.snd.snd.snd.fst, ()) = (0 : Int))) ∧ (x.fst = x.fst ∧ x.snd.fst = x.snd.fst ∧ x.snd.snd.fst = x.snd.snd.fst ∧ x.snd.snd.snd.fst = x.snd.snd.snd.fst ∧ x.snd.snd.snd.snd.fst = x.snd.snd.snd.snd.fst ∧ True) ∧ recFault (x.fst, x.snd.fst, x.snd.snd.fst, x.snd.snd.snd.fst, x.snd.snd.snd.snd.fst, ()) = recFault (x.fst, x.snd.fst, x.snd.snd.fst, x.snd.snd.snd.fst, x.snd.snd.snd.snd.fst, ()) ∧ ((3 : Nat) = (3 : Nat) ∧ recFault (x.fst, x.snd.fst, x.snd.snd.fst, x.snd.snd.snd.fst, x.snd.snd.snd.snd.fst, ()) = recFault (x.fst, x.snd.fst, x.snd.snd.fst, x.snd.snd.snd.fst, x.snd.snd.snd.snd.fst, ())) ∧ Int.ofNat i = Int.ofNat i ∧ decide (Int.ofNat i > (0 : Int)) = decide (Int.ofNat i > (0 : Int)) ∧ decide (Int.ofNat i > (0 : Int)) = decide (Int.ofNat i > (0 : Int)) ∧ sameB l (Int.ofNat i) = sameB l (Int.ofNat i) ∧ ((4 : Nat) = (4 : Nat) ∧ sameB l (Int.ofNat i) = sameB l (Int.ofNat i)) ∧ ((3 : Nat) = (3 : Nat) ∧ (18 : Int) = (18 : Int)) ∧ Int.ofNat i = Int.ofNat i ∧ decide (Int.ofNat i > (0 : Int)) = decide (Int.ofNat i > (0 : Int)) ∧ true = true ∧ l = l ∧ Int.ofNat i = Int.ofNat i ∧ wSub IntKind.i64 (Int.ofNat i) (1 : Int) = wSub IntKind.i64 (Int.ofNat i) (1 : Int) ∧ mm true (wSub IntKind.i64 (Int.ofNat i) (1 : Int)) (0 : Int) = mm true (wSub IntKind.i64 (Int.ofNat i) (1 : Int)) (0 : Int) ∧ (x_1.fst = x_1.fst ∧ x_1.snd.fst = x_1.snd.fst ∧ x_1.snd.snd.fst = x_1.snd.snd.fst ∧ x_1.snd.snd.snd.fst = x_1.snd.snd.snd.fst ∧ x_1.snd.snd.snd.snd.fst = x_1.snd.snd.snd.snd.fst ∧ True) ∧ (x_1.snd.fst = x_1.snd.fst ∧ x_1.snd.snd.fst = x_1.snd.snd.fst ∧ x_1.snd.snd.snd.fst = x_1.snd.snd.snd.fst ∧ x_1.snd.snd.snd.snd.fst = x_1.snd.snd.snd.snd.fst ∧ True) ∧ x_1.snd.fst = x_1.snd.fst ∧ (nat_lit 0 = nat_lit 0 ∧ nat_lit 1 = nat_lit 1) ∧ x.snd.fst = x.snd.fst ∧ pathLess x_1.snd.fst x.snd.fst = pathLess x_1.snd.fst x.snd.fst ∧ (!pathLess x_1.snd.fst x.snd.fst) = !pathLess x_1.snd.fst x.snd.fst ∧ (!pathLess x_1.snd.fst x.snd.fst) = !pathLess x_1.snd.fst x.snd.fst ∧ ((4 : Nat) = (4 : Nat) ∧ (!pathLess x_1.snd.fst x.snd.fst) = !pathLess x_1.snd.fst x.snd.fst) ∧ ((3 : Nat) = (3 : Nat) ∧ (11 : Int) = (11 : Int)) ∧ (0 : Int) = (0 : Int) ∧ decide ((0 : Int) < (0 : Int)) = decide ((0 : Int) < (0 : Int)) ∧ ((4 : Nat) = (4 : Nat) ∧ decide ((0 : Int) < (0 : Int)) = decide ((0 : Int) < (0 : Int))) ∧ ((3 : Nat) = (3 : Nat) ∧ (12 : Int) = (12 : Int)) ∧ (nat_lit 0 = nat_lit 0 ∧ nat_lit 1 = nat_lit 1) ∧ x.snd.fst = x.snd.fst ∧ parentS x.snd.fst = parentS x.snd.fst ∧ (!parentS x.snd.fst == ([] : List UInt8)) = !parentS x.snd.fst == ([] : List UInt8) ∧ false = !parentS x.snd.fst == ([] : List UInt8) ∧ false = dirB l (Int.ofNat i) ∧ ((3 : Nat) = (3 : Nat) ∧ (13 : Int) = (13 : Int)) ∧ True) ∧ ((x.fst = x.fst ∧ x.snd.fst = x.snd.fst ∧ x.snd.snd.fst = x.snd.snd.fst ∧ x.snd.snd.snd.fst = x.snd.snd.snd.fst ∧ x.snd.snd.snd.snd.fst = x.snd.snd.snd.snd.fst ∧ True) ∧ True) ∧ True)) ∧ true = true ∧ True ∧ true = true ∧ True ∧ (first (AnyV.b (decide (Int.ofNat i ≥ (16 : Int))) :: AnyV.n (6 : Int) :: AnyV.b true :: AnyV.n (first ((AnyV.b !decide (recFault (x.fst, x.snd.fst, x.snd.snd.fst, x.snd.snd.snd.fst, x.snd.snd.snd.snd.fst, ()) = (0 : Int))) :: AnyV.n (recFault (x.fst, x.snd.fst, x.snd.snd.fst, x.snd.snd.snd.fst, x.snd.snd.snd.snd.fst, ())) :: AnyV.b (sameB l (Int.ofNat i)) :: AnyV.n (18 : Int) :: (AnyV.b !pathLess x_1.snd.fst x.snd.fst) :: AnyV.n (11 : Int) :: AnyV.b (decide ((0 : Int) < (0 : Int))) :: AnyV.n (12 : Int) :: AnyV.b (dirB l (Int.ofNat i)) :: AnyV.n (13 : Int) :: ([] : List AnyV))) :: ([] : List AnyV)), ()) = (faultI l (Int.ofNat i), ()) ∧ () = ()) ∧ (decide (Int.ofNat i > (0 : Int)) = false → true = true ∧ x.snd.fst.length ≤ (100000000 : Nat) ∧ (((!parentS x.snd.fst == ([] : List UInt8)) = true → IntKind.i64 = IntKind.i64 ∧ bnd (mm true (0 : Int) (0 : Int)) (lenL l) ∧ ∀ (x_1 : Int × List UInt8 × List UInt8 × Int × Bool × Unit), nthI l (mm true (0 : Int) (0 : Int)) = some x_1 → nat_lit 1 ≤ (Nat.succ (nat_lit 1)).succ.succ.succ ∧ (l = l ∧ Int.ofNat i = Int.ofNat i ∧ (0 : Int) = (0 : Int) ∧ (nat_lit 0 = nat_lit 0 ∧ (0 : Nat) = (0 : Nat)) ∧ (0 : Int) = (0 : Int) ∧ parentS x.snd.fst = parentS x.snd.fst ∧ l = l ∧ Int.ofNat i = Int.ofNat i ∧ (x.fst = x.fst ∧ x.snd.fst = x.snd.fst ∧ x.snd.snd.fst = x.snd.snd.fst ∧ x.snd.snd.snd.fst = x.snd.snd.snd.fst ∧ x.snd.snd.snd.snd.fst = x.snd.snd.snd.snd.fst ∧ True) ∧ (x.fst = x.fst ∧ x.snd.fst = x.snd.fst ∧ x.snd.snd.fst = x.snd.snd.fst ∧ x.snd.snd.snd.fst = x.snd.snd.snd.fst ∧ x.snd.snd.snd.snd.fst = x.snd.snd.snd.snd.fst ∧ True) ∧ (nat_lit 0 = nat_lit 0 ∧ nat_lit 1 = nat_lit 1) ∧ x.snd.fst = x.snd.fst ∧ parentS x.snd.fst = parentS x.snd.fst ∧ parentS x.snd.fst = parentS x.snd.fst ∧ (!parentS x.snd.fst == ([] : List UInt8)) = !parentS x.snd.fst == ([] : List UInt8) ∧ Int.ofNat i = Int.ofNat i ∧ decide (Int.ofNat i ≥ (16 : Int)) = decide (Int.ofNat i ≥ (16 : Int)) ∧ ((4 : Nat) = (4 : Nat) ∧ decide (Int.ofNat i ≥ (16 : Int)) = decide (Int.ofNat i ≥ (16 : Int))) ∧ ((3 : Nat) = (3 : Nat) ∧ (6 : Int) = (6 : Int)) ∧ ((4 : Nat) = (4 : Nat) ∧ true = true) ∧ (x.fst = x.fst ∧ x.snd.fst = x.snd.fst ∧ x.snd.snd.fst = x.snd.snd.fst ∧ x.snd.snd.snd.fst = x.snd.snd.snd.fst ∧ x.snd.snd.snd.snd.fst = x.snd.snd.snd.snd.fst ∧ True) ∧ decide (recFault (x.fst, x.snd.fst, x.snd.snd.fst, x.snd.snd.snd.fst, x.snd.snd.snd.snd.fst, ()) = (0 : Int)) = decide (recFault (x.fst, x.snd.fst, x.snd.snd.fst, x.snd.snd.snd.fst, x.snd.snd.snd.snd.fst, ()) = (0 : Int)) ∧ (!decide (recFault (x.fst, x.snd.fst, x.snd.snd.fst, x.snd.snd.snd.fst, x.snd.snd.snd.snd.fst, ()) = (0 : Int))) = !decide (recFault (x.fst, x.snd.fst, x.snd.snd.fst, x.snd.snd.snd.fst, x.snd.snd.snd.snd.fst, ()) = (0 : Int)) ∧ ((4 : Nat) = (4 : Nat) ∧ (!decide (recFault (x.fst, x.snd.fst, x.snd.snd.fst, x.snd.snd.snd.fst, x.snd.snd.snd.snd.fst, ()) = (0 : Int))) = !decide (recFault (x.fst, x.snd.fst, x.snd.snd.fst, x.snd.snd.snd.fst, x.snd.snd.snd.snd.fst, ()) = (0 : Int))) ∧ (x.fst = x.fst ∧ x.snd.fst = x.snd.fst ∧ x.snd.snd.fst = x.snd.snd.fst ∧ x.snd.snd.snd.fst = x.snd.snd.snd.fst ∧ x.snd.snd.snd.snd.fst = x.snd.snd.snd.snd.fst ∧ True) ∧ recFault (x.fst, x.snd.fst, x.snd.snd.fst, x.snd.snd.snd.fst, x.snd.snd.snd.snd.fst, ()) = recFault (x.fst, x.snd.fst, x.snd.snd.fst, x.snd.snd.snd.fst, x.snd.snd.snd.snd.fst, ()) ∧ ((3 : Nat) = (3 : Nat) ∧ recFault (x.fst, x.snd.fst, x.snd.snd.fst, x.snd.snd.snd.fst, x.snd.snd.snd.snd.fst, ()) = recFault (x.fst, x.snd.fst, x.snd.snd.fst, x.snd.snd.snd.fst, x.snd.snd.snd.snd.fst, ())) ∧ Int.ofNat i = Int.ofNat i ∧ decide (Int.ofNat i > (0 : Int)) = decide (Int.ofNat i > (0 : Int)) ∧ decide (Int.ofNat i > (0 : Int)) = decide (Int.ofNat i > (0 : Int)) ∧ sameB l (Int.ofNat i) = sameB l (Int.ofNat i) ∧ ((4 : Nat) = (4 : Nat) ∧ sameB l (Int.ofNat i) = sameB l (Int.ofNat i)) ∧ ((3 : Nat) = (3 : Nat) ∧ (18 : Int) = (18 : Int)) ∧ Int.ofNat i = Int.ofNat i ∧ decide (Int.ofNat i > (0 : Int)) = decide (Int.ofNat i > (0 : Int)) ∧ false = false ∧ True ∧ True ∧ True ∧ True ∧ True ∧ True ∧ True ∧ True ∧ True ∧ True ∧ True ∧ false = false ∧ ((4 : Nat) = (4 : Nat) ∧ false = false) ∧ ((3 : Nat) = (3 : Nat) ∧ (11 : Int) = (11 : Int)) ∧ (0 : Int) = (0 : Int) ∧ decide ((0 : Int) < (0 : Int)) = decide ((0 : Int) < (0 : Int)) ∧ ((4 : Nat) = (4 : Nat) ∧ decide ((0 : Int) < (0 : Int)) = decide ((0 : Int) < (0 : Int))) ∧ ((3 : Nat) = (3 : Nat) ∧ (12 : Int) = (12 : Int)) ∧ (nat_lit 0 = nat_lit 0 ∧ nat_lit 1 = nat_lit 1) ∧ x.snd.fst = x.snd.fst ∧ parentS x.snd.fst = parentS x.snd.fst ∧ (!parentS x.snd.fst == ([] : List UInt8)) = !parentS x.snd.fst == ([] : List UInt8) ∧ true = !parentS x.snd.fst == ([] : List UInt8) ∧ (x_1.fst != (3 : Int)) = dirB l (Int.ofNat i) ∧ ((3 : Nat) = (3 : Nat) ∧ (13 : Int) = (13 : Int)) ∧ True) ∧ ((x.fst = x.fst ∧ x.snd.fst = x.snd.fst ∧ x.snd.snd.fst = x.snd.snd.fst ∧ x.snd.snd.snd.fst = x.snd.snd.snd.fst ∧ x.snd.snd.snd.snd.fst = x.snd.snd.snd.snd.fst ∧ True) ∧ True) ∧ True) ∧ ((!parentS x.snd.fst == ([] : List UInt8)) = false → (l = l ∧ Int.ofNat i = Int.ofNat i ∧ (0 : Int) = (0 : Int) ∧ (nat_lit 0 = nat_lit 0 ∧ (0 : Nat) = (0 : Nat)) ∧ (0 : Int) = (0 : Int) ∧ parentS x.snd.fst = parentS x.snd.fst ∧ l = l ∧ Int.ofNat i = Int.ofNat i ∧ (x.fst = x.fst ∧ x.snd.fst = x.snd.fst ∧ x.snd.snd.fst = x.snd.snd.fst ∧ x.snd.snd.snd.fst = x.snd.snd.snd.fst ∧ x.snd.snd.snd.snd.fst = x.snd.snd.snd.snd.fst ∧ True) ∧ (x.fst = x.fst ∧ x.snd.fst = x.snd.fst ∧ x.snd.snd.fst = x.snd.snd.fst ∧ x.snd.snd.snd.fst = x.snd.snd.snd.fst ∧ x.snd.snd.snd.snd.fst = x.snd.snd.snd.snd.fst ∧ True) ∧ (nat_lit 0 = nat_lit 0 ∧ nat_lit 1 = nat_lit 1) ∧ x.snd.fst = x.snd.fst ∧ parentS x.snd.fst = parentS x.snd.fst ∧ parentS x.snd.fst = parentS x.snd.fst ∧ (!parentS x.snd.fst == ([] : List UInt8)) = !parentS x.snd.fst == ([] : List UInt8) ∧ Int.ofNat i = Int.ofNat i ∧ decide (Int.ofNat i ≥ (16 : Int)) = decide (Int.ofNat i ≥ (16 : Int)) ∧ ((4 : Nat) = (4 : Nat) ∧ decide (Int.ofNat i ≥ (16 : Int)) = decide (Int.ofNat i ≥ (16 : Int))) ∧ ((3 : Nat) = (3 : Nat) ∧ (6 : Int) = (6 : Int)) ∧ ((4 : Nat) = (4 : Nat) ∧ true = true) ∧ (x.fst = x.fst ∧ x.snd.fst = x.snd.fst ∧ x.snd.snd.fst = x.snd.snd.fst ∧ x.snd.snd.snd.fst = x.snd.snd.snd.fst ∧ x.snd.snd.snd.snd.fst = x.snd.snd.snd.snd.fst ∧ True) ∧ decide (recFault (x.fst, x.snd.fst, x.snd.snd.fst, x.snd.snd.snd.fst, x.snd.snd.snd.snd.fst, ()) = (0 : Int)) = decide (recFault (x.fst, x.snd.fst, x.snd.snd.fst, x.snd.snd.snd.fst, x.snd.snd.snd.snd.fst, ()) = (0 : Int)) ∧ (!decide (recFault (x.fst, x.snd.fst, x.snd.snd.fst, x.snd.snd.snd.fst, x.snd.snd.snd.snd.fst, ()) = (0 : Int))) = !decide (recFault (x.fst, x.snd.fst, x.snd.snd.fst, x.snd.snd.snd.fst, x.snd.snd.snd.snd.fst, ()) = (0 : Int)) ∧ ((4 : Nat) = (4 : Nat) ∧ (!decide (recFault (x.fst, x.snd.fst, x.snd.snd.fst, x.snd.snd.snd.fst, x.snd.snd.snd.snd.fst, ()) = (0 : Int))) = !decide (recFault (x.fst, x.snd.fst, x.snd.snd.fst, x.snd.snd.snd.fst, x.snd.snd.snd.snd.fst, ()) = (0 : Int))) ∧ (x.fst = x.fst ∧ x.snd.fst = x.snd.fst ∧ x.snd.snd.fst = x.snd.snd.fst ∧ x.snd.snd.snd.fst = x.snd.snd.snd.fst ∧ x.snd.snd.snd.snd.fst = x.snd.snd.snd.snd.fst ∧ True) ∧ recFault (x.fst, x.snd.fst, x.snd.snd.fst, x.snd.snd.snd.fst, x.snd.snd.snd.snd.fst, ()) = recFault (x.fst, x.snd.fst, x.snd.snd.fst, x.snd.snd.snd.fst, x.snd.snd.snd.snd.fst, ()) ∧ ((3 : Nat) = (3 : Nat) ∧ recFault (x.fst, x.snd.fst, x.snd.snd.fst, x.snd.snd.snd.fst, x.snd.snd.snd.snd.fst, ()) = recFault (x.fst, x.snd.fst, x.snd.snd.fst, x.snd.snd.snd.fst, x.snd.snd.snd.snd.fst, ())) ∧ Int.ofNat i = Int.ofNat i ∧ decide (Int.ofNat i > (0 : Int)) = decide (Int.ofNat i > (0 : Int)) ∧ decide (Int.ofNat i > (0 : Int)) = decide (Int.ofNat i > (0 : Int)) ∧ sameB l (Int.ofNat i) = sameB l (Int.ofNat i) ∧ ((4 : Nat) = (4 : Nat) ∧ sameB l (Int.ofNat i) = sameB l (Int.ofNat i)) ∧ ((3 : Nat) = (3 : Nat) ∧ (18 : Int) = (18 : Int)) ∧ Int.ofNat i = Int.ofNat i ∧ decide (Int.ofNat i > (0 : Int)) = decide (Int.ofNat i > (0 : Int)) ∧ false = false ∧ True ∧ True ∧ True ∧ True ∧ True ∧ True ∧ True ∧ True ∧ True ∧ True ∧ True ∧ false = false ∧ ((4 : Nat) = (4 : Nat) ∧ false = false) ∧ ((3 : Nat) = (3 : Nat) ∧ (11 : Int) = (11 : Int)) ∧ (0 : Int) = (0 : Int) ∧ decide ((0 : Int) < (0 : Int)) = decide ((0 : Int) < (0 : Int)) ∧ ((4 : Nat) = (4 : Nat) ∧ decide ((0 : Int) < (0 : Int)) = decide ((0 : Int) < (0 : Int))) ∧ ((3 : Nat) = (3 : Nat) ∧ (12 : Int) = (12 : Int)) ∧ (nat_lit 0 = nat_lit 0 ∧ nat_lit 1 = nat_lit 1) ∧ x.snd.fst = x.snd.fst ∧ parentS x.snd.fst = parentS x.snd.fst ∧ (!parentS x.snd.fst == ([] : List UInt8)) = !parentS x.snd.fst == ([] : List UInt8) ∧ false = !parentS x.snd.fst == ([] : List UInt8) ∧ false = dirB l (Int.ofNat i) ∧ ((3 : Nat) = (3 : Nat) ∧ (13 : Int) = (13 : Int)) ∧ True) ∧ ((x.fst = x.fst ∧ x.snd.fst = x.snd.fst ∧ x.snd.snd.fst = x.snd.snd.fst ∧ x.snd.snd.snd.fst = x.snd.snd.snd.fst ∧ x.snd.snd.snd.snd.fst = x.snd.snd.snd.snd.fst ∧ True) ∧ True) ∧ True)) ∧ true = true ∧ True ∧ true = true ∧ True ∧ (first (AnyV.b (decide (Int.ofNat i ≥ (16 : Int))) :: AnyV.n (6 : Int) :: AnyV.b true :: AnyV.n (first ((AnyV.b !decide (recFault (x.fst, x.snd.fst, x.snd.snd.fst, x.snd.snd.snd.fst, x.snd.snd.snd.snd.fst, ()) = (0 : Int))) :: AnyV.n (recFault (x.fst, x.snd.fst, x.snd.snd.fst, x.snd.snd.snd.fst, x.snd.snd.snd.snd.fst, ())) :: AnyV.b (sameB l (Int.ofNat i)) :: AnyV.n (18 : Int) :: AnyV.b false :: AnyV.n (11 : Int) :: AnyV.b (decide ((0 : Int) < (0 : Int))) :: AnyV.n (12 : Int) :: AnyV.b (dirB l (Int.ofNat i)) :: AnyV.n (13 : Int) :: ([] : List AnyV))) :: ([] : List AnyV)), ()) = (faultI l (Int.ofNat i), ()) ∧ () = ()))) (by kernel_rfl) ?_
  simp only [Nat.le_refl, Nat.succ_eq_add_one, Nat.reduceAdd, Nat.reduceLeDiff, Nat.zero_le, pair_unit, mk_eta, len_bne, eqD_bne, bne_iff_ne, bne_eq_false_iff_eq, beq_iff_eq, beq_eq_false_iff_ne, true_and, and_true, and_self, eq_self, lt_iff, nthI_nat, bnd_iff, decide_eq_true_eq, decide_eq_false_iff_not, Nat.sub_eq, nz, ne_eq, not_false_eq_true, Prod.mk.injEq, Int.reduceEq, Nat.reduceEqDiff, forall_const, implies_true, bne_self_eq_false, Bool.true_eq_false, Bool.false_eq_true, false_implies, reduceCtorEq, Bool.not_true, Bool.not_false, List.all_cons, List.all_nil, Bool.and_true, Bool.not_eq_true, Bool.not_eq_false, Bool.not_eq_true', Bool.not_eq_false', Decidable.not_not]; try simp only [lenL]
  have hl : okL l := hl
  have hi : i < List.length l := hi
  refine ⟨hi, fun x hx => ?_⟩
  have hlx := hl x (List.mem_of_getElem? hx)
  have hA : (Int.ofNat i > 0 → bnd (mm true (wSub .i64 (Int.ofNat i) 1) 0) (List.length l) ∧ ∀ y, nthI l (mm true (wSub .i64 (Int.ofNat i) 1) 0) = some y → true = decide (Int.ofNat i > 0) ∧ (y.2.1 == x.2.1) = sameB l (Int.ofNat i)) ∧ (¬ Int.ofNat i > 0 → false = decide (Int.ofNat i > 0) ∧ false = sameB l (Int.ofNat i)) := by
    refine ⟨fun h0 => ?_, fun h0 => ⟨(decide_eq_false h0).symm, same_no h0⟩⟩
    rw [ms1 h0 hb]
    exact ⟨bnd_nat (by omega), fun y hy => ⟨(decide_eq_true h0).symm, (same_at h0 hx hy).2⟩⟩
  refine ⟨hlx, fun hp => ⟨⟨Int.natCast_nonneg _, Int.ofNat_le.2 (Nat.le_of_lt hi)⟩, hlx, hlx, hA, ?_, ?_⟩, fun hp => ⟨hlx, hlx, hA, ?_, ?_⟩⟩
  · intro h0
    rw [ms1 h0 hb]
    refine ⟨bnd_nat (by omega), fun y hy => ⟨⟨hl y (List.mem_of_getElem? hy), hlx⟩, hlx, ⟨fun _ => ?_, fun h => absurd h hp⟩, fa_first hx (order_at h0 hx hy) (up_some hx hp)⟩⟩
    rw [up_some hx hp]
    exact dir_any hi hx hp
  · intro h0
    refine ⟨hlx, ⟨fun _ => ?_, fun h => absurd h hp⟩, fa_first hx (order_no h0) (up_some hx hp)⟩
    rw [up_some hx hp]
    exact dir_any hi hx hp
  · intro h0
    rw [ms1 h0 hb]
    exact ⟨bnd_nat (by omega), fun y hy => ⟨⟨hl y (List.mem_of_getElem? hy), hlx⟩, hlx, ⟨fun h => absurd hp h, fun _ => ⟨by rw [hp]; rfl, (dir_none hx hp).symm⟩⟩, fa_first hx (order_at h0 hx hy) (up_none hx hp).symm⟩⟩
  · intro h0
    exact ⟨hlx, ⟨fun h => absurd hp h, fun _ => ⟨by rw [hp]; rfl, (dir_none hx hp).symm⟩⟩, fa_first hx (order_no h0) (up_none hx hp).symm⟩
end Go.Proofs.YtjkipndhdemnoaaGreatDoor
namespace Go.Proofs.YtjkipndhdemnoaaGreatDoor
open Go.Ab Go.Fn
def s_layF : FSpec := { ps := [.v (.slice tRec)], rs := [.v I, .v I], pre := fun x => okL x.1, fn := fun x => (Fn.layN x.1, Fn.layC x.1, ()), upd := fun _ => () }
def L_l03Fault (l : List Rec) : LoopAnn := { ι := Nat, inv := fun k => Fn.OKto l k, slots := fun k => [(4, .d I (Int.ofNat k))], objs := fun _ => [], μ := fun k => l.length - k }
theorem fo_l03Fault : FO 105 s_layF := by
  refine fo (specs := [(143, s_fault), (144, s_l01Less), (145, s_parent), (146, s_find)]) (clos := []) (fun x => [(2, .lv [0, 4] <| fun _ => L_l03Fault x.1), (1000009, .lv [0, 4, 41] <| .ofCut fun s => [(41, .d .bool (Fn.sameB x.1 (s.tI 4)))]), (1000011, .lv [0, 4, 59] <| .ofCut fun s => [(59, .d .bool (Fn.unlessB x.1 (s.tI 4)))])]) ⟨fo_l02Fault, fo_l01Less, fo_l01Parent, fo_l03At, trivial⟩ trivial Tryz.func105 rfl rfl ?_
  rintro ⟨l, ⟨⟩⟩ hl
  refine vcOf ((∃ (i : Nat), OKto l i ∧ (l = l ∧ (0 : Int) = Int.ofNat i ∧ True) ∧ True ∧ True) ∧ ∀ (i : Nat), OKto l i → fits (lenL l) → (decide (Int.ofNat i < iOf (lenL l)) = true → ((Int.ofNat i == (16 : Int)) = true → (Int.ofNat i, (6 : Int), ()) = (layN l, layC l, ()) ∧ () = ()) ∧ ((Int.ofNat i == (16 : Int)) = false → bnd (Int.ofNat i) (lenL l) ∧ ∀ (x : Int × List UInt8 × List UInt8 × Int × Bool × Unit), nthI l (Int.ofNat i) = some x → nat_lit 5 ≤ (Nat.succ (nat_lit 1)).succ.succ.succ ∧ true = true ∧ x.snd.fst.length ≤ (100000000 : Nat) ∧ ((recFault (x.fst, x.snd.fst, x.snd.snd.fst, x.snd.snd.snd.fst, x.snd.snd.snd.snd.fst, ()) != (0 : Int)) = true → (Int.ofNat i, recFault (x.fst, x.snd.fst, x.snd.snd.fst, x.snd.snd.snd.fst, x.snd.snd.snd.snd.fst, ()), ()) = (layN l, layC l, ()) ∧ () = ()) ∧ ((recFault (x.fst, x.snd.fst, x.snd.snd.fst, x.snd.snd.snd.fst, x.snd.snd.snd.snd.fst, ()) != (0 : Int)) = false → ((decide (Int.ofNat i > (0 : Int)) = true → bnd (Int.ofNat i) (lenL l) ∧ ∀ (x : Int × List UInt8 × List UInt8 × Int × Bool × Unit), nthI l (Int.ofNat i) = some x → nat_lit 1 ≤ (Nat.succ (nat_lit 1)).succ.succ ∧ bnd (wSub IntKind.i64 (Int.ofNat i) (1 : Int)) (lenL l) ∧ ∀ (x_1 : Int × List UInt8 × List UInt8 × Int × Bool × Unit), nthI l (wSub IntKind.i64 (Int.ofNat i) (1 : Int)) = some x_1 → nat_lit 1 ≤ (Nat.succ (nat_lit 1)).succ.succ ∧ (l = l ∧ Int.ofNat i = Int.ofNat i ∧ (x.snd.fst == x_1.snd.fst) = sameB l (Int.ofNat i) ∧ True) ∧ True ∧ True) ∧ (decide (Int.ofNat i > (0 : Int)) = false → (l = l ∧ Int.ofNat i = Int.ofNat i ∧ false = sameB l (Int.ofNat i) ∧ True) ∧ True ∧ True)) ∧ (sameB l (Int.ofNat i) = true → (Int.ofNat i, (18 : Int), ()) = (layN l, layC l, ()) ∧ () = ()) ∧ (sameB l (Int.ofNat i) = false → ((decide (Int.ofNat i > (0 : Int)) = true → bnd (wSub IntKind.i64 (Int.ofNat i) (1 : Int)) (lenL l) ∧ ∀ (x : Int × List UInt8 × List UInt8 × Int × Bool × Unit), nthI l (wSub IntKind.i64 (Int.ofNat i) (1 : Int)) = some x → nat_lit 1 ≤ (Nat.succ (nat_lit 1)).succ.succ ∧ bnd (Int.ofNat i) (lenL l) ∧ ∀ (x_1 : Int × List UInt8 × List UInt8 × Int × Bool × Unit), nthI l (Int.ofNat i) = some x_1 → nat_lit 1 ≤ (Nat.succ (nat_lit 1)).succ.succ ∧ true = true ∧ (x.snd.fst.length ≤ (100000000 : Nat) ∧ x_1.snd.fst.length ≤ (100000000 : Nat)) ∧ (l = l ∧ Int.ofNat i = Int.ofNat i ∧ (!lessL (split (47 : UInt8) x.snd.fst) (split (47 : UInt8) x_1.snd.fst)) = unlessB l (Int.ofNat i) ∧ True) ∧ True ∧ True) ∧ (decide (Int.ofNat i > (0 : Int)) = false → (l = l ∧ Int.ofNat i = Int.ofNat i ∧ false = unlessB l (Int.ofNat i) ∧ True) ∧ True ∧ True)) ∧ (unlessB l (Int.ofNat i) = true → (Int.ofNat i, (11 : Int), ()) = (layN l, layC l, ()) ∧ () = ()) ∧ (unlessB l (Int.ofNat i) = false → bnd (Int.ofNat i) (lenL l) ∧ ∀ (x : Int × List UInt8 × List UInt8 × Int × Bool × Unit), nthI l (Int.ofNat i) = some x → nat_lit 1 ≤ (Nat.succ (nat_lit 1)).succ.succ ∧ true = true ∧ x.snd.fst.length ≤ (100000000 : Nat) ∧ ((parentS x.snd.fst == ([] : List UInt8)) = true → ∃ (j : Nat), OKto l j ∧ (List.length l).sub j < (List.length l).sub i ∧ (l = l ∧ wAdd IntKind.i64 (Int.ofNat i) (1 : Int) = Int.ofNat j ∧ True) ∧ True ∧ True) ∧ ((parentS x.snd.fst == ([] : List UInt8)) = false → boundLo (Int.ofNat i) (lenL l) ∧ true = true ∧ True ∧ (decide (idx (atPath (parentS x.snd.fst)) (subL l (0 : Nat) (tN (Int.ofNat i))) < (0 : Int)) = true → (Int.ofNat i, (12 : Int), ()) = (layN l, layC l, ()) ∧ () = ()) ∧ (decide (idx (atPath (parentS x.snd.fst)) (subL l (0 : Nat) (tN (Int.ofNat i))) < (0 : Int)) = false → bnd (idx (atPath (parentS x.snd.fst)) (subL l (0 : Nat) (tN (Int.ofNat i)))) (lenL l) ∧ ∀ (x_1 : Int × List UInt8 × List UInt8 × Int × Bool × Unit), nthI l (idx (atPath (parentS x.snd.fst)) (subL l (0 : Nat) (tN (Int.ofNat i)))) = some x_1 → nat_lit 1 ≤ (Nat.succ (nat_lit 1)).succ.succ.succ ∧ ((x_1.fst != (3 : Int)) = true → (Int.ofNat i, (13 : Int), ()) = (layN l, layC l, ()) ∧ () = ()) ∧ ((x_1.fst != (3 : Int)) = false → ∃ (j : Nat), OKto l j ∧ (List.length l).sub j < (List.length l).sub i ∧ (l = l ∧ wAdd IntKind.i64 (Int.ofNat i) (1 : Int) = Int.ofNat j ∧ True) ∧ True ∧ True)))))))) ∧ (decide (Int.ofNat i < iOf (lenL l)) = false → ((0 : Int), (0 : Int), ()) = (layN l, layC l, ()) ∧ () = ())) (by kernel_rfl) ?_
  simp only [Nat.le_refl, Nat.succ_eq_add_one, Nat.reduceAdd, Nat.reduceLeDiff, Nat.zero_le, pair_unit, mk_eta, len_bne, eqD_bne, bne_iff_ne, bne_eq_false_iff_eq, beq_iff_eq, beq_eq_false_iff_ne, true_and, and_true, and_self, eq_self, lt_iff, nthI_nat, bnd_iff, decide_eq_true_eq, decide_eq_false_iff_not, Nat.sub_eq, nz, ne_eq, not_false_eq_true, Prod.mk.injEq, Int.reduceEq, Nat.reduceEqDiff, forall_const, implies_true, bne_self_eq_false, Bool.true_eq_false, Bool.false_eq_true, false_implies, reduceCtorEq, Bool.not_true, Bool.not_false, List.all_cons, List.all_nil, Bool.and_true, Bool.not_eq_true, Bool.not_eq_false, Bool.not_eq_true', Bool.not_eq_false', Decidable.not_not]; try simp only [lenL]
  have hl : okL l := hl
  refine ⟨⟨0, ok0 l, rfl⟩, fun i h hf => ⟨fun hi => ⟨fun h16 => lay_c h hi (fa_16 (Nat.le_of_eq (Int.ofNat.inj h16).symm)) (by decide), fun h16 => ⟨hi, fun x hx => ⟨hl x (List.mem_of_getElem? hx), ?_⟩⟩⟩, fun he => lay_end h he⟩⟩
  have hlt := ok_16 h h16
  have ex := recAt_at hx
  refine ⟨fun hr => lay_c h hi (by rw [fa_rec hlt (by rw [ex]; exact hr), ex]) hr, fun hr => ?_⟩
  have hr' : recFault (recAt l i) = 0 := by rw [ex]; exact hr
  refine ⟨⟨fun hp => ⟨hi, fun x' hx' => ?_⟩, fun hn => same_no hn⟩, fun hs => lay_c h hi (fa_18 hlt hr' hs) (by decide), fun hs => ⟨⟨fun hp => ?_, fun hn => unless_no hn⟩, fun ho => lay_c h hi (fa_11 hlt hr' hs (by rw [order_eq h hr']; exact ho)) (by decide), fun ho => ⟨hi, fun x' hx' => ?_⟩⟩⟩
  · rw [ws1 hp hi hf]
    exact ⟨bnd_nat (by omega), fun y hy => (same_at hp hx' hy).1⟩
  · rw [ws1 hp hi hf]
    exact ⟨bnd_nat (by omega), fun y hy => ⟨hi, fun x' hx' => ⟨⟨hl y (List.mem_of_getElem? hy), hl x' (List.mem_of_getElem? hx')⟩, unless_at hp hx' hy⟩⟩⟩
  · have ho' : orderB l (Int.ofNat i) = false := by rw [order_eq h hr']; exact ho
    refine ⟨hl x' (List.mem_of_getElem? hx'), fun hp => ?_, fun hp => ⟨⟨Int.natCast_nonneg _, Int.ofNat_le.2 (Nat.le_of_lt hi)⟩, ?_⟩⟩
    · exact ⟨i + 1, ok_step h hi (fa_0 hlt hr' hs ho' (by rw [up_none hx' hp]; decide) (dir_none hx' hp)), Nat.sub_lt_sub_left hi (Nat.lt_succ_self i), inc_in hf h.1⟩
    · rw [up_some hx' hp]
      refine ⟨fun hu => lay_c h hi (fa_12 hlt hr' hs ho' hu) (by decide), fun hu => ⟨⟨by omega, up_lt hi⟩, fun z hz => ⟨fun hk => lay_c h hi (fa_13 hlt hr' hs ho' hu (by rw [dir_some hx' hp hu hz]; simp [hk])) (by decide), fun hk => ⟨i + 1, ok_step h hi (fa_0 hlt hr' hs ho' hu (by rw [dir_some hx' hp hu hz]; simp [hk])), Nat.sub_lt_sub_left hi (Nat.lt_succ_self i), inc_in hf h.1⟩⟩⟩⟩
end Go.Proofs.YtjkipndhdemnoaaGreatDoor
namespace Go.Proofs.YtjkipndhdemnoaaGreatDoor
open Go.Ab Go.Fn
def L_fault (l : List Rec) : LoopAnn := { ι := Nat, inv := fun k => Fn.OKto l k, slots := fun k => [(8, .d I (Int.ofNat k))], objs := fun _ => [], μ := fun k => l.length - k }
theorem fo_fault : FO 201 s_layF := by
  refine fo (specs := [(112, s_faultAt)]) (clos := []) (fun x => [(2, .lv [0, 7, 8] <| fun _ => L_fault x.1)]) ⟨fo_faultAt, trivial⟩ trivial Tryz.func201 rfl rfl ?_
  rintro ⟨l, ⟨⟩⟩ hl
  refine vcOf (fits (lenL l) → (∃ (i : Nat), OKto l i ∧ (l = l ∧ iOf (lenL l) = iOf (lenL l) ∧ (0 : Int) = Int.ofNat i ∧ True) ∧ True ∧ True) ∧ ∀ (i : Nat), OKto l i → (decide (Int.ofNat i < iOf (lenL l)) = true → true = true ∧ (okL l ∧ ∃ (k : Nat), Int.ofNat i = Int.ofNat k ∧ k < List.length l ∧ k < (1099511627776 : Nat)) ∧ ((faultI l (Int.ofNat i) != (0 : Int)) = true → (Int.ofNat i, faultI l (Int.ofNat i), ()) = (layN l, layC l, ()) ∧ () = ()) ∧ ((faultI l (Int.ofNat i) != (0 : Int)) = false → ∃ (j : Nat), OKto l j ∧ (List.length l).sub j < (List.length l).sub i ∧ (l = l ∧ iOf (lenL l) = iOf (lenL l) ∧ wAdd IntKind.i64 (Int.ofNat i) (1 : Int) = Int.ofNat j ∧ True) ∧ True ∧ True)) ∧ (decide (Int.ofNat i < iOf (lenL l)) = false → ((0 : Int), (0 : Int), ()) = (layN l, layC l, ()) ∧ () = ())) (by kernel_rfl) ?_
  simp only [Nat.le_refl, Nat.succ_eq_add_one, Nat.reduceAdd, Nat.reduceLeDiff, Nat.zero_le, pair_unit, mk_eta, len_bne, eqD_bne, bne_iff_ne, bne_eq_false_iff_eq, beq_iff_eq, beq_eq_false_iff_ne, true_and, and_true, and_self, eq_self, lt_iff, nthI_nat, bnd_iff, decide_eq_true_eq, decide_eq_false_iff_not, Nat.sub_eq, nz, ne_eq, not_false_eq_true, Prod.mk.injEq, Int.reduceEq, Nat.reduceEqDiff, forall_const, implies_true, bne_self_eq_false, Bool.true_eq_false, Bool.false_eq_true, false_implies, reduceCtorEq, Bool.not_true, Bool.not_false, List.all_cons, List.all_nil, Bool.and_true, Bool.not_eq_true, Bool.not_eq_false, Bool.not_eq_true', Bool.not_eq_false', Decidable.not_not]; try simp only [lenL]
  have hl : okL l := hl
  refine fun hf => ⟨⟨0, ok0 l, rfl⟩, fun i h => ⟨fun hi => ⟨⟨hl, i, rfl, hi, Nat.lt_trans hi hf⟩, fun hn => lay_c h hi rfl hn, fun h0 => ⟨i + 1, ok_step h hi h0, Nat.sub_lt_sub_left hi (Nat.lt_succ_self i), inc_in hf h.1⟩⟩, fun he => lay_end h he⟩⟩
end Go.Proofs.YtjkipndhdemnoaaGreatDoor
namespace Go.Proofs.YtjkipndhdemnoaaGreatDoor
open Go.Ab Go.Fn
def s_layOK : FSpec := { ps := [.v (.slice tRec)], rs := [.v .bool], pre := fun x => okL x.1, fn := fun x => (decide (Fn.layC x.1 = 0), ()), upd := fun _ => () }
theorem fo_l03OK : FO 113 s_layOK := by
  refine fo (specs := [(105, s_layF)]) (clos := []) (fun x => []) ⟨fo_l03Fault, trivial⟩ trivial Tryz.func113 rfl rfl ?_
  rintro ⟨l, ⟨⟩⟩ hl
  refine vcOf (true = true ∧ okL l ∧ (layC l == (0 : Int), ()) = (decide (layC l = (0 : Int)), ()) ∧ () = ()) (by kernel_rfl) ?_
  simp only [Nat.le_refl, Nat.succ_eq_add_one, Nat.reduceAdd, Nat.reduceLeDiff, Nat.zero_le, pair_unit, mk_eta, len_bne, eqD_bne, bne_iff_ne, bne_eq_false_iff_eq, beq_iff_eq, beq_eq_false_iff_ne, true_and, and_true, and_self, eq_self, lt_iff, nthI_nat, bnd_iff, decide_eq_true_eq, decide_eq_false_iff_not, Nat.sub_eq, nz, ne_eq, not_false_eq_true, Prod.mk.injEq, Int.reduceEq, Nat.reduceEqDiff, forall_const, implies_true, bne_self_eq_false, Bool.true_eq_false, Bool.false_eq_true, false_implies, reduceCtorEq, Bool.not_true, Bool.not_false, List.all_cons, List.all_nil, Bool.and_true, Bool.not_eq_true, Bool.not_eq_false, Bool.not_eq_true', Bool.not_eq_false', Decidable.not_not]; try simp only [lenL]
  exact ⟨hl, eqI_dec _ _⟩
def s_isLongRec : FSpec := { ps := [.v (.slice tRec)], rs := [.v .bool], pre := fun _ => True, fn := fun x => (decide (iOf (List.length (α := Rec) x.1) > 4096), ()), upd := fun _ => () }
theorem fo_isLongRec : FO 200 s_isLongRec := by
  refine fo (specs := []) (clos := []) (fun x => []) trivial trivial Tryz.func200 rfl rfl ?_
  rintro ⟨l, ⟨⟩⟩ -
  refine vcOf (fits (lenL l) → (decide (iOf (lenL l) > (4096 : Int)), ()) = (decide (iOf (List.length l) > (4096 : Int)), ()) ∧ () = ()) (by kernel_rfl) ?_
  simp only [Nat.le_refl, Nat.succ_eq_add_one, Nat.reduceAdd, Nat.reduceLeDiff, Nat.zero_le, pair_unit, mk_eta, len_bne, eqD_bne, bne_iff_ne, bne_eq_false_iff_eq, beq_iff_eq, beq_eq_false_iff_ne, true_and, and_true, and_self, eq_self, lt_iff, nthI_nat, bnd_iff, decide_eq_true_eq, decide_eq_false_iff_not, Nat.sub_eq, nz, ne_eq, not_false_eq_true, Prod.mk.injEq, Int.reduceEq, Nat.reduceEqDiff, forall_const, implies_true, bne_self_eq_false, Bool.true_eq_false, Bool.false_eq_true, false_implies, reduceCtorEq, Bool.not_true, Bool.not_false, List.all_cons, List.all_nil, Bool.and_true, Bool.not_eq_true, Bool.not_eq_false, Bool.not_eq_true', Bool.not_eq_false', Decidable.not_not]; try simp only [lenL]
  exact fun _ => rfl
def s_LayerFault : FSpec := { ps := [.v (.slice tRec)], rs := [.v I, .v I], pre := fun x => okL x.1, fn := fun x => (Fn.layFN x.1, Fn.layFC x.1, ()), upd := fun _ => () }
theorem fo_LayerFault : FO 177 s_LayerFault := by
  refine fo (specs := [(200, s_isLongRec), (201, s_layF)]) (clos := []) (fun x => []) ⟨fo_isLongRec, fo_fault, trivial⟩ trivial Tryz.func177 rfl rfl ?_
  rintro ⟨l, ⟨⟩⟩ hl
  refine vcOf (true = true ∧ True ∧ (decide (iOf (List.length l) > (4096 : Int)) = true → ((0 : Int), (2 : Int), ()) = (layFN l, layFC l, ()) ∧ () = ()) ∧ (decide (iOf (List.length l) > (4096 : Int)) = false → true = true ∧ okL l ∧ (layN l, layC l, ()) = (layFN l, layFC l, ()) ∧ () = ())) (by kernel_rfl) ?_
  simp only [Nat.le_refl, Nat.succ_eq_add_one, Nat.reduceAdd, Nat.reduceLeDiff, Nat.zero_le, pair_unit, mk_eta, len_bne, eqD_bne, bne_iff_ne, bne_eq_false_iff_eq, beq_iff_eq, beq_eq_false_iff_ne, true_and, and_true, and_self, eq_self, lt_iff, nthI_nat, bnd_iff, decide_eq_true_eq, decide_eq_false_iff_not, Nat.sub_eq, nz, ne_eq, not_false_eq_true, Prod.mk.injEq, Int.reduceEq, Nat.reduceEqDiff, forall_const, implies_true, bne_self_eq_false, Bool.true_eq_false, Bool.false_eq_true, false_implies, reduceCtorEq, Bool.not_true, Bool.not_false, List.all_cons, List.all_nil, Bool.and_true, Bool.not_eq_true, Bool.not_eq_false, Bool.not_eq_true', Bool.not_eq_false', Decidable.not_not]; try simp only [lenL]
  exact ⟨fun h => lf_long h, fun h => ⟨hl, lf_ok h⟩⟩
def s_LayerOK : FSpec := { ps := [.v (.slice tRec)], rs := [.v .bool], pre := fun x => okL x.1, fn := fun x => (decide (Fn.layFC x.1 = 0), ()), upd := fun _ => () }
theorem fo_LayerOK : FO 157 s_LayerOK := by
  refine fo (specs := [(177, s_LayerFault)]) (clos := []) (fun x => []) ⟨fo_LayerFault, trivial⟩ trivial Tryz.func157 rfl rfl ?_
  rintro ⟨l, ⟨⟩⟩ hl
  refine vcOf (true = true ∧ okL l ∧ (layFC l == (0 : Int), ()) = (decide (layFC l = (0 : Int)), ()) ∧ () = ()) (by kernel_rfl) ?_
  simp only [Nat.le_refl, Nat.succ_eq_add_one, Nat.reduceAdd, Nat.reduceLeDiff, Nat.zero_le, pair_unit, mk_eta, len_bne, eqD_bne, bne_iff_ne, bne_eq_false_iff_eq, beq_iff_eq, beq_eq_false_iff_ne, true_and, and_true, and_self, eq_self, lt_iff, nthI_nat, bnd_iff, decide_eq_true_eq, decide_eq_false_iff_not, Nat.sub_eq, nz, ne_eq, not_false_eq_true, Prod.mk.injEq, Int.reduceEq, Nat.reduceEqDiff, forall_const, implies_true, bne_self_eq_false, Bool.true_eq_false, Bool.false_eq_true, false_implies, reduceCtorEq, Bool.not_true, Bool.not_false, List.all_cons, List.all_nil, Bool.and_true, Bool.not_eq_true, Bool.not_eq_false, Bool.not_eq_true', Bool.not_eq_false', Decidable.not_not]; try simp only [lenL]
  exact ⟨hl, eqI_dec _ _⟩
end Go.Proofs.YtjkipndhdemnoaaGreatDoor
namespace Go.Fn
open Go.Ab
abbrev Nd := Int × List UInt8 × List UInt8 × Int × Unit
def nodeOf (r : Rec) : Nd := (r.1, r.2.1, r.2.2.1, r.2.2.2.1, ())
def lookF (ls : List (List Rec)) : List (List UInt8) → Rec × Int × Int
  | [] => (rec0, 0, 5)
  | p :: rest => if winL ls p = 0 ∨ (winR ls p).1 = 4 then (rec0, 0, 5) else if rest = [] then (winR ls p, winL ls p, 0) else if ¬ (winR ls p).1 = 3 then (rec0, 0, 13) else lookF ls rest
def wayL (t : List UInt8) : List (List UInt8) := [t] ++ anc t
def dir0 : Rec := (3, [], [], 0, false, ())
def lookR (ls : List (List Rec)) (t : List UInt8) : Rec × Int × Int := if t = [] then (dir0, 0, 0) else lookF ls (wayL t).reverse
def LkInv (ls : List (List Rec)) (t : List UInt8) (j : Nat) : Prop := lookF ls ((wayL t).take j).reverse = lookF ls (wayL t).reverse
theorem winL_ge {ls : List (List Rec)} {t : List UInt8} : 0 ≤ winL ls t := (@winTo_lay ls t (lowN ls t) ls.length).1
theorem winL_le {ls : List (List Rec)} {t : List UInt8} : winL ls t ≤ ls.length := (@winTo_lay ls t (lowN ls t) ls.length).2
theorem lk_cons {ls : List (List Rec)} {t x : List UInt8} {j : Nat} (hx : nth (wayL t) j = some x) (h : LkInv ls t (j + 1)) : lookF ls (x :: ((wayL t).take j).reverse) = lookF ls (wayL t).reverse := by
  unfold LkInv at h
  have hx : (wayL t)[j]? = some x := hx
  rw [List.take_add_one, hx] at h
  simpa using h
theorem lk_start (ls : List (List Rec)) (t : List UInt8) : LkInv ls t (wayL t).length := by unfold LkInv; rw [List.take_length]
theorem way_ne {t : List UInt8} {j : Nat} (hj : j < (wayL t).length) (h0 : ¬ j = 0) : ¬ ((wayL t).take j).reverse = [] := by
  intro h
  have := congrArg List.length h
  simp only [List.length_reverse, List.length_take, List.length_nil] at this
  omega
theorem lk_gone {ls : List (List Rec)} {t x : List UInt8} {j : Nat} (ht : ¬ t = []) (hx : nth (wayL t) j = some x) (hb : winL ls x = 0 ∨ (winR ls x).1 = 4) (h : LkInv ls t (j + 1)) : (rec0, (0 : Int), (5 : Int)) = lookR ls t := by
  unfold lookR
  rw [if_neg ht, ← lk_cons hx h, lookF, if_pos hb]
theorem lk_ok {ls : List (List Rec)} {t x : List UInt8} (ht : ¬ t = []) (hx : nth (wayL t) 0 = some x) (hb : ¬ (winL ls x = 0 ∨ (winR ls x).1 = 4)) (h : LkInv ls t 1) : (winR ls x, winL ls x, (0 : Int)) = lookR ls t := by
  unfold lookR
  rw [if_neg ht, ← lk_cons hx h, lookF, if_neg hb, if_pos (by simp)]
theorem lk_file {ls : List (List Rec)} {t x : List UInt8} {j : Nat} (ht : ¬ t = []) (hx : nth (wayL t) j = some x) (h0 : ¬ j = 0) (hb : ¬ (winL ls x = 0 ∨ (winR ls x).1 = 4)) (hd : ¬ (winR ls x).1 = 3) (h : LkInv ls t (j + 1)) : (rec0, (0 : Int), (13 : Int)) = lookR ls t := by
  unfold lookR
  rw [if_neg ht, ← lk_cons hx h, lookF, if_neg hb, if_neg (way_ne (get_lt_len hx) h0), if_pos hd]
theorem lk_next {ls : List (List Rec)} {t x : List UInt8} {j : Nat} (hx : nth (wayL t) j = some x) (h0 : ¬ j = 0) (hb : ¬ (winL ls x = 0 ∨ (winR ls x).1 = 4)) (hd : (winR ls x).1 = 3) (h : LkInv ls t (j + 1)) : LkInv ls t j := by
  have := lk_cons hx h
  rw [lookF, if_neg hb, if_neg (way_ne (get_lt_len hx) h0), if_neg (by simpa using hd)] at this
  exact this
theorem lk_end {ls : List (List Rec)} {t : List UInt8} (ht : ¬ t = []) (h : LkInv ls t 0) : (rec0, (0 : Int), (5 : Int)) = lookR ls t := by
  unfold lookR
  rw [if_neg ht, ← h]; rfl
theorem way_mem {t p : List UInt8} (h : p ∈ wayL t) : p.length ≤ t.length := by
  rcases List.mem_append.1 h with h | h
  · rw [List.mem_singleton.1 h]; exact Nat.le_refl _
  · exact anc_mem _ _ _ h
theorem way_at {t p : List UInt8} {j : Nat} (h : nth (wayL t) j = some p) : p.length ≤ t.length := way_mem (List.mem_of_getElem? h)
theorem way_len (t : List UInt8) : (wayL t).length ≤ t.length + 1 := by
  unfold wayL
  rw [List.length_append, List.length_singleton]
  have : (anc t).length ≤ t.length := anc_len _ _
  omega
end Go.Fn
namespace Go.Fn
open Go.Ab
def joinP (p x : List UInt8) : List UInt8 := if p = [] then x else catS (catS p [47]) x
def pfx (w : List (List UInt8)) (k : Nat) : List UInt8 := (w.take k).foldl joinP []
def pfGo (w : List (List UInt8)) (i : Nat) : Nat → List (List UInt8)
  | 0 => []
  | m + 1 => pfx w (i + 1) :: pfGo w (i + 1) m
theorem pfGo_last (w : List (List UInt8)) : ∀ (m i : Nat), pfGo w i (m + 1) = pfGo w i m ++ [pfx w (i + m + 1)]
  | 0, i => rfl
  | m + 1, i => by
    rw [pfGo, pfGo_last w m (i + 1), pfGo]
    rw [show i + 1 + m + 1 = i + (m + 1) + 1 by omega]; rfl
theorem pfx_succ {w : List (List UInt8)} {k : Nat} {x : List UInt8} (h : w[k]? = some x) : pfx w (k + 1) = joinP (pfx w k) x := by
  unfold pfx
  rw [List.take_add_one, h]
  simp
def partP (x : List UInt8) : Prop := ¬ x = [] ∧ ∀ c ∈ x, ¬ c = 47
theorem join_ne {p x : List UInt8} (hx : partP x) : ¬ joinP p x = [] := by
  unfold joinP catS
  split
  · exact hx.1
  · simp
theorem parent_join {p x : List UInt8} (hx : partP x) : parentS (joinP p x) = p := by
  have no : ∀ j : Nat, x[j]? ≠ some 47 := fun j h => hx.2 47 (List.mem_of_getElem? h) rfl
  unfold joinP
  split
  · rename_i h
    subst h
    unfold parentS
    rw [lastI_none no]; rfl
  · unfold parentS catS
    have e : p ++ [47] ++ x = p ++ 47 :: x := by simp
    rw [e, lastI_at (c := 47) (t := p ++ 47 :: x) (i := p.length) (by simp) (fun j hj => by
      obtain ⟨k, rfl⟩ : ∃ k, j = p.length + 1 + k := ⟨j - p.length - 1, by omega⟩
      rw [List.getElem?_append_right (by omega), show p.length + 1 + k - p.length = k + 1 by omega, List.getElem?_cons_succ]
      exact no k)]
    simp [subL]
theorem anc_pfx {w : List (List UInt8)} (hw : ∀ x ∈ w, partP x) : ∀ k, k ≤ w.length → (ancR (pfx w k)).reverse = pfGo w 0 k
  | 0, _ => rfl
  | k + 1, h => by
    have hx : w[k]? = some w[k] := List.getElem?_eq_getElem h
    have hp := hw w[k] (List.getElem_mem h)
    rw [pfx_succ hx, ancR_cons (join_ne hp), parent_join hp, List.reverse_cons, anc_pfx hw k (Nat.le_of_succ_le h), pfGo_last, Nat.zero_add, pfx_succ hx]
def glue : List (List UInt8) → List UInt8
  | [] => []
  | [x] => x
  | x :: y :: r => x ++ 47 :: glue (y :: r)
theorem glue_split : ∀ t : List UInt8, glue (split 47 t) = t
  | [] => rfl
  | x :: r => by
    have ih := glue_split r
    have hp := split_pos 47 r
    unfold split
    split
    · rename_i hx
      subst hx
      cases hs : split 47 r with
      | nil => rw [hs] at hp; cases hp
      | cons y ys => rw [hs] at ih; rw [glue, ih]; rfl
    · cases hs : split 47 r with
      | nil => rw [hs] at hp; cases hp
      | cons y ys =>
        rw [hs] at ih
        simp only
        cases ys with
        | nil => rw [glue] at ih ⊢; rw [ih]
        | cons z zs => rw [glue] at ih ⊢; rw [← ih]; rfl
theorem fold_glue : ∀ (l : List (List UInt8)) (p : List UInt8), ¬ p = [] → l.foldl joinP p = match l with | [] => p | x :: r => p ++ 47 :: glue (x :: r)
  | [], p, _ => rfl
  | x :: r, p, hp => by
    have e : joinP p x = p ++ 47 :: x := by unfold joinP catS; rw [if_neg hp]; simp
    rw [List.foldl_cons, e, fold_glue r _ (by simp)]
    cases r with
    | nil => rfl
    | cons y ys => simp [glue]
theorem fold_split {t : List UInt8} (hw : ∀ x ∈ split 47 t, partP x) : pfx (split 47 t) (split 47 t).length = t := by
  unfold pfx
  rw [List.take_length]
  have hg := glue_split t
  cases hs : split 47 t with
  | nil => have := split_pos 47 t; rw [hs] at this; cases this
  | cons x r =>
    rw [hs] at hw hg
    have hx := (hw x (List.mem_cons_self ..)).1
    rw [List.foldl_cons, show joinP [] x = x from if_pos rfl, fold_glue r x hx, ← hg]
    cases r with
    | nil => rfl
    | cons y ys => rfl
theorem path_parts {t : List UInt8} (h : pathOK t = true) : ∀ x ∈ split 47 t, partP x := by
  intro x hx
  unfold pathOK at h
  simp only [Bool.and_eq_true, List.all_eq_true] at h
  have hp := h.2 x hx
  unfold partOK within at hp
  simp only [Bool.and_eq_true, List.all_eq_true, decide_eq_true_eq] at hp
  refine ⟨fun e => ?_, fun c hc e => ?_⟩
  · subst e; simp at hp
  · have := hp.2 c hc
    subst e
    simp [partB] at this
theorem way_pfx {t : List UInt8} (h : pathOK t = true) (hn : ¬ t = []) : (wayL t).reverse = pfGo (split 47 t) 0 (split 47 t).length := by
  rw [← anc_pfx (path_parts h) _ (Nat.le_refl _), fold_split (path_parts h)]
  unfold wayL ancR
  rw [if_neg hn]; rfl
theorem pfGo_mem (w : List (List UInt8)) : ∀ (n k : Nat), k < n → pfx w (k + 1) ∈ pfGo w 0 n
  | 0, _, h => absurd h (Nat.not_lt_zero _)
  | n + 1, k, h => by
    rw [pfGo_last, Nat.zero_add]
    by_cases e : k = n
    · subst e; simp
    · exact List.mem_append_left _ (pfGo_mem w n k (by omega))
theorem pfx_len {t : List UInt8} (h : pathOK t = true) (hn : ¬ t = []) {k : Nat} (hk : k ≤ (split 47 t).length) : (pfx (split 47 t) k).length ≤ t.length := by
  cases k with
  | zero => exact Nat.zero_le _
  | succ k => exact way_mem (by rw [← List.mem_reverse, way_pfx h hn]; exact pfGo_mem _ _ _ hk)
def NdInv (ls : List (List Rec)) (t : List UInt8) (i : Nat) : Prop := i ≤ (split 47 t).length ∧ lookF ls (pfGo (split 47 t) i ((split 47 t).length - i)) = lookF ls (wayL t).reverse
theorem nd_start {ls : List (List Rec)} {t : List UInt8} (h : pathOK t = true) (hn : ¬ t = []) : NdInv ls t 0 := ⟨Nat.zero_le _, by rw [way_pfx h hn, Nat.sub_zero]⟩
theorem nd_cons {ls : List (List Rec)} {t x : List UInt8} {i : Nat} (hx : (split 47 t)[i]? = some x) (h : NdInv ls t i) : lookF ls (joinP (pfx (split 47 t) i) x :: pfGo (split 47 t) (i + 1) ((split 47 t).length - (i + 1))) = lookF ls (wayL t).reverse := by
  have hi : i < (split 47 t).length := (List.getElem?_eq_some_iff.1 hx).1
  rw [← h.2, show (split 47 t).length - i = (split 47 t).length - (i + 1) + 1 by omega, pfGo, pfx_succ hx]
theorem nd_gone {ls : List (List Rec)} {t x : List UInt8} {i : Nat} (ht : ¬ t = []) (hx : (split 47 t)[i]? = some x) (h : NdInv ls t i) (hb : winL ls (joinP (pfx (split 47 t) i) x) = 0 ∨ (winR ls (joinP (pfx (split 47 t) i) x)).1 = 4) : (rec0, (0 : Int), (5 : Int)) = lookR ls t := by
  unfold lookR
  rw [if_neg ht, ← nd_cons hx h, lookF, if_pos hb]
theorem nd_ok {ls : List (List Rec)} {t x : List UInt8} {i : Nat} (ht : ¬ t = []) (hx : (split 47 t)[i]? = some x) (h : NdInv ls t i) (hi : i + 1 = (split 47 t).length) (hb : ¬ (winL ls (joinP (pfx (split 47 t) i) x) = 0 ∨ (winR ls (joinP (pfx (split 47 t) i) x)).1 = 4)) : (winR ls (joinP (pfx (split 47 t) i) x), winL ls (joinP (pfx (split 47 t) i) x), (0 : Int)) = lookR ls t := by
  unfold lookR
  rw [if_neg ht, ← nd_cons hx h, lookF, if_neg hb, hi, Nat.sub_self, if_pos (by rfl)]
theorem pf_ne {w : List (List UInt8)} {i : Nat} (h : i < w.length) : ¬ pfGo w i (w.length - i) = [] := by
  rw [show w.length - i = w.length - i - 1 + 1 by omega, pfGo]
  simp
theorem nd_file {ls : List (List Rec)} {t x : List UInt8} {i : Nat} (ht : ¬ t = []) (hx : (split 47 t)[i]? = some x) (h : NdInv ls t i) (hi : i + 1 < (split 47 t).length) (hb : ¬ (winL ls (joinP (pfx (split 47 t) i) x) = 0 ∨ (winR ls (joinP (pfx (split 47 t) i) x)).1 = 4)) (hd : ¬ (winR ls (joinP (pfx (split 47 t) i) x)).1 = 3) : (rec0, (0 : Int), (13 : Int)) = lookR ls t := by
  unfold lookR
  rw [if_neg ht, ← nd_cons hx h, lookF, if_neg hb, if_neg (pf_ne hi), if_pos hd]
theorem nd_next {ls : List (List Rec)} {t x : List UInt8} {i : Nat} (hx : (split 47 t)[i]? = some x) (h : NdInv ls t i) (hi : i + 1 < (split 47 t).length) (hb : ¬ (winL ls (joinP (pfx (split 47 t) i) x) = 0 ∨ (winR ls (joinP (pfx (split 47 t) i) x)).1 = 4)) (hd : (winR ls (joinP (pfx (split 47 t) i) x)).1 = 3) : NdInv ls t (i + 1) := by
  refine ⟨Nat.le_of_lt hi, ?_⟩
  rw [← nd_cons hx h, lookF, if_neg hb, if_neg (pf_ne hi), if_neg (by simpa using hd)]
theorem nd_end {ls : List (List Rec)} {t : List UInt8} {i : Nat} (ht : ¬ t = []) (h : NdInv ls t i) (hi : ¬ i < (split 47 t).length) : (rec0, (0 : Int), (5 : Int)) = lookR ls t := by
  unfold lookR
  rw [if_neg ht, ← h.2, show (split 47 t).length - i = 0 by omega]; rfl
end Go.Fn
namespace Go.Fn
open Go.Ab
def stackOK (ls : List (List Rec)) : Bool := decide (ls.length ≤ 5) && ls.all (fun l => decide (layC l = 0))
def stackC (ls : List (List Rec)) : Int := if ls.length > 4096 then 2 else if stackOK ls = false then 1 else 0
def askC (ls : List (List Rec)) (t : List UInt8) : Int := if short t = false then 2 else if ¬ stackC ls = 0 then stackC ls else if t = [] then 0 else if pathOK t = false then 10 else 0
def askR (ls : List (List Rec)) (t : List UInt8) : Rec × Int × Int := if askC ls t = 0 then lookR ls t else (rec0, 0, askC ls t)
def okLs (ls : List (List Rec)) : Prop := ∀ l ∈ ls, okL l
theorem layF_eq (l : List Rec) : decide (layFC l = 0) = decide (layC l = 0) := by
  unfold layFC
  split
  · rename_i h
    have : ¬ layC l = 0 := fun e => by have := okto_16 (layC_ok e); omega
    rw [decide_eq_false this]; rfl
  · rfl
theorem fault_o {r : Rec} (h : recFault r = 0) : ¬ r.1 = 3 → r.2.2.2.2.1 = false := by
  intro hk
  have hb : bad3 r.1 r.2.2.1 r.2.2.2.2.1 = false := by
    cases hb : bad3 r.1 r.2.2.1 r.2.2.2.2.1 with
    | false => rfl
    | true =>
      exfalso
      revert h
      unfold recFault
      rw [hb]
      split
      · decide
      · split
        · decide
        · split
          · decide
          · simp
  unfold bad3 at hb
  rw [decide_eq_false hk] at hb
  simp only [Bool.or_eq_false_iff, Bool.not_false, Bool.and_true] at hb
  exact hb.2
theorem stack_o {ls : List (List Rec)} (h : stackOK ls = true) : okO ls := by
  unfold stackOK at h
  simp only [Bool.and_eq_true, List.all_eq_true, decide_eq_true_eq] at h
  exact fun l hl r hr => fault_o (okto_all (layC_ok (h.2 l hl)) r hr)
theorem stackC_ok {ls : List (List Rec)} (h : stackC ls = 0) : stackOK ls = true := by
  unfold stackC at h
  split at h
  · cases h
  · split at h
    · cases h
    · rename_i h2; simpa using h2
theorem askC_ok {ls : List (List Rec)} {t : List UInt8} (h : askC ls t = 0) : okO ls ∧ (¬ t = [] → pathOK t = true) ∧ t.length ≤ 65536 := by
  unfold askC at h
  split at h
  · cases h
  · rename_i hs
    split at h
    · rename_i hn; exact absurd h hn
    · rename_i hc
      refine ⟨stack_o (stackC_ok (by simpa using hc)), fun ht => ?_, ?_⟩
      · rw [if_neg ht] at h
        split at h
        · cases h
        · rename_i h3; simpa using h3
      · unfold short at hs; simpa using hs
end Go.Fn
namespace Go.Fn
open Go.Ab
theorem tri {ls : List (List Rec)} {t : List UInt8} {a : Rec} {b c : Int} (h : (a, b, c) = lookR ls t) : a = (lookR ls t).1 ∧ b = (lookR ls t).2.1 ∧ c = (lookR ls t).2.2 := by rw [← h]; exact ⟨rfl, rfl, rfl⟩
theorem tri2 {ls : List (List Rec)} {t : List UInt8} {a : Rec} {b c : Int} (h : (a, b, c) = lookR ls t) : nodeOf a = nodeOf (lookR ls t).1 ∧ b = (lookR ls t).2.1 ∧ c = (lookR ls t).2.2 := by rw [← h]; exact ⟨rfl, rfl, rfl⟩
theorem look_root {ls : List (List Rec)} {t : List UInt8} (h : t = []) : (dir0, (0 : Int), (0 : Int)) = lookR ls t := by unfold lookR; rw [if_pos h]
theorem way_fits {t : List UInt8} (h : t.length ≤ 65536) : fits (([t] : List (List UInt8)).length + (anc t).length) := by
  have h2 : (anc t).length ≤ t.length := anc_len _ _
  show 1 + (anc t).length < 1099511627776
  omega
theorem part_len {t x : List UInt8} (h : pathOK t = true) (hx : x ∈ split 47 t) : x.length ≤ 8 := by
  unfold pathOK at h
  simp only [Bool.and_eq_true, List.all_eq_true] at h
  have hp := h.2 x hx
  unfold partOK within at hp
  simp only [Bool.and_eq_true, decide_eq_true_eq] at hp
  have := hp.1.1.2
  omega
theorem join_e {p x : List UInt8} (h : p = []) : x = joinP p x := by unfold joinP; rw [if_pos h]
theorem join_n {p x : List UInt8} (h : ¬ p = []) : catS (catS p [47]) x = joinP p x := by unfold joinP; rw [if_neg h]
theorem last_eq {i n : Nat} (hf : fits n) : Int.ofNat i = wSub .i64 (iOf n) 1 ↔ i + 1 = n := by
  have : wSub .i64 (iOf n) 1 = Int.ofNat n - 1 := sub1_in (Nat.le_refl n) hf
  rw [this]
  simp only [Int.ofNat_eq_natCast]
  omega
end Go.Fn
namespace Go.Proofs.YtjkipndhdemnoaaGreatDoor
open Go.Ab Go.Fn
def s_lookup : FSpec := { ps := [.v (.slice (.slice tRec)), .v .str], rs := [.v tRec, .v I, .v I], pre := fun x => List.length (α := UInt8) x.2.1 ≤ 65536, fn := fun x => ((Fn.lookR x.1 x.2.1).1, (Fn.lookR x.1 x.2.1).2.1, (Fn.lookR x.1 x.2.1).2.2, ()), upd := fun _ => () }
theorem fo_lookup : FO 90 s_lookup := by
  refine foB (specs := [(124, s_anc), (126, s_winner)]) (clos := []) (inl := [(125, backT 160)]) (fun x => []) 160 .str [(23, false), (24, true), (8, false), (9, true)] 52 (fun x j => LkInv x.1 x.2.1 j) ⟨fo_ancestors, fo_winner, trivial⟩ trivial ⟨inBackS, trivial⟩ Tryz.func90 rfl rfl backOKS rfl ?_ rfl ?_
  · repeat' (first | exact trivial | apply And.intro)
    exact ⟨23, 24, rfl, rfl, asg2 (by decide) (by decide) (by decide) (by decide)⟩
  rintro ⟨ls, t, ⟨⟩⟩ hl
  refine vcOf (((t == ([] : List UInt8)) = true → nat_lit 5 ≤ nat_lit 5 ∧ nat_lit 1 ≤ nat_lit 1 ∧ nat_lit 1 ≤ nat_lit 1 ∧ true = true ∧ (((3 : Int), ([] : List UInt8), ([] : List UInt8), (0 : (Ty.int IntKind.i64).den), false, ()), (0 : Int), (0 : Int), ()) = ((lookR ls t).fst, (lookR ls t).snd.fst, (lookR ls t).snd.snd, ()) ∧ () = ()) ∧ ((t == ([] : List UInt8)) = false → true = true ∧ List.length t ≤ (100000000 : Nat) ∧ fits (lenL (t :: ([] : List (List UInt8))) + lenL (anc t)) ∧ (fits ((([] : List (List UInt8)).append (anc t)).length.add (nat_lit 0)).succ → LkInv ls t ((([] : List (List UInt8)).append (anc t)).length.add (nat_lit 0)).succ ∧ (∀ (j : Nat) (x : List UInt8), nth (t :: ([] : List (List UInt8)).append (anc t)) j = some x → nat_lit 1 ≤ nat_lit 1 ∧ true = true ∧ x.length ≤ (100000000 : Nat) ∧ nat_lit 5 ≤ nat_lit 5 ∧ ((!decide (winL ls x > (0 : Int))) = false → nat_lit 1 ≤ (Nat.succ (nat_lit 1)).succ.succ.succ ∧ (((winR ls x).fst == (4 : Int)) = true → nat_lit 5 ≤ nat_lit 5 ∧ nat_lit 1 ≤ nat_lit 1 ∧ nat_lit 1 ≤ nat_lit 1 ∧ true = true ∧ (LkInv ls t j.succ → true = true ∧ (((0 : (Ty.int IntKind.i64).den), ([] : List UInt8), ([] : List UInt8), (0 : (Ty.int IntKind.i64).den), false, ()), (0 : Int), (5 : Int), ()) = ((lookR ls t).fst, (lookR ls t).snd.fst, (lookR ls t).snd.snd, ()) ∧ () = ())) ∧ (((winR ls x).fst == (4 : Int)) = false → ((iOf j == (0 : Int)) = true → nat_lit 5 ≤ (Nat.succ (nat_lit 1)).succ.succ.succ ∧ nat_lit 5 ≤ nat_lit 5 ∧ nat_lit 1 ≤ nat_lit 1 ∧ nat_lit 1 ≤ nat_lit 1 ∧ true = true ∧ (LkInv ls t j.succ → true = true ∧ (((winR ls x).fst, (winR ls x).snd.fst, (winR ls x).snd.snd.fst, (winR ls x).snd.snd.snd.fst, (winR ls x).snd.snd.snd.snd.fst, ()), winL ls x, (0 : Int), ()) = ((lookR ls t).fst, (lookR ls t).snd.fst, (lookR ls t).snd.snd, ()) ∧ () = ())) ∧ ((iOf j == (0 : Int)) = false → nat_lit 1 ≤ (Nat.succ (nat_lit 1)).succ.succ.succ ∧ (((winR ls x).fst != (3 : Int)) = true → nat_lit 5 ≤ nat_lit 5 ∧ nat_lit 1 ≤ nat_lit 1 ∧ nat_lit 1 ≤ nat_lit 1 ∧ true = true ∧ (LkInv ls t j.succ → true = true ∧ (((0 : (Ty.int IntKind.i64).den), ([] : List UInt8), ([] : List UInt8), (0 : (Ty.int IntKind.i64).den), false, ()), (0 : Int), (13 : Int), ()) = ((lookR ls t).fst, (lookR ls t).snd.fst, (lookR ls t).snd.snd, ()) ∧ () = ())) ∧ (((winR ls x).fst != (3 : Int)) = false → (LkInv ls t j.succ → LkInv ls t j) ∧ (ls = ls ∧ t = t ∧ (nat_lit 0 = nat_lit 0 ∧ (0 : Nat) = (0 : Nat)) ∧ (nat_lit 1 = nat_lit 1 ∧ (0 : Nat) = (0 : Nat)) ∧ (nat_lit 2 = nat_lit 2 ∧ (0 : Nat) = (0 : Nat)) ∧ (nat_lit 3 = nat_lit 3 ∧ (0 : Nat) = (0 : Nat)) ∧ t :: ([] : List (List UInt8)).append (anc t) = t :: ([] : List (List UInt8)).append (anc t) ∧ t = t ∧ (t == ([] : List UInt8)) = (t == ([] : List UInt8)) ∧ t = t ∧ t = t ∧ (Nat.succ (nat_lit 1)).succ.succ.succ = (Nat.succ (nat_lit 1)).succ.succ.succ ∧ t :: ([] : List (List UInt8)).append (anc t) = t :: ([] : List (List UInt8)).append (anc t) ∧ t :: ([] : List (List UInt8)).append (anc t) = t :: ([] : List (List UInt8)).append (anc t) ∧ ((160 : Nat) = (160 : Nat) ∧ (t :: ([] : List (List UInt8)).append (anc t) = t :: ([] : List (List UInt8)).append (anc t) ∧ True) ∧ True) ∧ True) ∧ ((ls = ls ∧ True) ∧ ((0 : (Ty.int IntKind.i64).den) = (0 : (Ty.int IntKind.i64).den) ∧ ([] : List UInt8) = ([] : List UInt8) ∧ ([] : List UInt8) = ([] : List UInt8) ∧ (0 : (Ty.int IntKind.i64).den) = (0 : (Ty.int IntKind.i64).den) ∧ false = false ∧ True) ∧ ((0 : (Ty.int IntKind.i64).den) = (0 : (Ty.int IntKind.i64).den) ∧ True) ∧ ((0 : (Ty.int IntKind.i64).den) = (0 : (Ty.int IntKind.i64).den) ∧ True) ∧ True ∧ (anc t = anc t ∧ false = false) ∧ True) ∧ True)))) ∧ ((!decide (winL ls x > (0 : Int))) = true → nat_lit 5 ≤ nat_lit 5 ∧ nat_lit 1 ≤ nat_lit 1 ∧ nat_lit 1 ≤ nat_lit 1 ∧ true = true ∧ (LkInv ls t j.succ → true = true ∧ (((0 : (Ty.int IntKind.i64).den), ([] : List UInt8), ([] : List UInt8), (0 : (Ty.int IntKind.i64).den), false, ()), (0 : Int), (5 : Int), ()) = ((lookR ls t).fst, (lookR ls t).snd.fst, (lookR ls t).snd.snd, ()) ∧ () = ()))) ∧ (LkInv ls t (0 : Nat) → nat_lit 5 ≤ nat_lit 5 ∧ nat_lit 1 ≤ nat_lit 1 ∧ nat_lit 1 ≤ nat_lit 1 ∧ true = true ∧ (((0 : (Ty.int IntKind.i64).den), ([] : List UInt8), ([] : List UInt8), (0 : (Ty.int IntKind.i64).den), false, ()), (0 : Int), (5 : Int), ()) = ((lookR ls t).fst, (lookR ls t).snd.fst, (lookR ls t).snd.snd, ()) ∧ () = ())))) (by kernel_rfl) ?_
  simp only [Nat.le_refl, Nat.succ_eq_add_one, Nat.reduceAdd, Nat.reduceLeDiff, Nat.zero_le, pair_unit, mk_eta, len_bne, eqD_bne, bne_iff_ne, bne_eq_false_iff_eq, beq_iff_eq, beq_eq_false_iff_ne, true_and, and_true, and_self, eq_self, lt_iff, nthI_nat, bnd_iff, decide_eq_true_eq, decide_eq_false_iff_not, Nat.sub_eq, nz, ne_eq, not_false_eq_true, Prod.mk.injEq, Int.reduceEq, Nat.reduceEqDiff, forall_const, implies_true, bne_self_eq_false, Bool.true_eq_false, Bool.false_eq_true, false_implies, reduceCtorEq, Bool.not_true, Bool.not_false, List.all_cons, List.all_nil, Bool.and_true, Bool.not_eq_true, Bool.not_eq_false, Bool.not_eq_true', Bool.not_eq_false', Decidable.not_not]; try simp only [lenL]
  have hl : List.length t ≤ 65536 := hl
  refine ⟨fun h => tri (look_root h), fun hn => ⟨by omega, way_fits hl, fun hf => ⟨lk_start ls t, fun j x hx => ?_, fun h => tri (lk_end hn h)⟩⟩⟩
  have hx : nth (wayL t) j = some x := hx
  have hb : winL ls x > 0 → ¬ (winR ls x).1 = 4 → ¬ (winL ls x = 0 ∨ (winR ls x).1 = 4) := fun h1 h2 h => h.elim (fun h => by omega) h2
  refine ⟨Nat.le_trans (way_at hx) (by omega), fun hw => ⟨fun h4 hi => tri (lk_gone hn hx (.inr h4) hi), fun h4 => ⟨fun h0 hi => ?_, fun h0 => ?_⟩⟩, fun hw hi => tri (lk_gone hn hx (.inl (by have := @winL_ge ls x; omega)) hi)⟩
  · have h0 : j = 0 := by have : (j : Int) = 0 := h0; omega
    subst h0
    exact tri (lk_ok hn hx (hb hw h4) hi)
  · have h0 : ¬ j = 0 := fun e => h0 (by subst e; rfl)
    exact ⟨fun hd hi => tri (lk_file hn hx h0 (hb hw h4) hd hi), fun hd hi => lk_next hx h0 (hb hw h4) hd hi⟩
end Go.Proofs.YtjkipndhdemnoaaGreatDoor
namespace Go.Proofs.YtjkipndhdemnoaaGreatDoor
open Go.Ab Go.Fn
def s_join : FSpec := { ps := [.v .str, .v .str], rs := [.v .str], pre := fun x => List.length (α := UInt8) x.1 ≤ 100000000 ∧ List.length (α := UInt8) x.2.1 ≤ 100000000, fn := fun x => (Fn.joinP x.1 x.2.1, ()), upd := fun _ => () }
theorem fo_l01Join : FO 116 s_join := by
  refine fo (specs := []) (clos := []) (fun x => []) trivial trivial Tryz.func116 rfl rfl ?_
  rintro ⟨p, x, ⟨⟩⟩ ⟨hp, hx⟩
  refine vcOf (((p == ([] : List UInt8)) = true → (x, ()) = (Fn.joinP p x, ()) ∧ () = ()) ∧ ((p == ([] : List UInt8)) = false → fits (lenL p + lenL ((47 : UInt8) :: ([] : List UInt8))) ∧ fits (lenL (catS p ((47 : UInt8) :: ([] : List UInt8))) + lenL x) ∧ (catS (catS p ((47 : UInt8) :: ([] : List UInt8))) x, ()) = (Fn.joinP p x, ()) ∧ () = ())) (by kernel_rfl) ?_
  simp only [Nat.le_refl, Nat.succ_eq_add_one, Nat.reduceAdd, Nat.reduceLeDiff, Nat.zero_le, pair_unit, mk_eta, len_bne, eqD_bne, bne_iff_ne, bne_eq_false_iff_eq, beq_iff_eq, beq_eq_false_iff_ne, true_and, and_true, and_self, eq_self, lt_iff, nthI_nat, bnd_iff, decide_eq_true_eq, decide_eq_false_iff_not, Nat.sub_eq, nz, ne_eq, not_false_eq_true, Prod.mk.injEq, Int.reduceEq, Nat.reduceEqDiff, forall_const, implies_true, bne_self_eq_false, Bool.true_eq_false, Bool.false_eq_true, false_implies, reduceCtorEq, Bool.not_true, Bool.not_false, List.all_cons, List.all_nil, Bool.and_true, Bool.not_eq_true, Bool.not_eq_false, Bool.not_eq_true', Bool.not_eq_false', Decidable.not_not]; try simp only [lenL]
  have hp : List.length p ≤ 100000000 := hp
  have hx : List.length x ≤ 100000000 := hx
  refine ⟨fun h => join_e h, fun h => ⟨by show List.length p + 1 < 1099511627776; omega, ?_, join_n h⟩⟩
  show (p ++ [47]).length + List.length x < 1099511627776
  rw [List.length_append, List.length_singleton]; omega
def s_nodeOf : FSpec := { ps := [.v tRec], rs := [.v tNode], pre := fun _ => True, fn := fun x => (Fn.nodeOf x.1, ()), upd := fun _ => () }
theorem fo_l04Node : FO 118 s_nodeOf := by
  refine fo (specs := []) (clos := []) (fun x => []) trivial trivial Tryz.func118 rfl rfl ?_
  rintro ⟨⟨k, p, b, m, o, ⟨⟩⟩, ⟨⟩⟩ -
  refine vcOf (nat_lit 1 ≤ (Nat.succ (nat_lit 1)).succ.succ.succ ∧ nat_lit 2 ≤ (Nat.succ (nat_lit 1)).succ.succ.succ ∧ nat_lit 3 ≤ (Nat.succ (nat_lit 1)).succ.succ.succ ∧ nat_lit 4 ≤ (Nat.succ (nat_lit 1)).succ.succ.succ ∧ nat_lit 4 ≤ nat_lit 4 ∧ ((k, p, b, m, ()), ()) = (nodeOf (k, p, b, m, o, ()), ()) ∧ () = ()) (by kernel_rfl) ?_
  simp only [Nat.le_refl, Nat.succ_eq_add_one, Nat.reduceAdd, Nat.reduceLeDiff, Nat.zero_le, pair_unit, mk_eta, len_bne, eqD_bne, bne_iff_ne, bne_eq_false_iff_eq, beq_iff_eq, beq_eq_false_iff_ne, true_and, and_true, and_self, eq_self, lt_iff, nthI_nat, bnd_iff, decide_eq_true_eq, decide_eq_false_iff_not, Nat.sub_eq, nz, ne_eq, not_false_eq_true, Prod.mk.injEq, Int.reduceEq, Nat.reduceEqDiff, forall_const, implies_true, bne_self_eq_false, Bool.true_eq_false, Bool.false_eq_true, false_implies, reduceCtorEq, Bool.not_true, Bool.not_false, List.all_cons, List.all_nil, Bool.and_true, Bool.not_eq_true, Bool.not_eq_false, Bool.not_eq_true', Bool.not_eq_false', Decidable.not_not]; try simp only [lenL]
  rfl
theorem fo_node : FO 59 s_nodeOf := by
  refine fo (specs := []) (clos := []) (fun x => []) trivial trivial Tryz.func59 rfl rfl ?_
  rintro ⟨⟨k, p, b, m, o, ⟨⟩⟩, ⟨⟩⟩ -
  refine vcOf (nat_lit 1 ≤ (Nat.succ (nat_lit 1)).succ.succ.succ ∧ nat_lit 2 ≤ (Nat.succ (nat_lit 1)).succ.succ.succ ∧ nat_lit 3 ≤ (Nat.succ (nat_lit 1)).succ.succ.succ ∧ nat_lit 4 ≤ (Nat.succ (nat_lit 1)).succ.succ.succ ∧ nat_lit 4 ≤ nat_lit 4 ∧ ((k, p, b, m, ()), ()) = (nodeOf (k, p, b, m, o, ()), ()) ∧ () = ()) (by kernel_rfl) ?_
  simp only [Nat.le_refl, Nat.succ_eq_add_one, Nat.reduceAdd, Nat.reduceLeDiff, Nat.zero_le, pair_unit, mk_eta, len_bne, eqD_bne, bne_iff_ne, bne_eq_false_iff_eq, beq_iff_eq, beq_eq_false_iff_ne, true_and, and_true, and_self, eq_self, lt_iff, nthI_nat, bnd_iff, decide_eq_true_eq, decide_eq_false_iff_not, Nat.sub_eq, nz, ne_eq, not_false_eq_true, Prod.mk.injEq, Int.reduceEq, Nat.reduceEqDiff, forall_const, implies_true, bne_self_eq_false, Bool.true_eq_false, Bool.false_eq_true, false_implies, reduceCtorEq, Bool.not_true, Bool.not_false, List.all_cons, List.all_nil, Bool.and_true, Bool.not_eq_true, Bool.not_eq_false, Bool.not_eq_true', Bool.not_eq_false', Decidable.not_not]; try simp only [lenL]
  rfl
def s_l10Node : FSpec := { ps := [.v (.slice (.slice tRec)), .v .str], rs := [.v tNode, .v I, .v I], pre := fun x => List.length (α := UInt8) x.2.1 ≤ 65536 ∧ okO x.1 ∧ (¬ List.length (α := UInt8) x.2.1 = 0) ∧ Fn.pathOK x.2.1 = true, fn := fun x => (Fn.nodeOf (Fn.lookR x.1 x.2.1).1, (Fn.lookR x.1 x.2.1).2.1, (Fn.lookR x.1 x.2.1).2.2, ()), upd := fun _ => () }
def L_l10Node (ls : List (List Rec)) (t : List UInt8) : LoopAnn := { ι := Nat, inv := fun i => NdInv ls t i, slots := fun i => [(8, .d .str (pfx (split 47 t) i)), (9, .d I (Int.ofNat i))], objs := fun _ => [], μ := fun i => (split 47 t).length - i }
theorem fo_l10Node : FO 85 s_l10Node := by
  refine fo (specs := [(114, s_l00Cut), (116, s_join), (117, s_l07Winner), (118, s_nodeOf)]) (clos := []) (fun x => [(4, .lv [0, 4, 7, 8, 9] <| fun _ => L_l10Node x.1 x.2.1)]) ⟨fo_l00Cut, fo_l01Join, fo_l07Winner, fo_l04Node, trivial⟩ trivial Tryz.func85 rfl rfl ?_
  rintro ⟨ls, t, ⟨⟩⟩ ⟨hl, ho, hn, hp⟩
  refine vcOf (true = true ∧ ((∃ (c : UInt8), (47 : Int) = Int.ofNat c.toNat) ∧ List.length t ≤ (100000000 : Nat)) ∧ (∃ (i : Nat), NdInv ls t i ∧ (ls = ls ∧ (nat_lit 0 = nat_lit 0 ∧ (0 : Nat) = (0 : Nat)) ∧ nat_lit 1 = nat_lit 1 ∧ ([] : List UInt8) = pfx (split (47 : UInt8) t) i ∧ (0 : Int) = Int.ofNat i ∧ True) ∧ (((0 : (Ty.int IntKind.i64).den) = (0 : (Ty.int IntKind.i64).den) ∧ ([] : List UInt8) = ([] : List UInt8) ∧ ([] : List UInt8) = ([] : List UInt8) ∧ (0 : (Ty.int IntKind.i64).den) = (0 : (Ty.int IntKind.i64).den) ∧ True) ∧ (split (bOf (47 : Int)) t = split (bOf (47 : Int)) t ∧ false = false) ∧ True) ∧ True) ∧ ∀ (i : Nat), NdInv ls t i → fits (lenL (split (bOf (47 : Int)) t)) → (decide (Int.ofNat i < iOf (lenL (split (bOf (47 : Int)) t))) = true → bnd (Int.ofNat i) (lenL (split (bOf (47 : Int)) t)) ∧ nat_lit 1 = nat_lit 1 ∧ nat_lit 1 ≤ nat_lit 1 ∧ tN (Int.ofNat i) < lenL (split (bOf (47 : Int)) t) ∧ ∀ (x : List UInt8), nth (split (bOf (47 : Int)) t) (tN (Int.ofNat i)) = some x → true = true ∧ ((pfx (split (47 : UInt8) t) i).length ≤ (100000000 : Nat) ∧ x.length ≤ (100000000 : Nat)) ∧ true = true ∧ ((Fn.joinP (pfx (split (47 : UInt8) t) i) x).length ≤ (100000000 : Nat) ∧ okO ls) ∧ nat_lit 5 ≤ nat_lit 5 ∧ ((winL ls (Fn.joinP (pfx (split (47 : UInt8) t) i) x) == (0 : Int)) = false → nat_lit 1 ≤ (Nat.succ (nat_lit 1)).succ.succ.succ ∧ (((winR ls (Fn.joinP (pfx (split (47 : UInt8) t) i) x)).fst == (4 : Int)) = true → nat_lit 4 ≤ nat_lit 4 ∧ (((0 : (Ty.int IntKind.i64).den), ([] : List UInt8), ([] : List UInt8), (0 : (Ty.int IntKind.i64).den), ()), (0 : Int), (5 : Int), ()) = (nodeOf (lookR ls t).fst, (lookR ls t).snd.fst, (lookR ls t).snd.snd, ()) ∧ () = ()) ∧ (((winR ls (Fn.joinP (pfx (split (47 : UInt8) t) i) x)).fst == (4 : Int)) = false → fits (lenL (split (bOf (47 : Int)) t)) → ((Int.ofNat i == wSub IntKind.i64 (iOf (lenL (split (bOf (47 : Int)) t))) (1 : Int)) = true → nat_lit 5 ≤ (Nat.succ (nat_lit 1)).succ.succ.succ ∧ true = true ∧ True ∧ nat_lit 4 ≤ nat_lit 4 ∧ (((nodeOf ((winR ls (Fn.joinP (pfx (split (47 : UInt8) t) i) x)).fst, (winR ls (Fn.joinP (pfx (split (47 : UInt8) t) i) x)).snd.fst, (winR ls (Fn.joinP (pfx (split (47 : UInt8) t) i) x)).snd.snd.fst, (winR ls (Fn.joinP (pfx (split (47 : UInt8) t) i) x)).snd.snd.snd.fst, (winR ls (Fn.joinP (pfx (split (47 : UInt8) t) i) x)).snd.snd.snd.snd.fst, ())).fst, (nodeOf ((winR ls (Fn.joinP (pfx (split (47 : UInt8) t) i) x)).fst, (winR ls (Fn.joinP (pfx (split (47 : UInt8) t) i) x)).snd.fst, (winR ls (Fn.joinP (pfx (split (47 : UInt8) t) i) x)).snd.snd.fst, (winR ls (Fn.joinP (pfx (split (47 : UInt8) t) i) x)).snd.snd.snd.fst, (winR ls (Fn.joinP (pfx (split (47 : UInt8) t) i) x)).snd.snd.snd.snd.fst, ())).snd.fst, (nodeOf ((winR ls (Fn.joinP (pfx (split (47 : UInt8) t) i) x)).fst, (winR ls (Fn.joinP (pfx (split (47 : UInt8) t) i) x)).snd.fst, (winR ls (Fn.joinP (pfx (split (47 : UInt8) t) i) x)).snd.snd.fst, (winR ls (Fn.joinP (pfx (split (47 : UInt8) t) i) x)).snd.snd.snd.fst, (winR ls (Fn.joinP (pfx (split (47 : UInt8) t) i) x)).snd.snd.snd.snd.fst, ())).snd.snd.fst, (nodeOf ((winR ls (Fn.joinP (pfx (split (47 : UInt8) t) i) x)).fst, (winR ls (Fn.joinP (pfx (split (47 : UInt8) t) i) x)).snd.fst, (winR ls (Fn.joinP (pfx (split (47 : UInt8) t) i) x)).snd.snd.fst, (winR ls (Fn.joinP (pfx (split (47 : UInt8) t) i) x)).snd.snd.snd.fst, (winR ls (Fn.joinP (pfx (split (47 : UInt8) t) i) x)).snd.snd.snd.snd.fst, ())).snd.snd.snd.fst, ()), winL ls (Fn.joinP (pfx (split (47 : UInt8) t) i) x), (0 : Int), ()) = (nodeOf (lookR ls t).fst, (lookR ls t).snd.fst, (lookR ls t).snd.snd, ()) ∧ () = ()) ∧ ((Int.ofNat i == wSub IntKind.i64 (iOf (lenL (split (bOf (47 : Int)) t))) (1 : Int)) = false → nat_lit 1 ≤ (Nat.succ (nat_lit 1)).succ.succ.succ ∧ (((winR ls (Fn.joinP (pfx (split (47 : UInt8) t) i) x)).fst != (3 : Int)) = true → nat_lit 4 ≤ nat_lit 4 ∧ (((0 : (Ty.int IntKind.i64).den), ([] : List UInt8), ([] : List UInt8), (0 : (Ty.int IntKind.i64).den), ()), (0 : Int), (13 : Int), ()) = (nodeOf (lookR ls t).fst, (lookR ls t).snd.fst, (lookR ls t).snd.snd, ()) ∧ () = ()) ∧ (((winR ls (Fn.joinP (pfx (split (47 : UInt8) t) i) x)).fst != (3 : Int)) = false → ∃ (j : Nat), NdInv ls t j ∧ (split (47 : UInt8) t).length.sub j < (split (47 : UInt8) t).length.sub i ∧ (ls = ls ∧ (nat_lit 0 = nat_lit 0 ∧ (0 : Nat) = (0 : Nat)) ∧ nat_lit 1 = nat_lit 1 ∧ Fn.joinP (pfx (split (47 : UInt8) t) i) x = pfx (split (47 : UInt8) t) j ∧ wAdd IntKind.i64 (Int.ofNat i) (1 : Int) = Int.ofNat j ∧ True) ∧ (((0 : (Ty.int IntKind.i64).den) = (0 : (Ty.int IntKind.i64).den) ∧ ([] : List UInt8) = ([] : List UInt8) ∧ ([] : List UInt8) = ([] : List UInt8) ∧ (0 : (Ty.int IntKind.i64).den) = (0 : (Ty.int IntKind.i64).den) ∧ True) ∧ (split (bOf (47 : Int)) t = split (bOf (47 : Int)) t ∧ false = false) ∧ True) ∧ True)))) ∧ ((winL ls (Fn.joinP (pfx (split (47 : UInt8) t) i) x) == (0 : Int)) = true → nat_lit 4 ≤ nat_lit 4 ∧ (((0 : (Ty.int IntKind.i64).den), ([] : List UInt8), ([] : List UInt8), (0 : (Ty.int IntKind.i64).den), ()), (0 : Int), (5 : Int), ()) = (nodeOf (lookR ls t).fst, (lookR ls t).snd.fst, (lookR ls t).snd.snd, ()) ∧ () = ())) ∧ (decide (Int.ofNat i < iOf (lenL (split (bOf (47 : Int)) t))) = false → nat_lit 4 ≤ nat_lit 4 ∧ (((0 : (Ty.int IntKind.i64).den), ([] : List UInt8), ([] : List UInt8), (0 : (Ty.int IntKind.i64).den), ()), (0 : Int), (5 : Int), ()) = (nodeOf (lookR ls t).fst, (lookR ls t).snd.fst, (lookR ls t).snd.snd, ()) ∧ () = ())) (by kernel_rfl) ?_
  simp only [Nat.le_refl, Nat.succ_eq_add_one, Nat.reduceAdd, Nat.reduceLeDiff, Nat.zero_le, pair_unit, mk_eta, len_bne, eqD_bne, bne_iff_ne, bne_eq_false_iff_eq, beq_iff_eq, beq_eq_false_iff_ne, true_and, and_true, and_self, eq_self, lt_iff, nthI_nat, bnd_iff, decide_eq_true_eq, decide_eq_false_iff_not, Nat.sub_eq, nz, ne_eq, not_false_eq_true, Prod.mk.injEq, Int.reduceEq, Nat.reduceEqDiff, forall_const, implies_true, bne_self_eq_false, Bool.true_eq_false, Bool.false_eq_true, false_implies, reduceCtorEq, Bool.not_true, Bool.not_false, List.all_cons, List.all_nil, Bool.and_true, Bool.not_eq_true, Bool.not_eq_false, Bool.not_eq_true', Bool.not_eq_false', Decidable.not_not]; try simp only [lenL]
  have hl : List.length t ≤ 65536 := hl
  have ht : ¬ t = [] := fun e => hn (by subst e; rfl)
  have hp : pathOK t = true := hp
  simp only [show bOf 47 = 47 from rfl, tN_nat]
  refine ⟨⟨⟨47, rfl⟩, by omega⟩, ⟨0, nd_start hp ht, rfl, rfl⟩, fun i h hf => ⟨fun hi => ⟨hi, hi, fun x hx => ?_⟩, fun hi => tri2 (nd_end ht h hi)⟩⟩
  have b1 := pfx_len hp ht (Nat.le_of_lt hi)
  have b2 := pfx_len hp ht hi
  have b3 := part_len hp (List.mem_of_getElem? hx)
  rw [pfx_succ hx] at b2
  have hb : ¬ winL ls (Fn.joinP (pfx (split 47 t) i) x) = 0 → ¬ (winR ls (Fn.joinP (pfx (split 47 t) i) x)).1 = 4 → ¬ (winL ls (Fn.joinP (pfx (split 47 t) i) x) = 0 ∨ (winR ls (Fn.joinP (pfx (split 47 t) i) x)).1 = 4) := fun h1 h2 h => h.elim h1 h2
  refine ⟨⟨by omega, by omega⟩, ⟨by omega, ho⟩, fun hw => ⟨fun h4 => tri2 (nd_gone ht hx h (.inr h4)), fun h4 _ => ?_⟩, fun hw => tri2 (nd_gone ht hx h (.inl hw))⟩
  simp only [last_eq hf]
  refine ⟨fun he => tri2 (nd_ok ht hx h he (hb hw h4)), fun he => ?_⟩
  have he2 : i + 1 < (split 47 t).length := by omega
  exact ⟨fun hd => tri2 (nd_file ht hx h he2 (hb hw h4) hd), fun hd => ⟨i + 1, nd_next hx h he2 (hb hw h4) hd, Nat.sub_lt_sub_left hi (Nat.lt_succ_self i), (pfx_succ hx).symm, add1_le (Nat.le_of_lt hi) hf⟩⟩
end Go.Proofs.YtjkipndhdemnoaaGreatDoor
namespace Go.Fn
open Go.Ab
def szRecordS (l : List Rec) (n : Int) : Int := szList szRec l n
theorem szRecordS_le (l : List Rec) (n : Int) (h : 0 ≤ n) : szRecordS l n ≤ n := szList_le szRec_le l n h
theorem szRS_ok {l : List Rec} {n : Int} (hn : n ≤ 1048576) (h : ¬ szRecordS l n < 0) : 0 ≤ n ∧ okL l := by
  unfold szRecordS szList at h
  split at h
  · omega
  · exact ⟨by omega, szS_small (by omega) h⟩
theorem szSS_go : ∀ {ls : List (List Rec)} {n : Int}, n ≤ 1048576 → ¬ szGo szRecordS ls n < 0 → okLs ls
  | [], n, _, _ => fun l hl => by cases hl
  | a :: r, n, hn, h => by
    have e : szGo szRecordS (a :: r) n = if szRecordS a n < 0 then -1 else szGo szRecordS r (szRecordS a n) := rfl
    rw [e] at h
    split at h
    · omega
    · rename_i h2
      have h3 := szRS_ok hn h2
      have h4 := szRecordS_le a n h3.1
      have ih := szSS_go (ls := r) (n := szRecordS a n) (by omega) h
      intro l hl
      rcases List.mem_cons.1 hl with rfl | hl
      · exact h3.2
      · exact ih l hl
theorem szSS_small {ls : List (List Rec)} (h : ¬ szList szRecordS ls 1048576 < 0) : okLs ls := by
  unfold szList at h
  split at h
  · omega
  · exact szSS_go (by omega) h
end Go.Fn
namespace Go.Fn
open Go.Ab
theorem eqLR_ne {a b : List Rec} (h : eqL a b = false) : a ≠ b := by unfold eqL at h; simpa using h
theorem eqLR_eq {a b : List Rec} (h : eqL a b = true) : a = b := by unfold eqL at h; simpa using h
end Go.Fn
namespace Go.Fn
open Go.Ab
def eqNd (a b : Nd) : Bool := decide (a.1 = b.1) && (decide (a.2.1 = b.2.1) && (decide (a.2.2.1 = b.2.2.1) && decide (a.2.2.2.1 = b.2.2.2.1)))
theorem eqNd_self (a : Nd) : eqNd a a = true := by unfold eqNd; simp
end Go.Fn
namespace Go.Fn
open Go.Ab
theorem st_yes {ls : List (List Rec)} (h : iOf ls.length ≤ 5) : (ls.all fun l => decide (layFC l = 0)) = stackOK ls := by
  have h : ls.length ≤ 5 := Int.ofNat_le.1 h
  unfold stackOK
  rw [decide_eq_true h, Bool.true_and]
  simp only [layF_eq]
theorem st_many {ls : List (List Rec)} (h : ¬ iOf ls.length ≤ 5) : false = stackOK ls := by
  have h : ¬ ls.length ≤ 5 := fun e => h (Int.ofNat_le.2 e)
  unfold stackOK
  rw [decide_eq_false h]; rfl
theorem st_many2 {ls : List (List Rec)} (h : iOf ls.length > 5) : false = stackOK ls := st_many (Int.not_le.2 h)
theorem st_bad {ls : List (List Rec)} {j : Nat} {l : List Rec} (hl : ls[j]? = some l) (h : ¬ layC l = 0) : false = stackOK ls := by
  unfold stackOK
  have : (ls.all fun l => decide (layC l = 0)) = false := by
    rw [List.all_eq_false]
    exact ⟨l, List.mem_of_getElem? hl, by simpa using h⟩
  rw [this, Bool.and_false]
theorem st_end {ls : List (List Rec)} {j : Nat} (h5 : ¬ iOf ls.length > 5) (h : ∀ (i : Nat) (l : List Rec), i < j → ls[i]? = some l → layC l = 0) (hj : ¬ j < ls.length) : true = stackOK ls := by
  unfold stackOK
  have h5 : ls.length ≤ 5 := Int.ofNat_le.1 (Int.not_lt.1 h5)
  rw [decide_eq_true h5, Bool.true_and]
  symm
  rw [List.all_eq_true]
  intro l hl
  obtain ⟨i, hi, rfl⟩ := List.getElem_of_mem hl
  exact decide_eq_true (h i _ (by omega) (List.getElem?_eq_getElem hi))
theorem st_first (ls : List (List Rec)) : first [.b (decide (iOf ls.length > 4096)), .n 2, .b (!stackOK ls), .n 1] = stackC ls := by
  unfold stackC
  by_cases h : ls.length > 4096
  · rw [if_pos h, decide_eq_true (p := iOf ls.length > 4096) (Int.ofNat_lt.2 h)]; rfl
  · rw [if_neg h, decide_eq_false (p := iOf ls.length > 4096) (fun e => h (Int.ofNat_lt.1 e))]
    cases stackOK ls <;> rfl
theorem ask_first {ls : List (List Rec)} {t : List UInt8} : first [.b (!(short t)), .n 2, .b true, .n (first [.b (!(decide (stackC ls = 0))), .n (stackC ls), .b (!(decide (t = []) || pathOK t)), .n 10])] = askC ls t := by
  unfold askC
  cases short t with
  | false => rfl
  | true =>
    by_cases h : stackC ls = 0
    · rw [decide_eq_true h]
      by_cases h2 : t = []
      · rw [decide_eq_true h2]; simp [h, h2, first]; rfl
      · rw [decide_eq_false h2]
        cases hp : pathOK t <;> simp [h, h2, first] <;> rfl
    · rw [decide_eq_false h]; simp [h, first]; rfl
end Go.Fn
namespace Go.Fn
open Go.Ab
variable {ls : List (List Rec)} {t : List UInt8}
theorem ask_first2 : first [.b (!(short t)), .n 2, .b true, .n (first [.b (stackC ls != 0), .n (stackC ls), .b (!(decide (t = []) || pathOK t)), .n 10])] = askC ls t := ask_first
theorem short_no (h : iOf t.length > 65536) : short t = false := by
  unfold short; rw [decide_eq_false]; have h : (t.length : Int) > 65536 := h; omega
theorem short_yes (h : ¬ iOf t.length > 65536) : short t = true := by
  unfold short; rw [decide_eq_true]; have h : ¬ (t.length : Int) > 65536 := h; omega
theorem ask_long1 (h : iOf t.length > 65536) : 2 = askC ls t := by unfold askC; rw [if_pos (short_no h)]
theorem stackC_long (h : iOf ls.length > 4096) : stackC ls = 2 := by unfold stackC; rw [if_pos (Int.ofNat_lt.1 h)]
theorem stackC_bad (h : ¬ iOf ls.length > 4096) (hs : stackOK ls = false) : stackC ls = 1 := by unfold stackC; rw [if_neg (fun e => h (Int.ofNat_lt.2 e)), if_pos hs]
theorem stackC_good (h : ¬ iOf ls.length > 4096) (hs : stackOK ls = true) : stackC ls = 0 := by unfold stackC; rw [if_neg (fun e => h (Int.ofNat_lt.2 e)), if_neg (by rw [hs]; decide)]
theorem ask_long2 (h : iOf ls.length > 4096) : 2 = askC ls t := by
  unfold askC
  rw [stackC_long h]
  split
  · rfl
  · rw [if_pos (by decide)]
theorem ask_bad (h1 : ¬ iOf ls.length > 4096) (h2 : ¬ iOf t.length > 65536) (hs : stackOK ls = false) : 1 = askC ls t := by
  unfold askC
  rw [short_yes h2, stackC_bad h1 hs, if_neg (by decide), if_pos (by decide)]
theorem ask_rest (h1 : ¬ iOf ls.length > 4096) (h2 : ¬ iOf t.length > 65536) (hs : stackOK ls = true) : (if t = [] then (0 : Int) else if pathOK t = false then 10 else 0) = askC ls t := by
  unfold askC
  rw [short_yes h2, stackC_good h1 hs, if_neg (show ¬ (true = false) by decide), if_neg (show ¬ ¬ (0 : Int) = 0 by decide)]
theorem ask_name (h1 : ¬ iOf ls.length > 4096) (h2 : ¬ iOf t.length > 65536) (hs : stackOK ls = true) (ht : ¬ t = []) (hp : pathOK t = false) : 10 = askC ls t := by
  rw [← ask_rest h1 h2 hs, if_neg ht, if_pos hp]
theorem ask_okp (h1 : ¬ iOf ls.length > 4096) (h2 : ¬ iOf t.length > 65536) (hs : stackOK ls = true) (ht : ¬ t = []) (hp : pathOK t = true) : 0 = askC ls t := by
  rw [← ask_rest h1 h2 hs, if_neg ht, if_neg (by rw [hp]; decide)]
theorem ask_okn (h1 : ¬ iOf ls.length > 4096) (h2 : ¬ iOf t.length > 65536) (hs : stackOK ls = true) (ht : t = []) : 0 = askC ls t := by
  rw [← ask_rest h1 h2 hs, if_pos ht]
theorem askR_yes (h : askC ls t = 0) : askR ls t = lookR ls t := if_pos h
theorem askR_no {c : Int} (h : c = askC ls t) (hc : ¬ c = 0) : askR ls t = (rec0, 0, c) := by
  subst h; exact if_neg hc
theorem ask3_no {c : Int} (h : c = askC ls t) (hc : ¬ c = 0) : rec0 = (askR ls t).1 ∧ 0 = (askR ls t).2.1 ∧ c = (askR ls t).2.2 := by rw [askR_no h hc]; exact ⟨rfl, rfl, rfl⟩
theorem ask3_yes (h : askC ls t = 0) : t.length ≤ 65536 ∧ (lookR ls t).1 = (askR ls t).1 ∧ (lookR ls t).2.1 = (askR ls t).2.1 ∧ (lookR ls t).2.2 = (askR ls t).2.2 := by rw [askR_yes h]; exact ⟨(askC_ok h).2.2, rfl, rfl, rfl⟩
theorem ask_facts (h : askC ls t = 0) : t.length ≤ 65536 ∧ okO ls ∧ (¬ t = [] → pathOK t = true) := ⟨(askC_ok h).2.2, (askC_ok h).1, (askC_ok h).2.1⟩
theorem lu_no {c : Int} (h : c = askC ls t) (hc : ¬ c = 0) : nodeOf rec0 = nodeOf (askR ls t).1 ∧ c = (askR ls t).2.2 := by rw [askR_no h hc]; exact ⟨rfl, rfl⟩
theorem lu_yes (h : askC ls t = 0) : nodeOf (lookR ls t).1 = nodeOf (askR ls t).1 ∧ (lookR ls t).2.2 = (askR ls t).2.2 := by rw [askR_yes h]; exact ⟨rfl, rfl⟩
theorem lo_no {c : Int} (h : c = askC ls t) (hc : ¬ c = 0) : 0 = (askR ls t).2.1 ∧ c = (askR ls t).2.2 := by rw [askR_no h hc]; exact ⟨rfl, rfl⟩
theorem lo_yes (h : askC ls t = 0) : (lookR ls t).2.1 = (askR ls t).2.1 ∧ (lookR ls t).2.2 = (askR ls t).2.2 := by rw [askR_yes h]; exact ⟨rfl, rfl⟩
end Go.Fn
namespace Go.Proofs.YtjkipndhdemnoaaGreatDoor
open Go.Ab Go.Fn
def s_IndexFunc_lay : FSpec := { ps := [.v (.slice (.slice tRec)), .f [(.slice tRec)] .bool], rs := [.v I], pre := fun x => ∀ y, y ∈ x.1 → x.2.1.2 (y, ()), fn := fun x => (idx (fun y => x.2.1.1 (y, ())) x.1, ()), upd := fun _ => () }
def L_IndexFunc_lay (xs : List ((.slice tRec) : Ty).den) (p : dens [(.slice tRec)] → Bool) : LoopAnn := { ι := Nat, inv := fun k => k ≤ List.length (α := ((.slice tRec) : Ty).den) xs ∧ ∀ (j : Nat) (y : ((.slice tRec) : Ty).den), j < k → xs[j]? = some y → p (y, ()) = false, slots := fun k => [(8, .d I (Int.ofNat k))], objs := fun _ => [], μ := fun k => List.length (α := ((.slice tRec) : Ty).den) xs - k }
theorem fo_IndexFunc_lay : FO 199 s_IndexFunc_lay := by
  refine fo (specs := []) (clos := []) (fun x => [(2, .lv [0, 1, 7, 8] <| fun _ => L_IndexFunc_lay x.1 x.2.1.1)]) trivial trivial Tryz.func199 rfl rfl ?_
  rintro ⟨xs, ⟨p, q⟩, ⟨⟩⟩ hp
  refine vcOf (fits (lenL xs) → (∃ (i : Nat), (i ≤ List.length xs ∧ ∀ (j : Nat) (y : List (Int × List UInt8 × List UInt8 × Int × Bool × Unit)), j < i → xs[j]? = some y → p (y, ()) = false) ∧ (xs = xs ∧ (p, q) = (p, q) ∧ iOf (lenL xs) = iOf (lenL xs) ∧ (0 : Int) = Int.ofNat i ∧ True) ∧ True ∧ True) ∧ ∀ (i : Nat), (i ≤ List.length xs ∧ ∀ (j : Nat) (y : List (Int × List UInt8 × List UInt8 × Int × Bool × Unit)), j < i → xs[j]? = some y → p (y, ()) = false) → (decide (Int.ofNat i < iOf (lenL xs)) = true → bnd (Int.ofNat i) (lenL xs) ∧ ∀ (x : List (Int × List UInt8 × List UInt8 × Int × Bool × Unit)), nthI xs (Int.ofNat i) = some x → nat_lit 1 ≤ nat_lit 1 ∧ q (x, ()) ∧ (p (x, ()) = true → (Int.ofNat i, ()) = (idx (fun (y : List (Int × List UInt8 × List UInt8 × Int × Bool × Unit)) => p (y, ())) xs, ()) ∧ () = ()) ∧ (p (x, ()) = false → ∃ (j : Nat), (j ≤ List.length xs ∧ ∀ (j_1 : Nat) (y : List (Int × List UInt8 × List UInt8 × Int × Bool × Unit)), j_1 < j → xs[j_1]? = some y → p (y, ()) = false) ∧ (List.length xs).sub j < (List.length xs).sub i ∧ (xs = xs ∧ (p, q) = (p, q) ∧ iOf (lenL xs) = iOf (lenL xs) ∧ wAdd IntKind.i64 (Int.ofNat i) (1 : Int) = Int.ofNat j ∧ True) ∧ True ∧ True)) ∧ (decide (Int.ofNat i < iOf (lenL xs)) = false → ((-1 : Int), ()) = (idx (fun (y : List (Int × List UInt8 × List UInt8 × Int × Bool × Unit)) => p (y, ())) xs, ()) ∧ () = ())) (by kernel_rfl) ?_
  simp only [Nat.le_refl, Nat.succ_eq_add_one, Nat.reduceAdd, Nat.reduceLeDiff, Nat.zero_le, pair_unit, mk_eta, len_bne, eqD_bne, bne_iff_ne, bne_eq_false_iff_eq, beq_iff_eq, beq_eq_false_iff_ne, true_and, and_true, and_self, eq_self, lt_iff, nthI_nat, bnd_iff, decide_eq_true_eq, decide_eq_false_iff_not, Nat.sub_eq, nz, ne_eq, not_false_eq_true, Prod.mk.injEq, Int.reduceEq, Nat.reduceEqDiff, forall_const, implies_true, bne_self_eq_false, Bool.true_eq_false, Bool.false_eq_true, false_implies, reduceCtorEq, Bool.not_true, Bool.not_false, List.all_cons, List.all_nil, Bool.and_true, Bool.not_eq_true, Bool.not_eq_false, Bool.not_eq_true', Bool.not_eq_false', Decidable.not_not]; try simp only [lenL]
  refine fun hf => ⟨⟨0, ⟨Nat.zero_le _, fun j y hj => absurd hj (Nat.not_lt_zero _)⟩, rfl⟩, fun k ⟨hk, hi⟩ => ⟨fun h => ⟨h, fun x hx => ⟨hp x (List.mem_of_getElem? hx), fun h1 => (idx_at hi hx h1).symm, fun h1 => ⟨k + 1, ⟨h, below_succ (P := fun y => p (y, ()) = false) hi hx h1⟩, by omega, inc_in hf hk⟩⟩⟩, fun h => (idx_end hi h).symm⟩⟩
end Go.Proofs.YtjkipndhdemnoaaGreatDoor
namespace Go.Proofs.YtjkipndhdemnoaaGreatDoor
open Go.Ab Go.Fn
def s_ContainsFunc_lay : FSpec := { ps := [.v (.slice (.slice tRec)), .f [(.slice tRec)] .bool], rs := [.v .bool], pre := fun x => ∀ y, y ∈ x.1 → x.2.1.2 (y, ()), fn := fun x => (x.1.any (fun y => x.2.1.1 (y, ())), ()), upd := fun _ => () }
theorem fo_ContainsFunc_lay : FO 175 s_ContainsFunc_lay := by
  refine fo (specs := [(199, s_IndexFunc_lay)]) (clos := []) (fun x => []) ⟨fo_IndexFunc_lay, trivial⟩ trivial Tryz.func175 rfl rfl ?_
  rintro ⟨xs, ⟨p, q⟩, ⟨⟩⟩ hp
  refine vcOf (true = true ∧ (∀ (y : List (Int × List UInt8 × List UInt8 × Int × Bool × Unit)), y ∈ xs → q (y, ())) ∧ (decide (idx (fun (y : List (Int × List UInt8 × List UInt8 × Int × Bool × Unit)) => p (y, ())) xs ≥ (0 : Int)), ()) = (List.any xs fun (y : List (Int × List UInt8 × List UInt8 × Int × Bool × Unit)) => p (y, ()), ()) ∧ () = ()) (by kernel_rfl) ?_
  simp only [Nat.le_refl, Nat.succ_eq_add_one, Nat.reduceAdd, Nat.reduceLeDiff, Nat.zero_le, pair_unit, mk_eta, len_bne, eqD_bne, bne_iff_ne, bne_eq_false_iff_eq, beq_iff_eq, beq_eq_false_iff_ne, true_and, and_true, and_self, eq_self, lt_iff, nthI_nat, bnd_iff, decide_eq_true_eq, decide_eq_false_iff_not, Nat.sub_eq, nz, ne_eq, not_false_eq_true, Prod.mk.injEq, Int.reduceEq, Nat.reduceEqDiff, forall_const, implies_true, bne_self_eq_false, Bool.true_eq_false, Bool.false_eq_true, false_implies, reduceCtorEq, Bool.not_true, Bool.not_false, List.all_cons, List.all_nil, Bool.and_true, Bool.not_eq_true, Bool.not_eq_false, Bool.not_eq_true', Bool.not_eq_false', Decidable.not_not]; try simp only [lenL]
  exact ⟨hp, idx_nonneg⟩
end Go.Proofs.YtjkipndhdemnoaaGreatDoor
namespace Go.Proofs.YtjkipndhdemnoaaGreatDoor
open Go.Ab Go.Fn
def c_all_lay : CSpec := { ats := [(.slice tRec)], b := .bool, cs := [.rf [(.slice tRec)] .bool], pre := fun c a => c.1.2 a, fn := fun c a => !c.1.1 a }
theorem fo_allc_lay : FO 176 c_all_lay.fspec := by
  refine fo (specs := []) (clos := []) (fun x => []) trivial trivial Tryz.func176 rfl rfl ?_
  rintro ⟨y, ⟨p, q⟩, ⟨⟩⟩ hp
  refine vcOf (nat_lit 1 ≤ nat_lit 1 ∧ q (y, ()) ∧ (!p (y, ()), ()) = (match p (y, ()) with | true => false | false => true, ()) ∧ () = ()) (by kernel_rfl) ?_
  simp only [Nat.le_refl, Nat.succ_eq_add_one, Nat.reduceAdd, Nat.reduceLeDiff, Nat.zero_le, pair_unit, mk_eta, len_bne, eqD_bne, bne_iff_ne, bne_eq_false_iff_eq, beq_iff_eq, beq_eq_false_iff_ne, true_and, and_true, and_self, eq_self, lt_iff, nthI_nat, bnd_iff, decide_eq_true_eq, decide_eq_false_iff_not, Nat.sub_eq, nz, ne_eq, not_false_eq_true, Prod.mk.injEq, Int.reduceEq, Nat.reduceEqDiff, forall_const, implies_true, bne_self_eq_false, Bool.true_eq_false, Bool.false_eq_true, false_implies, reduceCtorEq, Bool.not_true, Bool.not_false, List.all_cons, List.all_nil, Bool.and_true, Bool.not_eq_true, Bool.not_eq_false, Bool.not_eq_true', Bool.not_eq_false', Decidable.not_not]; try simp only [lenL]
  exact ⟨hp, rfl⟩
def s_all_lay : FSpec := { ps := [.v (.slice (.slice tRec)), .f [(.slice tRec)] .bool], rs := [.v .bool], pre := fun x => ∀ y, y ∈ x.1 → x.2.1.2 (y, ()), fn := fun x => (x.1.all (fun y => x.2.1.1 (y, ())), ()), upd := fun _ => () }
theorem fo_all_lay : FO 156 s_all_lay := by
  refine fo (specs := [(175, s_ContainsFunc_lay)]) (clos := [(176, c_all_lay)]) (fun x => []) ⟨fo_ContainsFunc_lay, trivial⟩ ⟨co fo_allc_lay rfl rfl, trivial⟩ Tryz.func156 rfl rfl ?_
  rintro ⟨xs, ⟨p, q⟩, ⟨⟩⟩ hp
  refine vcOf (true = true ∧ (∀ (y : List (Int × List UInt8 × List UInt8 × Int × Bool × Unit)), y ∈ xs → q (y, ())) ∧ (!List.any xs fun (y : List (Int × List UInt8 × List UInt8 × Int × Bool × Unit)) => (fun (a : List (Int × List UInt8 × List UInt8 × Int × Bool × Unit) × Unit) => !p a, fun (a : List (Int × List UInt8 × List UInt8 × Int × Bool × Unit) × Unit) => q a).fst (y, ()), ()) = (List.all xs fun (y : List (Int × List UInt8 × List UInt8 × Int × Bool × Unit)) => p (y, ()), ()) ∧ () = ()) (by kernel_rfl) ?_
  simp only [Nat.le_refl, Nat.succ_eq_add_one, Nat.reduceAdd, Nat.reduceLeDiff, Nat.zero_le, pair_unit, mk_eta, len_bne, eqD_bne, bne_iff_ne, bne_eq_false_iff_eq, beq_iff_eq, beq_eq_false_iff_ne, true_and, and_true, and_self, eq_self, lt_iff, nthI_nat, bnd_iff, decide_eq_true_eq, decide_eq_false_iff_not, Nat.sub_eq, nz, ne_eq, not_false_eq_true, Prod.mk.injEq, Int.reduceEq, Nat.reduceEqDiff, forall_const, implies_true, bne_self_eq_false, Bool.true_eq_false, Bool.false_eq_true, false_implies, reduceCtorEq, Bool.not_true, Bool.not_false, List.all_cons, List.all_nil, Bool.and_true, Bool.not_eq_true, Bool.not_eq_false, Bool.not_eq_true', Bool.not_eq_false', Decidable.not_not]; try simp only [lenL]
  exact ⟨hp, all_not _ _⟩
end Go.Proofs.YtjkipndhdemnoaaGreatDoor
namespace Go.Proofs.YtjkipndhdemnoaaGreatDoor
open Go.Ab Go.Fn
def c_LayerOK : CSpec := { ats := [.slice tRec], b := .bool, cs := [], pre := fun _ a => okL a.1, fn := fun _ a => decide (Fn.layFC a.1 = 0) }
theorem fo_LayerOKc : FO 157 c_LayerOK.fspec := fo_LayerOK
def s_stackOK : FSpec := { ps := [.v (.slice (.slice tRec))], rs := [.v .bool], pre := fun x => okLs x.1, fn := fun x => (Fn.stackOK x.1, ()), upd := fun _ => () }
theorem fo_StackOK : FO 122 s_stackOK := by
  refine fo (specs := [(156, s_all_lay)]) (clos := [(157, c_LayerOK)]) (fun x => []) ⟨fo_all_lay, trivial⟩ ⟨co fo_LayerOKc rfl rfl, trivial⟩ Tryz.func122 rfl rfl ?_
  rintro ⟨ls, ⟨⟩⟩ hl
  refine vcOf (fits (lenL ls) → (decide (iOf (lenL ls) ≤ (5 : Int)) = true → true = true ∧ (∀ (y : List (Int × List UInt8 × List UInt8 × Int × Bool × Unit)), y ∈ ls → (fun (a : List (Int × List UInt8 × List UInt8 × Int × Bool × Unit) × Unit) => decide (layFC a.fst = (0 : Int)), fun (a : List (Int × List UInt8 × List UInt8 × Int × Bool × Unit) × Unit) => okL a.fst).snd (y, ())) ∧ (List.all ls fun (y : List (Int × List UInt8 × List UInt8 × Int × Bool × Unit)) => (fun (a : List (Int × List UInt8 × List UInt8 × Int × Bool × Unit) × Unit) => decide (layFC a.fst = (0 : Int)), fun (a : List (Int × List UInt8 × List UInt8 × Int × Bool × Unit) × Unit) => okL a.fst).fst (y, ()), ()) = (stackOK ls, ()) ∧ () = ()) ∧ (decide (iOf (lenL ls) ≤ (5 : Int)) = false → (false, ()) = (stackOK ls, ()) ∧ () = ())) (by kernel_rfl) ?_
  simp only [Nat.le_refl, Nat.succ_eq_add_one, Nat.reduceAdd, Nat.reduceLeDiff, Nat.zero_le, pair_unit, mk_eta, len_bne, eqD_bne, bne_iff_ne, bne_eq_false_iff_eq, beq_iff_eq, beq_eq_false_iff_ne, true_and, and_true, and_self, eq_self, lt_iff, nthI_nat, bnd_iff, decide_eq_true_eq, decide_eq_false_iff_not, Nat.sub_eq, nz, ne_eq, not_false_eq_true, Prod.mk.injEq, Int.reduceEq, Nat.reduceEqDiff, forall_const, implies_true, bne_self_eq_false, Bool.true_eq_false, Bool.false_eq_true, false_implies, reduceCtorEq, Bool.not_true, Bool.not_false, List.all_cons, List.all_nil, Bool.and_true, Bool.not_eq_true, Bool.not_eq_false, Bool.not_eq_true', Bool.not_eq_false', Decidable.not_not]; try simp only [lenL]
  exact fun _ => ⟨fun h => ⟨hl, st_yes h⟩, fun h => st_many h⟩
end Go.Proofs.YtjkipndhdemnoaaGreatDoor
namespace Go.Proofs.YtjkipndhdemnoaaGreatDoor
open Go.Ab Go.Fn
def L_l05Stack (ls : List (List Rec)) : LoopAnn := { ι := Nat, inv := fun k => k ≤ ls.length ∧ ∀ (j : Nat) (x : List Rec), j < k → ls[j]? = some x → Fn.layC x = 0, slots := fun k => [(3, .d I (Int.ofNat k))], objs := fun _ => [], μ := fun k => ls.length - k }
theorem fo_l05Stack : FO 83 s_stackOK := by
  refine fo (specs := [(113, s_layOK)]) (clos := []) (fun x => [(4, .lv [0, 3] <| fun _ => L_l05Stack x.1)]) ⟨fo_l03OK, trivial⟩ trivial Tryz.func83 rfl rfl ?_
  rintro ⟨ls, ⟨⟩⟩ hl
  refine vcOf (fits (lenL ls) → (decide (iOf (lenL ls) > (5 : Int)) = true → (false, ()) = (stackOK ls, ()) ∧ () = ()) ∧ (decide (iOf (lenL ls) > (5 : Int)) = false → (∃ (i : Nat), (i ≤ List.length ls ∧ ∀ (j : Nat) (x : List Rec), j < i → ls[j]? = some x → layC x = (0 : Int)) ∧ (ls = ls ∧ (0 : Int) = Int.ofNat i ∧ True) ∧ True ∧ True) ∧ ∀ (i : Nat), (i ≤ List.length ls ∧ ∀ (j : Nat) (x : List Rec), j < i → ls[j]? = some x → layC x = (0 : Int)) → fits (lenL ls) → (decide (Int.ofNat i < iOf (lenL ls)) = true → bnd (Int.ofNat i) (lenL ls) ∧ ∀ (x : List (Int × List UInt8 × List UInt8 × Int × Bool × Unit)), nthI ls (Int.ofNat i) = some x → nat_lit 1 ≤ nat_lit 1 ∧ true = true ∧ okL x ∧ ((!decide (layC x = (0 : Int))) = true → (false, ()) = (stackOK ls, ()) ∧ () = ()) ∧ ((!decide (layC x = (0 : Int))) = false → ∃ (j : Nat), (j ≤ List.length ls ∧ ∀ (j_1 : Nat) (x : List Rec), j_1 < j → ls[j_1]? = some x → layC x = (0 : Int)) ∧ (List.length ls).sub j < (List.length ls).sub i ∧ (ls = ls ∧ wAdd IntKind.i64 (Int.ofNat i) (1 : Int) = Int.ofNat j ∧ True) ∧ True ∧ True)) ∧ (decide (Int.ofNat i < iOf (lenL ls)) = false → (true, ()) = (stackOK ls, ()) ∧ () = ()))) (by kernel_rfl) ?_
  simp only [Nat.le_refl, Nat.succ_eq_add_one, Nat.reduceAdd, Nat.reduceLeDiff, Nat.zero_le, pair_unit, mk_eta, len_bne, eqD_bne, bne_iff_ne, bne_eq_false_iff_eq, beq_iff_eq, beq_eq_false_iff_ne, true_and, and_true, and_self, eq_self, lt_iff, nthI_nat, bnd_iff, decide_eq_true_eq, decide_eq_false_iff_not, Nat.sub_eq, nz, ne_eq, not_false_eq_true, Prod.mk.injEq, Int.reduceEq, Nat.reduceEqDiff, forall_const, implies_true, bne_self_eq_false, Bool.true_eq_false, Bool.false_eq_true, false_implies, reduceCtorEq, Bool.not_true, Bool.not_false, List.all_cons, List.all_nil, Bool.and_true, Bool.not_eq_true, Bool.not_eq_false, Bool.not_eq_true', Bool.not_eq_false', Decidable.not_not]; try simp only [lenL]
  exact fun hf => ⟨fun h => st_many2 h, fun h => ⟨⟨0, ⟨Nat.zero_le _, fun j x hj => absurd hj (Nat.not_lt_zero _)⟩, rfl⟩, fun i ⟨hi, hp⟩ _ => ⟨fun hlt => ⟨hlt, fun x hx => ⟨hl x (List.mem_of_getElem? hx), fun hb => st_bad hx hb, fun hb => ⟨i + 1, ⟨hlt, below_succ (P := fun y => Fn.layC y = 0) hp hx hb⟩, Nat.sub_lt_sub_left hlt (Nat.lt_succ_self i), inc_in hf hi⟩⟩⟩, fun hge => st_end h hp hge⟩⟩⟩
end Go.Proofs.YtjkipndhdemnoaaGreatDoor
namespace Go.Proofs.YtjkipndhdemnoaaGreatDoor
open Go.Ab Go.Fn
def s_isLongSS : FSpec := { ps := [.v (.slice (.slice tRec))], rs := [.v .bool], pre := fun _ => True, fn := fun x => (decide (iOf (List.length (α := List Rec) x.1) > 4096), ()), upd := fun _ => () }
theorem fo_isLongSS : FO 121 s_isLongSS := by
  refine fo (specs := []) (clos := []) (fun x => []) trivial trivial Tryz.func121 rfl rfl ?_
  rintro ⟨l, ⟨⟩⟩ -
  refine vcOf (fits (lenL l) → (decide (iOf (lenL l) > (4096 : Int)), ()) = (decide (iOf (List.length l) > (4096 : Int)), ()) ∧ () = ()) (by kernel_rfl) ?_
  simp only [Nat.le_refl, Nat.succ_eq_add_one, Nat.reduceAdd, Nat.reduceLeDiff, Nat.zero_le, pair_unit, mk_eta, len_bne, eqD_bne, bne_iff_ne, bne_eq_false_iff_eq, beq_iff_eq, beq_eq_false_iff_ne, true_and, and_true, and_self, eq_self, lt_iff, nthI_nat, bnd_iff, decide_eq_true_eq, decide_eq_false_iff_not, Nat.sub_eq, nz, ne_eq, not_false_eq_true, Prod.mk.injEq, Int.reduceEq, Nat.reduceEqDiff, forall_const, implies_true, bne_self_eq_false, Bool.true_eq_false, Bool.false_eq_true, false_implies, reduceCtorEq, Bool.not_true, Bool.not_false, List.all_cons, List.all_nil, Bool.and_true, Bool.not_eq_true, Bool.not_eq_false, Bool.not_eq_true', Bool.not_eq_false', Decidable.not_not]; try simp only [lenL]
  exact fun _ => rfl
def s_stackC : FSpec := { ps := [.v (.slice (.slice tRec))], rs := [.v I], pre := fun x => okLs x.1, fn := fun x => (Fn.stackC x.1, ()), upd := fun _ => () }
theorem fo_stackCode : FO 88 s_stackC := by
  refine fo (specs := [(121, s_isLongSS), (122, s_stackOK), (60, s_first)]) (clos := []) (fun x => []) ⟨fo_isLongSS, fo_StackOK, fo_first, trivial⟩ trivial Tryz.func88 rfl rfl ?_
  rintro ⟨ls, ⟨⟩⟩ hl
  refine vcOf (true = true ∧ True ∧ true = true ∧ okLs ls ∧ true = true ∧ True ∧ (first (AnyV.b (decide (iOf (List.length ls) > (4096 : Int))) :: AnyV.n (2 : Int) :: (AnyV.b !stackOK ls) :: AnyV.n (1 : Int) :: ([] : List AnyV)), ()) = (stackC ls, ()) ∧ () = ()) (by kernel_rfl) ?_
  simp only [Nat.le_refl, Nat.succ_eq_add_one, Nat.reduceAdd, Nat.reduceLeDiff, Nat.zero_le, pair_unit, mk_eta, len_bne, eqD_bne, bne_iff_ne, bne_eq_false_iff_eq, beq_iff_eq, beq_eq_false_iff_ne, true_and, and_true, and_self, eq_self, lt_iff, nthI_nat, bnd_iff, decide_eq_true_eq, decide_eq_false_iff_not, Nat.sub_eq, nz, ne_eq, not_false_eq_true, Prod.mk.injEq, Int.reduceEq, Nat.reduceEqDiff, forall_const, implies_true, bne_self_eq_false, Bool.true_eq_false, Bool.false_eq_true, false_implies, reduceCtorEq, Bool.not_true, Bool.not_false, List.all_cons, List.all_nil, Bool.and_true, Bool.not_eq_true, Bool.not_eq_false, Bool.not_eq_true', Bool.not_eq_false', Decidable.not_not]; try simp only [lenL]
  exact ⟨hl, st_first ls⟩
end Go.Proofs.YtjkipndhdemnoaaGreatDoor
namespace Go.Proofs.YtjkipndhdemnoaaGreatDoor
open Go.Ab Go.Fn
def s_isPlace : FSpec := { ps := [.v .str], rs := [.v .bool], pre := fun x => List.length (α := UInt8) x.1 ≤ 100000000, fn := fun x => (decide (x.1 = ([] : List UInt8)) || Fn.pathOK x.1, ()), upd := fun _ => () }
theorem fo_isPlace : FO 89 s_isPlace := by
  refine fo (specs := [(123, s_PathOK)]) (clos := []) (fun x => []) ⟨fo_PathOK, trivial⟩ trivial Tryz.func89 rfl rfl ?_
  rintro ⟨t, ⟨⟩⟩ hl
  refine vcOf (((t == ([] : List UInt8)) = false → true = true ∧ List.length t ≤ (100000000 : Nat) ∧ (pathOK t, ()) = (decide (t = ([] : List UInt8)) || pathOK t, ()) ∧ () = ()) ∧ ((t == ([] : List UInt8)) = true → (true, ()) = (decide (t = ([] : List UInt8)) || pathOK t, ()) ∧ () = ())) (by kernel_rfl) ?_
  simp only [Nat.le_refl, Nat.succ_eq_add_one, Nat.reduceAdd, Nat.reduceLeDiff, Nat.zero_le, pair_unit, mk_eta, len_bne, eqD_bne, bne_iff_ne, bne_eq_false_iff_eq, beq_iff_eq, beq_eq_false_iff_ne, true_and, and_true, and_self, eq_self, lt_iff, nthI_nat, bnd_iff, decide_eq_true_eq, decide_eq_false_iff_not, Nat.sub_eq, nz, ne_eq, not_false_eq_true, Prod.mk.injEq, Int.reduceEq, Nat.reduceEqDiff, forall_const, implies_true, bne_self_eq_false, Bool.true_eq_false, Bool.false_eq_true, false_implies, reduceCtorEq, Bool.not_true, Bool.not_false, List.all_cons, List.all_nil, Bool.and_true, Bool.not_eq_true, Bool.not_eq_false, Bool.not_eq_true', Bool.not_eq_false', Decidable.not_not]; try simp only [lenL]
  have e : decide (t = []) = false ∨ t = [] := by
    by_cases h : t = []
    · exact .inr h
    · exact .inl (decide_eq_false h)
  exact ⟨fun h => ⟨hl, by rw [decide_eq_false h]; rfl⟩, fun h => by rw [decide_eq_true h]; rfl⟩
def s_asked : FSpec := { ps := [.v (.slice (.slice tRec)), .v .str], rs := [.v tRec, .v I, .v I], pre := fun x => okLs x.1 ∧ List.length (α := UInt8) x.2.1 ≤ 100000000, fn := fun x => ((Fn.askR x.1 x.2.1).1, (Fn.askR x.1 x.2.1).2.1, (Fn.askR x.1 x.2.1).2.2, ()), upd := fun _ => () }
theorem fo_asked : FO 58 s_asked := by
  refine fo (specs := [(87, s_isLong), (88, s_stackC), (89, s_isPlace), (60, s_first), (90, s_lookup)]) (clos := []) (fun x => []) ⟨fo_isLong, fo_stackCode, fo_isPlace, fo_first, fo_lookup, trivial⟩ trivial Tryz.func58 rfl rfl ?_
  rintro ⟨ls, t, ⟨⟩⟩ ⟨ho, hl⟩
  refine vcOf (true = true ∧ True ∧ true = true ∧ okLs ls ∧ true = true ∧ okLs ls ∧ true = true ∧ List.length t ≤ (100000000 : Nat) ∧ true = true ∧ True ∧ true = true ∧ True ∧ ((first ((AnyV.b !(t :: ([] : List (List UInt8))).all short) :: AnyV.n (2 : Int) :: AnyV.b true :: AnyV.n (first (AnyV.b (stackC ls != (0 : Int)) :: AnyV.n (stackC ls) :: (AnyV.b !(decide (t = ([] : List UInt8)) || pathOK t)) :: AnyV.n (10 : Int) :: ([] : List AnyV))) :: ([] : List AnyV)) != (0 : Int)) = true → nat_lit 5 ≤ nat_lit 5 ∧ (((0 : (Ty.int IntKind.i64).den), ([] : List UInt8), ([] : List UInt8), (0 : (Ty.int IntKind.i64).den), false, ()), (0 : Int), first ((AnyV.b !(t :: ([] : List (List UInt8))).all short) :: AnyV.n (2 : Int) :: AnyV.b true :: AnyV.n (first (AnyV.b (stackC ls != (0 : Int)) :: AnyV.n (stackC ls) :: (AnyV.b !(decide (t = ([] : List UInt8)) || pathOK t)) :: AnyV.n (10 : Int) :: ([] : List AnyV))) :: ([] : List AnyV)), ()) = ((askR ls t).fst, (askR ls t).snd.fst, (askR ls t).snd.snd, ()) ∧ () = ()) ∧ ((first ((AnyV.b !(t :: ([] : List (List UInt8))).all short) :: AnyV.n (2 : Int) :: AnyV.b true :: AnyV.n (first (AnyV.b (stackC ls != (0 : Int)) :: AnyV.n (stackC ls) :: (AnyV.b !(decide (t = ([] : List UInt8)) || pathOK t)) :: AnyV.n (10 : Int) :: ([] : List AnyV))) :: ([] : List AnyV)) != (0 : Int)) = false → true = true ∧ List.length t ≤ (65536 : Nat) ∧ nat_lit 5 ≤ nat_lit 5 ∧ (((lookR ls t).fst.fst, (lookR ls t).fst.snd.fst, (lookR ls t).fst.snd.snd.fst, (lookR ls t).fst.snd.snd.snd.fst, (lookR ls t).fst.snd.snd.snd.snd.fst, ()), (lookR ls t).snd.fst, (lookR ls t).snd.snd, ()) = ((askR ls t).fst, (askR ls t).snd.fst, (askR ls t).snd.snd, ()) ∧ () = ())) (by kernel_rfl) ?_
  simp only [Nat.le_refl, Nat.succ_eq_add_one, Nat.reduceAdd, Nat.reduceLeDiff, Nat.zero_le, pair_unit, mk_eta, len_bne, eqD_bne, bne_iff_ne, bne_eq_false_iff_eq, beq_iff_eq, beq_eq_false_iff_ne, true_and, and_true, and_self, eq_self, lt_iff, nthI_nat, bnd_iff, decide_eq_true_eq, decide_eq_false_iff_not, Nat.sub_eq, nz, ne_eq, not_false_eq_true, Prod.mk.injEq, Int.reduceEq, Nat.reduceEqDiff, forall_const, implies_true, bne_self_eq_false, Bool.true_eq_false, Bool.false_eq_true, false_implies, reduceCtorEq, Bool.not_true, Bool.not_false, List.all_cons, List.all_nil, Bool.and_true, Bool.not_eq_true, Bool.not_eq_false, Bool.not_eq_true', Bool.not_eq_false', Decidable.not_not]; try simp only [lenL]
  simp only [ask_first2]
  exact ⟨ho, ho, hl, fun h => ask3_no rfl h, fun h => ask3_yes h⟩
end Go.Proofs.YtjkipndhdemnoaaGreatDoor
namespace Go.Proofs.YtjkipndhdemnoaaGreatDoor
open Go.Ab Go.Fn
def s_l10Ask : FSpec := { ps := [.v (.slice (.slice tRec)), .v .str], rs := [.v I], pre := fun x => okLs x.1 ∧ List.length (α := UInt8) x.2.1 ≤ 100000000, fn := fun x => (Fn.askC x.1 x.2.1, ()), upd := fun _ => () }
theorem fo_l10Ask : FO 55 s_l10Ask := by
  refine fo (specs := [(83, s_stackOK), (84, s_PathOK)]) (clos := []) (fun x => []) ⟨fo_l05Stack, fo_l01OK, trivial⟩ trivial Tryz.func55 rfl rfl ?_
  rintro ⟨ls, t, ⟨⟩⟩ ⟨ho, hl⟩
  refine vcOf (fits (lenL ls) → (decide (iOf (lenL ls) > (4096 : Int)) = false → fits (lenL t) → (decide (iOf (lenL t) > (65536 : Int)) = true → ((2 : Int), ()) = (askC ls t, ()) ∧ () = ()) ∧ (decide (iOf (lenL t) > (65536 : Int)) = false → true = true ∧ okLs ls ∧ ((!stackOK ls) = true → ((1 : Int), ()) = (askC ls t, ()) ∧ () = ()) ∧ ((!stackOK ls) = false → ((!t == ([] : List UInt8)) = true → true = true ∧ List.length t ≤ (100000000 : Nat) ∧ ((!pathOK t) = true → ((10 : Int), ()) = (askC ls t, ()) ∧ () = ()) ∧ ((!pathOK t) = false → ((0 : Int), ()) = (askC ls t, ()) ∧ () = ())) ∧ ((!t == ([] : List UInt8)) = false → ((0 : Int), ()) = (askC ls t, ()) ∧ () = ())))) ∧ (decide (iOf (lenL ls) > (4096 : Int)) = true → ((2 : Int), ()) = (askC ls t, ()) ∧ () = ())) (by kernel_rfl) ?_
  simp only [Nat.le_refl, Nat.succ_eq_add_one, Nat.reduceAdd, Nat.reduceLeDiff, Nat.zero_le, pair_unit, mk_eta, len_bne, eqD_bne, bne_iff_ne, bne_eq_false_iff_eq, beq_iff_eq, beq_eq_false_iff_ne, true_and, and_true, and_self, eq_self, lt_iff, nthI_nat, bnd_iff, decide_eq_true_eq, decide_eq_false_iff_not, Nat.sub_eq, nz, ne_eq, not_false_eq_true, Prod.mk.injEq, Int.reduceEq, Nat.reduceEqDiff, forall_const, implies_true, bne_self_eq_false, Bool.true_eq_false, Bool.false_eq_true, false_implies, reduceCtorEq, Bool.not_true, Bool.not_false, List.all_cons, List.all_nil, Bool.and_true, Bool.not_eq_true, Bool.not_eq_false, Bool.not_eq_true', Bool.not_eq_false', Decidable.not_not]; try simp only [lenL]
  exact fun _ => ⟨fun h1 _ => ⟨fun h2 => ask_long1 h2, fun h2 => ⟨ho, fun hs => ask_bad h1 h2 hs, fun hs => ⟨fun ht => ⟨hl, fun hp => ask_name h1 h2 hs ht hp, fun hp => ask_okp h1 h2 hs ht hp⟩, fun ht => ask_okn h1 h2 hs ht⟩⟩⟩, fun h1 => ask_long2 h1⟩
def s_l10Find : FSpec := { ps := [.v (.slice (.slice tRec)), .v .str], rs := [.v tNode, .v I, .v I], pre := fun x => List.length (α := UInt8) x.2.1 ≤ 65536 ∧ okO x.1 ∧ (¬ x.2.1 = ([] : List UInt8) → Fn.pathOK x.2.1 = true), fn := fun x => (Fn.nodeOf (Fn.lookR x.1 x.2.1).1, (Fn.lookR x.1 x.2.1).2.1, (Fn.lookR x.1 x.2.1).2.2, ()), upd := fun _ => () }
theorem fo_l10Find : FO 56 s_l10Find := by
  refine fo (specs := [(85, s_l10Node)]) (clos := []) (fun x => []) ⟨fo_l10Node, trivial⟩ trivial Tryz.func56 rfl rfl ?_
  rintro ⟨ls, t, ⟨⟩⟩ ⟨hl, ho, hp⟩
  refine vcOf (((t == ([] : List UInt8)) = true → nat_lit 4 ≤ nat_lit 4 ∧ (((3 : Int), ([] : List UInt8), ([] : List UInt8), (0 : (Ty.int IntKind.i64).den), ()), (0 : Int), (0 : Int), ()) = (nodeOf (lookR ls t).fst, (lookR ls t).snd.fst, (lookR ls t).snd.snd, ()) ∧ () = ()) ∧ ((t == ([] : List UInt8)) = false → true = true ∧ (List.length t ≤ (65536 : Nat) ∧ okO ls ∧ ¬List.length t = (0 : Nat) ∧ pathOK t = true) ∧ nat_lit 4 ≤ nat_lit 4 ∧ (((nodeOf (lookR ls t).fst).fst, (nodeOf (lookR ls t).fst).snd.fst, (nodeOf (lookR ls t).fst).snd.snd.fst, (nodeOf (lookR ls t).fst).snd.snd.snd.fst, ()), (lookR ls t).snd.fst, (lookR ls t).snd.snd, ()) = (nodeOf (lookR ls t).fst, (lookR ls t).snd.fst, (lookR ls t).snd.snd, ()) ∧ () = ())) (by kernel_rfl) ?_
  simp only [Nat.le_refl, Nat.succ_eq_add_one, Nat.reduceAdd, Nat.reduceLeDiff, Nat.zero_le, pair_unit, mk_eta, len_bne, eqD_bne, bne_iff_ne, bne_eq_false_iff_eq, beq_iff_eq, beq_eq_false_iff_ne, true_and, and_true, and_self, eq_self, lt_iff, nthI_nat, bnd_iff, decide_eq_true_eq, decide_eq_false_iff_not, Nat.sub_eq, nz, ne_eq, not_false_eq_true, Prod.mk.injEq, Int.reduceEq, Nat.reduceEqDiff, forall_const, implies_true, bne_self_eq_false, Bool.true_eq_false, Bool.false_eq_true, false_implies, reduceCtorEq, Bool.not_true, Bool.not_false, List.all_cons, List.all_nil, Bool.and_true, Bool.not_eq_true, Bool.not_eq_false, Bool.not_eq_true', Bool.not_eq_false', Decidable.not_not]; try simp only [lenL]
  exact ⟨fun h => tri2 (look_root h), fun h => ⟨hl, ho, fun e => h (List.length_eq_zero_iff.1 e), hp h⟩⟩
end Go.Proofs.YtjkipndhdemnoaaGreatDoor
namespace Go.Proofs.YtjkipndhdemnoaaGreatDoor
open Go.Ab Go.Fn
def s_LookUp : FSpec := { ps := [.v (.slice (.slice tRec)), .v .str], rs := [.v tNode, .v I], pre := fun x => okLs x.1 ∧ List.length (α := UInt8) x.2.1 ≤ 100000000, fn := fun x => (Fn.nodeOf (Fn.askR x.1 x.2.1).1, (Fn.askR x.1 x.2.1).2.2, ()), upd := fun _ => () }
theorem fo_LookUp : FO 26 s_LookUp := by
  refine fo (specs := [(58, s_asked), (59, s_nodeOf)]) (clos := []) (fun x => []) ⟨fo_asked, fo_node, trivial⟩ trivial Tryz.func26 rfl rfl ?_
  rintro ⟨ls, t, ⟨⟩⟩ ⟨ho, hl⟩
  refine vcOf (true = true ∧ (okLs ls ∧ List.length t ≤ (100000000 : Nat)) ∧ nat_lit 5 ≤ nat_lit 5 ∧ nat_lit 5 ≤ (Nat.succ (nat_lit 1)).succ.succ.succ ∧ true = true ∧ True ∧ nat_lit 4 ≤ nat_lit 4 ∧ (((nodeOf ((askR ls t).fst.fst, (askR ls t).fst.snd.fst, (askR ls t).fst.snd.snd.fst, (askR ls t).fst.snd.snd.snd.fst, (askR ls t).fst.snd.snd.snd.snd.fst, ())).fst, (nodeOf ((askR ls t).fst.fst, (askR ls t).fst.snd.fst, (askR ls t).fst.snd.snd.fst, (askR ls t).fst.snd.snd.snd.fst, (askR ls t).fst.snd.snd.snd.snd.fst, ())).snd.fst, (nodeOf ((askR ls t).fst.fst, (askR ls t).fst.snd.fst, (askR ls t).fst.snd.snd.fst, (askR ls t).fst.snd.snd.snd.fst, (askR ls t).fst.snd.snd.snd.snd.fst, ())).snd.snd.fst, (nodeOf ((askR ls t).fst.fst, (askR ls t).fst.snd.fst, (askR ls t).fst.snd.snd.fst, (askR ls t).fst.snd.snd.snd.fst, (askR ls t).fst.snd.snd.snd.snd.fst, ())).snd.snd.snd.fst, ()), (askR ls t).snd.snd, ()) = (nodeOf (askR ls t).fst, (askR ls t).snd.snd, ()) ∧ () = ()) (by kernel_rfl) ?_
  simp only [Nat.le_refl, Nat.succ_eq_add_one, Nat.reduceAdd, Nat.reduceLeDiff, Nat.zero_le, pair_unit, mk_eta, len_bne, eqD_bne, bne_iff_ne, bne_eq_false_iff_eq, beq_iff_eq, beq_eq_false_iff_ne, true_and, and_true, and_self, eq_self, lt_iff, nthI_nat, bnd_iff, decide_eq_true_eq, decide_eq_false_iff_not, Nat.sub_eq, nz, ne_eq, not_false_eq_true, Prod.mk.injEq, Int.reduceEq, Nat.reduceEqDiff, forall_const, implies_true, bne_self_eq_false, Bool.true_eq_false, Bool.false_eq_true, false_implies, reduceCtorEq, Bool.not_true, Bool.not_false, List.all_cons, List.all_nil, Bool.and_true, Bool.not_eq_true, Bool.not_eq_false, Bool.not_eq_true', Bool.not_eq_false', Decidable.not_not]; try simp only [lenL]
  exact ⟨ho, hl⟩
theorem fo_sLookUp : FO 24 s_LookUp := by
  refine fo (specs := [(55, s_l10Ask), (56, s_l10Find)]) (clos := []) (fun x => []) ⟨fo_l10Ask, fo_l10Find, trivial⟩ trivial Tryz.func24 rfl rfl ?_
  rintro ⟨ls, t, ⟨⟩⟩ ⟨ho, hl⟩
  refine vcOf (fits (lenL ls) → (decide (iOf (lenL ls) > (4096 : Int)) = false → fits (lenL t) → (decide (iOf (lenL t) > (65536 : Int)) = true → nat_lit 4 ≤ nat_lit 4 ∧ (((0 : (Ty.int IntKind.i64).den), ([] : List UInt8), ([] : List UInt8), (0 : (Ty.int IntKind.i64).den), ()), (2 : Int), ()) = (nodeOf (askR ls t).fst, (askR ls t).snd.snd, ()) ∧ () = ()) ∧ (decide (iOf (lenL t) > (65536 : Int)) = false → true = true ∧ (okLs ls ∧ List.length t ≤ (100000000 : Nat)) ∧ ((askC ls t != (0 : Int)) = true → nat_lit 4 ≤ nat_lit 4 ∧ (((0 : (Ty.int IntKind.i64).den), ([] : List UInt8), ([] : List UInt8), (0 : (Ty.int IntKind.i64).den), ()), askC ls t, ()) = (nodeOf (askR ls t).fst, (askR ls t).snd.snd, ()) ∧ () = ()) ∧ ((askC ls t != (0 : Int)) = false → true = true ∧ (List.length t ≤ (65536 : Nat) ∧ okO ls ∧ (¬t = ([] : List UInt8) → pathOK t = true)) ∧ nat_lit 4 ≤ nat_lit 4 ∧ nat_lit 4 ≤ (Nat.succ (nat_lit 1)).succ.succ ∧ nat_lit 4 ≤ nat_lit 4 ∧ (((nodeOf (lookR ls t).fst).fst, (nodeOf (lookR ls t).fst).snd.fst, (nodeOf (lookR ls t).fst).snd.snd.fst, (nodeOf (lookR ls t).fst).snd.snd.snd.fst, ()), (lookR ls t).snd.snd, ()) = (nodeOf (askR ls t).fst, (askR ls t).snd.snd, ()) ∧ () = ()))) ∧ (decide (iOf (lenL ls) > (4096 : Int)) = true → nat_lit 4 ≤ nat_lit 4 ∧ (((0 : (Ty.int IntKind.i64).den), ([] : List UInt8), ([] : List UInt8), (0 : (Ty.int IntKind.i64).den), ()), (2 : Int), ()) = (nodeOf (askR ls t).fst, (askR ls t).snd.snd, ()) ∧ () = ())) (by kernel_rfl) ?_
  simp only [Nat.le_refl, Nat.succ_eq_add_one, Nat.reduceAdd, Nat.reduceLeDiff, Nat.zero_le, pair_unit, mk_eta, len_bne, eqD_bne, bne_iff_ne, bne_eq_false_iff_eq, beq_iff_eq, beq_eq_false_iff_ne, true_and, and_true, and_self, eq_self, lt_iff, nthI_nat, bnd_iff, decide_eq_true_eq, decide_eq_false_iff_not, Nat.sub_eq, nz, ne_eq, not_false_eq_true, Prod.mk.injEq, Int.reduceEq, Nat.reduceEqDiff, forall_const, implies_true, bne_self_eq_false, Bool.true_eq_false, Bool.false_eq_true, false_implies, reduceCtorEq, Bool.not_true, Bool.not_false, List.all_cons, List.all_nil, Bool.and_true, Bool.not_eq_true, Bool.not_eq_false, Bool.not_eq_true', Bool.not_eq_false', Decidable.not_not]; try simp only [lenL]
  exact fun _ => ⟨fun h1 _ => ⟨fun h2 => lu_no (ask_long1 h2) (by decide), fun h2 => ⟨⟨ho, hl⟩, fun h => lu_no rfl h, fun h => ⟨ask_facts h, lu_yes h⟩⟩⟩, fun h1 => lu_no (ask_long2 h1) (by decide)⟩
end Go.Proofs.YtjkipndhdemnoaaGreatDoor
namespace Go.Proofs.YtjkipndhdemnoaaGreatDoor
open Go.Ab Go.Fn
def s_szRecordS : FSpec := { ps := [.v (.slice tRec), .v I], rs := [.v I], pre := fun x => 0 ≤ (x.2.1 : Int) ∧ (x.2.1 : Int) ≤ 1048576, fn := fun x => (Fn.szRecordS x.1 x.2.1, ()), upd := fun _ => () }
def L_szRecordS (xs : List (tRec : Ty).den) (l0 : Int) : LoopAnn := { ι := Nat × Int, inv := fun p => p.1 ≤ xs.length ∧ (0 ≤ p.2 ∧ p.2 ≤ 1048576) ∧ szGo Fn.szRec (xs.drop p.1) p.2 = szGo Fn.szRec xs (l0 - xs.length), slots := fun p => [(5, .d I (Int.ofNat p.1)), (1, .d I p.2)], objs := fun _ => [], μ := fun p => xs.length - p.1 }
theorem fo_szRecordS : FO 54 s_szRecordS := by
  refine fo (specs := [(82, s_szRecord)]) (clos := []) (fun x => [(5, .lv [0, 1, 5] <| fun _ => L_szRecordS x.1 x.2.1)]) ⟨fo_szRecord, trivial⟩ trivial Tryz.func54 rfl rfl ?_
  rintro ⟨xs, n, ⟨⟩⟩ ⟨hp1, hp2⟩
  have hp1 : (0 : Int) ≤ n := hp1
  have hp2 : (n : Int) ≤ 1048576 := hp2
  refine vcOf (fits (lenL xs) → (decide (wSub IntKind.i64 n (iOf (lenL xs)) < (0 : Int)) = true → ((-1 : Int), ()) = (szRecordS xs n, ()) ∧ () = ()) ∧ (decide (wSub IntKind.i64 n (iOf (lenL xs)) < (0 : Int)) = false → (∃ (i : Nat × Int), (i.fst ≤ List.length xs ∧ ((0 : Int) ≤ i.snd ∧ i.snd ≤ (1048576 : Int)) ∧ szGo szRec (List.drop i.fst xs) i.snd = szGo szRec xs (n - Int.ofNat (List.length xs))) ∧ (xs = xs ∧ wSub IntKind.i64 n (iOf (lenL xs)) = i.snd ∧ (0 : Int) = Int.ofNat i.fst ∧ True) ∧ True ∧ True) ∧ ∀ (i : Nat × Int), i.fst ≤ List.length xs ∧ ((0 : Int) ≤ i.snd ∧ i.snd ≤ (1048576 : Int)) ∧ szGo szRec (List.drop i.fst xs) i.snd = szGo szRec xs (n - Int.ofNat (List.length xs)) → fits (lenL xs) → (decide (Int.ofNat i.fst < iOf (lenL xs)) = true → bnd (Int.ofNat i.fst) (lenL xs) ∧ ∀ (x : Int × List UInt8 × List UInt8 × Int × Bool × Unit), nthI xs (Int.ofNat i.fst) = some x → nat_lit 5 ≤ (Nat.succ (nat_lit 1)).succ.succ.succ ∧ true = true ∧ ((-1 : Int) ≤ i.snd ∧ i.snd ≤ (1048576 : (PTy.v I).den)) ∧ (decide (szRec (x.fst, x.snd.fst, x.snd.snd.fst, x.snd.snd.snd.fst, x.snd.snd.snd.snd.fst, ()) i.snd < (0 : Int)) = true → ((-1 : Int), ()) = (szRecordS xs n, ()) ∧ () = ()) ∧ (decide (szRec (x.fst, x.snd.fst, x.snd.snd.fst, x.snd.snd.snd.fst, x.snd.snd.snd.snd.fst, ()) i.snd < (0 : Int)) = false → ∃ (j : Nat × Int), (j.fst ≤ List.length xs ∧ ((0 : Int) ≤ j.snd ∧ j.snd ≤ (1048576 : Int)) ∧ szGo szRec (List.drop j.fst xs) j.snd = szGo szRec xs (n - Int.ofNat (List.length xs))) ∧ (List.length xs).sub j.fst < (List.length xs).sub i.fst ∧ (xs = xs ∧ szRec (x.fst, x.snd.fst, x.snd.snd.fst, x.snd.snd.snd.fst, x.snd.snd.snd.snd.fst, ()) i.snd = j.snd ∧ wAdd IntKind.i64 (Int.ofNat i.fst) (1 : Int) = Int.ofNat j.fst ∧ True) ∧ True ∧ True)) ∧ (decide (Int.ofNat i.fst < iOf (lenL xs)) = false → (i.snd, ()) = (szRecordS xs n, ()) ∧ () = ()))) (by kernel_rfl) ?_
  simp only [Nat.le_refl, Nat.succ_eq_add_one, Nat.reduceAdd, Nat.reduceLeDiff, Nat.zero_le, pair_unit, mk_eta, len_bne, eqD_bne, bne_iff_ne, bne_eq_false_iff_eq, beq_iff_eq, beq_eq_false_iff_ne, true_and, and_true, and_self, eq_self, lt_iff, nthI_nat, bnd_iff, decide_eq_true_eq, decide_eq_false_iff_not, Nat.sub_eq, nz, ne_eq, not_false_eq_true, Prod.mk.injEq, Int.reduceEq, Nat.reduceEqDiff, forall_const, implies_true, bne_self_eq_false, Bool.true_eq_false, Bool.false_eq_true, false_implies, reduceCtorEq, Bool.not_true, Bool.not_false, List.all_cons, List.all_nil, Bool.and_true, Bool.not_eq_true, Bool.not_eq_false, Bool.not_eq_true', Bool.not_eq_false', Decidable.not_not]; try simp only [lenL]
  intro hf
  rw [wSub_len hp1 hp2 hf]
  refine ⟨fun h => (if_pos h).symm, fun h => ⟨⟨(0, n - (xs.length : Int)), ⟨Nat.zero_le _, ⟨Int.not_lt.1 h, Int.le_trans (Int.sub_le_self _ (Int.natCast_nonneg _)) hp2⟩, rfl⟩, rfl, rfl⟩, ?_⟩⟩
  have e0 : Fn.szRecordS xs n = szGo Fn.szRec xs (n - (xs.length : Int)) := if_neg h
  rw [e0]
  rintro ⟨k, m⟩ ⟨hk, ⟨hm1, hm2⟩, he⟩ -
  have hm1 : (0 : Int) ≤ m := hm1
  have hm2 : (m : Int) ≤ 1048576 := hm2
  have he : szGo Fn.szRec (xs.drop k) m = szGo Fn.szRec xs (n - (xs.length : Int)) := he
  refine ⟨fun hlt => ⟨hlt, fun x hx => ⟨⟨Int.le_trans (by decide) hm1, hm2⟩, fun h1 => ?_, fun h1 => ?_⟩⟩, fun hge => ?_⟩
  · rw [← he, szGo_at hx]; exact (if_pos h1).symm
  · have h2 := szRec_le x m hm1
    rw [szGo_at hx] at he
    exact ⟨(k + 1, Fn.szRec x m), ⟨hlt, ⟨Int.not_lt.1 h1, Int.le_trans h2 hm2⟩, (if_neg h1).symm.trans he⟩, Nat.sub_lt_sub_left hlt (Nat.lt_succ_self k), rfl, inc_in hf hk⟩
  · rw [← he, szGo_end hge]
end Go.Proofs.YtjkipndhdemnoaaGreatDoor
namespace Go.Proofs.YtjkipndhdemnoaaGreatDoor
open Go.Ab Go.Fn
def s_toRecordS : FSpec := { ps := [.v (.slice tRec)], rs := [.v (.slice tRec)], pre := fun _ => True, fn := fun x => (x.1, ()), upd := fun _ => () }
def L_toRecordS (xs : List (tRec : Ty).den) : LoopAnn := { ι := Nat, inv := fun k => k ≤ xs.length, slots := fun k => [(4, .d I (Int.ofNat k))], objs := fun k => [(1, .arr tRec (fillTo xs k (0, [], [], 0, false, ())) false)], μ := fun k => xs.length - k }
theorem fo_toRecordS : FO 57 s_toRecordS := by
  refine fo (specs := [(86, s_toRecord)]) (clos := []) (fun x => [(3, .lv [0, 3, 4] <| fun _ => L_toRecordS x.1)]) ⟨fo_toRecord, trivial⟩ trivial Tryz.func57 rfl rfl ?_
  rintro ⟨xs, ⟨⟩⟩ -
  refine vcOf (fits (lenL xs) → mkOK (iOf (lenL xs)) (iOf (lenL xs)) ∧ (∃ (i : Nat), i ≤ List.length xs ∧ (xs = xs ∧ nat_lit 1 = nat_lit 1 ∧ (0 : Int) = Int.ofNat i ∧ True) ∧ ((([] : List (Int × List UInt8 × List UInt8 × Int × Bool × Unit)) = ([] : List (Int × List UInt8 × List UInt8 × Int × Bool × Unit)) ∧ false = false) ∧ (List.replicate (tN (iOf (lenL xs))) ((0 : (Ty.int IntKind.i64).den), ([] : List UInt8), ([] : List UInt8), (0 : (Ty.int IntKind.i64).den), false, ()) = fillTo xs i ((0 : I.den), ([] : List UInt8), ([] : List UInt8), (0 : I.den), false, ()) ∧ false = false) ∧ True) ∧ True) ∧ ∀ (i : Nat), i ≤ List.length xs → fits (lenL xs) → (decide (Int.ofNat i < iOf (lenL xs)) = true → bnd (Int.ofNat i) (lenL xs) ∧ ∀ (x : Int × List UInt8 × List UInt8 × Int × Bool × Unit), nthI xs (Int.ofNat i) = some x → nat_lit 5 ≤ (Nat.succ (nat_lit 1)).succ.succ.succ ∧ true = true ∧ True ∧ bnd (Int.ofNat i) (lenL (fillTo xs i ((0 : I.den), ([] : List UInt8), ([] : List UInt8), (0 : I.den), false, ()))) ∧ ((0 : Nat) = (0 : Nat) ∧ tN (Int.ofNat i) < lenL (fillTo xs i ((0 : I.den), ([] : List UInt8), ([] : List UInt8), (0 : I.den), false, ()))) ∧ ∃ (j : Nat), j ≤ List.length xs ∧ (List.length xs).sub j < (List.length xs).sub i ∧ (xs = xs ∧ nat_lit 1 = nat_lit 1 ∧ wAdd IntKind.i64 (Int.ofNat i) (1 : Int) = Int.ofNat j ∧ True) ∧ ((([] : List (Int × List UInt8 × List UInt8 × Int × Bool × Unit)) = ([] : List (Int × List UInt8 × List UInt8 × Int × Bool × Unit)) ∧ false = false) ∧ ((fillTo xs i ((0 : I.den), ([] : List UInt8), ([] : List UInt8), (0 : I.den), false, ())).set (tN (Int.ofNat i)) (x.fst, x.snd.fst, x.snd.snd.fst, x.snd.snd.snd.fst, x.snd.snd.snd.snd.fst, ()) = fillTo xs j ((0 : I.den), ([] : List UInt8), ([] : List UInt8), (0 : I.den), false, ()) ∧ false = false) ∧ True) ∧ True) ∧ (decide (Int.ofNat i < iOf (lenL xs)) = false → (fillTo xs i ((0 : I.den), ([] : List UInt8), ([] : List UInt8), (0 : I.den), false, ()), ()) = (xs, ()) ∧ () = ())) (by kernel_rfl) ?_
  simp only [Nat.le_refl, Nat.succ_eq_add_one, Nat.reduceAdd, Nat.reduceLeDiff, Nat.zero_le, pair_unit, mk_eta, len_bne, eqD_bne, bne_iff_ne, bne_eq_false_iff_eq, beq_iff_eq, beq_eq_false_iff_ne, true_and, and_true, and_self, eq_self, lt_iff, nthI_nat, bnd_iff, decide_eq_true_eq, decide_eq_false_iff_not, Nat.sub_eq, nz, ne_eq, not_false_eq_true, Prod.mk.injEq, Int.reduceEq, Nat.reduceEqDiff, forall_const, implies_true, bne_self_eq_false, Bool.true_eq_false, Bool.false_eq_true, false_implies, reduceCtorEq, Bool.not_true, Bool.not_false, List.all_cons, List.all_nil, Bool.and_true, Bool.not_eq_true, Bool.not_eq_false, Bool.not_eq_true', Bool.not_eq_false', Decidable.not_not]; try simp only [lenL]
  exact fun hf => ⟨mkOK_len hf, ⟨0, Nat.zero_le _, rfl, rfl⟩, fun k hk _ => ⟨fun h => ⟨h, fun x hx => ⟨by rw [fill_len hk]; exact h, by rw [fill_len hk]; exact h, k + 1, h, Nat.sub_lt_sub_left h (Nat.lt_succ_self k), inc_in hf hk, fill_set hx⟩⟩, fun h => fill_end h⟩⟩
end Go.Proofs.YtjkipndhdemnoaaGreatDoor
namespace Go.Proofs.YtjkipndhdemnoaaGreatDoor
open Go.Ab Go.Fn
def s_eqRecordS : FSpec := { ps := [.v (.slice tRec), .v (.slice tRec)], rs := [.v .bool], pre := fun _ => True, fn := fun x => (eqL (α := Rec) x.1 x.2.1, ()), upd := fun _ => () }
def L_eqRecordS (xs ys : List (tRec : Ty).den) : LoopAnn := { ι := Nat, inv := fun k => k ≤ xs.length ∧ xs.length = ys.length ∧ xs.take k = ys.take k, slots := fun k => [(5, .d I (Int.ofNat k))], objs := fun _ => [], μ := fun k => xs.length - k }
theorem fo_eqRecordS : FO 51 s_eqRecordS := by
  refine fo (specs := [(81, s_eqRecord)]) (clos := []) (fun x => [(4, .lv [0, 1, 5] <| fun _ => L_eqRecordS x.1 x.2.1)]) ⟨fo_eqRecord, trivial⟩ trivial Tryz.func51 rfl rfl ?_
  rintro ⟨xs, ys, ⟨⟩⟩ -
  refine vcOf (fits (lenL xs) → fits (lenL ys) → ((iOf (lenL xs) != iOf (lenL ys)) = true → (false, ()) = (eqL xs ys, ()) ∧ () = ()) ∧ ((iOf (lenL xs) != iOf (lenL ys)) = false → (∃ (i : Nat), (i ≤ List.length xs ∧ List.length xs = List.length ys ∧ List.take i xs = List.take i ys) ∧ (xs = xs ∧ ys = ys ∧ (0 : Int) = Int.ofNat i ∧ True) ∧ True ∧ True) ∧ ∀ (i : Nat), i ≤ List.length xs ∧ List.length xs = List.length ys ∧ List.take i xs = List.take i ys → fits (lenL xs) → (decide (Int.ofNat i < iOf (lenL xs)) = true → bnd (Int.ofNat i) (lenL xs) ∧ ∀ (x : Int × List UInt8 × List UInt8 × Int × Bool × Unit), nthI xs (Int.ofNat i) = some x → nat_lit 5 ≤ (Nat.succ (nat_lit 1)).succ.succ.succ ∧ bnd (Int.ofNat i) (lenL ys) ∧ ∀ (x_1 : Int × List UInt8 × List UInt8 × Int × Bool × Unit), nthI ys (Int.ofNat i) = some x_1 → nat_lit 5 ≤ (Nat.succ (nat_lit 1)).succ.succ.succ ∧ true = true ∧ True ∧ ((!eqRec (x.fst, x.snd.fst, x.snd.snd.fst, x.snd.snd.snd.fst, x.snd.snd.snd.snd.fst, ()) (x_1.fst, x_1.snd.fst, x_1.snd.snd.fst, x_1.snd.snd.snd.fst, x_1.snd.snd.snd.snd.fst, ())) = true → (false, ()) = (eqL xs ys, ()) ∧ () = ()) ∧ ((!eqRec (x.fst, x.snd.fst, x.snd.snd.fst, x.snd.snd.snd.fst, x.snd.snd.snd.snd.fst, ()) (x_1.fst, x_1.snd.fst, x_1.snd.snd.fst, x_1.snd.snd.snd.fst, x_1.snd.snd.snd.snd.fst, ())) = false → ∃ (j : Nat), (j ≤ List.length xs ∧ List.length xs = List.length ys ∧ List.take j xs = List.take j ys) ∧ (List.length xs).sub j < (List.length xs).sub i ∧ (xs = xs ∧ ys = ys ∧ wAdd IntKind.i64 (Int.ofNat i) (1 : Int) = Int.ofNat j ∧ True) ∧ True ∧ True)) ∧ (decide (Int.ofNat i < iOf (lenL xs)) = false → (true, ()) = (eqL xs ys, ()) ∧ () = ()))) (by kernel_rfl) ?_
  simp only [Nat.le_refl, Nat.succ_eq_add_one, Nat.reduceAdd, Nat.reduceLeDiff, Nat.zero_le, pair_unit, mk_eta, len_bne, eqD_bne, bne_iff_ne, bne_eq_false_iff_eq, beq_iff_eq, beq_eq_false_iff_ne, true_and, and_true, and_self, eq_self, lt_iff, nthI_nat, bnd_iff, decide_eq_true_eq, decide_eq_false_iff_not, Nat.sub_eq, nz, ne_eq, not_false_eq_true, Prod.mk.injEq, Int.reduceEq, Nat.reduceEqDiff, forall_const, implies_true, bne_self_eq_false, Bool.true_eq_false, Bool.false_eq_true, false_implies, reduceCtorEq, Bool.not_true, Bool.not_false, List.all_cons, List.all_nil, Bool.and_true, Bool.not_eq_true, Bool.not_eq_false, Bool.not_eq_true', Bool.not_eq_false', Decidable.not_not]; try simp only [lenL]
  exact fun hf1 hf2 => ⟨fun h => eqL_len h, fun h => ⟨⟨0, ⟨Nat.zero_le _, h, rfl⟩, rfl⟩, fun k ⟨hk, _, ht⟩ _ => ⟨fun hlt => ⟨hlt, fun x hx => ⟨h ▸ hlt, fun y hy => ⟨fun hne => eqL_ne hx hy (eqRec_ne hne), fun he => ⟨k + 1, ⟨hlt, h, take_eq_succ hx hy ht (eqRec_eq he)⟩, Nat.sub_lt_sub_left hlt (Nat.lt_succ_self k), inc_in hf1 hk⟩⟩⟩⟩, fun hge => eqL_end hge h ht⟩⟩⟩
end Go.Proofs.YtjkipndhdemnoaaGreatDoor
namespace Go.Proofs.YtjkipndhdemnoaaGreatDoor
open Go.Ab Go.Fn
def s_szRecordSS : FSpec := { ps := [.v (.slice (.slice tRec)), .v I], rs := [.v I], pre := fun x => 0 ≤ (x.2.1 : Int) ∧ (x.2.1 : Int) ≤ 1048576, fn := fun x => (szList Fn.szRecordS x.1 x.2.1, ()), upd := fun _ => () }
def L_szRecordSS (xs : List ((.slice tRec) : Ty).den) (l0 : Int) : LoopAnn := { ι := Nat × Int, inv := fun p => p.1 ≤ xs.length ∧ (0 ≤ p.2 ∧ p.2 ≤ 1048576) ∧ szGo Fn.szRecordS (xs.drop p.1) p.2 = szGo Fn.szRecordS xs (l0 - xs.length), slots := fun p => [(5, .d I (Int.ofNat p.1)), (1, .d I p.2)], objs := fun _ => [], μ := fun p => xs.length - p.1 }
theorem fo_szRecordSS : FO 23 s_szRecordSS := by
  refine fo (specs := [(54, s_szRecordS)]) (clos := []) (fun x => [(5, .lv [0, 1, 5] <| fun _ => L_szRecordSS x.1 x.2.1)]) ⟨fo_szRecordS, trivial⟩ trivial Tryz.func23 rfl rfl ?_
  rintro ⟨xs, n, ⟨⟩⟩ ⟨hp1, hp2⟩
  have hp1 : (0 : Int) ≤ n := hp1
  have hp2 : (n : Int) ≤ 1048576 := hp2
  refine vcOf (fits (lenL xs) → (decide (wSub IntKind.i64 n (iOf (lenL xs)) < (0 : Int)) = true → ((-1 : Int), ()) = (szList szRecordS xs n, ()) ∧ () = ()) ∧ (decide (wSub IntKind.i64 n (iOf (lenL xs)) < (0 : Int)) = false → (∃ (i : Nat × Int), (i.fst ≤ List.length xs ∧ ((0 : Int) ≤ i.snd ∧ i.snd ≤ (1048576 : Int)) ∧ szGo szRecordS (List.drop i.fst xs) i.snd = szGo szRecordS xs (n - Int.ofNat (List.length xs))) ∧ (xs = xs ∧ wSub IntKind.i64 n (iOf (lenL xs)) = i.snd ∧ (0 : Int) = Int.ofNat i.fst ∧ True) ∧ True ∧ True) ∧ ∀ (i : Nat × Int), i.fst ≤ List.length xs ∧ ((0 : Int) ≤ i.snd ∧ i.snd ≤ (1048576 : Int)) ∧ szGo szRecordS (List.drop i.fst xs) i.snd = szGo szRecordS xs (n - Int.ofNat (List.length xs)) → fits (lenL xs) → (decide (Int.ofNat i.fst < iOf (lenL xs)) = true → bnd (Int.ofNat i.fst) (lenL xs) ∧ ∀ (x : List (Int × List UInt8 × List UInt8 × Int × Bool × Unit)), nthI xs (Int.ofNat i.fst) = some x → nat_lit 1 ≤ nat_lit 1 ∧ true = true ∧ ((0 : (PTy.v I).den) ≤ i.snd ∧ i.snd ≤ (1048576 : (PTy.v I).den)) ∧ (decide (szRecordS x i.snd < (0 : Int)) = true → ((-1 : Int), ()) = (szList szRecordS xs n, ()) ∧ () = ()) ∧ (decide (szRecordS x i.snd < (0 : Int)) = false → ∃ (j : Nat × Int), (j.fst ≤ List.length xs ∧ ((0 : Int) ≤ j.snd ∧ j.snd ≤ (1048576 : Int)) ∧ szGo szRecordS (List.drop j.fst xs) j.snd = szGo szRecordS xs (n - Int.ofNat (List.length xs))) ∧ (List.length xs).sub j.fst < (List.length xs).sub i.fst ∧ (xs = xs ∧ szRecordS x i.snd = j.snd ∧ wAdd IntKind.i64 (Int.ofNat i.fst) (1 : Int) = Int.ofNat j.fst ∧ True) ∧ True ∧ True)) ∧ (decide (Int.ofNat i.fst < iOf (lenL xs)) = false → (i.snd, ()) = (szList szRecordS xs n, ()) ∧ () = ()))) (by kernel_rfl) ?_
  simp only [Nat.le_refl, Nat.succ_eq_add_one, Nat.reduceAdd, Nat.reduceLeDiff, Nat.zero_le, pair_unit, mk_eta, len_bne, eqD_bne, bne_iff_ne, bne_eq_false_iff_eq, beq_iff_eq, beq_eq_false_iff_ne, true_and, and_true, and_self, eq_self, lt_iff, nthI_nat, bnd_iff, decide_eq_true_eq, decide_eq_false_iff_not, Nat.sub_eq, nz, ne_eq, not_false_eq_true, Prod.mk.injEq, Int.reduceEq, Nat.reduceEqDiff, forall_const, implies_true, bne_self_eq_false, Bool.true_eq_false, Bool.false_eq_true, false_implies, reduceCtorEq, Bool.not_true, Bool.not_false, List.all_cons, List.all_nil, Bool.and_true, Bool.not_eq_true, Bool.not_eq_false, Bool.not_eq_true', Bool.not_eq_false', Decidable.not_not]; try simp only [lenL]
  intro hf
  rw [wSub_len hp1 hp2 hf]
  refine ⟨fun h => (if_pos h).symm, fun h => ⟨⟨(0, n - (xs.length : Int)), ⟨Nat.zero_le _, ⟨Int.not_lt.1 h, Int.le_trans (Int.sub_le_self _ (Int.natCast_nonneg _)) hp2⟩, rfl⟩, rfl, rfl⟩, ?_⟩⟩
  have e0 : szList Fn.szRecordS xs n = szGo Fn.szRecordS xs (n - (xs.length : Int)) := if_neg h
  rw [e0]
  rintro ⟨k, m⟩ ⟨hk, ⟨hm1, hm2⟩, he⟩ -
  have hm1 : (0 : Int) ≤ m := hm1
  have hm2 : (m : Int) ≤ 1048576 := hm2
  have he : szGo Fn.szRecordS (xs.drop k) m = szGo Fn.szRecordS xs (n - (xs.length : Int)) := he
  refine ⟨fun hlt => ⟨hlt, fun x hx => ⟨⟨hm1, hm2⟩, fun h1 => ?_, fun h1 => ?_⟩⟩, fun hge => ?_⟩
  · rw [← he, szGo_at hx]; exact (if_pos h1).symm
  · have h2 := szRecordS_le x m hm1
    rw [szGo_at hx] at he
    exact ⟨(k + 1, Fn.szRecordS x m), ⟨hlt, ⟨Int.not_lt.1 h1, Int.le_trans h2 hm2⟩, (if_neg h1).symm.trans he⟩, Nat.sub_lt_sub_left hlt (Nat.lt_succ_self k), rfl, inc_in hf hk⟩
  · rw [← he, szGo_end hge]
end Go.Proofs.YtjkipndhdemnoaaGreatDoor
namespace Go.Proofs.YtjkipndhdemnoaaGreatDoor
open Go.Ab Go.Fn
def s_toRecordSS : FSpec := { ps := [.v (.slice (.slice tRec))], rs := [.o (.slice (.slice tRec))], pre := fun _ => True, fn := fun x => (x.1, ()), upd := fun _ => () }
def L_toRecordSS (xs : List ((.slice tRec) : Ty).den) : LoopAnn := { ι := Nat, inv := fun k => k ≤ xs.length, slots := fun k => [(4, .d I (Int.ofNat k))], objs := fun k => [(1, .arr (.slice tRec) (fillTo xs k []) false)], μ := fun k => xs.length - k }
theorem fo_toRecordSS : FO 25 s_toRecordSS := by
  refine fo (specs := [(57, s_toRecordS)]) (clos := []) (fun x => [(3, .lv [0, 3, 4] <| fun _ => L_toRecordSS x.1)]) ⟨fo_toRecordS, trivial⟩ trivial Tryz.func25 rfl rfl ?_
  rintro ⟨xs, ⟨⟩⟩ -
  refine vcOf (fits (lenL xs) → mkOK (iOf (lenL xs)) (iOf (lenL xs)) ∧ (∃ (i : Nat), i ≤ List.length xs ∧ (xs = xs ∧ nat_lit 1 = nat_lit 1 ∧ (0 : Int) = Int.ofNat i ∧ True) ∧ ((([] : List (List (Int × List UInt8 × List UInt8 × Int × Bool × Unit))) = ([] : List (List (Int × List UInt8 × List UInt8 × Int × Bool × Unit))) ∧ false = false) ∧ (List.replicate (tN (iOf (lenL xs))) ([] : List (Int × List UInt8 × List UInt8 × Int × Bool × Unit)) = fillTo xs i ([] : List (Int × List UInt8 × List UInt8 × Int × Bool × Unit)) ∧ false = false) ∧ True) ∧ True) ∧ ∀ (i : Nat), i ≤ List.length xs → fits (lenL xs) → (decide (Int.ofNat i < iOf (lenL xs)) = true → bnd (Int.ofNat i) (lenL xs) ∧ ∀ (x : List (Int × List UInt8 × List UInt8 × Int × Bool × Unit)), nthI xs (Int.ofNat i) = some x → nat_lit 1 ≤ nat_lit 1 ∧ true = true ∧ True ∧ bnd (Int.ofNat i) (lenL (fillTo xs i ([] : List (Int × List UInt8 × List UInt8 × Int × Bool × Unit)))) ∧ ((0 : Nat) = (0 : Nat) ∧ tN (Int.ofNat i) < lenL (fillTo xs i ([] : List (Int × List UInt8 × List UInt8 × Int × Bool × Unit)))) ∧ ∃ (j : Nat), j ≤ List.length xs ∧ (List.length xs).sub j < (List.length xs).sub i ∧ (xs = xs ∧ nat_lit 1 = nat_lit 1 ∧ wAdd IntKind.i64 (Int.ofNat i) (1 : Int) = Int.ofNat j ∧ True) ∧ ((([] : List (List (Int × List UInt8 × List UInt8 × Int × Bool × Unit))) = ([] : List (List (Int × List UInt8 × List UInt8 × Int × Bool × Unit))) ∧ false = false) ∧ ((fillTo xs i ([] : List (Int × List UInt8 × List UInt8 × Int × Bool × Unit))).set (tN (Int.ofNat i)) x = fillTo xs j ([] : List (Int × List UInt8 × List UInt8 × Int × Bool × Unit)) ∧ false = false) ∧ True) ∧ True) ∧ (decide (Int.ofNat i < iOf (lenL xs)) = false → (fillTo xs i ([] : List (Int × List UInt8 × List UInt8 × Int × Bool × Unit)), ()) = (xs, ()) ∧ () = ())) (by kernel_rfl) ?_
  simp only [Nat.le_refl, Nat.succ_eq_add_one, Nat.reduceAdd, Nat.reduceLeDiff, Nat.zero_le, pair_unit, mk_eta, len_bne, eqD_bne, bne_iff_ne, bne_eq_false_iff_eq, beq_iff_eq, beq_eq_false_iff_ne, true_and, and_true, and_self, eq_self, lt_iff, nthI_nat, bnd_iff, decide_eq_true_eq, decide_eq_false_iff_not, Nat.sub_eq, nz, ne_eq, not_false_eq_true, Prod.mk.injEq, Int.reduceEq, Nat.reduceEqDiff, forall_const, implies_true, bne_self_eq_false, Bool.true_eq_false, Bool.false_eq_true, false_implies, reduceCtorEq, Bool.not_true, Bool.not_false, List.all_cons, List.all_nil, Bool.and_true, Bool.not_eq_true, Bool.not_eq_false, Bool.not_eq_true', Bool.not_eq_false', Decidable.not_not]; try simp only [lenL]
  exact fun hf => ⟨mkOK_len hf, ⟨0, Nat.zero_le _, rfl, rfl⟩, fun k hk _ => ⟨fun h => ⟨h, fun x hx => ⟨by rw [fill_len hk]; exact h, by rw [fill_len hk]; exact h, k + 1, h, Nat.sub_lt_sub_left h (Nat.lt_succ_self k), inc_in hf hk, fill_set hx⟩⟩, fun h => fill_end h⟩⟩
end Go.Proofs.YtjkipndhdemnoaaGreatDoor
