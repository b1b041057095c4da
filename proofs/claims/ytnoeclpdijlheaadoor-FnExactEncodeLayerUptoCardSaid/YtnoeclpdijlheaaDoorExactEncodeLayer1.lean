/- Every function that the law FnExactEncodeLayer reaches does what its specification (a function on plain data) says; the law answers true wherever what it reads is of bulk at most 1048576. Conditions: that bound. -/
import Derived.Test.YtnoeclpdijlheaaDoorAb1
import Derived.Deep.DeepHandedRow
import Derived.Deep.DeepLaidRun
import Derived.Laws.BitsLemmas
import Derived.Lib.Bytealg
import Derived.OpenShut
import Derived.ProofKit
import Derived.Test.YtnoeclpdijlheaaDoorCards
import Derived.Test.YtnoeclpdijlheaaDoorRows
import Derived.Test.YtnoeclpdijlheaaDoorTie
import Derived.WalkKit
import Derived.Test.YtnoeclpdijlheaaDoorExactEncodeLayer0
set_option autoImplicit true
set_option relaxedAutoImplicit true
set_option maxHeartbeats 4000000
set_option maxRecDepth 4000
set_option linter.unusedVariables false
set_option linter.unusedSimpArgs false
namespace Go.Fn
open Go.Ab
theorem recAt_at {l : List Rec} {i : Nat} {x : Rec} (h : l[i]? = some x) : recAt l i = x := by unfold recAt; rw [List.getD_eq_getElem?_getD, h]; rfl
theorem ok0 (l : List Rec) : OKto l 0 := ⟨Nat.zero_le _, fun j hj => absurd hj (Nat.not_lt_zero _)⟩
theorem ok_step {l : List Rec} {i : Nat} (h : OKto l i) (hi : i < l.length) (hf : faultAt l i = 0) : OKto l (i + 1) := by
  refine ⟨hi, fun j hj => ?_⟩
  by_cases e : j = i
  · rw [e]; exact hf
  · exact h.2 j (by omega)
theorem lay_at {l : List Rec} {i : Nat} (h : OKto l i) (hi : i < l.length) (hf : ¬ faultAt l i = 0) : layI l = some i := by
  unfold layI
  rw [List.find?_range_eq_some]
  refine ⟨by simp [hf], List.mem_range.2 hi, fun j hj => by simp [h.2 j hj]⟩
theorem lay_c {l : List Rec} {i : Nat} {c : Int} (h : OKto l i) (hi : i < l.length) (hc : faultAt l i = c) (hn : ¬ c = 0) : Int.ofNat i = layN l ∧ c = layC l := by
  have := lay_at h hi (by rw [hc]; exact hn)
  unfold layN layC
  rw [this]
  exact ⟨rfl, hc.symm⟩
theorem lay_end {l : List Rec} {i : Nat} (h : OKto l i) (hi : ¬ i < l.length) : 0 = layN l ∧ 0 = layC l := by
  have : layI l = none := by
    unfold layI
    rw [List.find?_eq_none]
    intro j hj
    have := List.mem_range.1 hj
    simp [h.2 j (by omega)]
  unfold layN layC
  rw [this]
  exact ⟨rfl, rfl⟩
theorem fa_16 {l : List Rec} {i : Nat} (h : 16 ≤ i) : faultAt l i = 6 := by unfold faultAt; rw [if_pos h]
theorem ok_16 {l : List Rec} {i : Nat} (h : OKto l i) (hn : ¬ Int.ofNat i = 16) : ¬ 16 ≤ i := by
  intro hge
  have : ¬ i = 16 := fun e => hn (by rw [e]; rfl)
  have h2 := h.2 16 (by omega)
  rw [fa_16 (Nat.le_refl _)] at h2
  cases h2
theorem fa_rec {l : List Rec} {i : Nat} (h : ¬ 16 ≤ i) (hr : ¬ recFault (recAt l i) = 0) : faultAt l i = recFault (recAt l i) := by unfold faultAt; rw [if_neg h, if_pos hr]
theorem fa_18 {l : List Rec} {i : Nat} (h : ¬ 16 ≤ i) (hr : recFault (recAt l i) = 0) (hs : sameB l (Int.ofNat i) = true) : faultAt l i = 18 := by unfold faultAt; rw [if_neg h, if_neg (by simp [hr]), if_pos hs]
theorem fa_11 {l : List Rec} {i : Nat} (h : ¬ 16 ≤ i) (hr : recFault (recAt l i) = 0) (hs : sameB l (Int.ofNat i) = false) (ho : orderB l (Int.ofNat i) = true) : faultAt l i = 11 := by unfold faultAt; rw [if_neg h, if_neg (by simp [hr]), if_neg (by rw [hs]; exact Bool.false_ne_true), if_pos ho]
theorem fa_12 {l : List Rec} {i : Nat} (h : ¬ 16 ≤ i) (hr : recFault (recAt l i) = 0) (hs : sameB l (Int.ofNat i) = false) (ho : orderB l (Int.ofNat i) = false) (hu : upOf l i < 0) : faultAt l i = 12 := by unfold faultAt; rw [if_neg h, if_neg (by simp [hr]), if_neg (by rw [hs]; exact Bool.false_ne_true), if_neg (by rw [ho]; exact Bool.false_ne_true), if_pos hu]
theorem fa_13 {l : List Rec} {i : Nat} (h : ¬ 16 ≤ i) (hr : recFault (recAt l i) = 0) (hs : sameB l (Int.ofNat i) = false) (ho : orderB l (Int.ofNat i) = false) (hu : ¬ upOf l i < 0) (hd : dirB l (Int.ofNat i) = true) : faultAt l i = 13 := by unfold faultAt; rw [if_neg h, if_neg (by simp [hr]), if_neg (by rw [hs]; exact Bool.false_ne_true), if_neg (by rw [ho]; exact Bool.false_ne_true), if_neg hu, if_pos hd]
theorem fa_0 {l : List Rec} {i : Nat} (h : ¬ 16 ≤ i) (hr : recFault (recAt l i) = 0) (hs : sameB l (Int.ofNat i) = false) (ho : orderB l (Int.ofNat i) = false) (hu : ¬ upOf l i < 0) (hd : dirB l (Int.ofNat i) = false) : faultAt l i = 0 := by unfold faultAt; rw [if_neg h, if_neg (by simp [hr]), if_neg (by rw [hs]; exact Bool.false_ne_true), if_neg (by rw [ho]; exact Bool.false_ne_true), if_neg hu, if_neg (by rw [hd]; exact Bool.false_ne_true)]
theorem fa_fine {l : List Rec} {i : Nat} (h : faultAt l i = 0) : recFault (recAt l i) = 0 := by
  unfold faultAt at h
  split at h
  · cases h
  · split at h
    · exact h
    · rename_i h2
      simpa using h2
theorem rec_path {r : Rec} (h : recFault r = 0) : pathOK r.2.1 = true := by
  obtain ⟨k, p, b, m, o, ⟨⟩⟩ := r
  exact (rec_ok h).1
theorem order_eq {l : List Rec} {i : Nat} (h : OKto l i) (hr : recFault (recAt l i) = 0) : orderB l (Int.ofNat i) = unlessB l (Int.ofNat i) := by
  unfold orderB unlessB
  by_cases hp : Int.ofNat i > 0
  · have hp' : 0 < i := Int.ofNat_lt.1 hp
    have h1 : pathOK (recAt l (i - 1)).2.1 = true := rec_path (fa_fine (h.2 (i - 1) (by omega)))
    have h2 := rec_path hr
    unfold pathLess
    rw [show (Int.ofNat i).toNat = i from rfl, h1, h2]
    rfl
  · rw [decide_eq_false hp]; rfl
theorem ws1 {l : List Rec} {i : Nat} (hp : Int.ofNat i > 0) (hi : i < l.length) (hf : fits l.length) : wSub .i64 (Int.ofNat i) 1 = Int.ofNat (i - 1) := by
  have hf : l.length < 1099511627776 := hf
  have hp : 0 < i := Int.ofNat_lt.1 hp
  rw [wSub_in (by simp only [Int.ofNat_eq_natCast]; omega)]
  simp only [Int.ofNat_eq_natCast]
  omega
theorem same_at {l : List Rec} {i : Nat} {x y : Rec} (hp : Int.ofNat i > 0) (hx : l[i]? = some x) (hy : l[i - 1]? = some y) : (x.2.1 == y.2.1) = sameB l (Int.ofNat i) ∧ (y.2.1 == x.2.1) = sameB l (Int.ofNat i) := by
  unfold sameB
  rw [decide_eq_true hp, show (Int.ofNat i).toNat = i from rfl, recAt_at hx, recAt_at hy]
  by_cases e : y.2.1 = x.2.1
  · rw [decide_eq_true e, e]; simp
  · have e' : ¬ x.2.1 = y.2.1 := fun h => e h.symm
    rw [decide_eq_false e]
    simp [e, e']
theorem same_no {l : List Rec} {i : Nat} (hp : ¬ Int.ofNat i > 0) : false = sameB l (Int.ofNat i) := by unfold sameB; rw [decide_eq_false hp]; rfl
theorem unless_at {l : List Rec} {i : Nat} {x y : Rec} (hp : Int.ofNat i > 0) (hx : l[i]? = some x) (hy : l[i - 1]? = some y) : (!lessL (split 47 y.2.1) (split 47 x.2.1)) = unlessB l (Int.ofNat i) := by
  unfold unlessB
  rw [decide_eq_true hp, show (Int.ofNat i).toNat = i from rfl, recAt_at hx, recAt_at hy]; rfl
theorem unless_no {l : List Rec} {i : Nat} (hp : ¬ Int.ofNat i > 0) : false = unlessB l (Int.ofNat i) := by unfold unlessB; rw [decide_eq_false hp]; rfl
theorem order_at {l : List Rec} {i : Nat} {x y : Rec} (hp : Int.ofNat i > 0) (hx : l[i]? = some x) (hy : l[i - 1]? = some y) : (!pathLess y.2.1 x.2.1) = orderB l (Int.ofNat i) := by
  unfold orderB
  rw [decide_eq_true hp, show (Int.ofNat i).toNat = i from rfl, recAt_at hx, recAt_at hy]; rfl
theorem order_no {l : List Rec} {i : Nat} (hp : ¬ Int.ofNat i > 0) : false = orderB l (Int.ofNat i) := by unfold orderB; rw [decide_eq_false hp]; rfl
theorem up_none {l : List Rec} {i : Nat} {x : Rec} (hx : l[i]? = some x) (hp : parentS x.2.1 = []) : upOf l i = 0 := by unfold upOf; rw [recAt_at hx, if_pos hp]
theorem up_some {l : List Rec} {i : Nat} {x : Rec} (hx : l[i]? = some x) (hp : ¬ parentS x.2.1 = []) : idx (atPath (parentS x.2.1)) (subL l 0 (tN (Int.ofNat i))) = upOf l i := by
  unfold upOf; rw [recAt_at hx, if_neg hp]
  have : subL l 0 (tN (Int.ofNat i)) = l.take i := rfl
  rw [this]
theorem idx_lt {α : Type} (p : α → Bool) (l : List α) : idx p l < l.length ∧ -1 ≤ idx p l := by
  unfold idx
  cases h : l.findIdx? p with
  | none => simp; omega
  | some i =>
    have := (List.findIdx?_eq_some_iff_getElem.1 h).1
    simp only
    omega
theorem up_lt {l : List Rec} {i : Nat} (hi : i < l.length) : upOf l i < l.length := by
  unfold upOf
  split
  · omega
  · have := (idx_lt (atPath (parentS (recAt l i).2.1)) (l.take i)).1
    simp at this
    omega
theorem dir_none {l : List Rec} {i : Nat} {x : Rec} (hx : l[i]? = some x) (hp : parentS x.2.1 = []) : dirB l (Int.ofNat i) = false := by
  unfold dirB; rw [show (Int.ofNat i).toNat = i from rfl, recAt_at hx, decide_eq_true hp]; rfl
theorem dir_some {l : List Rec} {i : Nat} {x z : Rec} (hx : l[i]? = some x) (hp : ¬ parentS x.2.1 = []) (hu : ¬ upOf l i < 0) (hz : nthI l (upOf l i) = some z) : dirB l (Int.ofNat i) = !(decide (z.1 = 3)) := by
  have hz : l[(upOf l i).toNat]? = some z := hz
  unfold dirB; rw [show (Int.ofNat i).toNat = i from rfl, recAt_at hx, decide_eq_false hp, recAt_at hz]; rfl
theorem mm_toNat {u : Int} : (mm true u 0).toNat = u.toNat ∧ 0 ≤ mm true u 0 := by
  unfold mm
  simp only [if_true]
  split <;> omega
theorem ms1 {i : Nat} (hp : Int.ofNat i > 0) (hi : i < 1099511627776) : mm true (wSub .i64 (Int.ofNat i) 1) 0 = Int.ofNat (i - 1) := by
  have hp : 0 < i := Int.ofNat_lt.1 hp
  rw [wSub_in (by simp only [Int.ofNat_eq_natCast]; omega)]
  unfold mm
  simp only [if_true, Int.ofNat_eq_natCast]
  split <;> omega
theorem dir_any {l : List Rec} {i : Nat} {x : Rec} (hi : i < l.length) (hx : l[i]? = some x) (hp : ¬ parentS x.2.1 = []) : bnd (mm true (upOf l i) 0) l.length ∧ ∀ z, nthI l (mm true (upOf l i) 0) = some z → true = (!(parentS x.2.1 == [])) ∧ (z.1 != 3) = dirB l (Int.ofNat i) := by
  have hu := up_lt hi
  refine ⟨⟨mm_toNat.2, ?_⟩, fun z hz => ⟨?_, ?_⟩⟩
  · unfold mm
    simp only [if_true]
    split <;> omega
  · simpa using hp
  · unfold nthI at hz
    rw [mm_toNat.1] at hz
    unfold dirB
    rw [show (Int.ofNat i).toNat = i from rfl, recAt_at hx, decide_eq_false hp, recAt_at hz]
    by_cases h3 : z.1 = 3
    · rw [h3]; rfl
    · rw [decide_eq_false h3]; simpa using h3
theorem ge_16 {i : Nat} : decide (Int.ofNat i ≥ 16) = decide (16 ≤ i) := by
  by_cases h : 16 ≤ i
  · rw [decide_eq_true h, decide_eq_true (p := Int.ofNat i ≥ 16) (by simp only [Int.ofNat_eq_natCast]; omega)]
  · rw [decide_eq_false h, decide_eq_false (p := Int.ofNat i ≥ 16) (by simp only [Int.ofNat_eq_natCast]; omega)]
theorem fa_first {l : List Rec} {i : Nat} {x : Rec} (hx : l[i]? = some x) {o : Bool} {u : Int} (ho : o = orderB l (Int.ofNat i)) (hu : u = upOf l i) :
    first [.b (decide (Int.ofNat i ≥ 16)), .n 6, .b true, .n (first [.b (!decide (recFault x = 0)), .n (recFault x), .b (sameB l (Int.ofNat i)), .n 18, .b o, .n 11, .b (decide (u < 0)), .n 12, .b (dirB l (Int.ofNat i)), .n 13])] = faultI l (Int.ofNat i) := by
  have e : faultI l (Int.ofNat i) = faultAt l i := rfl
  rw [e, ge_16, ho, hu, ← recAt_at hx]
  unfold faultAt
  by_cases h16 : 16 ≤ i
  · rw [decide_eq_true h16, if_pos h16]; rfl
  rw [decide_eq_false h16, if_neg h16]
  by_cases hr : recFault (recAt l i) = 0
  · rw [decide_eq_true hr, if_neg (not_not_intro hr)]
    cases sameB l (Int.ofNat i) with
    | true => rfl
    | false =>
      rw [if_neg Bool.false_ne_true]
      cases orderB l (Int.ofNat i) with
      | true => rfl
      | false =>
        rw [if_neg Bool.false_ne_true]
        by_cases h5 : upOf l i < 0
        · rw [decide_eq_true h5, if_pos h5]; rfl
        · rw [decide_eq_false h5, if_neg h5]
          cases dirB l (Int.ofNat i) <;> rfl
  · rw [decide_eq_false hr, if_pos hr]; rfl
end Go.Fn
namespace Go.Proofs.YtnoeclpdijlheaaDoor
open Go.Ab Go.Fn
def s_faultAt : FSpec := { ps := [.v (.slice tRec), .v I], rs := [.v I], pre := fun x => okL x.1 ∧ ∃ k : Nat, x.2.1 = Int.ofNat k ∧ k < List.length (α := Rec) x.1 ∧ k < 1099511627776, fn := fun x => (Fn.faultI x.1 x.2.1, ()), upd := fun _ => () }
theorem fo_faultAt : FO 71 s_faultAt := by
  refine fo (specs := [(89, s_parent), (90, s_find), (40, s_recOK), (47, s_fault), (91, s_PathLess), (45, s_first)]) (clos := []) (fun x => [(2000005, .ofSegs fun _ => [(15, ([16,17,18,19,20,21,22,23,24,25], fun _ => [(47, .d .bool (Fn.sameB x.1 x.2.1))])), (54, ([55,56,57,58,59,60,61], fun _ => [(83, .d .bool (Fn.dirB x.1 x.2.1))]))])]) ⟨fo_parent, fo_find, fo_RecordOK, fo_RecordFault, fo_PathLess, fo_first, trivial⟩ trivial Tryd.func71 rfl rfl ?_
  rintro ⟨l, i, ⟨⟩⟩ ⟨hl, i, rfl, hi, hb⟩
  refine vcOf (bnd (Int.ofNat i) (lenL l) ∧ ∀ (x : Int × List UInt8 × List UInt8 × Int × Bool × Unit), nthI l (Int.ofNat i) = some x → nat_lit 5 ≤ (Nat.succ (nat_lit 1)).succ.succ.succ ∧ nat_lit 5 ≤ nat_lit 5 ∧ nat_lit 2 ≤ (Nat.succ (nat_lit 1)).succ.succ.succ ∧ true = true ∧ x.snd.fst.length ≤ (100000000 : Nat) ∧ ((!parentS x.snd.fst == ([] : List UInt8)) = true → boundLo (Int.ofNat i) (lenL l) ∧ true = true ∧ True ∧ nat_lit 5 ≤ (Nat.succ (nat_lit 1)).succ.succ.succ ∧ nat_lit 5 ≤ (Nat.succ (nat_lit 1)).succ.succ.succ ∧ nat_lit 2 ≤ (Nat.succ (nat_lit 1)).succ.succ.succ ∧ true = true ∧ x.snd.fst.length ≤ (100000000 : Nat) ∧ true = true ∧ x.snd.fst.length ≤ (100000000 : Nat) ∧ ((decide (Int.ofNat i > (0 : Int)) = true → IntKind.i64 = IntKind.i64 ∧ bnd (mm true (wSub IntKind.i64 (Int.ofNat i) (1 : Int)) (0 : Int)) (lenL l) ∧ ∀ (x_1 : Int × List UInt8 × List UInt8 × Int × Bool × Unit), nthI l (mm true (wSub IntKind.i64 (Int.ofNat i) (1 : Int)) (0 : Int)) = some x_1 → nat_lit 1 ≤ (Nat.succ (nat_lit 1)).succ.succ ∧ nat_lit 2 ≤ (Nat.succ (nat_lit 1)).succ.succ.succ ∧ (l = l ∧ Int.ofNat i = Int.ofNat i ∧ (0 : Int) = (0 : Int) ∧ (nat_lit 0 = nat_lit 0 ∧ (0 : Nat) = (0 : Nat)) ∧ idx (atPath (parentS x.snd.fst)) (subL l (0 : Nat) (tN (Int.ofNat i))) = idx (atPath (parentS x.snd.fst)) (subL l (0 : Nat) (tN (Int.ofNat i))) ∧ parentS x.snd.fst = parentS x.snd.fst ∧ l = l ∧ Int.ofNat i = Int.ofNat i ∧ (x.fst = x.fst ∧ x.snd.fst = x.snd.fst ∧ x.snd.snd.fst = x.snd.snd.fst ∧ x.snd.snd.snd.fst = x.snd.snd.snd.fst ∧ x.snd.snd.snd.snd.fst = x.snd.snd.snd.snd.fst ∧ True) ∧ (x.fst = x.fst ∧ x.snd.fst = x.snd.fst ∧ x.snd.snd.fst = x.snd.snd.fst ∧ x.snd.snd.snd.fst = x.snd.snd.snd.fst ∧ x.snd.snd.snd.snd.fst = x.snd.snd.snd.snd.fst ∧ True) ∧ (nat_lit 0 = nat_lit 0 ∧ nat_lit 1 = nat_lit 1) ∧ x.snd.fst = x.snd.fst ∧ parentS x.snd.fst = parentS x.snd.fst ∧ parentS x.snd.fst = parentS x.snd.fst ∧ (!parentS x.snd.fst == ([] : List UInt8)) = !parentS x.snd.fst == ([] : List UInt8) ∧ l = l ∧ Int.ofNat i = Int.ofNat i ∧ subL l (0 : Nat) (tN (Int.ofNat i)) = subL l (0 : Nat) (tN (Int.ofNat i)) ∧ parentS x.snd.fst = parentS x.snd.fst ∧ idx (atPath (parentS x.snd.fst)) (subL l (0 : Nat) (tN (Int.ofNat i))) = idx (atPath (parentS x.snd.fst)) (subL l (0 : Nat) (tN (Int.ofNat i))) ∧ Int.ofNat i = Int.ofNat i ∧ decide (Int.ofNat i ≥ (16 : Int)) = decide (Int.ofNat i ≥ (16 : Int)) ∧ ((4 : Nat) = (4 : Nat) ∧ decide (Int.ofNat i ≥ (16 : Int)) = decide (Int.ofNat i ≥ (16 : Int))) ∧ ((3 : Nat) = (3 : Nat) ∧ (6 : Int) = (6 : Int)) ∧ ((4 : Nat) = (4 : Nat) ∧ true = true) ∧ (x.fst = x.fst ∧ x.snd.fst = x.snd.fst ∧ x.snd.snd.fst = x.snd.snd.fst ∧ x.snd.snd.snd.fst = x.snd.snd.snd.fst ∧ x.snd.snd.snd.snd.fst = x.snd.snd.snd.snd.fst ∧ True) ∧ decide (recFault (x.fst, x.snd.fst, x.snd.snd.fst, x.snd.snd.snd.fst, x.snd.snd.snd.snd.fst, ()) = (0 : Int)) = decide (recFault (x.fst, x.snd.fst, x.snd.snd.fst, x.snd.snd.snd.fst, x.snd.snd.snd.snd.fst, ()) = (0 : Int)) ∧ (!decide (recFault (x.fst, x.snd.fst, x.snd.snd.fst, x.snd.snd.snd.fst, x.snd.snd.snd.snd.fst, ()) = (0 : Int))) = !decide (recFault (x.fst, x.snd.fst, x.snd.snd.fst, x.snd.snd.snd.fst, x.snd.snd.snd.snd.fst, ()) = (0 : Int)) ∧ ((4 : Nat) = (4 : Nat) ∧ (!decide (recFault (x.fst, x.snd.fst, x.snd.snd.fst, x.snd.snd.snd.fst, x.snd.snd.snd.snd.fst, ()) = (0 : Int))) = !decide (recFault (x.fst, x.snd.fst, x.snd.snd.fst, x.snd.snd.snd.fst, x.snd.snd.snd.snd.fst, ()) = (0 : Int))) ∧ (x.fst = x.fst ∧ x.snd.fst = x.snd.fst ∧ x.snd.snd.fst = x.snd.snd.fst ∧ x.snd.snd.snd.fst = x.snd.snd.snd.fst ∧ x.snd.snd.snd.snd.fst = x.snd.snd.snd.snd.fst ∧ True) ∧ recFault (x.fst, x.snd.fst, x.snd.snd.fst, x.snd.snd.snd.fst, x.snd.snd.snd.snd.fst, ()) = recFault (x.fst, x.snd.fst, x.snd.snd.fst, x.snd.snd.snd.fst, x.snd.snd.snd.snd.fst, ()) ∧ ((3 : Nat) = (3 : Nat) ∧ recFault (x.fst, x.snd.fst, x.snd.snd.fst, x.snd.snd.snd.fst, x.snd.snd.snd.snd.fst, ()) = recFault (x.fst, x.snd.fst, x.snd.snd.fst, x.snd.snd.snd.fst, x.snd.snd.snd.snd.fst, ())) ∧ Int.ofNat i = Int.ofNat i ∧ decide (Int.ofNat i > (0 : Int)) = decide (Int.ofNat i > (0 : Int)) ∧ true = decide (Int.ofNat i > (0 : Int)) ∧ (x_1.snd.fst == x.snd.fst) = sameB l (Int.ofNat i) ∧ ((3 : Nat) = (3 : Nat) ∧ (18 : Int) = (18 : Int)) ∧ Int.ofNat i = Int.ofNat i ∧ decide (Int.ofNat i > (0 : Int)) = decide (Int.ofNat i > (0 : Int)) ∧ ((3 : Nat) = (3 : Nat) ∧ (11 : Int) = (11 : Int)) ∧ idx (atPath (parentS x.snd.fst)) (subL l (0 : Nat) (tN (Int.ofNat i))) = idx (atPath (parentS x.snd.fst)) (subL l (0 : Nat) (tN (Int.ofNat i))) ∧ decide (idx (atPath (parentS x.snd.fst)) (subL l (0 : Nat) (tN (Int.ofNat i))) < (0 : Int)) = decide (idx (atPath (parentS x.snd.fst)) (subL l (0 : Nat) (tN (Int.ofNat i))) < (0 : Int)) ∧ ((4 : Nat) = (4 : Nat) ∧ decide (idx (atPath (parentS x.snd.fst)) (subL l (0 : Nat) (tN (Int.ofNat i))) < (0 : Int)) = decide (idx (atPath (parentS x.snd.fst)) (subL l (0 : Nat) (tN (Int.ofNat i))) < (0 : Int))) ∧ ((3 : Nat) = (3 : Nat) ∧ (12 : Int) = (12 : Int)) ∧ (nat_lit 0 = nat_lit 0 ∧ nat_lit 1 = nat_lit 1) ∧ x.snd.fst = x.snd.fst ∧ ((3 : Nat) = (3 : Nat) ∧ (13 : Int) = (13 : Int)) ∧ True) ∧ ((x.fst = x.fst ∧ x.snd.fst = x.snd.fst ∧ x.snd.snd.fst = x.snd.snd.fst ∧ x.snd.snd.snd.fst = x.snd.snd.snd.fst ∧ x.snd.snd.snd.snd.fst = x.snd.snd.snd.snd.fst ∧ True) ∧ True) ∧ True) ∧ (decide (Int.ofNat i > (0 : Int)) = false → (l = l ∧ Int.ofNat i = Int.ofNat i ∧ (0 : Int) = (0 : Int) ∧ (nat_lit 0 = nat_lit 0 ∧ (0 : Nat) = (0 : Nat)) ∧ idx (atPath (parentS x.snd.fst)) (subL l (0 : Nat) (tN (Int.ofNat i))) = idx (atPath (parentS x.snd.fst)) (subL l (0 : Nat) (tN (Int.ofNat i))) ∧ parentS x.snd.fst = parentS x.snd.fst ∧ l = l ∧ Int.ofNat i = Int.ofNat i ∧ (x.fst = x.fst ∧ x.snd.fst = x.snd.fst ∧ x.snd.snd.fst = x.snd.snd.fst ∧ x.snd.snd.snd.fst = x.snd.snd.snd.fst ∧ x.snd.snd.snd.snd.fst = x.snd.snd.snd.snd.fst ∧ True) ∧ (x.fst = x.fst ∧ x.snd.fst = x.snd.fst ∧ x.snd.snd.fst = x.snd.snd.fst ∧ x.snd.snd.snd.fst = x.snd.snd.snd.fst ∧ x.snd.snd.snd.snd.fst = x.snd.snd.snd.snd.fst ∧ True) ∧ (nat_lit 0 = nat_lit 0 ∧ nat_lit 1 = nat_lit 1) ∧ x.snd.fst = x.snd.fst ∧ parentS x.snd.fst = parentS x.snd.fst ∧ parentS x.snd.fst = parentS x.snd.fst ∧ (!parentS x.snd.fst == ([] : List UInt8)) = !parentS x.snd.fst == ([] : List UInt8) ∧ l = l ∧ Int.ofNat i = Int.ofNat i ∧ subL l (0 : Nat) (tN (Int.ofNat i)) = subL l (0 : Nat) (tN (Int.ofNat i)) ∧ parentS x.snd.fst = parentS x.snd.fst ∧ idx (atPath (parentS x.snd.fst)) (subL l (0 : Nat) (tN (Int.ofNat i))) = idx (atPath (parentS x.snd.fst)) (subL l (0 : Nat) (tN (Int.ofNat i))) ∧ Int.ofNat i = Int.ofNat i ∧ decide (Int.ofNat i ≥ (16 : Int)) = decide (Int.ofNat i ≥ (16 : Int)) ∧ ((4 : Nat) = (4 : Nat) ∧ decide (Int.ofNat i ≥ (16 : Int)) = decide (Int.ofNat i ≥ (16 : Int))) ∧ ((3 : Nat) = (3 : Nat) ∧ (6 : Int) = (6 : Int)) ∧ ((4 : Nat) = (4 : Nat) ∧ true = true) ∧ (x.fst = x.fst ∧ x.snd.fst = x.snd.fst ∧ x.snd.snd.fst = x.snd.snd.fst ∧ x.snd.snd.snd.fst = x.snd.snd.snd.fst ∧ x.snd.snd.snd.snd.fst = x.snd.snd.snd.snd.fst ∧ True) ∧ decide (recFault (x.fst, x.snd.fst, x.snd.snd.fst, x.snd.snd.snd.fst, x.snd.snd.snd.snd.fst, ()) = (0 : Int)) = decide (recFault (x.fst, x.snd.fst, x.snd.snd.fst, x.snd.snd.snd.fst, x.snd.snd.snd.snd.fst, ()) = (0 : Int)) ∧ (!decide (recFault (x.fst, x.snd.fst, x.snd.snd.fst, x.snd.snd.snd.fst, x.snd.snd.snd.snd.fst, ()) = (0 : Int))) = !decide (recFault (x.fst, x.snd.fst, x.snd.snd.fst, x.snd.snd.snd.fst, x.snd.snd.snd.snd.fst, ()) = (0 : Int)) ∧ ((4 : Nat) = (4 : Nat) ∧ (!decide (recFault (x.fst, x.snd.fst, x.snd.snd.fst, x.snd.snd.snd.fst, x.snd.snd.snd.snd.fst, ()) = (0 : Int))) = !decide (recFault (x.fst, x.snd.fst, x.snd.snd.fst, x.snd.snd.snd.fst, x.snd.snd.snd.snd.fst, ()) = (0 : Int))) ∧ (x.fst = x.fst ∧ x.snd.fst = x.snd.fst ∧ x.snd.snd.fst = x.snd.snd.fst ∧ x.snd.snd.snd.fst = x.snd.snd.snd.fst ∧ x.snd.snd.snd.snd.fst = x.snd.snd.snd.snd.fst ∧ True) ∧ recFault (x.fst, x.snd.fst, x.snd.snd.fst, x.snd.snd.snd.fst, x.snd.snd.snd.snd.fst, ()) = recFault (x.fst, x.snd.fst, x.snd.snd.fst, x.snd.snd.snd.fst, x.snd.snd.snd.snd.fst, ()) ∧ ((3 : Nat) = (3 : Nat) ∧ recFault (x.fst, x.snd.fst, x.snd.snd.fst, x.snd.snd.snd.fst, x.snd.snd.snd.snd.fst, ()) = recFault (x.fst, x.snd.fst, x.snd.snd.fst, x.snd.snd.snd.fst, x.snd.snd.snd.snd.fst, ())) ∧ Int.ofNat i = Int.ofNat i ∧ decide (Int.ofNat i > (0 : Int)) = decide (Int.ofNat i > (0 : Int)) ∧ false = decide (Int.ofNat i > (0 : Int)) ∧ false = sameB l (Int.ofNat i) ∧ ((3 : Nat) = (3 : Nat) ∧ (18 : Int) = (18 : Int)) ∧ Int.ofNat i = Int.ofNat i ∧ decide (Int.ofNat i > (0 : Int)) = decide (Int.ofNat i > (0 : Int)) ∧ ((3 : Nat) = (3 : Nat) ∧ (11 : Int) = (11 : Int)) ∧ idx (atPath (parentS x.snd.fst)) (subL l (0 : Nat) (tN (Int.ofNat i))) = idx (atPath (parentS x.snd.fst)) (subL l (0 : Nat) (tN (Int.ofNat i))) ∧ decide (idx (atPath (parentS x.snd.fst)) (subL l (0 : Nat) (tN (Int.ofNat i))) < (0 : Int)) = decide (idx (atPath (parentS x.snd.fst)) (subL l (0 : Nat) (tN (Int.ofNat i))) < (0 : Int)) ∧ ((4 : Nat) = (4 : Nat) ∧ decide (idx (atPath (parentS x.snd.fst)) (subL l (0 : Nat) (tN (Int.ofNat i))) < (0 : Int)) = decide (idx (atPath (parentS x.snd.fst)) (subL l (0 : Nat) (tN (Int.ofNat i))) < (0 : Int))) ∧ ((3 : Nat) = (3 : Nat) ∧ (12 : Int) = (12 : Int)) ∧ (nat_lit 0 = nat_lit 0 ∧ nat_lit 1 = nat_lit 1) ∧ x.snd.fst = x.snd.fst ∧ ((3 : Nat) = (3 : Nat) ∧ (13 : Int) = (13 : Int)) ∧ True) ∧ ((x.fst = x.fst ∧ x.snd.fst = x.snd.fst ∧ x.snd.snd.fst = x.snd.snd.fst ∧ x.snd.snd.snd.fst = x.snd.snd.snd.fst ∧ x.snd.snd.snd.snd.fst = x.snd.snd.snd.snd.fst ∧ True) ∧ True) ∧ True)) ∧ (decide (Int.ofNat i > (0 : Int)) = true → IntKind.i64 = IntKind.i64 ∧ bnd (mm true (wSub IntKind.i64 (Int.ofNat i) (1 : Int)) (0 : Int)) (lenL l) ∧ ∀ (x_1 : Int × List UInt8 × List UInt8 × Int × Bool × Unit), nthI l (mm true (wSub IntKind.i64 (Int.ofNat i) (1 : Int)) (0 : Int)) = some x_1 → nat_lit 1 ≤ (Nat.succ (nat_lit 1)).succ.succ ∧ nat_lit 2 ≤ (Nat.succ (nat_lit 1)).succ.succ.succ ∧ true = true ∧ (x_1.snd.fst.length ≤ (100000000 : Nat) ∧ x.snd.fst.length ≤ (100000000 : Nat)) ∧ true = true ∧ x.snd.fst.length ≤ (100000000 : Nat) ∧ (((!parentS x.snd.fst == ([] : List UInt8)) = true → IntKind.i64 = IntKind.i64 ∧ bnd (mm true (idx (atPath (parentS x.snd.fst)) (subL l (0 : Nat) (tN (Int.ofNat i)))) (0 : Int)) (lenL l) ∧ ∀ (x_2 : Int × List UInt8 × List UInt8 × Int × Bool × Unit), nthI l (mm true (idx (atPath (parentS x.snd.fst)) (subL l (0 : Nat) (tN (Int.ofNat i)))) (0 : Int)) = some x_2 → nat_lit 1 ≤ (Nat.succ (nat_lit 1)).succ.succ.succ ∧ (l = l ∧ Int.ofNat i = Int.ofNat i ∧ (0 : Int) = (0 : Int) ∧ (nat_lit 0 = nat_lit 0 ∧ (0 : Nat) = (0 : Nat)) ∧ idx (atPath (parentS x.snd.fst)) (subL l (0 : Nat) (tN (Int.ofNat i))) = idx (atPath (parentS x.snd.fst)) (subL l (0 : Nat) (tN (Int.ofNat i))) ∧ parentS x.snd.fst = parentS x.snd.fst ∧ l = l ∧ Int.ofNat i = Int.ofNat i ∧ (x.fst = x.fst ∧ x.snd.fst = x.snd.fst ∧ x.snd.snd.fst = x.snd.snd.fst ∧ x.snd.snd.snd.fst = x.snd.snd.snd.fst ∧ x.snd.snd.snd.snd.fst = x.snd.snd.snd.snd.fst ∧ True) ∧ (x.fst = x.fst ∧ x.snd.fst = x.snd.fst ∧ x.snd.snd.fst = x.snd.snd.fst ∧ x.snd.snd.snd.fst = x.snd.snd.snd.fst ∧ x.snd.snd.snd.snd.fst = x.snd.snd.snd.snd.fst ∧ True) ∧ (nat_lit 0 = nat_lit 0 ∧ nat_lit 1 = nat_lit 1) ∧ x.snd.fst = x.snd.fst ∧ parentS x.snd.fst = parentS x.snd.fst ∧ parentS x.snd.fst = parentS x.snd.fst ∧ (!parentS x.snd.fst == ([] : List UInt8)) = !parentS x.snd.fst == ([] : List UInt8) ∧ l = l ∧ Int.ofNat i = Int.ofNat i ∧ subL l (0 : Nat) (tN (Int.ofNat i)) = subL l (0 : Nat) (tN (Int.ofNat i)) ∧ parentS x.snd.fst = parentS x.snd.fst ∧ idx (atPath (parentS x.snd.fst)) (subL l (0 : Nat) (tN (Int.ofNat i))) = idx (atPath (parentS x.snd.fst)) (subL l (0 : Nat) (tN (Int.ofNat i))) ∧ Int.ofNat i = Int.ofNat i ∧ decide (Int.ofNat i ≥ (16 : Int)) = decide (Int.ofNat i ≥ (16 : Int)) ∧ ((4 : Nat) = (4 : Nat) ∧ decide (Int.ofNat i ≥ (16 : Int)) = decide (Int.ofNat i ≥ (16 : Int))) ∧ ((3 : Nat) = (3 : Nat) ∧ (6 : Int) = (6 : Int)) ∧ ((4 : Nat) = (4 : Nat) ∧ true = true) ∧ (x.fst = x.fst ∧ x.snd.fst = x.snd.fst ∧ x.snd.snd.fst = x.snd.snd.fst ∧ x.snd.snd.snd.fst = x.snd.snd.snd.fst ∧ x.snd.snd.snd.snd.fst = x.snd.snd.snd.snd.fst ∧ True) ∧ decide (recFault (x.fst, x.snd.fst, x.snd.snd.fst, x.snd.snd.snd.fst, x.snd.snd.snd.snd.fst, ()) = (0 : Int)) = decide (recFault (x.fst, x.snd.fst, x.snd.snd.fst, x.snd.snd.snd.fst, x.snd.snd.snd.snd.fst, ()) = (0 : Int)) ∧ (!decide (recFault (x.fst, x.snd.fst, x.snd.snd.fst, x.snd.snd.snd.fst, x.snd.snd.snd.snd.fst, ()) = (0 : Int))) = !decide (recFault (x.fst, x.snd.fst, x.snd.snd.fst, x.snd.snd.snd.fst, x.snd.snd.snd.snd.fst, ()) = (0 : Int)) ∧ ((4 : Nat) = (4 : Nat) ∧ (!decide (recFault (x.fst, x.snd.fst, x.snd.snd.fst, x.snd.snd.snd.fst, x.snd.snd.snd.snd.fst, ()) = (0 : Int))) = !decide (recFault (x.fst, x.snd.fst, x.snd.snd.fst, x.snd.snd.snd.fst, x.snd.snd.snd.snd.fst, ()) = (0 : Int))) ∧ (x.fst = x.fst ∧ x.snd.fst = x.snd.fst ∧ x.snd.snd.fst = x.snd.snd.fst ∧ x.snd.snd.snd.fst = x.snd.snd.snd.fst ∧ x.snd.snd.snd.snd.fst = x.snd.snd.snd.snd.fst ∧ True) ∧ recFault (x.fst, x.snd.fst, x.snd.snd.fst, x.snd.snd.snd.fst, x.snd.snd.snd.snd.fst, ()) = recFault (x.fst, x.snd.fst, x.snd.snd.fst, x.snd.snd.snd.fst, x.snd.snd.snd.snd.fst, ()) ∧ ((3 : Nat) = (3 : Nat) ∧ recFault (x.fst, x.snd.fst, x.snd.snd.fst, x.snd.snd.snd.fst, x.snd.snd.snd.snd.fst, ()) = recFault (x.fst, x.snd.fst, x.snd.snd.fst, x.snd.snd.snd.fst, x.snd.snd.snd.snd.fst, ())) ∧ Int.ofNat i = Int.ofNat i ∧ decide (Int.ofNat i > (0 : Int)) = decide (Int.ofNat i > (0 : Int)) ∧ decide (Int.ofNat i > (0 : Int)) = decide (Int.ofNat i > (0 : Int)) ∧ sameB l (Int.ofNat i) = sameB l (Int.ofNat i) ∧ ((4 : Nat) = (4 : Nat) ∧ sameB l (Int.ofNat i) = sameB l (Int.ofNat i)) ∧ ((3 : Nat) = (3 : Nat) ∧ (18 : Int) = (18 : Int)) ∧ Int.ofNat i = Int.ofNat i ∧ decide (Int.ofNat i > (0 : Int)) = decide (Int.ofNat i > (0 : Int)) ∧ true = true ∧ l = l ∧ Int.ofNat i = Int.ofNat i ∧ wSub IntKind.i64 (Int.ofNat i) (1 : Int) = wSub IntKind.i64 (Int.ofNat i) (1 : Int) ∧ mm true (wSub IntKind.i64 (Int.ofNat i) (1 : Int)) (0 : Int) = mm true (wSub IntKind.i64 (Int.ofNat i) (1 : Int)) (0 : Int) ∧ (x_1.fst = x_1.fst ∧ x_1.snd.fst = x_1.snd.fst ∧ x_1.snd.snd.fst = x_1.snd.snd.fst ∧ x_1.snd.snd.snd.fst = x_1.snd.snd.snd.fst ∧ x_1.snd.snd.snd.snd.fst = x_1.snd.snd.snd.snd.fst ∧ True) ∧ (x_1.snd.fst = x_1.snd.fst ∧ x_1.snd.snd.fst = x_1.snd.snd.fst ∧ x_1.snd.snd.snd.fst = x_1.snd.snd.snd.fst ∧ x_1.snd.snd.snd.snd.fst = x_1.snd.snd.snd.snd.fst ∧ True) ∧ x_1.snd.fst = x_1.snd.fst ∧ (nat_lit 0 = nat_lit 0 ∧ nat_lit 1 = nat_lit 1) ∧ x.snd.fst = x.snd.fst ∧ pathLess x_1.snd.fst x.snd.fst = pathLess x_1.snd.fst x.snd.fst ∧ (!pathLess x_1.snd.fst x.snd.fst) = !pathLess x_1.snd.fst x.snd.fst ∧ (!pathLess x_1.snd.fst x.snd.fst) = !pathLess x_1.snd.fst x.snd.fst ∧ ((4 : Nat) = (4 : Nat) ∧ (!pathLess x_1.snd.fst x.snd.fst) = !pathLess x_1.snd.fst x.snd.fst) ∧ ((3 : Nat) = (3 : Nat) ∧ (11 : Int) = (11 : Int)) ∧ idx (atPath (parentS x.snd.fst)) (subL l (0 : Nat) (tN (Int.ofNat i))) = idx (atPath (parentS x.snd.fst)) (subL l (0 : Nat) (tN (Int.ofNat i))) ∧ decide (idx (atPath (parentS x.snd.fst)) (subL l (0 : Nat) (tN (Int.ofNat i))) < (0 : Int)) = decide (idx (atPath (parentS x.snd.fst)) (subL l (0 : Nat) (tN (Int.ofNat i))) < (0 : Int)) ∧ ((4 : Nat) = (4 : Nat) ∧ decide (idx (atPath (parentS x.snd.fst)) (subL l (0 : Nat) (tN (Int.ofNat i))) < (0 : Int)) = decide (idx (atPath (parentS x.snd.fst)) (subL l (0 : Nat) (tN (Int.ofNat i))) < (0 : Int))) ∧ ((3 : Nat) = (3 : Nat) ∧ (12 : Int) = (12 : Int)) ∧ (nat_lit 0 = nat_lit 0 ∧ nat_lit 1 = nat_lit 1) ∧ x.snd.fst = x.snd.fst ∧ parentS x.snd.fst = parentS x.snd.fst ∧ (!parentS x.snd.fst == ([] : List UInt8)) = !parentS x.snd.fst == ([] : List UInt8) ∧ true = !parentS x.snd.fst == ([] : List UInt8) ∧ (x_2.fst != (3 : Int)) = dirB l (Int.ofNat i) ∧ ((3 : Nat) = (3 : Nat) ∧ (13 : Int) = (13 : Int)) ∧ True) ∧ ((x.fst = x.fst ∧ x.snd.fst = x.snd.fst ∧ x.snd.snd.fst = x.snd.snd.fst ∧ x.snd.snd.snd.fst = x.snd.snd.snd.fst ∧ x.snd.snd.snd.snd.fst = x.snd.snd.snd.snd.fst ∧ True) ∧ True) ∧ True) ∧ ((!parentS x.snd.fst == ([] : List UInt8)) = false → (l = l ∧ Int.ofNat i = Int.ofNat i ∧ (0 : Int) = (0 : Int) ∧ (nat_lit 0 = nat_lit 0 ∧ (0 : Nat) = (0 : Nat)) ∧ idx (atPath (parentS x.snd.fst)) (subL l (0 : Nat) (tN (Int.ofNat i))) = idx (atPath (parentS x.snd.fst)) (subL l (0 : Nat) (tN (Int.ofNat i))) ∧ parentS x.snd.fst = parentS x.snd.fst ∧ l = l ∧ Int.ofNat i = Int.ofNat i ∧ (x.fst = x.fst ∧ x.snd.fst = x.snd.fst ∧ x.snd.snd.fst = x.snd.snd.fst ∧ x.snd.snd.snd.fst = x.snd.snd.snd.fst ∧ x.snd.snd.snd.snd.fst = x.snd.snd.snd.snd.fst ∧ True) ∧ (x.fst = x.fst ∧ x.snd.fst = x.snd.fst ∧ x.snd.snd.fst = x.snd.snd.fst ∧ x.snd.snd.snd.fst = x.snd.snd.snd.fst ∧ x.snd.snd.snd.snd.fst = x.snd.snd.snd.snd.fst ∧ True) ∧ (nat_lit 0 = nat_lit 0 ∧ nat_lit 1 = nat_lit 1) ∧ x.snd.fst = x.snd.fst ∧ parentS x.snd.fst = parentS x.snd.fst ∧ parentS x.snd.fst = parentS x.snd.fst ∧ (!parentS x.snd.fst == ([] : List UInt8)) = !parentS x.snd.fst == ([] : List UInt8) ∧ l = l ∧ Int.ofNat i = Int.ofNat i ∧ subL l (0 : Nat) (tN (Int.ofNat i)) = subL l (0 : Nat) (tN (Int.ofNat i)) ∧ parentS x.snd.fst = parentS x.snd.fst ∧ idx (atPath (parentS x.snd.fst)) (subL l (0 : Nat) (tN (Int.ofNat i))) = idx (atPath (parentS x.snd.fst)) (subL l (0 : Nat) (tN (Int.ofNat i))) ∧ Int.ofNat i = Int.ofNat i ∧ decide (Int.ofNat i ≥ (16 : Int)) = decide (Int.ofNat i ≥ (16 : Int)) ∧ ((4 : Nat) = (4 : Nat) ∧ decide (Int.ofNat i ≥ (16 : Int)) = decide (Int.ofNat i ≥ (16 : Int))) ∧ ((3 : Nat) = (3 : Nat) ∧ (6 : Int) = (6 : Int)) ∧ ((4 : Nat) = (4 : Nat) ∧ true = true) ∧ (x.fst = x.fst ∧ x.snd.fst = x.snd.fst ∧ x.snd.snd.fst = x.snd.snd.fst ∧ x.snd.snd.snd.fst = x.snd.snd.snd.fst ∧ x.snd.snd.snd.snd.fst = x.snd.snd.snd.snd.fst ∧ True) ∧ decide (recFault (x.fst, x.snd.fst, x.snd.snd.fst, x.snd.snd.snd.fst, x.snd.snd.snd.snd.fst, ()) = (0 : Int)) = decide (recFault (x.fst, x.snd.fst, x.snd.snd.fst, x.snd.snd.snd.fst, x.snd.snd.snd.snd.fst, ()) = (0 : Int)) ∧ (!decide (recFault (x.fst, x.snd.fst, x.snd.snd.fst, x.snd.snd.snd.fst, x.snd.snd.snd.snd.fst, ()) = (0 : Int))) = !decide (recFault (x.fst, x.snd.fst, x.snd.snd.fst, x.snd.snd.snd.fst, x.snd.snd.snd.snd.fst, ()) = (0 : Int)) ∧ ((4 : Nat) = (4 : Nat) ∧ (!decide (recFault (x.fst, x.snd.fst, x.snd.snd.fst, x.snd.snd.snd.fst, x.snd.snd.snd.snd.fst, ()) = (0 : Int))) = !decide (recFault (x.fst, x.snd.fst, x.snd.snd.fst, x.snd.snd.snd.fst, x.snd.snd.snd.snd.fst, ()) = (0 : Int))) ∧ (x.fst = x.fst ∧ x.snd.fst = x.snd.fst ∧ x.snd.snd.fst = x.snd.snd.fst ∧ x.snd.snd.snd.fst = x.snd.snd.snd.fst ∧ x.snd.snd.snd.snd.fst = x.snd.snd.snd.snd.fst ∧ True) ∧ recFault (x.fst, x.snd.fst, x.snd.snd.fst, x.snd.snd.snd.fst, x.snd.snd.snd.snd.fst, ()) = recFault (x.fst, x.snd.fst, x.snd.snd.fst, x.snd.snd.snd.fst, x.snd.snd.snd.snd.fst, ()) ∧ ((3 : Nat) = (3 : Nat) ∧ recFault (x.fst, x.snd.fst, x.snd.snd.fst, x.snd.snd.snd.fst, x.snd.snd.snd.snd.fst, ()) = recFault (x.fst, x.snd.fst, x.snd.snd.fst, x.snd.snd.snd.fst, x.snd.snd.snd.snd.fst, ())) ∧ Int.ofNat i = Int.ofNat i ∧ decide (Int.ofNat i > (0 : Int)) = decide (Int.ofNat i > (0 : Int)) ∧ decide (Int.ofNat i > (0 : Int)) = decide (Int.ofNat i > (0 : Int)) ∧ sameB l (Int.ofNat i) = sameB l (Int.ofNat i) ∧ ((4 : Nat) = (4 : Nat) ∧ sameB l (Int.ofNat i) = sameB l (Int.ofNat i)) ∧ ((3 : Nat) = (3 : Nat) ∧ (18 : Int) = (18 : Int)) ∧ Int.ofNat i = Int.ofNat i ∧ decide (Int.ofNat i > (0 : Int)) = decide (Int.ofNat i > (0 : Int)) ∧ true = true ∧ l = l ∧ Int.ofNat i = Int.ofNat i ∧ wSub IntKind.i64 (Int.ofNat i) (1 : Int) = wSub IntKind.i64 (Int.ofNat i) (1 : Int) ∧ mm true (wSub IntKind.i64 (Int.ofNat i) (1 : Int)) (0 : Int) = mm true (wSub IntKind.i64 (Int.ofNat i) (1 : Int)) (0 : Int) ∧ (x_1.fst = x_1.fst ∧ x_1.snd.fst = x_1.snd.fst ∧ x_1.snd.snd.fst = x_1.snd.snd.fst ∧ x_1.snd.snd.snd.fst = x_1.snd.snd.snd.fst ∧ x_1.snd.snd.snd.snd.fst = x_1.snd.snd.snd.snd.fst ∧ True) ∧ (x_1.snd.fst = x_1.snd.fst ∧ x_1.snd.snd.fst = x_1.snd.snd.fst ∧ x_1.snd.snd.snd.fst = x_1.snd.snd.snd.fst ∧ x_1.snd.snd.snd.snd.fst = x_1.snd.snd.snd.snd.fst ∧ True) ∧ x_1.snd.fst = x_1.snd.fst ∧ (nat_lit 0 = nat_lit 0 ∧ nat_lit 1 = nat_lit 1) ∧ x.snd.fst = x.snd.fst ∧ pathLess x_1.snd.fst x.snd.fst = pathLess x_1.snd.fst x.snd.fst ∧ (!pathLess x_1.snd.fst x.snd.fst) = !pathLess x_1.snd.fst x.snd.fst ∧ (!pathLess x_1.snd.fst x.snd.fst) = !pathLess x_1.snd.fst x.snd.fst ∧ ((4 : Nat) = (4 : Nat) ∧ (!pathLess x_1.snd.fst x.snd.fst) = !pathLess x_1.snd.fst x.snd.fst) ∧ ((3 : Nat) = (3 : Nat) ∧ (11 : Int) = (11 : Int)) ∧ idx (atPath (parentS x.snd.fst)) (subL l (0 : Nat) (tN (Int.ofNat i))) = idx (atPath (parentS x.snd.fst)) (subL l (0 : Nat) (tN (Int.ofNat i))) ∧ decide (idx (atPath (parentS x.snd.fst)) (subL l (0 : Nat) (tN (Int.ofNat i))) < (0 : Int)) = decide (idx (atPath (parentS x.snd.fst)) (subL l (0 : Nat) (tN (Int.ofNat i))) < (0 : Int)) ∧ ((4 : Nat) = (4 : Nat) ∧ decide (idx (atPath (parentS x.snd.fst)) (subL l (0 : Nat) (tN (Int.ofNat i))) < (0 : Int)) = decide (idx (atPath (parentS x.snd.fst)) (subL l (0 : Nat) (tN (Int.ofNat i))) < (0 : Int))) ∧ ((3 : Nat) = (3 : Nat) ∧ (12 : Int) = (12 : Int)) ∧ (nat_lit 0 = nat_lit 0 ∧ nat_lit 1 = nat_lit 1) ∧ x.snd.fst = x.snd.fst ∧ parentS x.snd.fst = parentS x.snd.fst ∧ (!parentS x.snd.fst == ([] : List UInt8)) = !parentS x.snd.fst == ([] : List UInt8) ∧ false = !parentS x.snd.fst == ([] : List UInt8) ∧ false = dirB l (Int.ofNat i) ∧ ((3 : Nat) = (3 : Nat) ∧ (13 : Int) = (13 : Int)) ∧ True) ∧ ((x.fst = x.fst ∧ x.snd.fst = x.snd.fst ∧ x.snd.snd.fst = x.snd.snd.fst ∧ x.snd.snd.snd.fst = x.snd.snd.snd.fst ∧ x.snd.snd.snd.snd.fst = x.snd.snd.snd.snd.fst ∧ True) ∧ True) ∧ True)) ∧ true = true ∧ True ∧ true = true ∧ True ∧ (first (AnyV.b (decide (Int.ofNat i ≥ (16 : Int))) :: AnyV.n (6 : Int) :: AnyV.b true :: AnyV.n (first ((AnyV.b !decide (recFault (x.fst, x.snd.fst, x.snd.snd.fst, x.snd.snd.snd.fst, x.snd.snd.snd.snd.fst, ()) = (0 : Int))) :: AnyV.n (recFault (x.fst, x.snd.fst, x.snd.snd.fst, x.snd.snd.snd.fst, x.snd.snd.snd.snd.fst, ())) :: AnyV.b (sameB l (Int.ofNat i)) :: AnyV.n (18 : Int) :: (AnyV.b !pathLess x_1.snd.fst x.snd.fst) :: AnyV.n (11 : Int) :: AnyV.b (decide (idx (atPath (parentS x.snd.fst)) (subL l (0 : Nat) (tN (Int.ofNat i))) < (0 : Int))) :: AnyV.n (12 : Int) :: AnyV.b (dirB l (Int.ofNat i)) :: AnyV.n (13 : Int) :: ([] : List AnyV))) :: ([] : List AnyV)), ()) = (faultI l (Int.ofNat i), ()) ∧ () = ()) ∧ (decide (Int.ofNat i > (0 : Int)) = false → true = true ∧ x.snd.fst.length ≤ (100000000 : Nat) ∧ (((!parentS x.snd.fst == ([] : List UInt8)) = true → IntKind.i64 = IntKind.i64 ∧ bnd (mm true (idx (atPath (parentS x.snd.fst)) (subL l (0 : Nat) (tN (Int.ofNat i)))) (0 : Int)) (lenL l) ∧ ∀ (x_1 : Int × List UInt8 × List UInt8 × Int × Bool × Unit), nthI l (mm true (idx (atPath (parentS x.snd.fst)) (subL l (0 : Nat) (tN (Int.ofNat i)))) (0 : Int)) = some x_1 → nat_lit 1 ≤ (Nat.succ (nat_lit 1)).succ.succ.succ ∧ (l = l ∧ Int.ofNat i = Int.ofNat i ∧ (0 : Int) = (0 : Int) ∧ (nat_lit 0 = nat_lit 0 ∧ (0 : Nat) = (0 : Nat)) ∧ idx (atPath (parentS x.snd.fst)) (subL l (0 : Nat) (tN (Int.ofNat i))) = idx (atPath (parentS x.snd.fst)) (subL l (0 : Nat) (tN (Int.ofNat i))) ∧ parentS x.snd.fst = parentS x.snd.fst ∧ l = l ∧ Int.ofNat i = Int.ofNat i ∧ (x.fst = x.fst ∧ x.snd.fst = x.snd.fst ∧ x.snd.snd.fst = x.snd.snd.fst ∧ x.snd.snd.snd.fst = x.snd.snd.snd.fst ∧ x.snd.snd.snd.snd.fst = x.snd.snd.snd.snd.fst ∧ True) ∧ (x.fst = x.fst ∧ x.snd.fst = x.snd.fst ∧ x.snd.snd.fst = x.snd.snd.fst ∧ x.snd.snd.snd.fst = x.snd.snd.snd.fst ∧ x.snd.snd.snd.snd.fst = x.snd.snd.snd.snd.fst ∧ True) ∧ (nat_lit 0 = nat_lit 0 ∧ nat_lit 1 = nat_lit 1) ∧ x.snd.fst = x.snd.fst ∧ parentS x.snd.fst = parentS x.snd.fst ∧ parentS x.snd.fst = parentS x.snd.fst ∧ (!parentS x.snd.fst == ([] : List UInt8)) = !parentS x.snd.fst == ([] : List UInt8) ∧ l = l ∧ Int.ofNat i = Int.ofNat i ∧ subL l (0 : Nat) (tN (Int.ofNat i)) = subL l (0 : Nat) (tN (Int.ofNat i)) ∧ parentS x.snd.fst = parentS x.snd.fst ∧ idx (atPath (parentS x.snd.fst)) (subL l (0 : Nat) (tN (Int.ofNat i))) = idx (atPath (parentS x.snd.fst)) (subL l (0 : Nat) (tN (Int.ofNat i))) ∧ Int.ofNat i = Int.ofNat i ∧ decide (Int.ofNat i ≥ (16 : Int)) = decide (Int.ofNat i ≥ (16 : Int)) ∧ ((4 : Nat) = (4 : Nat) ∧ decide (Int.ofNat i ≥ (16 : Int)) = decide (Int.ofNat i ≥ (16 : Int))) ∧ ((3 : Nat) = (3 : Nat) ∧ (6 : Int) = (6 : Int)) ∧ ((4 : Nat) = (4 : Nat) ∧ true = true) ∧ (x.fst = x.fst ∧ x.snd.fst = x.snd.fst ∧ x.snd.snd.fst = x.snd.snd.fst ∧ x.snd.snd.snd.fst = x.snd.snd.snd.fst ∧ x.snd.snd.snd.snd.fst = x.snd.snd.snd.snd.fst ∧ True) ∧ decide (recFault (x.fst, x.snd.fst, x.snd.snd.fst, x.snd.snd.snd.fst, x.snd.snd.snd.snd.fst, ()) = (0 : Int)) = decide (recFault (x.fst, x.snd.fst, x.snd.snd.fst, x.snd.snd.snd.fst, x.snd.snd.snd.snd.fst, ()) = (0 : Int)) ∧ (!decide (recFault (x.fst, x.snd.fst, x.snd.snd.fst, x.snd.snd.snd.fst, x.snd.snd.snd.snd.fst, ()) = (0 : Int))) = !decide (recFault (x.fst, x.snd.fst, x.snd.snd.fst, x.snd.snd.snd.fst, x.snd.snd.snd.snd.fst, ()) = (0 : Int)) ∧ ((4 : Nat) = (4 : Nat) ∧ (!decide (recFault (x.fst, x.snd.fst, x.snd.snd.fst, x.snd.snd.snd.fst, x.snd.snd.snd.snd.fst, ()) = (0 : Int))) = !decide (recFault (x.fst, x.snd.fst, x.snd.snd.fst, x.snd.snd.snd.fst, x.snd.snd.snd.snd.fst, ()) = (0 : Int))) ∧ (x.fst = x.fst ∧ x.snd.fst = x.snd.fst ∧ x.snd.snd.fst = x.snd.snd.fst ∧ x.snd.snd.snd.fst = x.snd.snd.snd.fst ∧ x.snd.snd.snd.snd.fst = x.snd.snd.snd.snd.fst ∧ True) ∧ recFault (x.fst, x.snd.fst, x.snd.snd.fst, x.snd.snd.snd.fst, x.snd.snd.snd.snd.fst, ()) = recFault (x.fst, x.snd.fst, x.snd.snd.fst, x.snd.snd.snd.fst, x.snd.snd.snd.snd.fst, ()) ∧ ((3 : Nat) = (3 : Nat) ∧ recFault (x.fst, x.snd.fst, x.snd.snd.fst, x.snd.snd.snd.fst, x.snd.snd.snd.snd.fst, ()) = recFault (x.fst, x.snd.fst, x.snd.snd.fst, x.snd.snd.snd.fst, x.snd.snd.snd.snd.fst, ())) ∧ Int.ofNat i = Int.ofNat i ∧ decide (Int.ofNat i > (0 : Int)) = decide (Int.ofNat i > (0 : Int)) ∧ decide (Int.ofNat i > (0 : Int)) = decide (Int.ofNat i > (0 : Int)) ∧ sameB l (Int.ofNat i) = sameB l (Int.ofNat i) ∧ ((4 : Nat) = (4 : Nat) ∧ sameB l (Int.ofNat i) = sameB l (Int.ofNat i)) ∧ ((3 : Nat) = (3 : Nat) ∧ (18 : Int) = (18 : Int)) ∧ Int.ofNat i = Int.ofNat i ∧ decide (Int.ofNat i > (0 : Int)) = decide (Int.ofNat i > (0 : Int)) ∧ false = false ∧ True ∧ True ∧ True ∧ True ∧ True ∧ True ∧ True ∧ True ∧ True ∧ True ∧ True ∧ false = false ∧ ((4 : Nat) = (4 : Nat) ∧ false = false) ∧ ((3 : Nat) = (3 : Nat) ∧ (11 : Int) = (11 : Int)) ∧ idx (atPath (parentS x.snd.fst)) (subL l (0 : Nat) (tN (Int.ofNat i))) = idx (atPath (parentS x.snd.fst)) (subL l (0 : Nat) (tN (Int.ofNat i))) ∧ decide (idx (atPath (parentS x.snd.fst)) (subL l (0 : Nat) (tN (Int.ofNat i))) < (0 : Int)) = decide (idx (atPath (parentS x.snd.fst)) (subL l (0 : Nat) (tN (Int.ofNat i))) < (0 : Int)) ∧ ((4 : Nat) = (4 : Nat) ∧ decide (idx (atPath (parentS x.snd.fst)) (subL l (0 : Nat) (tN (Int.ofNat i))) < (0 : Int)) = decide (idx (atPath (parentS x.snd.fst)) (subL l (0 : Nat) (tN (Int.ofNat i))) < (0 : Int))) ∧ ((3 : Nat) = (3 : Nat) ∧ (12 : Int) = (12 : Int)) ∧ (nat_lit 0 = nat_lit 0 ∧ nat_lit 1 = nat_lit 1) ∧ x.snd.fst = x.snd.fst ∧ parentS x.snd.fst = parentS x.snd.fst ∧ (!parentS x.snd.fst == ([] : List UInt8)) = !parentS x.snd.fst == ([] : List UInt8) ∧ true = !parentS x.snd.fst == ([] : List UInt8) ∧ (x_1.fst != (3 : Int)) = dirB l (Int.ofNat i) ∧ ((3 : Nat) = (3 : Nat) ∧ (13 : Int) = (13 : Int)) ∧ True) ∧ ((x.fst = x.fst ∧ x.snd.fst = x.snd.fst ∧ x.snd.snd.fst = x.snd.snd.fst ∧ x.snd.snd.snd.fst = x.snd.snd.snd.fst ∧ x.snd.snd.snd.snd.fst = x.snd.snd.snd.snd.fst ∧ True) ∧ True) ∧ True) ∧ ((!parentS x.snd.fst == ([] : List UInt8)) = false → (l = l ∧ Int.ofNat i = Int.ofNat i ∧ (0 : Int) = (0 : Int) ∧ (nat_lit 0 = nat_lit 0 ∧ (0 : Nat) = (0 : Nat)) ∧ idx (atPath (parentS x.snd.fst)) (subL l (0 : Nat) (tN (Int.ofNat i))) = idx (atPath (parentS x.snd.fst)) (subL l (0 : Nat) (tN (Int.ofNat i))) ∧ parentS x.snd.fst = parentS x.snd.fst ∧ l = l ∧ Int.ofNat i = Int.ofNat i ∧ (x.fst = x.fst ∧ x.snd.fst = x.snd.fst ∧ x.snd.snd.fst = x.snd.snd.fst ∧ x.snd.snd.snd.fst = x.snd.snd.snd.fst ∧ x.snd.snd.snd.snd.fst = x.snd.snd.snd.snd.fst ∧ True) ∧ (x.fst = x.fst ∧ x.snd.fst = x.snd.fst ∧ x.snd.snd.fst = x.snd.snd.fst ∧ x.snd.snd.snd.fst = x.snd.snd.snd.fst ∧ x.snd.snd.snd.snd.fst = x.snd.snd.snd.snd.fst ∧ True) ∧ (nat_lit 0 = nat_lit 0 ∧ nat_lit 1 = nat_lit 1) ∧ x.snd.fst = x.snd.fst ∧ parentS x.snd.fst = parentS x.snd.fst ∧ parentS x.snd.fst = parentS x.snd.fst ∧ (!parentS x.snd.fst == ([] : List UInt8)) = !parentS x.snd.fst == ([] : List UInt8) ∧ l = l ∧ Int.ofNat i = Int.ofNat i ∧ subL l (0 : Nat) (tN (Int.ofNat i)) = subL l (0 : Nat) (tN (Int.ofNat i)) ∧ parentS x.snd.fst = parentS x.snd.fst ∧ idx (atPath (parentS x.snd.fst)) (subL l (0 : Nat) (tN (Int.ofNat i))) = idx (atPath (parentS x.snd.fst)) (subL l (0 : Nat) (tN (Int.ofNat i))) ∧ Int.ofNat i = Int.ofNat i ∧ decide (Int.ofNat i ≥ (16 : Int)) = decide (Int.ofNat i ≥ (16 : Int)) ∧ ((4 : Nat) = (4 : Nat) ∧ decide (Int.ofNat i ≥ (16 : Int)) = decide (Int.ofNat i ≥ (16 : Int))) ∧ ((3 : Nat) = (3 : Nat) ∧ (6 : Int) = (6 : Int)) ∧ ((4 : Nat) = (4 : Nat) ∧ true = true) ∧ (x.fst = x.fst ∧ x.snd.fst = x.snd.fst ∧ x.snd.snd.fst = x.snd.snd.fst ∧ x.snd.snd.snd.fst = x.snd.snd.snd.fst ∧ x.snd.snd.snd.snd.fst = x.snd.snd.snd.snd.fst ∧ True) ∧ decide (recFault (x.fst, x.snd.fst, x.snd.snd.fst, x.snd.snd.snd.fst, x.snd.snd.snd.snd.fst, ()) = (0 : Int)) = decide (recFault (x.fst, x.snd.fst, x.snd.snd.fst, x.snd.snd.snd.fst, x.snd.snd.snd.snd.fst, ()) = (0 : Int)) ∧ (!decide (recFault (x.fst, x.snd.fst, x.snd.snd.fst, x.snd.snd.snd.fst, x.snd.snd.snd.snd.fst, ()) = (0 : Int))) = !decide (recFault (x.fst, x.snd.fst, x.snd.snd.fst, x.snd.snd.snd.fst, x.snd.snd.snd.snd.fst, ()) = (0 : Int)) ∧ ((4 : Nat) = (4 : Nat) ∧ (!decide (recFault (x.fst, x.snd.fst, x.snd.snd.fst, x.snd.snd.snd.fst, x.snd.snd.snd.snd.fst, ()) = (0 : Int))) = !decide (recFault (x.fst, x.snd.fst, x.snd.snd.fst, x.snd.snd.snd.fst, x.snd.snd.snd.snd.fst, ()) = (0 : Int))) ∧ (x.fst = x.fst ∧ x.snd.fst = x.snd.fst ∧ x.snd.snd.fst = x.snd.snd.fst ∧ x.snd.snd.snd.fst = x.snd.snd.snd.fst ∧ x.snd.snd.snd.snd.fst = x.snd.snd.snd.snd.fst ∧ True) ∧ recFault (x.fst, x.snd.fst, x.snd.snd.fst, x.snd.snd.snd.fst, x.snd.snd.snd.snd.fst, ()) = recFault (x.fst, x.snd.fst, x.snd.snd.fst, x.snd.snd.snd.fst, x.snd.snd.snd.snd.fst, ()) ∧ ((3 : Nat) = (3 : Nat) ∧ recFault (x.fst, x.snd.fst, x.snd.snd.fst, x.snd.snd.snd.fst, x.snd.snd.snd.snd.fst, ()) = recFault (x.fst, x.snd.fst, x.snd.snd.fst, x.snd.snd.snd.fst, x.snd.snd.snd.snd.fst, ())) ∧ Int.ofNat i = Int.ofNat i ∧ decide (Int.ofNat i > (0 : Int)) = decide (Int.ofNat i > (0 : Int)) ∧ decide (Int.ofNat i > (0 : Int)) = decide (Int.ofNat i > (0 : Int)) ∧ sameB l (Int.ofNat i) = sameB l (Int.ofNat i) ∧ ((4 : Nat) = (4 : Nat) ∧ sameB l (Int.ofNat i) = sameB l (Int.ofNat i)) ∧ ((3 : Nat) = (3 : Nat) ∧ (18 : Int) = (18 : Int)) ∧ Int.ofNat i = Int.ofNat i ∧ decide (Int.ofNat i > (0 : Int)) = decide (Int.ofNat i > (0 : Int)) ∧ false = false ∧ True ∧ True ∧ True ∧ True ∧ True ∧ True ∧ True ∧ True ∧ True ∧ True ∧ True ∧ false = false ∧ ((4 : Nat) = (4 : Nat) ∧ false = false) ∧ ((3 : Nat) = (3 : Nat) ∧ (11 : Int) = (11 : Int)) ∧ idx (atPath (parentS x.snd.fst)) (subL l (0 : Nat) (tN (Int.ofNat i))) = idx (atPath (parentS x.snd.fst)) (subL l (0 : Nat) (tN (Int.ofNat i))) ∧ decide (idx (atPath (parentS x.snd.fst)) (subL l (0 : Nat) (tN (Int.ofNat i))) < (0 : Int)) = decide (idx (atPath (parentS x.snd.fst)) (subL l (0 : Nat) (tN (Int.ofNat i))) < (0 : Int)) ∧ ((4 : Nat) = (4 : Nat) ∧ decide (idx (atPath (parentS x.snd.fst)) (subL l (0 : Nat) (tN (Int.ofNat i))) < (0 : Int)) = decide (idx (atPath (parentS x.snd.fst)) (subL l (0 : Nat) (tN (Int.ofNat i))) < (0 : Int))) ∧ ((3 : Nat) = (3 : Nat) ∧ (12 : Int) = (12 : Int)) ∧ (nat_lit 0 = nat_lit 0 ∧ nat_lit 1 = nat_lit 1) ∧ x.snd.fst = x.snd.fst ∧ parentS x.snd.fst = parentS x.snd.fst ∧ (!parentS x.snd.fst == ([] : List UInt8)) = !parentS x.snd.fst == ([] : List UInt8) ∧ false = !parentS x.snd.fst == ([] : List UInt8) ∧ false = dirB l (Int.ofNat i) ∧ ((3 : Nat) = (3 : Nat) ∧ (13 : Int) = (13 : Int)) ∧ True) ∧ ((x.fst = x.fst ∧ x.snd.fst = x.snd.fst ∧ x.snd.snd.fst = x.snd.snd.fst ∧ x.snd.snd.snd.fst = x.snd.snd.snd.fst ∧ x.snd.snd.snd.snd.fst = x.snd.snd.snd.snd.fst ∧ True) ∧ True) ∧ True)) ∧ true = true ∧ True ∧ true = true ∧ True ∧ (first (AnyV.b (decide (Int.ofNat i ≥ (16 : Int))) :: AnyV.n (6 : Int) :: AnyV.b true :: AnyV.n (first ((AnyV.b !decide (recFault (x.fst, x.snd.fst, x.snd.snd.fst, x.snd.snd.snd.fst, x.snd.snd.snd.snd.fst, ()) = (0 : Int))) :: AnyV.n (recFault (x.fst, x.snd.fst, x.snd.snd.fst, x.snd.snd.snd.fst, x.snd.snd.snd.snd.fst, ())) :: AnyV.b (sameB l (Int.ofNat i)) :: AnyV.n (18 : Int) :: AnyV.b false :: AnyV.n (11 : Int) :: AnyV.b (decide (idx (atPath (parentS x.snd.fst)) (subL l (0 : Nat) (tN (Int.ofNat i))) < (0 : Int))) :: AnyV.n (12 : Int) :: AnyV.b (dirB l (Int.ofNat i)) :: AnyV.n (13 : Int) :: ([] : List AnyV))) :: ([] : List AnyV)), ()) = (faultI l (Int.ofNat i), ()) ∧ () = ())) ∧ ((!parentS x.snd.fst == ([] : List UInt8)) = false → nat_lit 5 ≤ (Nat.succ (nat_lit 1)).succ.succ.succ ∧ nat_lit 5 ≤ (Nat.succ (nat_lit 1)).succ.succ.succ ∧ nat_lit 2 ≤ (Nat.succ (nat_lit 1)).succ.succ.succ ∧ true = true ∧ x.snd.fst.length ≤ (100000000 : Nat) ∧ true = true ∧ x.snd.fst.length ≤ (100000000 : Nat) ∧ ((decide (Int.ofNat i > (0 : Int)) = true → IntKind.i64 = IntKind.i64 ∧ bnd (mm true (wSub IntKind.i64 (Int.ofNat i) (1 : Int)) (0 : Int)) (lenL l) ∧ ∀ (x_1 : Int × List UInt8 × List UInt8 × Int × Bool × Unit), nthI l (mm true (wSub IntKind.i64 (Int.ofNat i) (1 : Int)) (0 : Int)) = some x_1 → nat_lit 1 ≤ (Nat.succ (nat_lit 1)).succ.succ ∧ nat_lit 2 ≤ (Nat.succ (nat_lit 1)).succ.succ.succ ∧ (l = l ∧ Int.ofNat i = Int.ofNat i ∧ (0 : Int) = (0 : Int) ∧ (nat_lit 0 = nat_lit 0 ∧ (0 : Nat) = (0 : Nat)) ∧ (0 : Int) = (0 : Int) ∧ parentS x.snd.fst = parentS x.snd.fst ∧ l = l ∧ Int.ofNat i = Int.ofNat i ∧ (x.fst = x.fst ∧ x.snd.fst = x.snd.fst ∧ x.snd.snd.fst = x.snd.snd.fst ∧ x.snd.snd.snd.fst = x.snd.snd.snd.fst ∧ x.snd.snd.snd.snd.fst = x.snd.snd.snd.snd.fst ∧ True) ∧ (x.fst = x.fst ∧ x.snd.fst = x.snd.fst ∧ x.snd.snd.fst = x.snd.snd.fst ∧ x.snd.snd.snd.fst = x.snd.snd.snd.fst ∧ x.snd.snd.snd.snd.fst = x.snd.snd.snd.snd.fst ∧ True) ∧ (nat_lit 0 = nat_lit 0 ∧ nat_lit 1 = nat_lit 1) ∧ x.snd.fst = x.snd.fst ∧ parentS x.snd.fst = parentS x.snd.fst ∧ parentS x.snd.fst = parentS x.snd.fst ∧ (!parentS x.snd.fst == ([] : List UInt8)) = !parentS x.snd.fst == ([] : List UInt8) ∧ Int.ofNat i = Int.ofNat i ∧ decide (Int.ofNat i ≥ (16 : Int)) = decide (Int.ofNat i ≥ (16 : Int)) ∧ ((4 : Nat) = (4 : Nat) ∧ decide (Int.ofNat i ≥ (16 : Int)) = decide (Int.ofNat i ≥ (16 : Int))) ∧ ((3 : Nat) = (3 : Nat) ∧ (6 : Int) = (6 : Int)) ∧ ((4 : Nat) = (4 : Nat) ∧ true = true) ∧ (x.fst = x.fst ∧ x.snd.fst = x.snd.fst ∧ x.snd.snd.fst = x.snd.snd.fst ∧ x.snd.snd.snd.fst = x.snd.snd.snd.fst ∧ x.snd.snd.snd.snd.fst = x.snd.snd.snd.snd.fst ∧ True) ∧ decide (recFault (x.fst, x.snd.fst, x.snd.snd.fst, x.snd.snd.snd.fst, x.snd.snd.snd.snd.fst, ()) = (0 : Int)) = decide (recFault (x.fst, x.snd.fst, x.snd.snd.fst, x.snd.snd.snd.fst, x.snd.snd.snd.snd.fst, ()) = (0 : Int)) ∧ (!decide (recFault (x.fst, x.snd.fst, x.snd.snd.fst, x.snd.snd.snd.fst, x.snd.snd.snd.snd.fst, ()) = (0 : Int))) = !decide (recFault (x.fst, x.snd.fst, x.snd.snd.fst, x.snd.snd.snd.fst, x.snd.snd.snd.snd.fst, ()) = (0 : Int)) ∧ ((4 : Nat) = (4 : Nat) ∧ (!decide (recFault (x.fst, x.snd.fst, x.snd.snd.fst, x.snd.snd.snd.fst, x.snd.snd.snd.snd.fst, ()) = (0 : Int))) = !decide (recFault (x.fst, x.snd.fst, x.snd.snd.fst, x.snd.snd.snd.fst, x.snd.snd.snd.snd.fst, ()) = (0 : Int))) ∧ (x.fst = x.fst ∧ x.snd.fst = x.snd.fst ∧ x.snd.snd.fst = x.snd.snd.fst ∧ x.snd.snd.snd.fst = x.snd.snd.snd.fst ∧ x.snd.snd.snd.snd.fst = x.snd.snd.snd.snd.fst ∧ True) ∧ recFault (x.fst, x.snd.fst, x.snd.snd.fst, x.snd.snd.snd.fst, x.snd.snd.snd.snd.fst, ()) = recFault (x.fst, x.snd.fst, x.snd.snd.fst, x.snd.snd.snd.fst, x.snd.snd.snd.snd.fst, ()) ∧ ((3 : Nat) = (3 : Nat) ∧ recFault (x.fst, x.snd.fst, x.snd.snd.fst, x.snd.snd.snd.fst, x.snd.snd.snd.snd.fst, ()) = recFault (x.fst, x.snd.fst, x.snd.snd.fst, x.snd.snd.snd.fst, x.snd.snd.snd.snd.fst, ())) ∧ Int.ofNat i = Int.ofNat i ∧ decide (Int.ofNat i > (0 : Int)) = decide (Int.ofNat i > (0 : Int)) ∧ true = decide (Int.ofNat i > (0 : Int)) ∧ (x_1.snd.fst == x.snd.fst) = sameB l (Int.ofNat i) ∧ ((3 : Nat) = (3 : Nat) ∧ (18 : Int) = (18 : Int)) ∧ Int.ofNat i = Int.ofNat i ∧ decide (Int.ofNat i > (0 : Int)) = decide (Int.ofNat i > (0 : Int)) ∧ ((3 : Nat) = (3 : Nat) ∧ (11 : Int) = (11 : Int)) ∧ (0 : Int) = (0 : Int) ∧ decide ((0 : Int) < (0 : Int)) = decide ((0 : Int) < (0 : Int)) ∧ ((4 : Nat) = (4 : Nat) ∧ decide ((0 : Int) < (0 : Int)) = decide ((0 : Int) < (0 : Int))) ∧ ((3 : Nat) = (3 : Nat) ∧ (12 : Int) = (12 : Int)) ∧ (nat_lit 0 = nat_lit 0 ∧ nat_lit 1 = nat_lit 1) ∧ x.snd.fst = x.snd.fst ∧ ((3 : Nat) = (3 : Nat) ∧ (13 : Int) = (13 : Int)) ∧ True) ∧ ((x.fst = x.fst ∧ x.snd.fst = x.snd.fst ∧ x.snd.snd.fst = x.snd.snd.fst ∧ x.snd.snd.snd.fst = x.snd.snd.snd.fst ∧ x.snd.snd.snd.snd.fst = x.snd.snd.snd.snd.fst ∧ True) ∧ True) ∧ True) ∧ (decide (Int.ofNat i > (0 : Int)) = false → (l = l ∧ Int.ofNat i = Int.ofNat i ∧ (0 : Int) = (0 : Int) ∧ (nat_lit 0 = nat_lit 0 ∧ (0 : Nat) = (0 : Nat)) ∧ (0 : Int) = (0 : Int) ∧ parentS x.snd.fst = parentS x.snd.fst ∧ l = l ∧ Int.ofNat i = Int.ofNat i ∧ (x.fst = x.fst ∧ x.snd.fst = x.snd.fst ∧ x.snd.snd.fst = x.snd.snd.fst ∧ x.snd.snd.snd.fst = x.snd.snd.snd.fst ∧ x.snd.snd.snd.snd.fst = x.snd.snd.snd.snd.fst ∧ True) ∧ (x.fst = x.fst ∧ x.snd.fst = x.snd.fst ∧ x.snd.snd.fst = x.snd.snd.fst ∧ x.snd.snd.snd.fst = x.snd.snd.snd.fst ∧ x.snd.snd.snd.snd.fst = x.snd.snd.snd.snd.fst ∧ True) ∧ (nat_lit 0 = nat_lit 0 ∧ nat_lit 1 = nat_lit 1) ∧ x.snd.fst = x.snd.fst ∧ parentS x.snd.fst = parentS x.snd.fst ∧ parentS x.snd.fst = parentS x.snd.fst ∧ (!parentS x.snd.fst == ([] : List UInt8)) = !parentS x.snd.fst == ([] : List UInt8) ∧ Int.ofNat i = Int.ofNat i ∧ decide (Int.ofNat i ≥ (16 : Int)) = decide (Int.ofNat i ≥ (16 : Int)) ∧ ((4 : Nat) = (4 : Nat) ∧ decide (Int.ofNat i ≥ (16 : Int)) = decide (Int.ofNat i ≥ (16 : Int))) ∧ ((3 : Nat) = (3 : Nat) ∧ (6 : Int) = (6 : Int)) ∧ ((4 : Nat) = (4 : Nat) ∧ true = true) ∧ (x.fst = x.fst ∧ x.snd.fst = x.snd.fst ∧ x.snd.snd.fst = x.snd.snd.fst ∧ x.snd.snd.snd.fst = x.snd.snd.snd.fst ∧ x.snd.snd.snd.snd.fst = x.snd.snd.snd.snd.fst ∧ True) ∧ decide (recFault (x.fst, x.snd.fst, x.snd.snd.fst, x.snd.snd.snd.fst, x.snd.snd.snd.snd.fst, ()) = (0 : Int)) = decide (recFault (x.fst, x.snd.fst, x.snd.snd.fst, x.snd.snd.snd.fst, x.snd.snd.snd.snd.fst, ()) = (0 : Int)) ∧ (!decide (recFault (x.fst, x.snd.fst, x.snd.snd.fst, x.snd.snd.snd.fst, x.snd.snd.snd.snd.fst, ()) = (0 : Int))) = !decide (recFault (x.fst, x.snd.fst, x.snd.snd.fst, x.snd.snd.snd.fst, x.snd.snd.snd.snd.fst, ()) = (0 : Int)) ∧ ((4 : Nat) = (4 : Nat) ∧ (!decide (recFault (x.fst, x.snd.fst, x.snd.snd.fst, x.snd.snd.snd.fst, x.snd.snd.snd.snd.fst, ()) = (0 : Int))) = !decide (recFault (x.fst, x.snd.fst, x.snd.snd.fst, x.snd.snd.snd.fst, x.snd.snd.snd.snd.fst, ()) = (0 : Int))) ∧ (x.fst = x.fst ∧ x.snd.fst = x.snd.fst ∧ x.snd.snd.fst = x.snd.snd.fst ∧ x.snd.snd.snd.fst = x.snd.snd.snd.fst ∧ x.snd.snd.snd.snd.fst = x.snd.snd.snd.snd.fst ∧ True) ∧ recFault (x.fst, x.snd.fst, x.snd.snd.fst, x.snd.snd.snd.fst, x.snd.snd.snd.snd.fst, ()) = recFault (x.fst, x.snd.fst, x.snd.snd.fst, x.snd.snd.snd.fst, x.snd.snd.snd.snd.fst, ()) ∧ ((3 : Nat) = (3 : Nat) ∧ recFault (x.fst, x.snd.fst, x.snd.snd.fst, x.snd.snd.snd.fst, x.snd.snd.snd.snd.fst, ()) = recFault (x.fst, x.snd.fst, x.snd.snd.fst, x.snd.snd.snd.fst, x.snd.snd.snd.snd.fst, ())) ∧ Int.ofNat i = Int.ofNat i ∧ decide (Int.ofNat i > (0 : Int)) = decide (Int.ofNat i > (0 : Int)) ∧ false = decide (Int.ofNat i > (0 : Int)) ∧ false = sameB l (Int.ofNat i) ∧ ((3 : Nat) = (3 : Nat) ∧ (18 : Int) = (18 : Int)) ∧ Int.ofNat i = Int.ofNat i ∧ decide (Int.ofNat i > (0 : Int)) = decide (Int.ofNat i > (0 : Int)) ∧ ((3 : Nat) = (3 : Nat) ∧ (11 : Int) = (11 : Int)) ∧ (0 : Int) = (0 : Int) ∧ decide ((0 : Int) < (0 : Int)) = decide ((0 : Int) < (0 : Int)) ∧ ((4 : Nat) = (4 : Nat) ∧ decide ((0 : Int) < (0 : Int)) = decide ((0 : Int) < (0 : Int))) ∧ ((3 : Nat) = (3 : Nat) ∧ (12 : Int) = (12 : Int)) ∧ (nat_lit 0 = nat_lit 0 ∧ nat_lit 1 = nat_lit 1) ∧ x.snd.fst = x.snd.fst ∧ ((3 : Nat) = (3 : Nat) ∧ (13 : Int) = (13 : Int)) ∧ True) ∧ ((x.fst = x.fst ∧ x.snd.fst = x.snd.fst ∧ x.snd.snd.fst = x.snd.snd.fst ∧ x.snd.snd.snd.fst = x.snd.snd.snd.fst ∧ x.snd.snd.snd.snd.fst = x.snd.snd.snd.snd.fst ∧ True) ∧ True) ∧ True)) ∧ (decide (Int.ofNat i > (0 : Int)) = true → IntKind.i64 = IntKind.i64 ∧ bnd (mm true (wSub IntKind.i64 (Int.ofNat i) (1 : Int)) (0 : Int)) (lenL l) ∧ ∀ (x_1 : Int × List UInt8 × List UInt8 × Int × Bool × Unit), nthI l (mm true (wSub IntKind.i64 (Int.ofNat i) (1 : Int)) (0 : Int)) = some x_1 → nat_lit 1 ≤ (Nat.succ (nat_lit 1)).succ.succ ∧ nat_lit 2 ≤ (Nat.succ (nat_lit 1)).succ.succ.succ ∧ true = true ∧ (x_1.snd.fst.length ≤ (100000000 : Nat) ∧ x.snd.fst.length ≤ (100000000 : Nat)) ∧ true = true ∧ x.snd.fst.length ≤ (100000000 : Nat) ∧ (((!parentS x.snd.fst == ([] : List UInt8)) = true → IntKind.i64 = IntKind.i64 ∧ bnd (mm true (0 : Int) (0 : Int)) (lenL l) ∧ ∀ (x_2 : Int × List UInt8 × List UInt8 × Int × Bool × Unit), nthI l (mm true (0 : Int) (0 : Int)) = some x_2 → nat_lit 1 ≤ (Nat.succ (nat_lit 1)).succ.succ.succ ∧ (l = l ∧ Int.ofNat i = Int.ofNat i ∧ (0 : Int) = (0 : Int) ∧ (nat_lit 0 = nat_lit 0 ∧ (0 : Nat) = (0 : Nat)) ∧ (0 : Int) = (0 : Int) ∧ parentS x.snd.fst = parentS x.snd.fst ∧ l = l ∧ Int.ofNat i = Int.ofNat i ∧ (x.fst = x.fst ∧ x.snd.fst = x.snd.fst ∧ x.snd.snd.fst = x.snd.snd.fst ∧ x.snd.snd.snd.fst = x.snd.snd.snd.fst ∧ x.snd.snd.snd.snd.fst = x.snd.snd.snd.snd.fst ∧ True) ∧ (x.fst = x.fst ∧ x.snd.fst = x.snd.fst ∧ x.snd.snd.fst = x.snd.snd.fst ∧ x.snd.snd.snd.fst = x.snd.snd.snd.fst ∧ x.snd.snd.snd.snd.fst = x.snd.snd.snd.snd.fst ∧ True) ∧ (nat_lit 0 = nat_lit 0 ∧ nat_lit 1 = nat_lit 1) ∧ x.snd.fst = x.snd.fst ∧ parentS x.snd.fst = parentS x.snd.fst ∧ parentS x.snd.fst = parentS x.snd.fst ∧ (!parentS x.snd.fst == ([] : List UInt8)) = !parentS x.snd.fst == ([] : List UInt8) ∧ Int.ofNat i = Int.ofNat i ∧ decide (Int.ofNat i ≥ (16 : Int)) = decide (Int.ofNat i ≥ (16 : Int)) ∧ ((4 : Nat) = (4 : Nat) ∧ decide (Int.ofNat i ≥ (16 : Int)) = decide (Int.ofNat i ≥ (16 : Int))) ∧ ((3 : Nat) = (3 : Nat) ∧ (6 : Int) = (6 : Int)) ∧ ((4 : Nat) = (4 : Nat) ∧ true = true) ∧ (x.fst = x.fst ∧ x.snd.fst = x.snd.fst ∧ x.snd.snd.fst = x.snd.snd.fst ∧ x.snd.snd.snd.fst = x.snd.snd.snd.fst ∧ x.snd.snd.snd.snd.fst = x.snd.snd.snd.snd.fst ∧ True) ∧ decide (recFault (x.fst, x.snd.fst, x.snd.snd.fst, x.snd.snd.snd.fst, x.snd.snd.snd.snd.fst, ()) = (0 : Int)) = decide (recFault (x.fst, x.snd.fst, x.snd.snd.fst, x.snd.snd.snd.fst, x.snd.snd.snd.snd.fst, ()) = (0 : Int)) ∧ (!decide (recFault (x.fst, x.snd.fst, x.snd.snd.fst, x.snd.snd.snd.fst, x.snd.snd.snd.snd.fst, ()) = (0 : Int))) = !decide (recFault (x.fst, x.snd.fst, x.snd.snd.fst, x.snd.snd.snd.fst, x.snd.snd.snd.snd.fst, ()) = (0 : Int)) ∧ ((4 : Nat) = (4 : Nat) ∧ (!decide (recFault (x.fst, x.snd.fst, x.snd.snd.fst, x.snd.snd.snd.fst, x.snd.snd.snd.snd.fst, ()) = (0 : Int))) = !decide (recFault (x.fst, x.snd.fst, x.snd.snd.fst, x.snd.snd.snd.fst, x.snd.snd.snd.snd.fst, ()) = (0 : Int))) ∧ (x.fst = x.fst ∧ x.snd.fst = x.snd.fst ∧ x.snd.snd.fst = x.snd.snd.fst ∧ x.snd.snd.snd.fst = x.snd.snd.snd.fst ∧ x.snd.snd.snd.snd.fst = x.snd.snd.snd.snd.fst ∧ True) ∧ recFault (x.fst, x.snd.fst, x.snd.snd.fst, x.snd.snd.snd.fst, x.snd.snd.snd.snd.fst, ()) = recFault (x.fst, x.snd.fst, x.snd.snd.fst, x.snd.snd.snd.fst, x.snd.snd.snd.snd.fst, ()) ∧ ((3 : Nat) = (3 : Nat) ∧ recFault (x.fst, x.snd.fst, x.snd.snd.fst, x.snd.snd.snd.fst, x.snd.snd.snd.snd.fst, ()) = recFault (x.fst, x.snd.fst, x.snd.snd.fst, x.snd.snd.snd.fst, x.snd.snd.snd.snd.fst, ())) ∧ Int.ofNat i = Int.ofNat i ∧ decide (Int.ofNat i > (0 : Int)) = decide (Int.ofNat i > (0 : Int)) ∧ decide (Int.ofNat i > (0 : Int)) = decide (Int.ofNat i > (0 : Int)) ∧ sameB l (Int.ofNat i) = sameB l (Int.ofNat i) ∧ ((4 : Nat) = (4 : Nat) ∧ sameB l (Int.ofNat i) = sameB l (Int.ofNat i)) ∧ ((3 : Nat) = (3 : Nat) ∧ (18 : Int) = (18 : Int)) ∧ Int.ofNat i = Int.ofNat i ∧ decide (Int.ofNat i > (0 : Int)) = decide (Int.ofNat i > (0 : Int)) ∧ true = true ∧ l = l ∧ Int.ofNat i = Int.ofNat i ∧ wSub IntKind.i64 (Int.ofNat i) (1 : Int) = wSub IntKind.i64 (Int.ofNat i) (1 : Int) ∧ mm true (wSub IntKind.i64 (Int.ofNat i) (1 : Int)) (0 : Int) = mm true (wSub IntKind.i64 (Int.ofNat i) (1 : Int)) (0 : Int) ∧ (x_1.fst = x_1.fst ∧ x_1.snd.fst = x_1.snd.fst ∧ x_1.snd.snd.fst = x_1.snd.snd.fst ∧ x_1.snd.snd.snd.fst = x_1.snd.snd.snd.fst ∧ x_1.snd.snd.snd.snd.fst = x_1.snd.snd.snd.snd.fst ∧ True) ∧ (x_1.snd.fst = x_1.snd.fst ∧ x_1.snd.snd.fst = x_1.snd.snd.fst ∧ x_1.snd.snd.snd.fst = x_1.snd.snd.snd.fst ∧ x_1.snd.snd.snd.snd.fst = x_1.snd.snd.snd.snd.fst ∧ True) ∧ x_1.snd.fst = x_1.snd.fst ∧ (nat_lit 0 = nat_lit 0 ∧ nat_lit 1 = nat_lit 1) ∧ x.snd.fst = x.snd.fst ∧ pathLess x_1.snd.fst x.snd.fst = pathLess x_1.snd.fst x.snd.fst ∧ (!pathLess x_1.snd.fst x.snd.fst) = !pathLess x_1.snd.fst x.snd.fst ∧ (!pathLess x_1.snd.fst x.snd.fst) = !pathLess x_1.snd.fst x.snd.fst ∧ ((4 : Nat) = (4 : Nat) ∧ (!pathLess x_1.snd.fst x.snd.fst) = !pathLess x_1.snd.fst x.snd.fst) ∧ ((3 : Nat) = (3 : Nat) ∧ (11 : Int) = (11 : Int)) ∧ (0 : Int) = (0 : Int) ∧ decide ((0 : Int) < (0 : Int)) = decide ((0 : Int) < (0 : Int)) ∧ ((4 : Nat) = (4 : Nat) ∧ decide ((0 : Int) < (0 : Int)) = decide ((0 : Int) < (0 : Int))) ∧ ((3 : Nat) = (3 : Nat) ∧ (12 : Int) = (12 : Int)) ∧ (nat_lit 0 = nat_lit 0 ∧ nat_lit 1 = nat_lit 1) ∧ x.snd.fst = x.snd.fst ∧ parentS x.snd.fst = parentS x.snd.fst ∧ (!parentS x.snd.fst == ([] : List UInt8)) = !parentS x.snd.fst == ([] : List UInt8) ∧ true = !parentS x.snd.fst == ([] : List UInt8) ∧ (x_2.fst != (3 : Int)) = dirB l (Int.ofNat i) ∧ ((3 : Nat) = (3 : Nat) ∧ (13 : Int) = (13 : Int)) ∧ True) ∧ ((x.fst = x.fst ∧ x.snd.fst = x.snd.fst ∧ x.snd.snd.fst = x.snd.snd.fst ∧ x.snd.snd.snd.fst = x.snd.snd.snd.fst ∧ x.snd.snd.snd.snd.fst = x.snd.snd.snd.snd.fst ∧ True) ∧ True) ∧ True) ∧ ((!parentS x.snd.fst == ([] : List UInt8)) = false → (l = l ∧ Int.ofNat i = Int.ofNat i ∧ (0 : Int) = (0 : Int) ∧ (nat_lit 0 = nat_lit 0 ∧ (0 : Nat) = (0 : Nat)) ∧ (0 : Int) = (0 : Int) ∧ parentS x.snd.fst = parentS x.snd.fst ∧ l = l ∧ Int.ofNat i = Int.ofNat i ∧ (x.fst = x.fst ∧ x.snd.fst = x.snd.fst ∧ x.snd.snd.fst = x.snd.snd.fst ∧ x.snd.snd.snd.fst = x.snd.snd.snd.fst ∧ x.snd.snd.snd.snd.fst = x.snd.snd.snd.snd.fst ∧ True) ∧ (x.fst = x.fst ∧ x.snd.fst = x.snd.fst ∧ x.snd.snd.fst = x.snd.snd.fst ∧ x.snd.snd.snd.fst = x.snd.snd.snd.fst ∧ x.snd.snd.snd.snd.fst = x.snd.snd.snd.snd.fst ∧ True) ∧ (nat_lit 0 = nat_lit 0 ∧ nat_lit 1 = nat_lit 1) ∧ x.snd.fst = x.snd.fst ∧ parentS x.snd.fst = parentS x.snd.fst ∧ parentS x.snd.fst = parentS x.snd.fst ∧ (!parentS x.snd.fst == ([] : List UInt8)) = !parentS x.snd.fst == ([] : List UInt8) ∧ Int.ofNat i = Int.ofNat i ∧ decide (Int.ofNat i ≥ (16 : Int)) = decide (Int.ofNat i ≥ (16 : Int)) ∧ ((4 : Nat) = (4 : Nat) ∧ decide (Int.ofNat i ≥ (16 : Int)) = decide (Int.ofNat i ≥ (16 : Int))) ∧ ((3 : Nat) = (3 : Nat) ∧ (6 : Int) = (6 : Int)) ∧ ((4 : Nat) = (4 : Nat) ∧ true = true) ∧ (x.fst = x.fst ∧ x.snd.fst = x.snd.fst ∧ x.snd.snd.fst = x.snd.snd.fst ∧ x.snd.snd.snd.fst = x.snd.snd.snd.fst ∧ x.snd.snd.snd.snd.fst = x.snd.snd.snd.snd.fst ∧ True) ∧ decide (recFault (x.fst, x.snd.fst, x.snd.snd.fst, x.snd.snd.snd.fst, x.snd.snd.snd.snd.fst, ()) = (0 : Int)) = decide (recFault (x.fst, x.snd.fst, x.snd.snd.fst, x.snd.snd.snd.fst, x.snd.snd.snd.snd.fst, ()) = (0 : Int)) ∧ (!decide (recFault (x.fst, x.snd.fst, x.snd.snd.fst, x.snd.snd.snd.fst, x.snd.snd.snd.snd.fst, ()) = (0 : Int))) = !decide (recFault (x.fst, x.snd.fst, x.snd.snd.fst, x.snd.snd.snd.fst, x.snd.snd.snd.snd.fst, ()) = (0 : Int)) ∧ ((4 : Nat) = (4 : Nat) ∧ (!decide (recFault (x.fst, x.snd.fst, x.snd.snd.fst, x.snd.snd.snd.fst, x.snd.snd.snd.snd.fst, ()) = (0 : Int))) = !decide (recFault (x.fst, x.snd.fst, x.snd.snd.fst, x.snd.snd.snd.fst, x.snd.snd.snd.snd.fst, ()) = (0 : Int))) ∧ (x.fst = x.fst ∧ x.snd.fst = x.snd.fst ∧ x.snd.snd.fst = x.snd.snd.fst ∧ x.snd.snd.snd.fst = x.snd.snd.snd.fst ∧ x.snd.snd.snd.snd.fst = x.snd.snd.snd.snd.fst ∧ True) ∧ recFault (x.fst, x.snd.fst, x.snd.snd.fst, x.snd.snd.snd.fst, x.snd.snd.snd.snd.fst, ()) = recFault (x.fst, x.snd.fst, x.snd.snd.fst, x.snd.snd.snd.fst, x.snd.snd.snd.snd.fst, ()) ∧ ((3 : Nat) = (3 : Nat) ∧ recFault (x.fst, x.snd.fst, x.snd.snd.fst, x.snd.snd.snd.fst, x.snd.snd.snd.snd.fst, ()) = recFault (x.fst, x.snd.fst, x.snd.snd.fst, x.snd.snd.snd.fst, x.snd.snd.snd.snd.fst, ())) ∧ Int.ofNat i = Int.ofNat i ∧ decide (Int.ofNat i > (0 : Int)) = decide (Int.ofNat i > (0 : Int)) ∧ decide (Int.ofNat i > (0 : Int)) = decide (Int.ofNat i > (0 : Int)) ∧ sameB l (Int.ofNat i) = sameB l (Int.ofNat i) ∧ ((4 : Nat) = (4 : Nat) ∧ sameB l (Int.ofNat i) = sameB l (Int.ofNat i)) ∧ ((3 : Nat) = (3 : Nat) ∧ (18 : Int) = (18 : Int)) ∧ Int.ofNat i = Int.ofNat i ∧ decide (Int.ofNat i > (0 : Int)) = decide (Int.ofNat i > (0 : Int)) ∧ true = true ∧ l = l ∧ Int.ofNat i = Int.ofNat i ∧ wSub IntKind.i64 (Int.ofNat i) (1 : Int) = wSub IntKind.i64 (Int.ofNat i) (1 : Int) ∧ mm true (wSub IntKind.i64 (Int.ofNat i) (1 : Int)) (0 : Int) = mm true (wSub IntKind.i64 (Int.ofNat i) (1 : Int)) (0 : Int) ∧ (x_1.fst = x_1.fst ∧ x_1.snd.fst = x_1.snd.fst ∧ x_1.snd.snd.fst = x_1.snd.snd.fst ∧ x_1.snd.snd.snd.fst = x_1.snd.snd.snd.fst ∧ x_1.snd.snd.snd.snd.fst = x_1.snd.snd.snd.snd.fst ∧ True) ∧ (x_1.snd.fst = x_1.snd.fst ∧ x_1.snd.snd.fst = x_1.snd.snd.fst ∧ x_1.snd.snd.snd.fst = x_1.snd.snd.snd.fst ∧ x_1.snd.snd.snd.snd.fst = x_1.snd.snd.snd.snd.fst ∧ True) ∧ x_1.snd.fst = x_1.snd.fst ∧ (nat_lit 0 = nat_lit 0 ∧ nat_lit 1 = nat_lit 1) ∧ x.snd.fst = x.snd.fst ∧ pathLess x_1.snd.fst x.snd.fst = pathLess x_1.snd.fst x.snd.fst ∧ (!pathLess x_1.snd.fst x.snd.fst) = !pathLess x_1.snd.fst x.snd.fst ∧ (!pathLess x_1.snd.fst x.snd.fst) = !pathLess x_1.snd.fst x.snd.fst ∧ ((4 : Nat) = (4 : Nat) ∧ (!pathLess x_1.snd.fst x.snd.fst) = !pathLess x_1.snd.fst x.snd.fst) ∧ ((3 : Nat) = (3 : Nat) ∧ (11 : Int) = (11 : Int)) ∧ (0 : Int) = (0 : Int) ∧ decide ((0 : Int) < (0 : Int)) = decide ((0 : Int) < (0 : Int)) ∧ ((4 : Nat) = (4 : Nat) ∧ decide ((0 : Int) < (0 : Int)) = decide ((0 : Int) < (0 : Int))) ∧ ((3 : Nat) = (3 : Nat) ∧ (12 : Int) = (12 : Int)) ∧ (nat_lit 0 = nat_lit 0 ∧ nat_lit 1 = nat_lit 1) ∧ x.snd.fst = x.snd.fst ∧ parentS x.snd.fst = parentS x.snd.fst ∧ (!parentS x.snd.fst == ([] : List UInt8)) = !parentS x.snd.fst == ([] : List UInt8) ∧ false = !parentS x.snd.fst == ([] : List UInt8) ∧ false = dirB l (Int.ofNat i) ∧ ((3 : Nat) = (3 : Nat) ∧ (13 : Int) = (13 : Int)) ∧ True) ∧ ((x.fst = x.fst ∧ x.snd.fst = x.snd.fst ∧ x.snd.snd.fst = x.snd.snd.fst ∧ x.snd.snd.snd.fst = x.snd.snd.snd.fst ∧ x.snd.snd.snd.snd.fst = x.snd.snd.snd.snd.fst ∧ True) ∧ True) ∧ True)) ∧ true = true ∧ True ∧ true = true ∧ True ∧ (first (AnyV.b (decide (Int.ofNat i ≥ (16 : Int))) :: AnyV.n (6 : Int) :: AnyV.b true :: AnyV.n (first ((AnyV.b !decide (recFault (x.fst, x.snd.fst, x.snd.snd.fst, x.snd.snd.snd.fst, x.snd.snd.snd.snd.fst, ()) = (0 : Int))) :: AnyV.n (recFault (x.fst, x.snd.fst, x.snd.snd.fst, x.snd.snd.snd.fst, x.snd.snd.snd.snd.fst, ())) :: AnyV.b (sameB l (Int.ofNat i)) :: AnyV.n (18 : Int) :: (AnyV.b !pathLess x_1.snd.fst x.snd.fst) :: AnyV.n (11 : Int) :: AnyV.b (decide ((0 : Int) < (0 : Int))) :: AnyV.n (12 : Int) :: AnyV.b (dirB l (Int.ofNat i)) :: AnyV.n (13 : Int) :: ([] : List AnyV))) :: ([] : List AnyV)), ()) = (faultI l (Int.ofNat i), ()) ∧ () = ()) ∧ (decide (Int.ofNat i > (0 : Int)) = false → true = true ∧ x.snd.fst.length ≤ (100000000 : Nat) ∧ (((!parentS x.snd.fst == ([] : List UInt8)) = true → IntKind.i64 = IntKind.i64 ∧ bnd (mm true (0 : Int) (0 : Int)) (lenL l) ∧ ∀ (x_1 : Int × List UInt8 × List UInt8 × Int × Bool × Unit), nthI l (mm true (0 : Int) (0 : Int)) = some x_1 → nat_lit 1 ≤ (Nat.succ (nat_lit 1)).succ.succ.succ ∧ (l = l ∧ Int.ofNat i = Int.ofNat i ∧ (0 : Int) = (0 : Int) ∧ (nat_lit 0 = nat_lit 0 ∧ (0 : Nat) = (0 : Nat)) ∧ (0 : Int) = (0 : Int) ∧ parentS x.snd.fst = parentS x.snd.fst ∧ l = l ∧ Int.ofNat i = Int.ofNat i ∧ (x.fst = x.fst ∧ x.snd.fst = x.snd.fst ∧ x.snd.snd.fst = x.snd.snd.fst ∧ x.snd.snd.snd.fst = x.snd.snd.snd.fst ∧ x.snd.snd.snd.snd.fst = x.snd.snd.snd.snd.fst ∧ True) ∧ (x.fst = x.fst ∧ x.snd.fst = x.snd.fst ∧ x.snd.snd.fst = x.snd.snd.fst ∧ x.snd.snd.snd.fst = x.snd.snd.snd.fst ∧ x.snd.snd.snd.snd.fst = x.snd.snd.snd.snd.fst ∧ True) ∧ (nat_lit 0 = nat_lit 0 ∧ nat_lit 1 = nat_lit 1) ∧ x.snd.fst = x.snd.fst ∧ parentS x.snd.fst = parentS x.snd.fst ∧ parentS x.snd.fst = parentS x.snd.fst ∧ (!parentS x.snd.fst == ([] : List UInt8)) = !parentS x.snd.fst == ([] : List UInt8) ∧ Int.ofNat i = Int.ofNat i ∧ decide (Int.ofNat i ≥ (16 : Int)) = decide (Int.ofNat i ≥ (16 : Int)) ∧ ((4 : Nat) = (4 : Nat) ∧ decide (Int.ofNat i ≥ (16 : Int)) = decide (Int.ofNat i ≥ (16 : Int))) ∧ ((3 : Nat) = (3 : Nat) ∧ (6 : Int) = (6 : Int)) ∧ ((4 : Nat) = (4 : Nat) ∧ true = true) ∧ (x.fst = x.fst ∧ x.snd.fst = x.snd.fst ∧ x.snd.snd.fst = x.snd.snd.fst ∧ x.snd.snd.snd.fst = x.snd.snd.snd.fst ∧ x.snd.snd.snd.snd.fst = x.snd.snd.snd.snd.fst ∧ True) ∧ decide (recFault (x.fst, x.snd.fst, x.snd.snd.fst, x.snd.snd.snd.fst, x.snd.snd.snd.snd.fst, ()) = (0 : Int)) = decide (recFault (x.fst, x.snd.fst, x.snd.snd.fst, x.snd.snd.snd.fst, x.snd.snd.snd.snd.fst, ()) = (0 : Int)) ∧ (!decide (recFault (x.fst, x.snd.fst, x.snd.snd.fst, x.snd.snd.snd.fst, x.snd.snd.snd.snd.fst, ()) = (0 : Int))) = !decide (recFault (x.fst, x.snd.fst, x.snd.snd.fst, x.snd.snd.snd.fst, x.snd.snd.snd.snd.fst, ()) = (0 : Int)) ∧ ((4 : Nat) = (4 : Nat) ∧ (!decide (recFault (x.fst, x.snd.fst, x.snd.snd.fst, x.snd.snd.snd.fst, x.snd.snd.snd.snd.fst, ()) = (0 : Int))) = !decide (recFault (x.fst, x.snd.fst, x.snd.snd.fst, x.snd.snd.snd.fst, x.snd.snd.snd.snd.fst, ()) = (0 : Int))) ∧ (x.fst = x.fst ∧ x.snd.fst = x.snd.fst ∧ x.snd.snd.fst = x.snd.snd.fst ∧ x.snd.snd.snd.fst = x.snd.snd.snd.fst ∧ x.snd.snd.snd.snd.fst = x.snd.snd.snd.snd.fst ∧ True) ∧ recFault (x.fst, x.snd.fst, x.snd.snd.fst, x.snd.snd.snd.fst, x.snd.snd.snd.snd.fst, ()) = recFault (x.fst, x.snd.fst, x.snd.snd.fst, x.snd.snd.snd.fst, x.snd.snd.snd.snd.fst, ()) ∧ ((3 : Nat) = (3 : Nat) ∧ recFault (x.fst, x.snd.fst, x.snd.snd.fst, x.snd.snd.snd.fst, x.snd.snd.snd.snd.fst, ()) = recFault (x.fst, x.snd.fst, x.snd.snd.fst, x.snd.snd.snd.fst, x.snd.snd.snd.snd.fst, ())) ∧ Int.ofNat i = Int.ofNat i ∧ decide (Int.ofNat i > (0 : Int)) = decide (Int.ofNat i > (0 : Int)) ∧ decide (Int.ofNat i > (0 : Int)) = decide (Int.ofNat i > (0 : Int)) ∧ sameB l (Int.ofNat i) = sameB l (Int.ofNat i) ∧ ((4 : Nat) = (4 : Nat) ∧ sameB l (Int.ofNat i) = sameB l (Int.ofNat i)) ∧ ((3 : Nat) = (3 : Nat) ∧ (18 : Int) = (18 : Int)) ∧ Int.ofNat i = Int.ofNat i ∧ decide (Int.ofNat i > (0 : Int)) = decide (Int.ofNat i > (0 : Int)) ∧ false = false ∧ True ∧ True ∧ True ∧ True ∧ True ∧ True ∧ True ∧ True ∧ True ∧ True ∧ True ∧ false = false ∧ ((4 : Nat) = (4 : Nat) ∧ false = false) ∧ ((3 : Nat) = (3 : Nat) ∧ (11 : Int) = (11 : Int)) ∧ (0 : Int) = (0 : Int) ∧ decide ((0 : Int) < (0 : Int)) = decide ((0 : Int) < (0 : Int)) ∧ ((4 : Nat) = (4 : Nat) ∧ decide ((0 : Int) < (0 : Int)) = decide ((0 : Int) < (0 : Int))) ∧ ((3 : Nat) = (3 : Nat) ∧ (12 : Int) = (12 : Int)) ∧ (nat_lit 0 = nat_lit 0 ∧ nat_lit 1 = nat_lit 1) ∧ x.snd.fst = x.snd.fst ∧ parentS x.snd.fst = parentS x.snd.fst ∧ (!parentS x.snd.fst == ([] : List UInt8)) = !parentS x.snd.fst == ([] : List UInt8) ∧ true = !parentS x.snd.fst == ([] : List UInt8) ∧ (x_1.fst != (3 : Int)) = dirB l (Int.ofNat i) ∧ ((3 : Nat) = (3 : Nat) ∧ (13 : Int) = (13 : Int)) ∧ True) ∧ ((x.fst = x.fst ∧ x.snd.fst = x.snd.fst ∧ x.snd.snd.fst = x.snd.snd.fst ∧ x.snd.snd.snd.fst = x.snd.snd.snd.fst ∧ x.snd.snd.snd.snd.fst = x.snd.snd.snd.snd.fst ∧ True) ∧ True) ∧ True) ∧ ((!parentS x.snd.fst == ([] : List UInt8)) = false → (l = l ∧ Int.ofNat i = Int.ofNat i ∧ (0 : Int) = (0 : Int) ∧ (nat_lit 0 = nat_lit 0 ∧ (0 : Nat) = (0 : Nat)) ∧ (0 : Int) = (0 : Int) ∧ parentS x.snd.fst = parentS x.snd.fst ∧ l = l ∧ Int.ofNat i = Int.ofNat i ∧ (x.fst = x.fst ∧ x.snd.fst = x.snd.fst ∧ x.snd.snd.fst = x.snd.snd.fst ∧ x.snd.snd.snd.fst = x.snd.snd.snd.fst ∧ x.snd.snd.snd.snd.fst = x.snd.snd.snd.snd.fst ∧ True) ∧ (x.fst = x.fst ∧ x.snd.fst = x.snd.fst ∧ x.snd.snd.fst = x.snd.snd.fst ∧ x.snd.snd.snd.fst = x.snd.snd.snd.fst ∧ x.snd.snd.snd.snd.fst = x.snd.snd.snd.snd.fst ∧ True) ∧ (nat_lit 0 = nat_lit 0 ∧ nat_lit 1 = nat_lit 1) ∧ x.snd.fst = x.snd.fst ∧ parentS x.snd.fst = parentS x.snd.fst ∧ parentS x.snd.fst = parentS x.snd.fst ∧ (!parentS x.snd.fst == ([] : List UInt8)) = !parentS x.snd.fst == ([] : List UInt8) ∧ Int.ofNat i = Int.ofNat i ∧ decide (Int.ofNat i ≥ (16 : Int)) = decide (Int.ofNat i ≥ (16 : Int)) ∧ ((4 : Nat) = (4 : Nat) ∧ decide (Int.ofNat i ≥ (16 : Int)) = decide (Int.ofNat i ≥ (16 : Int))) ∧ ((3 : Nat) = (3 : Nat) ∧ (6 : Int) = (6 : Int)) ∧ ((4 : Nat) = (4 : Nat) ∧ true = true) ∧ (x.fst = x.fst ∧ x.snd.fst = x.snd.fst ∧ x.snd.snd.fst = x.snd.snd.fst ∧ x.snd.snd.snd.fst = x.snd.snd.snd.fst ∧ x.snd.snd.snd.snd.fst = x.snd.snd.snd.snd.fst ∧ True) ∧ decide (recFault (x.fst, x.snd.fst, x.snd.snd.fst, x.snd.snd.snd.fst, x.snd.snd.snd.snd.fst, ()) = (0 : Int)) = decide (recFault (x.fst, x.snd.fst, x.snd.snd.fst, x.snd.snd.snd.fst, x.snd.snd.snd.snd.fst, ()) = (0 : Int)) ∧ (!decide (recFault (x.fst, x.snd.fst, x.snd.snd.fst, x.snd.snd.snd.fst, x.snd.snd.snd.snd.fst, ()) = (0 : Int))) = !decide (recFault (x.fst, x.snd.fst, x.snd.snd.fst, x.snd.snd.snd.fst, x.snd.snd.snd.snd.fst, ()) = (0 : Int)) ∧ ((4 : Nat) = (4 : Nat) ∧ (!decide (recFault (x.fst, x.snd.fst, x.snd.snd.fst, x.snd.snd.snd.fst, x.snd.snd.snd.snd.fst, ()) = (0 : Int))) = !decide (recFault (x.fst, x.snd.fst, x.snd.snd.fst, x.snd.snd.snd.fst, x.snd.snd.snd.snd.fst, ()) = (0 : Int))) ∧ (x.fst = x.fst ∧ x.snd.fst = x.snd.fst ∧ x.snd.snd.fst = x.snd.snd.fst ∧ x.snd.snd.snd.fst = x.snd.snd.snd.fst ∧ x.snd.snd.snd.snd.fst = x.snd.snd.snd.snd.fst ∧ True) ∧ recFault (x.fst, x.snd.fst, x.snd.snd.fst, x.snd.snd.snd.fst, x.snd.snd.snd.snd.fst, ()) = recFault (x.fst, x.snd.fst, x.snd.snd.fst, x.snd.snd.snd.fst, x.snd.snd.snd.snd.fst, ()) ∧ ((3 : Nat) = (3 : Nat) ∧ recFault (x.fst, x.snd.fst, x.snd.snd.fst, x.snd.snd.snd.fst, x.snd.snd.snd.snd.fst, ()) = recFault (x.fst, x.snd.fst, x.snd.snd.fst, x.snd.snd.snd.fst, x.snd.snd.snd.snd.fst, ())) ∧ Int.ofNat i = Int.ofNat i ∧ decide (Int.ofNat i > (0 : Int)) = decide (Int.ofNat i > (0 : Int)) ∧ decide (Int.ofNat i > (0 : Int)) = decide (Int.ofNat i > (0 : Int)) ∧ sameB l (Int.ofNat i) = sameB l (Int.ofNat i) ∧ ((4 : Nat) = (4 : Nat) ∧ sameB l (Int.ofNat i) = sameB l (Int.ofNat i)) ∧ ((3 : Nat) = (3 : Nat) ∧ (18 : Int) = (18 : Int)) ∧ Int.ofNat i = Int.ofNat i ∧ decide (Int.ofNat i > (0 : Int)) = decide (Int.ofNat i > (0 : Int)) ∧ false = false ∧ True ∧ True ∧ True ∧ True ∧ True ∧ True ∧ True ∧ True ∧ True ∧ True ∧ True ∧ false = false ∧ ((4 : Nat) = (4 : Nat) ∧ false = false) ∧ ((3 : Nat) = (3 : Nat) ∧ (11 : Int) = (11 : Int)) ∧ (0 : Int) = (0 : Int) ∧ decide ((0 : Int) < (0 : Int)) = decide ((0 : Int) < (0 : Int)) ∧ ((4 : Nat) = (4 : Nat) ∧ decide ((0 : Int) < (0 : Int)) = decide ((0 : Int) < (0 : Int))) ∧ ((3 : Nat) = (3 : Nat) ∧ (12 : Int) = (12 : Int)) ∧ (nat_lit 0 = nat_lit 0 ∧ nat_lit 1 = nat_lit 1) ∧ x.snd.fst = x.snd.fst ∧ parentS x.snd.fst = parentS x.snd.fst ∧ (!parentS x.snd.fst == ([] : List UInt8)) = !parentS x.snd.fst == ([] : List UInt8) ∧ false = !parentS x.snd.fst == ([] : List UInt8) ∧ false = dirB l (Int.ofNat i) ∧ ((3 : Nat) = (3 : Nat) ∧ (13 : Int) = (13 : Int)) ∧ True) ∧ ((x.fst = x.fst ∧ x.snd.fst = x.snd.fst ∧ x.snd.snd.fst = x.snd.snd.fst ∧ x.snd.snd.snd.fst = x.snd.snd.snd.fst ∧ x.snd.snd.snd.snd.fst = x.snd.snd.snd.snd.fst ∧ True) ∧ True) ∧ True)) ∧ true = true ∧ True ∧ true = true ∧ True ∧ (first (AnyV.b (decide (Int.ofNat i ≥ (16 : Int))) :: AnyV.n (6 : Int) :: AnyV.b true :: AnyV.n (first ((AnyV.b !decide (recFault (x.fst, x.snd.fst, x.snd.snd.fst, x.snd.snd.snd.fst, x.snd.snd.snd.snd.fst, ()) = (0 : Int))) :: AnyV.n (recFault (x.fst, x.snd.fst, x.snd.snd.fst, x.snd.snd.snd.fst, x.snd.snd.snd.snd.fst, ())) :: AnyV.b (sameB l (Int.ofNat i)) :: AnyV.n (18 : Int) :: AnyV.b false :: AnyV.n (11 : Int) :: AnyV.b (decide ((0 : Int) < (0 : Int))) :: AnyV.n (12 : Int) :: AnyV.b (dirB l (Int.ofNat i)) :: AnyV.n (13 : Int) :: ([] : List AnyV))) :: ([] : List AnyV)), ()) = (faultI l (Int.ofNat i), ()) ∧ () = ()))) (by kernel_rfl) ?_
  simp only [Nat.le_refl, Nat.succ_eq_add_one, Nat.reduceAdd, Nat.reduceLeDiff, Nat.zero_le, pair_unit, mk_eta, len_bne, eqD_bne, bne_iff_ne, bne_eq_false_iff_eq, beq_iff_eq, beq_eq_false_iff_ne, true_and, and_true, and_self, eq_self, lt_iff, nthI_nat, bnd_iff, decide_eq_true_eq, decide_eq_false_iff_not, Nat.sub_eq, nz, ne_eq, not_false_eq_true, Prod.mk.injEq, Int.reduceEq, Nat.reduceEqDiff, forall_const, implies_true, bne_self_eq_false, Bool.true_eq_false, Bool.false_eq_true, false_implies, reduceCtorEq, Bool.not_true, Bool.not_false, List.all_cons, List.all_nil, Bool.and_true, Bool.not_eq_true, Bool.not_eq_false, Bool.not_eq_true', Bool.not_eq_false', Decidable.not_not]; try simp only [lenL]
  have hl : okL l := hl
  have hi : i < List.length l := hi
  refine ⟨hi, fun x hx => ?_⟩
  have hlx := hl x (List.mem_of_getElem? hx)
  have hA : (Int.ofNat i > 0 → bnd (mm true (wSub .i64 (Int.ofNat i) 1) 0) (List.length l) ∧ ∀ y, nthI l (mm true (wSub .i64 (Int.ofNat i) 1) 0) = some y → true = decide (Int.ofNat i > 0) ∧ (y.2.1 == x.2.1) = sameB l (Int.ofNat i)) ∧ (¬ Int.ofNat i > 0 → false = decide (Int.ofNat i > 0) ∧ false = sameB l (Int.ofNat i)) := by
    refine ⟨fun h0 => ?_, fun h0 => ⟨(decide_eq_false h0).symm, same_no h0⟩⟩
    rw [ms1 h0 hb]
    exact ⟨bnd_nat (by omega), fun y hy => ⟨(decide_eq_true h0).symm, (same_at h0 hx hy).2⟩⟩
  refine ⟨hlx, fun hp => ⟨⟨Int.natCast_nonneg _, Int.ofNat_le.2 (Nat.le_of_lt hi)⟩, hlx, hlx, hA, ?_, ?_⟩, fun hp => ⟨hlx, hlx, hA, ?_, ?_⟩⟩
  · intro h0
    rw [ms1 h0 hb]
    refine ⟨bnd_nat (by omega), fun y hy => ⟨⟨hl y (List.mem_of_getElem? hy), hlx⟩, hlx, ⟨fun _ => ?_, fun h => absurd h hp⟩, fa_first hx (order_at h0 hx hy) (up_some hx hp)⟩⟩
    rw [up_some hx hp]
    exact dir_any hi hx hp
  · intro h0
    refine ⟨hlx, ⟨fun _ => ?_, fun h => absurd h hp⟩, fa_first hx (order_no h0) (up_some hx hp)⟩
    rw [up_some hx hp]
    exact dir_any hi hx hp
  · intro h0
    rw [ms1 h0 hb]
    exact ⟨bnd_nat (by omega), fun y hy => ⟨⟨hl y (List.mem_of_getElem? hy), hlx⟩, hlx, ⟨fun h => absurd hp h, fun _ => ⟨by rw [hp]; rfl, (dir_none hx hp).symm⟩⟩, fa_first hx (order_at h0 hx hy) (up_none hx hp).symm⟩⟩
  · intro h0
    exact ⟨hlx, ⟨fun h => absurd hp h, fun _ => ⟨by rw [hp]; rfl, (dir_none hx hp).symm⟩⟩, fa_first hx (order_no h0) (up_none hx hp).symm⟩
end Go.Proofs.YtnoeclpdijlheaaDoor
namespace Go.Proofs.YtnoeclpdijlheaaDoor
open Go.Ab Go.Fn
def s_layF : FSpec := { ps := [.v (.slice tRec)], rs := [.v I, .v I], pre := fun x => okL x.1, fn := fun x => (Fn.layN x.1, Fn.layC x.1, ()), upd := fun _ => () }
def L_l03Fault (l : List Rec) : LoopAnn := { ι := Nat, inv := fun k => Fn.OKto l k, slots := fun k => [(4, .d I (Int.ofNat k))], objs := fun _ => [], μ := fun k => l.length - k }
theorem fo_l03Fault : FO 68 s_layF := by
  refine fo (specs := [(43, s_fault), (85, s_l01Less), (86, s_parent), (87, s_find)]) (clos := []) (fun x => [(2, .lv [0, 4] <| fun _ => L_l03Fault x.1), (1000009, .lv [0, 4, 41] <| .ofCut fun s => [(41, .d .bool (Fn.sameB x.1 (s.tI 4)))]), (1000011, .lv [0, 4, 59] <| .ofCut fun s => [(59, .d .bool (Fn.unlessB x.1 (s.tI 4)))])]) ⟨fo_l02Fault, fo_l01Less, fo_l01Parent, fo_l03At, trivial⟩ trivial Tryd.func68 rfl rfl ?_
  rintro ⟨l, ⟨⟩⟩ hl
  refine vcOf ((∃ (i : Nat), OKto l i ∧ (l = l ∧ (0 : Int) = Int.ofNat i ∧ True) ∧ True ∧ True) ∧ ∀ (i : Nat), OKto l i → fits (lenL l) → (decide (Int.ofNat i < iOf (lenL l)) = true → ((Int.ofNat i == (16 : Int)) = true → (Int.ofNat i, (6 : Int), ()) = (layN l, layC l, ()) ∧ () = ()) ∧ ((Int.ofNat i == (16 : Int)) = false → bnd (Int.ofNat i) (lenL l) ∧ ∀ (x : Int × List UInt8 × List UInt8 × Int × Bool × Unit), nthI l (Int.ofNat i) = some x → nat_lit 5 ≤ (Nat.succ (nat_lit 1)).succ.succ.succ ∧ true = true ∧ x.snd.fst.length ≤ (100000000 : Nat) ∧ ((recFault (x.fst, x.snd.fst, x.snd.snd.fst, x.snd.snd.snd.fst, x.snd.snd.snd.snd.fst, ()) != (0 : Int)) = true → (Int.ofNat i, recFault (x.fst, x.snd.fst, x.snd.snd.fst, x.snd.snd.snd.fst, x.snd.snd.snd.snd.fst, ()), ()) = (layN l, layC l, ()) ∧ () = ()) ∧ ((recFault (x.fst, x.snd.fst, x.snd.snd.fst, x.snd.snd.snd.fst, x.snd.snd.snd.snd.fst, ()) != (0 : Int)) = false → ((decide (Int.ofNat i > (0 : Int)) = true → bnd (Int.ofNat i) (lenL l) ∧ ∀ (x : Int × List UInt8 × List UInt8 × Int × Bool × Unit), nthI l (Int.ofNat i) = some x → nat_lit 1 ≤ (Nat.succ (nat_lit 1)).succ.succ ∧ bnd (wSub IntKind.i64 (Int.ofNat i) (1 : Int)) (lenL l) ∧ ∀ (x_1 : Int × List UInt8 × List UInt8 × Int × Bool × Unit), nthI l (wSub IntKind.i64 (Int.ofNat i) (1 : Int)) = some x_1 → nat_lit 1 ≤ (Nat.succ (nat_lit 1)).succ.succ ∧ (l = l ∧ Int.ofNat i = Int.ofNat i ∧ (x.snd.fst == x_1.snd.fst) = sameB l (Int.ofNat i) ∧ True) ∧ True ∧ True) ∧ (decide (Int.ofNat i > (0 : Int)) = false → (l = l ∧ Int.ofNat i = Int.ofNat i ∧ false = sameB l (Int.ofNat i) ∧ True) ∧ True ∧ True)) ∧ (sameB l (Int.ofNat i) = true → (Int.ofNat i, (18 : Int), ()) = (layN l, layC l, ()) ∧ () = ()) ∧ (sameB l (Int.ofNat i) = false → ((decide (Int.ofNat i > (0 : Int)) = true → bnd (wSub IntKind.i64 (Int.ofNat i) (1 : Int)) (lenL l) ∧ ∀ (x : Int × List UInt8 × List UInt8 × Int × Bool × Unit), nthI l (wSub IntKind.i64 (Int.ofNat i) (1 : Int)) = some x → nat_lit 1 ≤ (Nat.succ (nat_lit 1)).succ.succ ∧ bnd (Int.ofNat i) (lenL l) ∧ ∀ (x_1 : Int × List UInt8 × List UInt8 × Int × Bool × Unit), nthI l (Int.ofNat i) = some x_1 → nat_lit 1 ≤ (Nat.succ (nat_lit 1)).succ.succ ∧ true = true ∧ (x.snd.fst.length ≤ (100000000 : Nat) ∧ x_1.snd.fst.length ≤ (100000000 : Nat)) ∧ (l = l ∧ Int.ofNat i = Int.ofNat i ∧ (!lessL (split (47 : UInt8) x.snd.fst) (split (47 : UInt8) x_1.snd.fst)) = unlessB l (Int.ofNat i) ∧ True) ∧ True ∧ True) ∧ (decide (Int.ofNat i > (0 : Int)) = false → (l = l ∧ Int.ofNat i = Int.ofNat i ∧ false = unlessB l (Int.ofNat i) ∧ True) ∧ True ∧ True)) ∧ (unlessB l (Int.ofNat i) = true → (Int.ofNat i, (11 : Int), ()) = (layN l, layC l, ()) ∧ () = ()) ∧ (unlessB l (Int.ofNat i) = false → bnd (Int.ofNat i) (lenL l) ∧ ∀ (x : Int × List UInt8 × List UInt8 × Int × Bool × Unit), nthI l (Int.ofNat i) = some x → nat_lit 1 ≤ (Nat.succ (nat_lit 1)).succ.succ ∧ true = true ∧ x.snd.fst.length ≤ (100000000 : Nat) ∧ ((parentS x.snd.fst == ([] : List UInt8)) = true → ∃ (j : Nat), OKto l j ∧ (List.length l).sub j < (List.length l).sub i ∧ (l = l ∧ wAdd IntKind.i64 (Int.ofNat i) (1 : Int) = Int.ofNat j ∧ True) ∧ True ∧ True) ∧ ((parentS x.snd.fst == ([] : List UInt8)) = false → boundLo (Int.ofNat i) (lenL l) ∧ true = true ∧ True ∧ (decide (idx (atPath (parentS x.snd.fst)) (subL l (0 : Nat) (tN (Int.ofNat i))) < (0 : Int)) = true → (Int.ofNat i, (12 : Int), ()) = (layN l, layC l, ()) ∧ () = ()) ∧ (decide (idx (atPath (parentS x.snd.fst)) (subL l (0 : Nat) (tN (Int.ofNat i))) < (0 : Int)) = false → bnd (idx (atPath (parentS x.snd.fst)) (subL l (0 : Nat) (tN (Int.ofNat i)))) (lenL l) ∧ ∀ (x_1 : Int × List UInt8 × List UInt8 × Int × Bool × Unit), nthI l (idx (atPath (parentS x.snd.fst)) (subL l (0 : Nat) (tN (Int.ofNat i)))) = some x_1 → nat_lit 1 ≤ (Nat.succ (nat_lit 1)).succ.succ.succ ∧ ((x_1.fst != (3 : Int)) = true → (Int.ofNat i, (13 : Int), ()) = (layN l, layC l, ()) ∧ () = ()) ∧ ((x_1.fst != (3 : Int)) = false → ∃ (j : Nat), OKto l j ∧ (List.length l).sub j < (List.length l).sub i ∧ (l = l ∧ wAdd IntKind.i64 (Int.ofNat i) (1 : Int) = Int.ofNat j ∧ True) ∧ True ∧ True)))))))) ∧ (decide (Int.ofNat i < iOf (lenL l)) = false → ((0 : Int), (0 : Int), ()) = (layN l, layC l, ()) ∧ () = ())) (by kernel_rfl) ?_
  simp only [Nat.le_refl, Nat.succ_eq_add_one, Nat.reduceAdd, Nat.reduceLeDiff, Nat.zero_le, pair_unit, mk_eta, len_bne, eqD_bne, bne_iff_ne, bne_eq_false_iff_eq, beq_iff_eq, beq_eq_false_iff_ne, true_and, and_true, and_self, eq_self, lt_iff, nthI_nat, bnd_iff, decide_eq_true_eq, decide_eq_false_iff_not, Nat.sub_eq, nz, ne_eq, not_false_eq_true, Prod.mk.injEq, Int.reduceEq, Nat.reduceEqDiff, forall_const, implies_true, bne_self_eq_false, Bool.true_eq_false, Bool.false_eq_true, false_implies, reduceCtorEq, Bool.not_true, Bool.not_false, List.all_cons, List.all_nil, Bool.and_true, Bool.not_eq_true, Bool.not_eq_false, Bool.not_eq_true', Bool.not_eq_false', Decidable.not_not]; try simp only [lenL]
  have hl : okL l := hl
  refine ⟨⟨0, ok0 l, rfl⟩, fun i h hf => ⟨fun hi => ⟨fun h16 => lay_c h hi (fa_16 (Nat.le_of_eq (Int.ofNat.inj h16).symm)) (by decide), fun h16 => ⟨hi, fun x hx => ⟨hl x (List.mem_of_getElem? hx), ?_⟩⟩⟩, fun he => lay_end h he⟩⟩
  have hlt := ok_16 h h16
  have ex := recAt_at hx
  refine ⟨fun hr => lay_c h hi (by rw [fa_rec hlt (by rw [ex]; exact hr), ex]) hr, fun hr => ?_⟩
  have hr' : recFault (recAt l i) = 0 := by rw [ex]; exact hr
  refine ⟨⟨fun hp => ⟨hi, fun x' hx' => ?_⟩, fun hn => same_no hn⟩, fun hs => lay_c h hi (fa_18 hlt hr' hs) (by decide), fun hs => ⟨⟨fun hp => ?_, fun hn => unless_no hn⟩, fun ho => lay_c h hi (fa_11 hlt hr' hs (by rw [order_eq h hr']; exact ho)) (by decide), fun ho => ⟨hi, fun x' hx' => ?_⟩⟩⟩
  · rw [ws1 hp hi hf]
    exact ⟨bnd_nat (by omega), fun y hy => (same_at hp hx' hy).1⟩
  · rw [ws1 hp hi hf]
    exact ⟨bnd_nat (by omega), fun y hy => ⟨hi, fun x' hx' => ⟨⟨hl y (List.mem_of_getElem? hy), hl x' (List.mem_of_getElem? hx')⟩, unless_at hp hx' hy⟩⟩⟩
  · have ho' : orderB l (Int.ofNat i) = false := by rw [order_eq h hr']; exact ho
    refine ⟨hl x' (List.mem_of_getElem? hx'), fun hp => ?_, fun hp => ⟨⟨Int.natCast_nonneg _, Int.ofNat_le.2 (Nat.le_of_lt hi)⟩, ?_⟩⟩
    · exact ⟨i + 1, ok_step h hi (fa_0 hlt hr' hs ho' (by rw [up_none hx' hp]; decide) (dir_none hx' hp)), Nat.sub_lt_sub_left hi (Nat.lt_succ_self i), inc_in hf h.1⟩
    · rw [up_some hx' hp]
      refine ⟨fun hu => lay_c h hi (fa_12 hlt hr' hs ho' hu) (by decide), fun hu => ⟨⟨by omega, up_lt hi⟩, fun z hz => ⟨fun hk => lay_c h hi (fa_13 hlt hr' hs ho' hu (by rw [dir_some hx' hp hu hz]; simp [hk])) (by decide), fun hk => ⟨i + 1, ok_step h hi (fa_0 hlt hr' hs ho' hu (by rw [dir_some hx' hp hu hz]; simp [hk])), Nat.sub_lt_sub_left hi (Nat.lt_succ_self i), inc_in hf h.1⟩⟩⟩⟩
end Go.Proofs.YtnoeclpdijlheaaDoor
namespace Go.Proofs.YtnoeclpdijlheaaDoor
open Go.Ab Go.Fn
def L_fault (l : List Rec) : LoopAnn := { ι := Nat, inv := fun k => Fn.OKto l k, slots := fun k => [(8, .d I (Int.ofNat k))], objs := fun _ => [], μ := fun k => l.length - k }
theorem fo_fault : FO 92 s_layF := by
  refine fo (specs := [(71, s_faultAt)]) (clos := []) (fun x => [(2, .lv [0, 7, 8] <| fun _ => L_fault x.1)]) ⟨fo_faultAt, trivial⟩ trivial Tryd.func92 rfl rfl ?_
  rintro ⟨l, ⟨⟩⟩ hl
  refine vcOf (fits (lenL l) → (∃ (i : Nat), OKto l i ∧ (l = l ∧ iOf (lenL l) = iOf (lenL l) ∧ (0 : Int) = Int.ofNat i ∧ True) ∧ True ∧ True) ∧ ∀ (i : Nat), OKto l i → (decide (Int.ofNat i < iOf (lenL l)) = true → true = true ∧ (okL l ∧ ∃ (k : Nat), Int.ofNat i = Int.ofNat k ∧ k < List.length l ∧ k < (1099511627776 : Nat)) ∧ ((faultI l (Int.ofNat i) != (0 : Int)) = true → (Int.ofNat i, faultI l (Int.ofNat i), ()) = (layN l, layC l, ()) ∧ () = ()) ∧ ((faultI l (Int.ofNat i) != (0 : Int)) = false → ∃ (j : Nat), OKto l j ∧ (List.length l).sub j < (List.length l).sub i ∧ (l = l ∧ iOf (lenL l) = iOf (lenL l) ∧ wAdd IntKind.i64 (Int.ofNat i) (1 : Int) = Int.ofNat j ∧ True) ∧ True ∧ True)) ∧ (decide (Int.ofNat i < iOf (lenL l)) = false → ((0 : Int), (0 : Int), ()) = (layN l, layC l, ()) ∧ () = ())) (by kernel_rfl) ?_
  simp only [Nat.le_refl, Nat.succ_eq_add_one, Nat.reduceAdd, Nat.reduceLeDiff, Nat.zero_le, pair_unit, mk_eta, len_bne, eqD_bne, bne_iff_ne, bne_eq_false_iff_eq, beq_iff_eq, beq_eq_false_iff_ne, true_and, and_true, and_self, eq_self, lt_iff, nthI_nat, bnd_iff, decide_eq_true_eq, decide_eq_false_iff_not, Nat.sub_eq, nz, ne_eq, not_false_eq_true, Prod.mk.injEq, Int.reduceEq, Nat.reduceEqDiff, forall_const, implies_true, bne_self_eq_false, Bool.true_eq_false, Bool.false_eq_true, false_implies, reduceCtorEq, Bool.not_true, Bool.not_false, List.all_cons, List.all_nil, Bool.and_true, Bool.not_eq_true, Bool.not_eq_false, Bool.not_eq_true', Bool.not_eq_false', Decidable.not_not]; try simp only [lenL]
  have hl : okL l := hl
  refine fun hf => ⟨⟨0, ok0 l, rfl⟩, fun i h => ⟨fun hi => ⟨⟨hl, i, rfl, hi, Nat.lt_trans hi hf⟩, fun hn => lay_c h hi rfl hn, fun h0 => ⟨i + 1, ok_step h hi h0, Nat.sub_lt_sub_left hi (Nat.lt_succ_self i), inc_in hf h.1⟩⟩, fun he => lay_end h he⟩⟩
end Go.Proofs.YtnoeclpdijlheaaDoor
namespace Go.Fn
open Go.Ab
def stepBad (t : List UInt8) (k : Nat) : Bool := decide (decL (t.drop k) = 0) || decide (t.length < k + decL (t.drop k) + 2)
def stepSum (t : List UInt8) (k : Nat) : Bool := decide (subL t (k + decL (t.drop k)) (k + decL (t.drop k) + 2) = two (sum (subL t k (k + decL (t.drop k)))))
def readL (t : List UInt8) : Nat → List Rec → Nat → List Rec × Int × Int
  | 0, out, k => if ¬ t.length = k + 2 then ([], Int.ofNat k, 3) else if ¬ t.drop k = two (sum (t.take k)) then ([], Int.ofNat k, 15) else (out, 0, 0)
  | n + 1, out, k => if stepBad t k = true then ([], Int.ofNat k, 3) else if stepSum t k = false then ([], Int.ofNat k, 15)
    else if ¬ faultAt (out ++ [decR (t.drop k)]) out.length = 0 then ([], Int.ofNat k, faultAt (out ++ [decR (t.drop k)]) out.length)
    else readL t n (out ++ [decR (t.drop k)]) (k + decL (t.drop k) + 2)
def headBad (t : List UInt8) : Bool := decide (t.length < 4) || !(hasPre t [76, 89, 82])
def whole (t : List UInt8) : List Rec × Int × Int := if headBad t = true then ([], 0, 3) else readL t (byteN t 3) [] 4
def wholeL (t : List UInt8) : List Rec := (whole t).1
def wholeN (t : List UInt8) : Int := (whole t).2.1
def wholeC (t : List UInt8) : Int := (whole t).2.2
def RInv (t : List UInt8) (q : List Rec × Nat × Nat) : Prop := q.2.1 ≤ t.length ∧ readL t q.2.2 q.1 q.2.1 = whole t ∧ OKto q.1 q.1.length ∧ q.1.length + q.2.2 = byteN t 3 ∧ okL q.1
theorem wh_head {t : List UInt8} (h : headBad t = true) : [] = wholeL t ∧ 0 = wholeN t ∧ 3 = wholeC t := by
  unfold wholeL wholeN wholeC whole; rw [if_pos h]; exact ⟨rfl, rfl, rfl⟩
theorem head_a {t : List UInt8} (h : iOf t.length < 4) : headBad t = true := by
  have h : (t.length : Int) < 4 := h
  unfold headBad; rw [decide_eq_true (p := t.length < 4) (by omega)]; rfl
theorem take3 {t : List UInt8} : subL t 0 (tN 3) = t.take 3 := rfl
theorem head_b {t : List UInt8} (h : ¬ subL t 0 (tN 3) = [76, 89, 82]) : headBad t = true := by
  rw [take3] at h
  unfold headBad hasPre
  have : ¬ t.take [(76 : UInt8), 89, 82].length = [76, 89, 82] := h
  rw [decide_eq_false this, Bool.and_false]
  simp
theorem head_no {t : List UInt8} (h : ¬ iOf t.length < 4) (h2 : subL t 0 (tN 3) = [76, 89, 82]) : headBad t = false := by
  have h : ¬ (t.length : Int) < 4 := h
  rw [take3] at h2
  unfold headBad hasPre
  have : t.take [(76 : UInt8), 89, 82].length = [76, 89, 82] := h2
  rw [decide_eq_true this, decide_eq_false (p := t.length < 4) (by omega), decide_eq_true (p := [(76 : UInt8), 89, 82].length ≤ t.length) (by show 3 ≤ t.length; omega)]
  rfl
theorem head_len {t : List UInt8} (h : headBad t = false) : 4 ≤ t.length := by
  unfold headBad at h
  simp only [Bool.or_eq_false_iff, decide_eq_false_iff_not] at h
  omega
theorem r_start {t : List UInt8} (h : headBad t = false) : RInv t ([], 4, byteN t 3) :=
  ⟨head_len h, by unfold whole; rw [if_neg (by rw [h]; exact Bool.false_ne_true)], ⟨Nat.le_refl _, fun j hj => absurd hj (Nat.not_lt_zero _)⟩, Nat.zero_add _, fun r hr => by cases hr⟩
theorem wh_of {t : List UInt8} {a : List Rec × Int × Int} (h : a = whole t) : a.1 = wholeL t ∧ a.2.1 = wholeN t ∧ a.2.2 = wholeC t := by subst h; exact ⟨rfl, rfl, rfl⟩
theorem readL_succ (t : List UInt8) (n : Nat) (out : List Rec) (k : Nat) : readL t (n + 1) out k = if stepBad t k = true then ([], Int.ofNat k, 3) else if stepSum t k = false then ([], Int.ofNat k, 15)
    else if ¬ faultAt (out ++ [decR (t.drop k)]) out.length = 0 then ([], Int.ofNat k, faultAt (out ++ [decR (t.drop k)]) out.length)
    else readL t n (out ++ [decR (t.drop k)]) (k + decL (t.drop k) + 2) := rfl
theorem wh_a {t : List UInt8} {out : List Rec} {k n : Nat} (h : RInv t (out, k, n + 1)) (hb : stepBad t k = true) : [] = wholeL t ∧ Int.ofNat k = wholeN t ∧ 3 = wholeC t := by
  have e : readL t (n + 1) out k = whole t := h.2.1
  rw [readL_succ, if_pos hb] at e
  exact wh_of e
theorem wh_b {t : List UInt8} {out : List Rec} {k n : Nat} (h : RInv t (out, k, n + 1)) (hb : ¬ stepBad t k = true) (hs : stepSum t k = false) : [] = wholeL t ∧ Int.ofNat k = wholeN t ∧ 15 = wholeC t := by
  have e : readL t (n + 1) out k = whole t := h.2.1
  rw [readL_succ, if_neg hb, if_pos hs] at e
  exact wh_of e
theorem wh_c {t : List UInt8} {out : List Rec} {k n : Nat} {c : Int} (h : RInv t (out, k, n + 1)) (hb : ¬ stepBad t k = true) (hs : ¬ stepSum t k = false) (hc : faultAt (out ++ [decR (t.drop k)]) out.length = c) (hn : ¬ c = 0) : [] = wholeL t ∧ Int.ofNat k = wholeN t ∧ c = wholeC t := by
  have e : readL t (n + 1) out k = whole t := h.2.1
  rw [readL_succ, if_neg hb, if_neg hs, hc, if_pos hn] at e
  exact wh_of e
theorem recAt_pre {out : List Rec} {r : Rec} {j : Nat} (hj : j < out.length) : recAt (out ++ [r]) j = recAt out j := by
  unfold recAt
  rw [List.getD_eq_getElem?_getD, List.getD_eq_getElem?_getD, List.getElem?_append_left hj]
theorem up_pre {out : List Rec} {r : Rec} {j : Nat} (hj : j < out.length) : upOf (out ++ [r]) j = upOf out j := by
  unfold upOf
  rw [recAt_pre hj, List.take_append_of_le_length (Nat.le_of_lt hj)]
theorem fa_pre {out : List Rec} {r : Rec} {j : Nat} (hj : j < out.length) : faultAt (out ++ [r]) j = faultAt out j := by
  have h1 : recAt (out ++ [r]) (j - 1) = recAt out (j - 1) := recAt_pre (by omega)
  have h2 := recAt_pre (r := r) hj
  have h3 := up_pre (r := r) hj
  have h4 : recAt (out ++ [r]) (upOf out j).toNat = recAt out (upOf out j).toNat := recAt_pre (by have := up_lt hj; omega)
  unfold faultAt sameB orderB dirB
  simp only [show (Int.ofNat j).toNat = j from rfl, h1, h2, h3, h4]
theorem ok_pre {out : List Rec} {r : Rec} (h : OKto out out.length) : OKto (out ++ [r]) out.length :=
  ⟨by simp, fun j hj => by rw [fa_pre hj]; exact h.2 j hj⟩
theorem wh_step {t : List UInt8} {out : List Rec} {k n : Nat} (h : RInv t (out, k, n + 1)) (ht : t.length ≤ 100000000) (hb : ¬ stepBad t k = true) (hs : ¬ stepSum t k = false) (hc : faultAt (out ++ [decR (t.drop k)]) out.length = 0) : RInv t (out ++ [decR (t.drop k)], k + decL (t.drop k) + 2, n) := by
  obtain ⟨h1, e, h3, h4, h5⟩ := h
  have e : readL t (n + 1) out k = whole t := e
  rw [readL_succ, if_neg hb, if_neg hs, if_neg (not_not_intro hc)] at e
  have h4 : out.length + (n + 1) = byteN t 3 := h4
  have hb' : ¬ t.length < k + decL (t.drop k) + 2 := by
    intro hlt
    apply hb
    unfold stepBad
    rw [decide_eq_true hlt]; simp
  refine ⟨?_, e, ?_, ?_, ?_⟩
  · show k + decL (t.drop k) + 2 ≤ t.length
    omega
  · have := ok_step (ok_pre (r := decR (t.drop k)) h3) (by simp) hc
    simpa using this
  · show (out ++ [decR (t.drop k)]).length + n = byteN t 3
    simp; omega
  · intro r hr
    rcases List.mem_append.1 hr with hr | hr
    · exact h5 r hr
    · rw [List.mem_singleton.1 hr]
      have := decR_path (t.drop k)
      simp at this
      omega
theorem okL_snoc {t : List UInt8} {out : List Rec} {k n : Nat} (h : RInv t (out, k, n)) (ht : t.length ≤ 100000000) : okL (out ++ [decR (t.drop k)]) := by
  intro r hr
  rcases List.mem_append.1 hr with hr | hr
  · exact h.2.2.2.2 r hr
  · rw [List.mem_singleton.1 hr]
    have := decR_path (t.drop k)
    simp at this
    omega
theorem wh_e1 {t : List UInt8} {out : List Rec} {k : Nat} (h : RInv t (out, k, 0)) (h1 : ¬ t.length = k + 2) : [] = wholeL t ∧ Int.ofNat k = wholeN t ∧ 3 = wholeC t := by
  have e : readL t 0 out k = whole t := h.2.1
  unfold readL at e
  rw [if_pos h1] at e
  exact wh_of e
theorem wh_e2 {t : List UInt8} {out : List Rec} {k : Nat} (h : RInv t (out, k, 0)) (h1 : t.length = k + 2) (h2 : ¬ t.drop k = two (sum (t.take k))) : [] = wholeL t ∧ Int.ofNat k = wholeN t ∧ 15 = wholeC t := by
  have e : readL t 0 out k = whole t := h.2.1
  unfold readL at e
  rw [if_neg (not_not_intro h1), if_pos h2] at e
  exact wh_of e
theorem wh_e3 {t : List UInt8} {out : List Rec} {k : Nat} (h : RInv t (out, k, 0)) (h1 : t.length = k + 2) (h2 : t.drop k = two (sum (t.take k))) : out = wholeL t ∧ 0 = wholeN t ∧ 0 = wholeC t := by
  have e : readL t 0 out k = whole t := h.2.1
  unfold readL at e
  rw [if_neg (not_not_intro h1), if_neg (not_not_intro h2)] at e
  exact wh_of e
theorem decL_le (t : List UInt8) : decL t ≤ t.length := by
  unfold decL
  split
  · omega
  · split
    · omega
    · split <;> omega
theorem sub_all {α : Type} {l : List α} {k : Nat} : subL l k l.length = l.drop k := by unfold subL; rw [List.take_length]
theorem sum_two {t : List UInt8} : (0 : Int) ≤ sum t ∧ sum t < 65536 := ⟨(sum_range t).1, Int.lt_trans (sum_range t).2 (by decide)⟩
theorem lay_last {l : List Rec} {r : Rec} (h : OKto l l.length) : (¬ layC (l ++ [r]) = 0 → layN (l ++ [r]) = Int.ofNat l.length ∧ faultAt (l ++ [r]) l.length = layC (l ++ [r])) ∧ (layC (l ++ [r]) = 0 → faultAt (l ++ [r]) l.length = 0) := by
  by_cases hf : faultAt (l ++ [r]) l.length = 0
  · have := lay_end (l := l ++ [r]) (i := l.length + 1) (by have := ok_step (ok_pre (r := r) h) (by simp) hf; exact this) (by simp)
    exact ⟨fun hn => absurd this.2.symm hn, fun _ => hf⟩
  · have := lay_c (ok_pre (r := r) h) (by simp) rfl hf
    exact ⟨fun _ => ⟨this.1.symm, this.2⟩, fun h0 => by rw [this.2]; exact h0⟩
def ffN (t : List UInt8) : Int := if short t = false then 0 else wholeN t
def ffC (t : List UInt8) : Int := if short t = false then 2 else wholeC t
theorem ff_long {t : List UInt8} (h : short t = false) : 0 = ffN t ∧ 2 = ffC t := by unfold ffN ffC; rw [if_pos h, if_pos h]; exact ⟨rfl, rfl⟩
theorem ff_ok {t : List UInt8} (h : ¬ short t = false) : wholeN t = ffN t ∧ wholeC t = ffC t := by unfold ffN ffC; rw [if_neg h, if_neg h]; exact ⟨rfl, rfl⟩
end Go.Fn
namespace Go.Fn
open Go.Ab
def encHead (l : List Rec) : List UInt8 := catS [76, 89, 82] [b8 (iOf (lenL l))]
def encStep (acc : List UInt8) (r : Rec) : List UInt8 := catS acc (catS (enc r) (two (sum (enc r))))
def encTo (l : List Rec) (k : Nat) : List UInt8 := (l.take k).foldl encStep (encHead l)
def encLay (l : List Rec) : List UInt8 := catS (encTo l l.length) (two (sum (encTo l l.length)))
theorem enc_len {r : Rec} (h : recFault r = 0) : (enc r).length ≤ 61 := by
  obtain ⟨k, p, b, m, o, ⟨⟩⟩ := r
  obtain ⟨hp, h8, -, h4, -⟩ := rec_ok h
  have h1 := path_len hp
  have h2 := body_len h8
  unfold enc
  simp only [catS, two, List.length_append, List.length_cons, List.length_nil]
  omega
theorem encTo_zero (l : List Rec) : encTo l 0 = encHead l := by unfold encTo; simp
theorem encTo_succ {l : List Rec} {k : Nat} {x : Rec} (hx : l[k]? = some x) : encTo l (k + 1) = encStep (encTo l k) x := by
  unfold encTo
  rw [List.take_add_one, hx, List.foldl_append]
  rfl
theorem encStep_len {acc : List UInt8} {r : Rec} (h : recFault r = 0) : (encStep acc r).length ≤ acc.length + 63 := by
  have := enc_len h
  unfold encStep
  simp only [catS, two, List.length_append, List.length_cons, List.length_nil]
  omega
theorem encTo_len {l : List Rec} (h : ∀ r ∈ l, recFault r = 0) : ∀ k, k ≤ l.length → (encTo l k).length ≤ 4 + 63 * k
  | 0, _ => by rw [encTo_zero]; unfold encHead; simp [catS]
  | k + 1, hk => by
    have hx := List.getElem?_eq_getElem (show k < l.length by omega)
    rw [encTo_succ hx]
    have h1 := encTo_len h k (by omega)
    have h2 := encStep_len (acc := encTo l k) (h _ (List.mem_of_getElem? hx))
    omega
theorem okto_all {l : List Rec} (h : OKto l l.length) : ∀ r ∈ l, recFault r = 0 := by
  intro r hr
  obtain ⟨j, hj, rfl⟩ := List.getElem_of_mem hr
  have := fa_fine (h.2 j hj)
  rwa [recAt_at (List.getElem?_eq_getElem hj)] at this
theorem okto_16 {l : List Rec} (h : OKto l l.length) : l.length ≤ 16 := by
  rcases Nat.lt_or_ge 16 l.length with hlt | hge
  · have := h.2 16 hlt
    rw [fa_16 (Nat.le_refl _)] at this
    cases this
  · exact hge
theorem layC_ok {l : List Rec} (h : layC l = 0) : OKto l l.length := by
  refine ⟨Nat.le_refl _, fun j hj => ?_⟩
  unfold layC layI at h
  split at h
  · rename_i i hi
    rw [List.find?_range_eq_some] at hi
    simp [h] at hi
  · rename_i hi
    rw [List.find?_eq_none] at hi
    have := hi j (List.mem_range.2 hj)
    simpa using this
def encLayC (l : List Rec) : Int := if l.length > 4096 then 2 else if ¬ layC l = 0 then 1 else 0
def encLayS (l : List Rec) : List UInt8 := if encLayC l = 0 then encLay l else []
theorem el_long {l : List Rec} (h : iOf l.length > 4096) : [] = encLayS l ∧ 2 = encLayC l := by
  have h : (l.length : Int) > 4096 := h
  have e : encLayC l = 2 := by unfold encLayC; rw [if_pos (by omega)]
  unfold encLayS
  rw [e]
  exact ⟨rfl, rfl⟩
theorem el_bad {l : List Rec} (h : ¬ iOf l.length > 4096) (hc : ¬ layC l = 0) : [] = encLayS l ∧ 1 = encLayC l := by
  have h : ¬ (l.length : Int) > 4096 := h
  have e : encLayC l = 1 := by unfold encLayC; rw [if_neg (by omega), if_pos hc]
  unfold encLayS
  rw [e]
  exact ⟨rfl, rfl⟩
theorem el_ok {l : List Rec} (h : ¬ iOf l.length > 4096) (hc : layC l = 0) : OKto l l.length ∧ encLay l = encLayS l ∧ 0 = encLayC l := by
  have h : ¬ (l.length : Int) > 4096 := h
  have e : encLayC l = 0 := by unfold encLayC; rw [if_neg (by omega), if_neg (not_not_intro hc)]
  unfold encLayS
  rw [e]
  exact ⟨layC_ok hc, rfl, rfl⟩
def layFC (l : List Rec) : Int := if l.length > 4096 then 2 else layC l
def layFN (l : List Rec) : Int := if l.length > 4096 then 0 else layN l
theorem lf_long {l : List Rec} (h : iOf l.length > 4096) : 0 = layFN l ∧ 2 = layFC l := by
  have h : (l.length : Int) > 4096 := h
  unfold layFN layFC
  rw [if_pos (by omega), if_pos (by omega)]; exact ⟨rfl, rfl⟩
theorem lf_ok {l : List Rec} (h : ¬ iOf l.length > 4096) : layN l = layFN l ∧ layC l = layFC l := by
  have h : ¬ (l.length : Int) > 4096 := h
  unfold layFN layFC
  rw [if_neg (by omega), if_neg (by omega)]; exact ⟨rfl, rfl⟩
theorem first_lay {l : List Rec} : first [.b (decide (iOf l.length > 4096)), .n 2, .b (!decide (layFC l = 0)), .n 1] = encLayC l := by
  unfold encLayC layFC iOf
  by_cases h : l.length > 4096
  · rw [if_pos h, if_pos h, decide_eq_true (p := (l.length : Int) > 4096) (by omega)]; rfl
  · rw [if_neg h, if_neg h, decide_eq_false (p := (l.length : Int) > 4096) (by omega)]
    by_cases h2 : layC l = 0
    · rw [decide_eq_true h2, if_neg (not_not_intro h2)]; rfl
    · rw [decide_eq_false h2, if_pos h2]; rfl
theorem enc_f1 {x : Rec} (h : recFault x = 0) : fits ((enc x).length + (two (sum (enc x))).length) := by
  have := enc_len h
  show _ < 1099511627776
  simp only [two, List.length_cons, List.length_nil]
  omega
theorem enc_f2 {l : List Rec} {i : Nat} {x : Rec} (ha : ∀ r ∈ l, recFault r = 0) (h16 : l.length ≤ 16) (hi : i ≤ l.length) (h : recFault x = 0) : fits ((encTo l i).length + (catS (enc x) (two (sum (enc x)))).length) := by
  have h1 := enc_len h
  have h2 := encTo_len ha i hi
  show _ < 1099511627776
  simp only [catS, two, List.length_append, List.length_cons, List.length_nil]
  omega
theorem enc_f3 {l : List Rec} {i : Nat} (ha : ∀ r ∈ l, recFault r = 0) (h16 : l.length ≤ 16) (hi : i ≤ l.length) : fits ((encTo l i).length + (two (sum (encTo l i))).length) := by
  have h2 := encTo_len ha i hi
  show _ < 1099511627776
  simp only [two, List.length_cons, List.length_nil]
  omega
theorem enc_end {l : List Rec} {i : Nat} (hi : i ≤ l.length) (he : ¬ i < l.length) : catS (encTo l i) (two (sum (encTo l i))) = encLay l := by
  have : i = l.length := by omega
  subst this; rfl
end Go.Fn
namespace Go.Fn
open Go.Ab
instance recDecEq : DecidableEq Rec := @instDecidableEqProd _ _ _ (@instDecidableEqProd _ _ _ (@instDecidableEqProd _ _ _ (inferInstanceAs (DecidableEq (Int × Bool × Unit)))))
theorem szRec_le (r : Rec) (n : Int) (h : 0 ≤ n) : szRec r n ≤ n := by
  unfold szRec
  split
  · omega
  · split <;> omega
theorem eqRec_dec (a b : Rec) : eqRec a b = decide (a = b) := by
  obtain ⟨k, p, b', m, o, ⟨⟩⟩ := a
  obtain ⟨k2, p2, b2, m2, o2, ⟨⟩⟩ := b
  unfold eqRec
  by_cases h : (k, p, b', m, o, ()) = (k2, p2, b2, m2, o2, ())
  · rw [decide_eq_true h]
    simp only [Prod.mk.injEq] at h
    simp [h.1, h.2.1, h.2.2.1, h.2.2.2.1, h.2.2.2.2.1]
  · rw [decide_eq_false h]
    simp only [Prod.mk.injEq, and_true] at h
    by_cases h1 : k = k2 <;> by_cases h2 : p = p2 <;> by_cases h3 : b' = b2 <;> by_cases h4 : m = m2 <;> by_cases h5 : o = o2 <;> simp [h1, h2, h3, h4, h5] at h ⊢
theorem eqRec_ne {a b : Rec} (h : eqRec a b = false) : a ≠ b := by rw [eqRec_dec] at h; simpa using h
theorem eqRec_eq {a b : Rec} (h : eqRec a b = true) : a = b := by rw [eqRec_dec] at h; simpa using h
theorem szS_small {l : List Rec} : ∀ {n : Int}, n ≤ 1048576 → ¬ szGo szRec l n < 0 → okL l := by
  induction l with
  | nil => intro n _ _ r hr; cases hr
  | cons a r ih =>
    intro n hn h x hx
    have e : szGo szRec (a :: r) n = if szRec a n < 0 then -1 else szGo szRec r (szRec a n) := rfl
    rw [e] at h
    split at h
    · omega
    · rename_i h2
      obtain ⟨k, p, b, m, o, ⟨⟩⟩ := a
      have h3 := szRec_small hn h2
      rcases List.mem_cons.1 hx with rfl | hx
      · exact Nat.le_trans h3.1 (by decide)
      · have h4 : szRec (k, p, b, m, o, ()) n ≤ n := by
          unfold szRec at h2 ⊢
          split at h2
          · omega
          · split at h2
            · omega
            · rename_i q1 q2
              rw [if_neg q1, if_neg q2]; omega
        exact ih (Int.le_trans h4 hn) h x hx
theorem szL_small {l : List Rec} (h : ¬ szList szRec l 1048576 < 0) : okL l := by
  unfold szList at h
  split at h
  · omega
  · exact szS_small (by omega) h
end Go.Fn
namespace Go.Proofs.YtnoeclpdijlheaaDoor
open Go.Ab Go.Fn
def s_layOK : FSpec := { ps := [.v (.slice tRec)], rs := [.v .bool], pre := fun x => okL x.1, fn := fun x => (decide (Fn.layC x.1 = 0), ()), upd := fun _ => () }
theorem fo_l03OK : FO 50 s_layOK := by
  refine fo (specs := [(68, s_layF)]) (clos := []) (fun x => []) ⟨fo_l03Fault, trivial⟩ trivial Tryd.func50 rfl rfl ?_
  rintro ⟨l, ⟨⟩⟩ hl
  refine vcOf (true = true ∧ okL l ∧ (layC l == (0 : Int), ()) = (decide (layC l = (0 : Int)), ()) ∧ () = ()) (by kernel_rfl) ?_
  simp only [Nat.le_refl, Nat.succ_eq_add_one, Nat.reduceAdd, Nat.reduceLeDiff, Nat.zero_le, pair_unit, mk_eta, len_bne, eqD_bne, bne_iff_ne, bne_eq_false_iff_eq, beq_iff_eq, beq_eq_false_iff_ne, true_and, and_true, and_self, eq_self, lt_iff, nthI_nat, bnd_iff, decide_eq_true_eq, decide_eq_false_iff_not, Nat.sub_eq, nz, ne_eq, not_false_eq_true, Prod.mk.injEq, Int.reduceEq, Nat.reduceEqDiff, forall_const, implies_true, bne_self_eq_false, Bool.true_eq_false, Bool.false_eq_true, false_implies, reduceCtorEq, Bool.not_true, Bool.not_false, List.all_cons, List.all_nil, Bool.and_true, Bool.not_eq_true, Bool.not_eq_false, Bool.not_eq_true', Bool.not_eq_false', Decidable.not_not]; try simp only [lenL]
  exact ⟨hl, eqI_dec _ _⟩
def s_isLongRec : FSpec := { ps := [.v (.slice tRec)], rs := [.v .bool], pre := fun _ => True, fn := fun x => (decide (iOf (List.length (α := Rec) x.1) > 4096), ()), upd := fun _ => () }
theorem fo_isLongRec : FO 52 s_isLongRec := by
  refine fo (specs := []) (clos := []) (fun x => []) trivial trivial Tryd.func52 rfl rfl ?_
  rintro ⟨l, ⟨⟩⟩ -
  refine vcOf (fits (lenL l) → (decide (iOf (lenL l) > (4096 : Int)), ()) = (decide (iOf (List.length l) > (4096 : Int)), ()) ∧ () = ()) (by kernel_rfl) ?_
  simp only [Nat.le_refl, Nat.succ_eq_add_one, Nat.reduceAdd, Nat.reduceLeDiff, Nat.zero_le, pair_unit, mk_eta, len_bne, eqD_bne, bne_iff_ne, bne_eq_false_iff_eq, beq_iff_eq, beq_eq_false_iff_ne, true_and, and_true, and_self, eq_self, lt_iff, nthI_nat, bnd_iff, decide_eq_true_eq, decide_eq_false_iff_not, Nat.sub_eq, nz, ne_eq, not_false_eq_true, Prod.mk.injEq, Int.reduceEq, Nat.reduceEqDiff, forall_const, implies_true, bne_self_eq_false, Bool.true_eq_false, Bool.false_eq_true, false_implies, reduceCtorEq, Bool.not_true, Bool.not_false, List.all_cons, List.all_nil, Bool.and_true, Bool.not_eq_true, Bool.not_eq_false, Bool.not_eq_true', Bool.not_eq_false', Decidable.not_not]; try simp only [lenL]
  exact fun _ => rfl
def s_LayerFault : FSpec := { ps := [.v (.slice tRec)], rs := [.v I, .v I], pre := fun x => okL x.1, fn := fun x => (Fn.layFN x.1, Fn.layFC x.1, ()), upd := fun _ => () }
theorem fo_LayerFault : FO 72 s_LayerFault := by
  refine fo (specs := [(52, s_isLongRec), (92, s_layF)]) (clos := []) (fun x => []) ⟨fo_isLongRec, fo_fault, trivial⟩ trivial Tryd.func72 rfl rfl ?_
  rintro ⟨l, ⟨⟩⟩ hl
  refine vcOf (true = true ∧ True ∧ (decide (iOf (List.length l) > (4096 : Int)) = true → ((0 : Int), (2 : Int), ()) = (layFN l, layFC l, ()) ∧ () = ()) ∧ (decide (iOf (List.length l) > (4096 : Int)) = false → true = true ∧ okL l ∧ (layN l, layC l, ()) = (layFN l, layFC l, ()) ∧ () = ())) (by kernel_rfl) ?_
  simp only [Nat.le_refl, Nat.succ_eq_add_one, Nat.reduceAdd, Nat.reduceLeDiff, Nat.zero_le, pair_unit, mk_eta, len_bne, eqD_bne, bne_iff_ne, bne_eq_false_iff_eq, beq_iff_eq, beq_eq_false_iff_ne, true_and, and_true, and_self, eq_self, lt_iff, nthI_nat, bnd_iff, decide_eq_true_eq, decide_eq_false_iff_not, Nat.sub_eq, nz, ne_eq, not_false_eq_true, Prod.mk.injEq, Int.reduceEq, Nat.reduceEqDiff, forall_const, implies_true, bne_self_eq_false, Bool.true_eq_false, Bool.false_eq_true, false_implies, reduceCtorEq, Bool.not_true, Bool.not_false, List.all_cons, List.all_nil, Bool.and_true, Bool.not_eq_true, Bool.not_eq_false, Bool.not_eq_true', Bool.not_eq_false', Decidable.not_not]; try simp only [lenL]
  exact ⟨fun h => lf_long h, fun h => ⟨hl, lf_ok h⟩⟩
def s_LayerOK : FSpec := { ps := [.v (.slice tRec)], rs := [.v .bool], pre := fun x => okL x.1, fn := fun x => (decide (Fn.layFC x.1 = 0), ()), upd := fun _ => () }
theorem fo_LayerOK : FO 53 s_LayerOK := by
  refine fo (specs := [(72, s_LayerFault)]) (clos := []) (fun x => []) ⟨fo_LayerFault, trivial⟩ trivial Tryd.func53 rfl rfl ?_
  rintro ⟨l, ⟨⟩⟩ hl
  refine vcOf (true = true ∧ okL l ∧ (layFC l == (0 : Int), ()) = (decide (layFC l = (0 : Int)), ()) ∧ () = ()) (by kernel_rfl) ?_
  simp only [Nat.le_refl, Nat.succ_eq_add_one, Nat.reduceAdd, Nat.reduceLeDiff, Nat.zero_le, pair_unit, mk_eta, len_bne, eqD_bne, bne_iff_ne, bne_eq_false_iff_eq, beq_iff_eq, beq_eq_false_iff_ne, true_and, and_true, and_self, eq_self, lt_iff, nthI_nat, bnd_iff, decide_eq_true_eq, decide_eq_false_iff_not, Nat.sub_eq, nz, ne_eq, not_false_eq_true, Prod.mk.injEq, Int.reduceEq, Nat.reduceEqDiff, forall_const, implies_true, bne_self_eq_false, Bool.true_eq_false, Bool.false_eq_true, false_implies, reduceCtorEq, Bool.not_true, Bool.not_false, List.all_cons, List.all_nil, Bool.and_true, Bool.not_eq_true, Bool.not_eq_false, Bool.not_eq_true', Bool.not_eq_false', Decidable.not_not]; try simp only [lenL]
  exact ⟨hl, eqI_dec _ _⟩
end Go.Proofs.YtnoeclpdijlheaaDoor
namespace Go.Proofs.YtnoeclpdijlheaaDoor
open Go.Ab Go.Fn
def s_encL : FSpec := { ps := [.v (.slice tRec)], rs := [.v .str], pre := fun x => OKto x.1 (List.length (α := Rec) x.1), fn := fun x => (Fn.encLay x.1, ()), upd := fun _ => () }
def L_encL (s i : Nat) (l : List Rec) : LoopAnn := { ι := Nat, inv := fun k => k ≤ l.length, slots := fun k => [(s, .d .str (Fn.encTo l k)), (i, .d I (Int.ofNat k))], objs := fun _ => [], μ := fun k => l.length - k }
theorem fo_l09Layer : FO 51 s_encL := by
  refine fo (specs := [(39, s_enc), (67, s_l09Sum), (61, s_two)]) (clos := []) (fun x => [(3, .lv [0, 3, 4] <| fun _ => L_encL 3 4 x.1)]) ⟨fo_l09Record, fo_l09Sum, fo_l09Two, trivial⟩ trivial Tryd.func51 rfl rfl ?_
  rintro ⟨l, ⟨⟩⟩ hl
  refine vcOf (fits (lenL l) → fits (lenL ((76 : UInt8) :: (89 : UInt8) :: (82 : UInt8) :: ([] : List UInt8)) + lenL (UInt8.ofNat (IntKind.u8.wrap (iOf (lenL l))).toNat :: ([] : List UInt8))) ∧ (∃ (i : Nat), i ≤ List.length l ∧ (l = l ∧ catS ((76 : UInt8) :: (89 : UInt8) :: (82 : UInt8) :: ([] : List UInt8)) (UInt8.ofNat (IntKind.u8.wrap (iOf (lenL l))).toNat :: ([] : List UInt8)) = encTo l i ∧ (0 : Int) = Int.ofNat i ∧ True) ∧ ((IntKind.u8.wrap (iOf (lenL l)) :: ([] : List Int) = IntKind.u8.wrap (iOf (lenL l)) :: ([] : List Int) ∧ false = false) ∧ True) ∧ True) ∧ ∀ (i : Nat), i ≤ List.length l → fits (lenL l) → (decide (Int.ofNat i < iOf (lenL l)) = true → bnd (Int.ofNat i) (lenL l) ∧ ∀ (x : Int × List UInt8 × List UInt8 × Int × Bool × Unit), nthI l (Int.ofNat i) = some x → nat_lit 5 ≤ (Nat.succ (nat_lit 1)).succ.succ.succ ∧ true = true ∧ recFault (x.fst, x.snd.fst, x.snd.snd.fst, x.snd.snd.snd.fst, x.snd.snd.snd.snd.fst, ()) = (0 : Int) ∧ true = true ∧ True ∧ true = true ∧ ((0 : Int) ≤ sum (enc (x.fst, x.snd.fst, x.snd.snd.fst, x.snd.snd.snd.fst, x.snd.snd.snd.snd.fst, ())) ∧ sum (enc (x.fst, x.snd.fst, x.snd.snd.fst, x.snd.snd.snd.fst, x.snd.snd.snd.snd.fst, ())) < (65536 : (PTy.v I).den)) ∧ fits (lenL (enc (x.fst, x.snd.fst, x.snd.snd.fst, x.snd.snd.snd.fst, x.snd.snd.snd.snd.fst, ())) + lenL (two (sum (enc (x.fst, x.snd.fst, x.snd.snd.fst, x.snd.snd.snd.fst, x.snd.snd.snd.snd.fst, ()))))) ∧ fits (lenL (encTo l i) + lenL (catS (enc (x.fst, x.snd.fst, x.snd.snd.fst, x.snd.snd.snd.fst, x.snd.snd.snd.snd.fst, ())) (two (sum (enc (x.fst, x.snd.fst, x.snd.snd.fst, x.snd.snd.snd.fst, x.snd.snd.snd.snd.fst, ())))))) ∧ ∃ (j : Nat), j ≤ List.length l ∧ (List.length l).sub j < (List.length l).sub i ∧ (l = l ∧ catS (encTo l i) (catS (enc (x.fst, x.snd.fst, x.snd.snd.fst, x.snd.snd.snd.fst, x.snd.snd.snd.snd.fst, ())) (two (sum (enc (x.fst, x.snd.fst, x.snd.snd.fst, x.snd.snd.snd.fst, x.snd.snd.snd.snd.fst, ()))))) = encTo l j ∧ wAdd IntKind.i64 (Int.ofNat i) (1 : Int) = Int.ofNat j ∧ True) ∧ ((IntKind.u8.wrap (iOf (lenL l)) :: ([] : List Int) = IntKind.u8.wrap (iOf (lenL l)) :: ([] : List Int) ∧ false = false) ∧ True) ∧ True) ∧ (decide (Int.ofNat i < iOf (lenL l)) = false → true = true ∧ True ∧ true = true ∧ ((0 : Int) ≤ sum (encTo l i) ∧ sum (encTo l i) < (65536 : (PTy.v I).den)) ∧ fits (lenL (encTo l i) + lenL (two (sum (encTo l i)))) ∧ (catS (encTo l i) (two (sum (encTo l i))), ()) = (encLay l, ()) ∧ () = ())) (by kernel_rfl) ?_
  simp only [Nat.le_refl, Nat.succ_eq_add_one, Nat.reduceAdd, Nat.reduceLeDiff, Nat.zero_le, pair_unit, mk_eta, len_bne, eqD_bne, bne_iff_ne, bne_eq_false_iff_eq, beq_iff_eq, beq_eq_false_iff_ne, true_and, and_true, and_self, eq_self, lt_iff, nthI_nat, bnd_iff, decide_eq_true_eq, decide_eq_false_iff_not, Nat.sub_eq, nz, ne_eq, not_false_eq_true, Prod.mk.injEq, Int.reduceEq, Nat.reduceEqDiff, forall_const, implies_true, bne_self_eq_false, Bool.true_eq_false, Bool.false_eq_true, false_implies, reduceCtorEq, Bool.not_true, Bool.not_false, List.all_cons, List.all_nil, Bool.and_true, Bool.not_eq_true, Bool.not_eq_false, Bool.not_eq_true', Bool.not_eq_false', Decidable.not_not]; try simp only [lenL]
  have hl : OKto l (List.length l) := hl
  have ha := okto_all hl
  have h16 := okto_16 hl
  refine fun hf => ⟨by show 3 + 1 < 1099511627776; decide, ?_⟩
  exact ⟨⟨0, Nat.zero_le _, by rw [encTo_zero]; rfl, rfl⟩, fun i hk _ => ⟨fun hi => ⟨hi, fun x hx => ⟨ha x (List.mem_of_getElem? hx), sum_two, enc_f1 (ha x (List.mem_of_getElem? hx)), enc_f2 ha h16 hk (ha x (List.mem_of_getElem? hx)), i + 1, hi, Nat.sub_lt_sub_left hi (Nat.lt_succ_self i), (encTo_succ hx).symm, inc_in hf hk⟩⟩, fun he => ⟨sum_two, enc_f3 ha h16 hk, enc_end hk he⟩⟩⟩
theorem fo_encodeLayer : FO 54 s_encL := by
  refine fo (specs := [(41, s_enc), (70, s_l09Sum), (62, s_two)]) (clos := []) (fun x => [(3, .lv [3, 13, 14, 15] <| fun _ => L_encL 3 15 x.1)]) ⟨fo_encode, fo_layerSum, fo_two, trivial⟩ trivial Tryd.func54 rfl rfl ?_
  rintro ⟨l, ⟨⟩⟩ hl
  refine vcOf (fits (lenL l) → fits (lenL ((76 : UInt8) :: (89 : UInt8) :: (82 : UInt8) :: ([] : List UInt8)) + lenL (UInt8.ofNat (IntKind.u8.wrap (iOf (lenL l))).toNat :: ([] : List UInt8))) ∧ (fits (lenL l) → (∃ (i : Nat), i ≤ List.length l ∧ (catS ((76 : UInt8) :: (89 : UInt8) :: (82 : UInt8) :: ([] : List UInt8)) (UInt8.ofNat (IntKind.u8.wrap (iOf (lenL l))).toNat :: ([] : List UInt8)) = encTo l i ∧ l = l ∧ iOf (lenL l) = iOf (lenL l) ∧ (0 : Int) = Int.ofNat i ∧ True) ∧ ((IntKind.u8.wrap (iOf (lenL l)) :: ([] : List Int) = IntKind.u8.wrap (iOf (lenL l)) :: ([] : List Int) ∧ false = false) ∧ True) ∧ True) ∧ ∀ (i : Nat), i ≤ List.length l → (decide (Int.ofNat i < iOf (lenL l)) = true → bnd (Int.ofNat i) (lenL l) ∧ ∀ (x : Int × List UInt8 × List UInt8 × Int × Bool × Unit), nthI l (Int.ofNat i) = some x → nat_lit 5 ≤ (Nat.succ (nat_lit 1)).succ.succ.succ ∧ nat_lit 5 ≤ nat_lit 5 ∧ nat_lit 5 ≤ (Nat.succ (nat_lit 1)).succ.succ.succ ∧ true = true ∧ recFault (x.fst, x.snd.fst, x.snd.snd.fst, x.snd.snd.snd.fst, x.snd.snd.snd.snd.fst, ()) = (0 : Int) ∧ true = true ∧ True ∧ true = true ∧ ((0 : Int) ≤ sum (enc (x.fst, x.snd.fst, x.snd.snd.fst, x.snd.snd.snd.fst, x.snd.snd.snd.snd.fst, ())) ∧ sum (enc (x.fst, x.snd.fst, x.snd.snd.fst, x.snd.snd.snd.fst, x.snd.snd.snd.snd.fst, ())) < (65536 : (PTy.v I).den)) ∧ fits (lenL (enc (x.fst, x.snd.fst, x.snd.snd.fst, x.snd.snd.snd.fst, x.snd.snd.snd.snd.fst, ())) + lenL (two (sum (enc (x.fst, x.snd.fst, x.snd.snd.fst, x.snd.snd.snd.fst, x.snd.snd.snd.snd.fst, ()))))) ∧ fits (lenL (encTo l i) + lenL (catS (enc (x.fst, x.snd.fst, x.snd.snd.fst, x.snd.snd.snd.fst, x.snd.snd.snd.snd.fst, ())) (two (sum (enc (x.fst, x.snd.fst, x.snd.snd.fst, x.snd.snd.snd.fst, x.snd.snd.snd.snd.fst, ())))))) ∧ ∃ (j : Nat), j ≤ List.length l ∧ (List.length l).sub j < (List.length l).sub i ∧ (catS (encTo l i) (catS (enc (x.fst, x.snd.fst, x.snd.snd.fst, x.snd.snd.snd.fst, x.snd.snd.snd.snd.fst, ())) (two (sum (enc (x.fst, x.snd.fst, x.snd.snd.fst, x.snd.snd.snd.fst, x.snd.snd.snd.snd.fst, ()))))) = encTo l j ∧ l = l ∧ iOf (lenL l) = iOf (lenL l) ∧ wAdd IntKind.i64 (Int.ofNat i) (1 : Int) = Int.ofNat j ∧ True) ∧ ((IntKind.u8.wrap (iOf (lenL l)) :: ([] : List Int) = IntKind.u8.wrap (iOf (lenL l)) :: ([] : List Int) ∧ false = false) ∧ True) ∧ True) ∧ (decide (Int.ofNat i < iOf (lenL l)) = false → true = true ∧ True ∧ true = true ∧ ((0 : Int) ≤ sum (encTo l i) ∧ sum (encTo l i) < (65536 : (PTy.v I).den)) ∧ fits (lenL (encTo l i) + lenL (two (sum (encTo l i)))) ∧ (catS (encTo l i) (two (sum (encTo l i))), ()) = (encLay l, ()) ∧ () = ()))) (by kernel_rfl) ?_
  simp only [Nat.le_refl, Nat.succ_eq_add_one, Nat.reduceAdd, Nat.reduceLeDiff, Nat.zero_le, pair_unit, mk_eta, len_bne, eqD_bne, bne_iff_ne, bne_eq_false_iff_eq, beq_iff_eq, beq_eq_false_iff_ne, true_and, and_true, and_self, eq_self, lt_iff, nthI_nat, bnd_iff, decide_eq_true_eq, decide_eq_false_iff_not, Nat.sub_eq, nz, ne_eq, not_false_eq_true, Prod.mk.injEq, Int.reduceEq, Nat.reduceEqDiff, forall_const, implies_true, bne_self_eq_false, Bool.true_eq_false, Bool.false_eq_true, false_implies, reduceCtorEq, Bool.not_true, Bool.not_false, List.all_cons, List.all_nil, Bool.and_true, Bool.not_eq_true, Bool.not_eq_false, Bool.not_eq_true', Bool.not_eq_false', Decidable.not_not]; try simp only [lenL]
  have hl : OKto l (List.length l) := hl
  have ha := okto_all hl
  have h16 := okto_16 hl
  refine fun hf => ⟨by show 3 + 1 < 1099511627776; decide, fun _ => ?_⟩
  exact ⟨⟨0, Nat.zero_le _, by rw [encTo_zero]; rfl, rfl⟩, fun i hk => ⟨fun hi => ⟨hi, fun x hx => ⟨ha x (List.mem_of_getElem? hx), sum_two, enc_f1 (ha x (List.mem_of_getElem? hx)), enc_f2 ha h16 hk (ha x (List.mem_of_getElem? hx)), i + 1, hi, Nat.sub_lt_sub_left hi (Nat.lt_succ_self i), (encTo_succ hx).symm, inc_in hf hk⟩⟩, fun he => ⟨sum_two, enc_f3 ha h16 hk, enc_end hk he⟩⟩⟩
end Go.Proofs.YtnoeclpdijlheaaDoor
namespace Go.Proofs.YtnoeclpdijlheaaDoor
open Go.Ab Go.Fn
def s_EncodeLayer : FSpec := { ps := [.v (.slice tRec)], rs := [.v .str, .v I], pre := fun x => okL x.1, fn := fun x => (Fn.encLayS x.1, Fn.encLayC x.1, ()), upd := fun _ => () }
theorem fo_sEncodeLayer : FO 24 s_EncodeLayer := by
  refine fo (specs := [(50, s_layOK), (51, s_encL)]) (clos := []) (fun x => []) ⟨fo_l03OK, fo_l09Layer, trivial⟩ trivial Tryd.func24 rfl rfl ?_
  rintro ⟨l, ⟨⟩⟩ hl
  refine vcOf (fits (lenL l) → (decide (iOf (lenL l) > (4096 : Int)) = true → (([] : List UInt8), (2 : Int), ()) = (encLayS l, encLayC l, ()) ∧ () = ()) ∧ (decide (iOf (lenL l) > (4096 : Int)) = false → true = true ∧ okL l ∧ ((!decide (layC l = (0 : Int))) = true → (([] : List UInt8), (1 : Int), ()) = (encLayS l, encLayC l, ()) ∧ () = ()) ∧ ((!decide (layC l = (0 : Int))) = false → true = true ∧ OKto l (List.length l) ∧ (encLay l, (0 : Int), ()) = (encLayS l, encLayC l, ()) ∧ () = ()))) (by kernel_rfl) ?_
  simp only [Nat.le_refl, Nat.succ_eq_add_one, Nat.reduceAdd, Nat.reduceLeDiff, Nat.zero_le, pair_unit, mk_eta, len_bne, eqD_bne, bne_iff_ne, bne_eq_false_iff_eq, beq_iff_eq, beq_eq_false_iff_ne, true_and, and_true, and_self, eq_self, lt_iff, nthI_nat, bnd_iff, decide_eq_true_eq, decide_eq_false_iff_not, Nat.sub_eq, nz, ne_eq, not_false_eq_true, Prod.mk.injEq, Int.reduceEq, Nat.reduceEqDiff, forall_const, implies_true, bne_self_eq_false, Bool.true_eq_false, Bool.false_eq_true, false_implies, reduceCtorEq, Bool.not_true, Bool.not_false, List.all_cons, List.all_nil, Bool.and_true, Bool.not_eq_true, Bool.not_eq_false, Bool.not_eq_true', Bool.not_eq_false', Decidable.not_not]; try simp only [lenL]
  exact fun _ => ⟨fun h => el_long h, fun h => ⟨hl, fun hc => el_bad h hc, fun hc => el_ok h hc⟩⟩
theorem fo_EncodeLayer : FO 26 s_EncodeLayer := by
  refine fo (specs := [(52, s_isLongRec), (53, s_LayerOK), (45, s_first), (54, s_encL)]) (clos := []) (fun x => []) ⟨fo_isLongRec, fo_LayerOK, fo_first, fo_encodeLayer, trivial⟩ trivial Tryd.func26 rfl rfl ?_
  rintro ⟨l, ⟨⟩⟩ hl
  refine vcOf (true = true ∧ True ∧ true = true ∧ okL l ∧ true = true ∧ True ∧ ((first (AnyV.b (decide (iOf (List.length l) > (4096 : Int))) :: AnyV.n (2 : Int) :: (AnyV.b !decide (layFC l = (0 : Int))) :: AnyV.n (1 : Int) :: ([] : List AnyV)) != (0 : Int)) = true → (([] : List UInt8), first (AnyV.b (decide (iOf (List.length l) > (4096 : Int))) :: AnyV.n (2 : Int) :: (AnyV.b !decide (layFC l = (0 : Int))) :: AnyV.n (1 : Int) :: ([] : List AnyV)), ()) = (encLayS l, encLayC l, ()) ∧ () = ()) ∧ ((first (AnyV.b (decide (iOf (List.length l) > (4096 : Int))) :: AnyV.n (2 : Int) :: (AnyV.b !decide (layFC l = (0 : Int))) :: AnyV.n (1 : Int) :: ([] : List AnyV)) != (0 : Int)) = false → true = true ∧ OKto l (List.length l) ∧ (encLay l, (0 : Int), ()) = (encLayS l, encLayC l, ()) ∧ () = ())) (by kernel_rfl) ?_
  simp only [Nat.le_refl, Nat.succ_eq_add_one, Nat.reduceAdd, Nat.reduceLeDiff, Nat.zero_le, pair_unit, mk_eta, len_bne, eqD_bne, bne_iff_ne, bne_eq_false_iff_eq, beq_iff_eq, beq_eq_false_iff_ne, true_and, and_true, and_self, eq_self, lt_iff, nthI_nat, bnd_iff, decide_eq_true_eq, decide_eq_false_iff_not, Nat.sub_eq, nz, ne_eq, not_false_eq_true, Prod.mk.injEq, Int.reduceEq, Nat.reduceEqDiff, forall_const, implies_true, bne_self_eq_false, Bool.true_eq_false, Bool.false_eq_true, false_implies, reduceCtorEq, Bool.not_true, Bool.not_false, List.all_cons, List.all_nil, Bool.and_true, Bool.not_eq_true, Bool.not_eq_false, Bool.not_eq_true', Bool.not_eq_false', Decidable.not_not]; try simp only [lenL]
  rw [first_lay]
  refine ⟨hl, fun h => ⟨by unfold Fn.encLayS; rw [if_neg h], rfl⟩, fun h => ?_⟩
  have h2 : ¬ iOf (List.length l) > 4096 := fun hg => by
    have := (el_long (l := l) hg).2
    rw [h] at this
    exact absurd this (by decide)
  exact el_ok h2 (Classical.byContradiction fun hn => by
    have := (el_bad h2 hn).2
    rw [h] at this
    exact absurd this (by decide))
end Go.Proofs.YtnoeclpdijlheaaDoor
namespace Go.Proofs.YtnoeclpdijlheaaDoor
open Go.Ab Go.Fn
def s_szRecordS : FSpec := { ps := [.v (.slice tRec), .v I], rs := [.v I], pre := fun x => 0 ≤ (x.2.1 : Int) ∧ (x.2.1 : Int) ≤ 1048576, fn := fun x => (szList Fn.szRec x.1 x.2.1, ()), upd := fun _ => () }
def L_szRecordS (xs : List (tRec : Ty).den) (l0 : Int) : LoopAnn := { ι := Nat × Int, inv := fun p => p.1 ≤ xs.length ∧ (0 ≤ p.2 ∧ p.2 ≤ 1048576) ∧ szGo Fn.szRec (xs.drop p.1) p.2 = szGo Fn.szRec xs (l0 - xs.length), slots := fun p => [(5, .d I (Int.ofNat p.1)), (1, .d I p.2)], objs := fun _ => [], μ := fun p => xs.length - p.1 }
theorem fo_szRecordS : FO 23 s_szRecordS := by
  refine fo (specs := [(14, s_szRecord)]) (clos := []) (fun x => [(5, .lv [0, 1, 5] <| fun _ => L_szRecordS x.1 x.2.1)]) ⟨fo_szRecord, trivial⟩ trivial Tryd.func23 rfl rfl ?_
  rintro ⟨xs, n, ⟨⟩⟩ ⟨hp1, hp2⟩
  have hp1 : (0 : Int) ≤ n := hp1
  have hp2 : (n : Int) ≤ 1048576 := hp2
  refine vcOf (fits (lenL xs) → (decide (wSub IntKind.i64 n (iOf (lenL xs)) < (0 : Int)) = true → ((-1 : Int), ()) = (szList szRec xs n, ()) ∧ () = ()) ∧ (decide (wSub IntKind.i64 n (iOf (lenL xs)) < (0 : Int)) = false → (∃ (i : Nat × Int), (i.fst ≤ List.length xs ∧ ((0 : Int) ≤ i.snd ∧ i.snd ≤ (1048576 : Int)) ∧ szGo szRec (List.drop i.fst xs) i.snd = szGo szRec xs (n - Int.ofNat (List.length xs))) ∧ (xs = xs ∧ wSub IntKind.i64 n (iOf (lenL xs)) = i.snd ∧ (0 : Int) = Int.ofNat i.fst ∧ True) ∧ True ∧ True) ∧ ∀ (i : Nat × Int), i.fst ≤ List.length xs ∧ ((0 : Int) ≤ i.snd ∧ i.snd ≤ (1048576 : Int)) ∧ szGo szRec (List.drop i.fst xs) i.snd = szGo szRec xs (n - Int.ofNat (List.length xs)) → fits (lenL xs) → (decide (Int.ofNat i.fst < iOf (lenL xs)) = true → bnd (Int.ofNat i.fst) (lenL xs) ∧ ∀ (x : Int × List UInt8 × List UInt8 × Int × Bool × Unit), nthI xs (Int.ofNat i.fst) = some x → nat_lit 5 ≤ (Nat.succ (nat_lit 1)).succ.succ.succ ∧ true = true ∧ ((-1 : Int) ≤ i.snd ∧ i.snd ≤ (1048576 : (PTy.v I).den)) ∧ (decide (szRec (x.fst, x.snd.fst, x.snd.snd.fst, x.snd.snd.snd.fst, x.snd.snd.snd.snd.fst, ()) i.snd < (0 : Int)) = true → ((-1 : Int), ()) = (szList szRec xs n, ()) ∧ () = ()) ∧ (decide (szRec (x.fst, x.snd.fst, x.snd.snd.fst, x.snd.snd.snd.fst, x.snd.snd.snd.snd.fst, ()) i.snd < (0 : Int)) = false → ∃ (j : Nat × Int), (j.fst ≤ List.length xs ∧ ((0 : Int) ≤ j.snd ∧ j.snd ≤ (1048576 : Int)) ∧ szGo szRec (List.drop j.fst xs) j.snd = szGo szRec xs (n - Int.ofNat (List.length xs))) ∧ (List.length xs).sub j.fst < (List.length xs).sub i.fst ∧ (xs = xs ∧ szRec (x.fst, x.snd.fst, x.snd.snd.fst, x.snd.snd.snd.fst, x.snd.snd.snd.snd.fst, ()) i.snd = j.snd ∧ wAdd IntKind.i64 (Int.ofNat i.fst) (1 : Int) = Int.ofNat j.fst ∧ True) ∧ True ∧ True)) ∧ (decide (Int.ofNat i.fst < iOf (lenL xs)) = false → (i.snd, ()) = (szList szRec xs n, ()) ∧ () = ()))) (by kernel_rfl) ?_
  simp only [Nat.le_refl, Nat.succ_eq_add_one, Nat.reduceAdd, Nat.reduceLeDiff, Nat.zero_le, pair_unit, mk_eta, len_bne, eqD_bne, bne_iff_ne, bne_eq_false_iff_eq, beq_iff_eq, beq_eq_false_iff_ne, true_and, and_true, and_self, eq_self, lt_iff, nthI_nat, bnd_iff, decide_eq_true_eq, decide_eq_false_iff_not, Nat.sub_eq, nz, ne_eq, not_false_eq_true, Prod.mk.injEq, Int.reduceEq, Nat.reduceEqDiff, forall_const, implies_true, bne_self_eq_false, Bool.true_eq_false, Bool.false_eq_true, false_implies, reduceCtorEq, Bool.not_true, Bool.not_false, List.all_cons, List.all_nil, Bool.and_true, Bool.not_eq_true, Bool.not_eq_false, Bool.not_eq_true', Bool.not_eq_false', Decidable.not_not]; try simp only [lenL]
  intro hf
  rw [wSub_len hp1 hp2 hf]
  refine ⟨fun h => (if_pos h).symm, fun h => ⟨⟨(0, n - (xs.length : Int)), ⟨Nat.zero_le _, ⟨Int.not_lt.1 h, Int.le_trans (Int.sub_le_self _ (Int.natCast_nonneg _)) hp2⟩, rfl⟩, rfl, rfl⟩, ?_⟩⟩
  have e0 : szList Fn.szRec xs n = szGo Fn.szRec xs (n - (xs.length : Int)) := if_neg h
  rw [e0]
  rintro ⟨k, m⟩ ⟨hk, ⟨hm1, hm2⟩, he⟩ -
  have hm1 : (0 : Int) ≤ m := hm1
  have hm2 : (m : Int) ≤ 1048576 := hm2
  have he : szGo Fn.szRec (xs.drop k) m = szGo Fn.szRec xs (n - (xs.length : Int)) := he
  refine ⟨fun hlt => ⟨hlt, fun x hx => ⟨⟨Int.le_trans (by decide) hm1, hm2⟩, fun h1 => ?_, fun h1 => ?_⟩⟩, fun hge => ?_⟩
  · rw [← he, szGo_at hx]; exact (if_pos h1).symm
  · have h2 := szRec_le x m hm1
    rw [szGo_at hx] at he
    exact ⟨(k + 1, Fn.szRec x m), ⟨hlt, ⟨Int.not_lt.1 h1, Int.le_trans h2 hm2⟩, (if_neg h1).symm.trans he⟩, Nat.sub_lt_sub_left hlt (Nat.lt_succ_self k), rfl, inc_in hf hk⟩
  · rw [← he, szGo_end hge]
end Go.Proofs.YtnoeclpdijlheaaDoor
namespace Go.Proofs.YtnoeclpdijlheaaDoor
open Go.Ab Go.Fn
def s_toRecordS : FSpec := { ps := [.v (.slice tRec)], rs := [.o (.slice tRec)], pre := fun _ => True, fn := fun x => (x.1, ()), upd := fun _ => () }
def L_toRecordS (xs : List (tRec : Ty).den) : LoopAnn := { ι := Nat, inv := fun k => k ≤ xs.length, slots := fun k => [(4, .d I (Int.ofNat k))], objs := fun k => [(1, .arr tRec (fillTo xs k (0, [], [], 0, false, ())) false)], μ := fun k => xs.length - k }
theorem fo_toRecordS : FO 25 s_toRecordS := by
  refine fo (specs := [(16, s_toRecord)]) (clos := []) (fun x => [(3, .lv [0, 3, 4] <| fun _ => L_toRecordS x.1)]) ⟨fo_toRecord, trivial⟩ trivial Tryd.func25 rfl rfl ?_
  rintro ⟨xs, ⟨⟩⟩ -
  refine vcOf (fits (lenL xs) → mkOK (iOf (lenL xs)) (iOf (lenL xs)) ∧ (∃ (i : Nat), i ≤ List.length xs ∧ (xs = xs ∧ nat_lit 1 = nat_lit 1 ∧ (0 : Int) = Int.ofNat i ∧ True) ∧ ((([] : List (Int × List UInt8 × List UInt8 × Int × Bool × Unit)) = ([] : List (Int × List UInt8 × List UInt8 × Int × Bool × Unit)) ∧ false = false) ∧ (List.replicate (tN (iOf (lenL xs))) ((0 : (Ty.int IntKind.i64).den), ([] : List UInt8), ([] : List UInt8), (0 : (Ty.int IntKind.i64).den), false, ()) = fillTo xs i ((0 : I.den), ([] : List UInt8), ([] : List UInt8), (0 : I.den), false, ()) ∧ false = false) ∧ True) ∧ True) ∧ ∀ (i : Nat), i ≤ List.length xs → fits (lenL xs) → (decide (Int.ofNat i < iOf (lenL xs)) = true → bnd (Int.ofNat i) (lenL xs) ∧ ∀ (x : Int × List UInt8 × List UInt8 × Int × Bool × Unit), nthI xs (Int.ofNat i) = some x → nat_lit 5 ≤ (Nat.succ (nat_lit 1)).succ.succ.succ ∧ true = true ∧ True ∧ bnd (Int.ofNat i) (lenL (fillTo xs i ((0 : I.den), ([] : List UInt8), ([] : List UInt8), (0 : I.den), false, ()))) ∧ ((0 : Nat) = (0 : Nat) ∧ tN (Int.ofNat i) < lenL (fillTo xs i ((0 : I.den), ([] : List UInt8), ([] : List UInt8), (0 : I.den), false, ()))) ∧ ∃ (j : Nat), j ≤ List.length xs ∧ (List.length xs).sub j < (List.length xs).sub i ∧ (xs = xs ∧ nat_lit 1 = nat_lit 1 ∧ wAdd IntKind.i64 (Int.ofNat i) (1 : Int) = Int.ofNat j ∧ True) ∧ ((([] : List (Int × List UInt8 × List UInt8 × Int × Bool × Unit)) = ([] : List (Int × List UInt8 × List UInt8 × Int × Bool × Unit)) ∧ false = false) ∧ ((fillTo xs i ((0 : I.den), ([] : List UInt8), ([] : List UInt8), (0 : I.den), false, ())).set (tN (Int.ofNat i)) (x.fst, x.snd.fst, x.snd.snd.fst, x.snd.snd.snd.fst, x.snd.snd.snd.snd.fst, ()) = fillTo xs j ((0 : I.den), ([] : List UInt8), ([] : List UInt8), (0 : I.den), false, ()) ∧ false = false) ∧ True) ∧ True) ∧ (decide (Int.ofNat i < iOf (lenL xs)) = false → (fillTo xs i ((0 : I.den), ([] : List UInt8), ([] : List UInt8), (0 : I.den), false, ()), ()) = (xs, ()) ∧ () = ())) (by kernel_rfl) ?_
  simp only [Nat.le_refl, Nat.succ_eq_add_one, Nat.reduceAdd, Nat.reduceLeDiff, Nat.zero_le, pair_unit, mk_eta, len_bne, eqD_bne, bne_iff_ne, bne_eq_false_iff_eq, beq_iff_eq, beq_eq_false_iff_ne, true_and, and_true, and_self, eq_self, lt_iff, nthI_nat, bnd_iff, decide_eq_true_eq, decide_eq_false_iff_not, Nat.sub_eq, nz, ne_eq, not_false_eq_true, Prod.mk.injEq, Int.reduceEq, Nat.reduceEqDiff, forall_const, implies_true, bne_self_eq_false, Bool.true_eq_false, Bool.false_eq_true, false_implies, reduceCtorEq, Bool.not_true, Bool.not_false, List.all_cons, List.all_nil, Bool.and_true, Bool.not_eq_true, Bool.not_eq_false, Bool.not_eq_true', Bool.not_eq_false', Decidable.not_not]; try simp only [lenL]
  exact fun hf => ⟨mkOK_len hf, ⟨0, Nat.zero_le _, rfl, rfl⟩, fun k hk _ => ⟨fun h => ⟨h, fun x hx => ⟨by rw [fill_len hk]; exact h, by rw [fill_len hk]; exact h, k + 1, h, Nat.sub_lt_sub_left h (Nat.lt_succ_self k), inc_in hf hk, fill_set hx⟩⟩, fun h => fill_end h⟩⟩
end Go.Proofs.YtnoeclpdijlheaaDoor
namespace Go.Proofs.YtnoeclpdijlheaaDoor
open Go.Ab Go.Fn
def s_eqRecordS : FSpec := { ps := [.v (.slice tRec), .v (.slice tRec)], rs := [.v .bool], pre := fun _ => True, fn := fun x => (eqL (α := Rec) x.1 x.2.1, ()), upd := fun _ => () }
def L_eqRecordS (xs ys : List (tRec : Ty).den) : LoopAnn := { ι := Nat, inv := fun k => k ≤ xs.length ∧ xs.length = ys.length ∧ xs.take k = ys.take k, slots := fun k => [(5, .d I (Int.ofNat k))], objs := fun _ => [], μ := fun k => xs.length - k }
theorem fo_eqRecordS : FO 27 s_eqRecordS := by
  refine fo (specs := [(20, s_eqRecord)]) (clos := []) (fun x => [(4, .lv [0, 1, 5] <| fun _ => L_eqRecordS x.1 x.2.1)]) ⟨fo_eqRecord, trivial⟩ trivial Tryd.func27 rfl rfl ?_
  rintro ⟨xs, ys, ⟨⟩⟩ -
  refine vcOf (fits (lenL xs) → fits (lenL ys) → ((iOf (lenL xs) != iOf (lenL ys)) = true → (false, ()) = (eqL xs ys, ()) ∧ () = ()) ∧ ((iOf (lenL xs) != iOf (lenL ys)) = false → (∃ (i : Nat), (i ≤ List.length xs ∧ List.length xs = List.length ys ∧ List.take i xs = List.take i ys) ∧ (xs = xs ∧ ys = ys ∧ (0 : Int) = Int.ofNat i ∧ True) ∧ True ∧ True) ∧ ∀ (i : Nat), i ≤ List.length xs ∧ List.length xs = List.length ys ∧ List.take i xs = List.take i ys → fits (lenL xs) → (decide (Int.ofNat i < iOf (lenL xs)) = true → bnd (Int.ofNat i) (lenL xs) ∧ ∀ (x : Int × List UInt8 × List UInt8 × Int × Bool × Unit), nthI xs (Int.ofNat i) = some x → nat_lit 5 ≤ (Nat.succ (nat_lit 1)).succ.succ.succ ∧ bnd (Int.ofNat i) (lenL ys) ∧ ∀ (x_1 : Int × List UInt8 × List UInt8 × Int × Bool × Unit), nthI ys (Int.ofNat i) = some x_1 → nat_lit 5 ≤ (Nat.succ (nat_lit 1)).succ.succ.succ ∧ true = true ∧ True ∧ ((!eqRec (x.fst, x.snd.fst, x.snd.snd.fst, x.snd.snd.snd.fst, x.snd.snd.snd.snd.fst, ()) (x_1.fst, x_1.snd.fst, x_1.snd.snd.fst, x_1.snd.snd.snd.fst, x_1.snd.snd.snd.snd.fst, ())) = true → (false, ()) = (eqL xs ys, ()) ∧ () = ()) ∧ ((!eqRec (x.fst, x.snd.fst, x.snd.snd.fst, x.snd.snd.snd.fst, x.snd.snd.snd.snd.fst, ()) (x_1.fst, x_1.snd.fst, x_1.snd.snd.fst, x_1.snd.snd.snd.fst, x_1.snd.snd.snd.snd.fst, ())) = false → ∃ (j : Nat), (j ≤ List.length xs ∧ List.length xs = List.length ys ∧ List.take j xs = List.take j ys) ∧ (List.length xs).sub j < (List.length xs).sub i ∧ (xs = xs ∧ ys = ys ∧ wAdd IntKind.i64 (Int.ofNat i) (1 : Int) = Int.ofNat j ∧ True) ∧ True ∧ True)) ∧ (decide (Int.ofNat i < iOf (lenL xs)) = false → (true, ()) = (eqL xs ys, ()) ∧ () = ()))) (by kernel_rfl) ?_
  simp only [Nat.le_refl, Nat.succ_eq_add_one, Nat.reduceAdd, Nat.reduceLeDiff, Nat.zero_le, pair_unit, mk_eta, len_bne, eqD_bne, bne_iff_ne, bne_eq_false_iff_eq, beq_iff_eq, beq_eq_false_iff_ne, true_and, and_true, and_self, eq_self, lt_iff, nthI_nat, bnd_iff, decide_eq_true_eq, decide_eq_false_iff_not, Nat.sub_eq, nz, ne_eq, not_false_eq_true, Prod.mk.injEq, Int.reduceEq, Nat.reduceEqDiff, forall_const, implies_true, bne_self_eq_false, Bool.true_eq_false, Bool.false_eq_true, false_implies, reduceCtorEq, Bool.not_true, Bool.not_false, List.all_cons, List.all_nil, Bool.and_true, Bool.not_eq_true, Bool.not_eq_false, Bool.not_eq_true', Bool.not_eq_false', Decidable.not_not]; try simp only [lenL]
  exact fun hf1 hf2 => ⟨fun h => eqL_len h, fun h => ⟨⟨0, ⟨Nat.zero_le _, h, rfl⟩, rfl⟩, fun k ⟨hk, _, ht⟩ _ => ⟨fun hlt => ⟨hlt, fun x hx => ⟨h ▸ hlt, fun y hy => ⟨fun hne => eqL_ne hx hy (eqRec_ne hne), fun he => ⟨k + 1, ⟨hlt, h, take_eq_succ hx hy ht (eqRec_eq he)⟩, Nat.sub_lt_sub_left hlt (Nat.lt_succ_self k), inc_in hf1 hk⟩⟩⟩⟩, fun hge => eqL_end hge h ht⟩⟩⟩
end Go.Proofs.YtnoeclpdijlheaaDoor
namespace Go.Proofs.YtnoeclpdijlheaaDoor
open Go.Ab Go.Fn
theorem fo_law_FnExactEncodeLayer : FO 7 (lawSpec [.slice tRec] 1048576) := by
  refine fo (specs := [(23, s_szRecordS), (25, s_toRecordS), (27, s_eqRecordS), (24, s_EncodeLayer), (26, s_EncodeLayer)]) (clos := []) (fun x => []) ⟨fo_szRecordS, fo_toRecordS, fo_eqRecordS, fo_sEncodeLayer, fo_EncodeLayer, trivial⟩ trivial Tryd.func7 rfl rfl ?_
  rintro ⟨l, ⟨⟩⟩ hl
  refine vcOf (true = true ∧ ((0 : (PTy.v I).den) ≤ (1048576 : Int) ∧ (1048576 : Int) ≤ (1048576 : (PTy.v I).den)) ∧ (decide (szList szRec l (1048576 : Int) < (0 : Int)) = true → (true, ()) = (true, ()) ∧ () = ()) ∧ (decide (szList szRec l (1048576 : Int) < (0 : Int)) = false → true = true ∧ True ∧ true = true ∧ okL l ∧ true = true ∧ True ∧ true = true ∧ okL l ∧ ((!encLayS l == encLayS l) = false → ((encLayC l != encLayC l) = true → (false, ()) = (true, ()) ∧ () = ()) ∧ ((encLayC l != encLayC l) = false → true = true ∧ True ∧ true = true ∧ True ∧ ((!eqL l l) = true → (false, ()) = (true, ()) ∧ () = ()) ∧ ((!eqL l l) = false → (true, ()) = (true, ()) ∧ () = ()))) ∧ ((!encLayS l == encLayS l) = true → (false, ()) = (true, ()) ∧ () = ()))) (by kernel_rfl) ?_
  simp only [Nat.le_refl, Nat.succ_eq_add_one, Nat.reduceAdd, Nat.reduceLeDiff, Nat.zero_le, pair_unit, mk_eta, len_bne, eqD_bne, bne_iff_ne, bne_eq_false_iff_eq, beq_iff_eq, beq_eq_false_iff_ne, true_and, and_true, and_self, eq_self, lt_iff, nthI_nat, bnd_iff, decide_eq_true_eq, decide_eq_false_iff_not, Nat.sub_eq, nz, ne_eq, not_false_eq_true, Prod.mk.injEq, Int.reduceEq, Nat.reduceEqDiff, forall_const, implies_true, bne_self_eq_false, Bool.true_eq_false, Bool.false_eq_true, false_implies, reduceCtorEq, Bool.not_true, Bool.not_false, List.all_cons, List.all_nil, Bool.and_true, Bool.not_eq_true, Bool.not_eq_false, Bool.not_eq_true', Bool.not_eq_false', Decidable.not_not]; try simp only [lenL]
  exact ⟨by constructor <;> decide, fun h => ⟨szL_small h, szL_small h, fun h => (by rw [eqL_self] at h; cases h), fun h => h trivial⟩⟩
end Go.Proofs.YtnoeclpdijlheaaDoor
namespace Go.Proofs.YtnoeclpdijlheaaDoor
open Go.Ab Go.Fn Go.ChangeShapes Go.WideShapes Go.ChangeAt Go.RowKit
theorem bulk {H : Type} : Bulk (Rows.uptoBulk (H := H)) Rows.uptoBulkAll := by
  constructor <;> intros <;> simp [Rows.uptoBulk, Rows.uptoBulkAll]
theorem own : ownKnob Tryd.prog.godebug = none := by kernel_rfl
def valsOf : Nat → DataW Unit → List Value
  | _, .lit (.int k v) => [.int k v]
  | n + 1, .agg l => l.flatMap (valsOf n)
  | _, _ => []
def layAt (h : Array _root_.Go.Obj) (b : Nat) (d : DataW Unit) : Array _root_.Go.Obj := h.modify b fun
  | .cells _ t frozen => .cells (valsOf 3 d).toArray t frozen
  | o => o
noncomputable def laidWorld (os : Os) : World :=
  { World.holding Tryd.prog os ⟨#[], #[], []⟩ with heap := layAt (layAt (World.holding Tryd.prog os ⟨#[], #[], []⟩).heap 5 Rows.laid_unicode_utf8_acceptRanges) 4 Rows.laid_unicode_utf8_first }
theorem laid_met (os : Os) : laidMet Tryd.prog Rows.fnExactEncodeLayerUptoRow.laid ((laidWorld os).forCall (fun _ _ => 0) ⟨#[], #[.slice none 0 0], []⟩).memory :=
  laidMet_of_run3 8 (by kernel_rfl) (by kernel_rfl) (by kernel_rfl)
theorem reads (os : Os) {H : Type} (enc : TypeId × Value → H) : ∃ places, DataW.whole enc Tryd.prog ((laidWorld os).forCall (fun _ _ => 0) ⟨#[], #[.slice none 0 0], []⟩).memory Tryd.f7.params.toList Rows.fnExactEncodeLayerSpec.vars false (#[.slice none 0 0] : Array Value).toList 8 = some ([.nil], [], places) :=
  ⟨[], by kernel_rfl⟩
set_option maxRecDepth 100000 in
theorem fnExactEncodeLayer_lifted (os : Os) (started : os.Started) (H : Type) (enc : TypeId × Value → H) (F : Stop.Interp) :
    ReturnsInHanded {} Tryd.checked os 7 .any ((Rows.OpenSpec.upto Rows.fnExactEncodeLayerSpec).preRow enc Tryd.prog Tryd.f7 Rows.fnExactEncodeLayerUptoRow.domain false Rows.fnExactEncodeLayerUptoRow.laid) (((Rows.OpenSpec.upto Rows.fnExactEncodeLayerSpec).at F).post enc Tryd.prog Tryd.f7 false true false false) := by
  obtain ⟨places, hx⟩ := reads os enc
  refine returnsInHanded_of_row (C := Tryd.checked) (s := Rows.OpenSpec.upto Rows.fnExactEncodeLayerSpec) own started (by kernel_rfl) Tryd.func7
    (witness_row_at (enc := enc) (C := Tryd.checked) false (laidWorld os) #[.slice none 0 0] rfl (by kernel_rfl) (by kernel_rfl) (by kernel_rfl)
      (OpenSpec.preRow_of_cond 8 hx (by kernel_rfl) (fun k hk => by cases hk; kernel_rfl) (by kernel_rfl) (laid_met os))) ?_
  intro W base args ds gs before hval hW _ hk _ _ _ _
  refine law_contract bulk fo_law_FnExactEncodeLayer (by kernel_rfl) rfl ?_ (tb := 4) rfl (by kernel_rfl) hval hW (of_decide_eq_true (hk _ rfl))
  intro ds hl
  match ds, hl with
  | [_], _ => rfl
theorem fnExactEncodeLayer_said : Rows.FnExactEncodeLayerUptoSaid :=
  OpenClaim.holds_of_cond 7 Tryd.f7 rfl rfl rfl rfl rfl rfl rfl ⟨rfl, rfl, rfl, rfl, rfl⟩ rfl rfl rfl rfl rfl (by kernel_rfl) Tryd.func7 (by kernel_rfl)
    (of_decide_eq_true (by kernel_rfl)) (by unfold Func.isWrapper; first | (rw [if_pos (by decide +kernel)]; kernel_rfl) | (rw [if_neg (by decide +kernel)]; exact ⟨rfl, rfl⟩))
    (fun os started H enc _ F => by rw [OpenClaim.pre_eq_preRow]; exact fnExactEncodeLayer_lifted os started H enc F)
theorem noStandIn : (Tryd.f7.params.toList.all fun t => !(Tryd.pinned.checked.prog.wantsStandIn t)) = true := by kernel_rfl
theorem fnExactEncodeLayer_plain (f : FuncId) (fn : Func) (hf : Tryd.pinned.checked.prog.funcNamed "loop.example/g00798/laws.FnExactEncodeLayer" = some f) (hfn : Tryd.pinned.checked.prog.funcs[f]? = some fn) :
    true = Tryd.pinned.checked.prog.looks [] ∧ ∀ (j : Nat) t, fn.params[j]? = some t → Tryd.pinned.checked.prog.wantsStandIn t = false := by
  obtain rfl : f = 7 := Option.some.inj ((show Tryd.prog.funcNamed "loop.example/g00798/laws.FnExactEncodeLayer" = some 7 by kernel_rfl).symm.trans hf) |>.symm
  obtain rfl : fn = Tryd.f7 := (Option.some.inj (Tryd.func7.symm.trans hfn)).symm
  refine ⟨by kernel_rfl, fun j t ht => ?_⟩
  have h := List.all_eq_true.1 noStandIn t (by simpa using Array.mem_of_getElem? ht)
  simpa using h
theorem fnExactEncodeLayer_holds : Rows.FnExactEncodeLayerUptoCardSaid :=
  Claim7.holds_tied_plain_at .later [] _ _ _ _ fnExactEncodeLayer_said (fun _ h => by cases h) (by kernel_rfl) (fun _ h => by cases h) fnExactEncodeLayerUpto_row_tie rfl ⟨rfl, rfl⟩ (by kernel_rfl) rfl fnExactEncodeLayer_plain (by kernel_rfl)
end Go.Proofs.YtnoeclpdijlheaaDoor
