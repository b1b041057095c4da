/- Every function that the law FnExactRecoverPlan reaches does what its specification (a function on plain data) says; the law answers true wherever what it reads is of bulk at most 1048576. Conditions: that bound. -/
import Derived.Test.YtjkipndhdemnoaaGreatDoorAb2
import Derived.Deep.DeepHandedRow
import Derived.Deep.DeepLaidRun
import Derived.Laws.BitsLemmas
import Derived.Lib.Bytealg
import Derived.Lib.ItoaLen
import Derived.Lib.ItoaMem
import Derived.Lib.Join
import Derived.Lib.LaidTab
import Derived.OpenShut
import Derived.ProofKit
import Derived.Shelf.GgSortFunc.RowK
import Derived.Shelf.LaysM
import Derived.Shelf.SlLaysF0
import Derived.Shelf.SlLaysM
import Derived.Shelf.SlLaysN
import Derived.Shelf.SlicesG.CompactS
import Derived.Shelf.SortM.Plain
import Derived.Shelf.SortM.SortNone
import Derived.Shelf.Strconv.Itoa3
import Derived.Shelf.Strings.OnBuilder
import Derived.Sort.Walk0
import Derived.Test.YtjkipndhdemnoaaGreatDoorCards
import Derived.Test.YtjkipndhdemnoaaGreatDoorRows
import Derived.Test.YtjkipndhdemnoaaGreatDoorTie
import Derived.WalkKit
import Derived.Test.YtjkipndhdemnoaaGreatDoorExactRecoverPlan0
set_option autoImplicit true
set_option relaxedAutoImplicit true
set_option maxHeartbeats 4000000
set_option maxRecDepth 4000
set_option linter.unusedVariables false
set_option linter.unusedSimpArgs false
namespace Go.Fn
open Go.Ab
theorem bl_irrefl : ∀ x : List UInt8, Op.bytesLess x x = false := by
  intro x
  induction x with
  | nil => rfl
  | cons a r ih => simp [Op.bytesLess, ih]
def lessL : List (List UInt8) → List (List UInt8) → Bool
  | [], [] => false
  | [], _ :: _ => true
  | _ :: _, [] => false
  | x :: v, y :: w => if x = y then lessL v w else Op.bytesLess x y
def cmpS (x y : List UInt8) : Int := if Op.bytesLess x y = true then -1 else if x = y then 0 else 1
def cmpL : List (List UInt8) → List (List UInt8) → Int
  | [], [] => 0
  | [], _ :: _ => -1
  | _ :: _, [] => 1
  | x :: v, y :: w => if cmpS x y = 0 then cmpL v w else cmpS x y
theorem cmpS_zero {x y : List UInt8} : cmpS x y = 0 ↔ x = y := by
  unfold cmpS
  constructor
  · intro h
    split at h
    · cases h
    · split at h
      · assumption
      · cases h
  · rintro rfl
    rw [bl_irrefl]; simp
theorem cmpL_less : ∀ (v w : List (List UInt8)), decide (cmpL v w < 0) = lessL v w
  | [], [] => rfl
  | [], _ :: _ => rfl
  | _ :: _, [] => rfl
  | x :: v, y :: w => by
    unfold cmpL lessL
    by_cases h : x = y
    · rw [if_pos (cmpS_zero.2 h), if_pos h, cmpL_less v w]
    · rw [if_neg (fun e => h (cmpS_zero.1 e)), if_neg h]
      unfold cmpS
      cases hb : Op.bytesLess x y with
      | true => simp
      | false => simp [h]
def LessAt (v w : List (List UInt8)) (i : Nat) : Prop := i ≤ v.length ∧ i ≤ w.length ∧ lessL v w = lessL (v.drop i) (w.drop i)
def CmpAt (v w : List (List UInt8)) (i : Nat) : Prop := i ≤ v.length ∧ i ≤ w.length ∧ cmpL v w = cmpL (v.drop i) (w.drop i)
theorem less_ne {v w : List (List UInt8)} {i : Nat} {x y : List UInt8} (h : LessAt v w i) (hx : v[i]? = some x) (hy : w[i]? = some y) (hn : ¬ x = y) : Op.bytesLess x y = lessL v w := by
  rw [h.2.2, drop_at hx, drop_at hy]; unfold lessL; rw [if_neg hn]
theorem less_eq {v w : List (List UInt8)} {i : Nat} {x y : List UInt8} (h : LessAt v w i) (hx : v[i]? = some x) (hy : w[i]? = some y) (hn : x = y) : LessAt v w (i + 1) := by
  refine ⟨get_lt hx, get_lt hy, ?_⟩
  rw [h.2.2, drop_at hx, drop_at hy]
  have : lessL (x :: v.drop (i + 1)) (y :: w.drop (i + 1)) = if x = y then lessL (v.drop (i + 1)) (w.drop (i + 1)) else Op.bytesLess x y := rfl
  rw [this, if_pos hn]
theorem less_end {v w : List (List UInt8)} {i : Nat} (h : LessAt v w i) (he : ¬ i < v.length ∨ ¬ i < w.length) : decide (iOf v.length < iOf w.length) = lessL v w := by
  obtain ⟨h1, h2, h3⟩ := h
  rw [h3]
  unfold iOf
  rcases he with he | he
  · rw [List.drop_eq_nil_of_le (by omega : v.length ≤ i)]
    cases hw : w.drop i with
    | nil =>
      have : w.length ≤ i := by
        have := congrArg List.length hw
        simp at this; omega
      simp [lessL]; omega
    | cons a r =>
      have : i < w.length := by
        have := congrArg List.length hw
        simp at this; omega
      simp [lessL]; omega
  · rw [List.drop_eq_nil_of_le (by omega : w.length ≤ i)]
    cases hv : v.drop i with
    | nil =>
      have : v.length ≤ i := by
        have := congrArg List.length hv
        simp at this; omega
      simp [lessL]; omega
    | cons a r => simp [lessL]; omega
theorem cmp_out {v w : List (List UInt8)} {i : Nat} (h : CmpAt v w i) (h1 : i < v.length) (h2 : ¬ i < w.length) : 1 = cmpL v w := by
  rw [h.2.2, List.drop_eq_nil_of_le (by omega : w.length ≤ i), List.drop_eq_getElem_cons h1]
  rfl
theorem cmp_ne {v w : List (List UInt8)} {i : Nat} {x y : List UInt8} (h : CmpAt v w i) (hx : v[i]? = some x) (hy : w[i]? = some y) (hn : ¬ cmpS x y = 0) : cmpS x y = cmpL v w := by
  rw [h.2.2, drop_at hx, drop_at hy]; unfold cmpL; rw [if_neg hn]
theorem cmp_eq {v w : List (List UInt8)} {i : Nat} {x y : List UInt8} (h : CmpAt v w i) (hx : v[i]? = some x) (hy : w[i]? = some y) (hn : cmpS x y = 0) : CmpAt v w (i + 1) := by
  refine ⟨get_lt hx, get_lt hy, ?_⟩
  rw [h.2.2, drop_at hx, drop_at hy]
  have : cmpL (x :: v.drop (i + 1)) (y :: w.drop (i + 1)) = if cmpS x y = 0 then cmpL (v.drop (i + 1)) (w.drop (i + 1)) else cmpS x y := rfl
  rw [this, if_pos hn]
theorem cmp_end {v w : List (List UInt8)} {i : Nat} (h : CmpAt v w i) (he : ¬ i < v.length) : (iOf v.length < iOf w.length → -1 = cmpL v w) ∧ (¬ iOf v.length < iOf w.length → 0 = cmpL v w) := by
  obtain ⟨h1, h2, h3⟩ := h
  rw [h3, List.drop_eq_nil_of_le (by omega : v.length ≤ i)]
  unfold iOf
  cases hw : w.drop i with
  | nil =>
    have : w.length ≤ i := by
      have := congrArg List.length hw
      simp at this; omega
    exact ⟨fun h => by omega, fun _ => rfl⟩
  | cons a r =>
    have : i < w.length := by
      have := congrArg List.length hw
      simp at this; omega
    exact ⟨fun _ => rfl, fun h => by omega⟩
def pathLess (a b : List UInt8) : Bool := pathOK a && (pathOK b && lessL (split 47 a) (split 47 b))
end Go.Fn
namespace Go.Fn
open Go.Ab
def lastI (c : UInt8) : List UInt8 → Int
  | [] => -1
  | x :: r => if lastI c r ≥ 0 then lastI c r + 1 else if x = c then 0 else -1
theorem lastI_ge (c : UInt8) : ∀ t, -1 ≤ lastI c t ∧ lastI c t < t.length
  | [] => by simp [lastI]
  | x :: r => by
    have := lastI_ge c r
    unfold lastI
    simp only [List.length_cons]
    split
    · omega
    · split <;> omega
theorem lastI_none {c : UInt8} : ∀ {t : List UInt8}, (∀ j : Nat, t[j]? ≠ some c) → lastI c t = -1
  | [], _ => rfl
  | x :: r, h => by
    have h1 := lastI_none (t := r) fun j => by have := h (j + 1); simpa using this
    have h2 : ¬ x = c := fun e => h 0 (by simp [e])
    unfold lastI
    rw [h1, if_neg (by omega), if_neg h2]
theorem lastI_at {c : UInt8} : ∀ {t : List UInt8} {i : Nat}, t[i]? = some c → (∀ j : Nat, i < j → t[j]? ≠ some c) → lastI c t = Int.ofNat i
  | [], i, h, _ => by simp at h
  | x :: r, 0, h, hn => by
    have h1 := lastI_none (t := r) fun j => by have := hn (j + 1) (by omega); simpa using this
    have h2 : x = c := by simpa using h
    unfold lastI
    rw [h1, if_neg (by omega), if_pos h2]; rfl
  | x :: r, i + 1, h, hn => by
    have h1 := lastI_at (t := r) (i := i) (by simpa using h) fun j hj => by have := hn (j + 1) (by omega); simpa using this
    unfold lastI
    rw [h1, if_pos (by simp)]; rfl
def lastS (t u : List UInt8) : Int := match u with | [c] => lastI c t | _ => 0
def parentS (t : List UInt8) : List UInt8 := subL t 0 (lastI 47 t).toNat
def NoneFrom (c : UInt8) (t : List UInt8) (k : Int) : Prop := -1 ≤ k ∧ k < t.length ∧ ∀ j : Nat, k < Int.ofNat j → t[j]? ≠ some c
theorem nf_start (c : UInt8) (t : List UInt8) : NoneFrom c t (Int.ofNat t.length - 1) := by
  refine ⟨by simp only [Int.ofNat_eq_natCast]; omega, by simp only [Int.ofNat_eq_natCast]; omega, fun j hj => ?_⟩
  rw [List.getElem?_eq_none (by simp only [Int.ofNat_eq_natCast] at hj; omega)]
  simp
theorem nf_step {c : UInt8} {t : List UInt8} {k : Int} {x : UInt8} (h : NoneFrom c t k) (hk : 0 ≤ k) (hx : nthI t k = some x) (hn : ¬ x = c) : NoneFrom c t (k - 1) := by
  obtain ⟨h1, h2, h3⟩ := h
  refine ⟨by omega, by omega, fun j hj => ?_⟩
  by_cases he : Int.ofNat j = k
  · have : t[j]? = some x := by rw [← he] at hx; exact hx
    rw [this]
    simpa using hn
  · exact h3 j (by omega)
theorem nf_found {c : UInt8} {t : List UInt8} {k : Int} {x : UInt8} (h : NoneFrom c t k) (hk : 0 ≤ k) (hx : nthI t k = some x) (he : x = c) : k = lastI c t := by
  obtain ⟨i, rfl⟩ := Int.eq_ofNat_of_zero_le hk
  subst he
  exact (lastI_at hx fun j hj => h.2.2 j (Int.ofNat_lt.2 hj)).symm
theorem nf_end {c : UInt8} {t : List UInt8} {k : Int} (h : NoneFrom c t k) (hk : ¬ k ≥ 0) : -1 = lastI c t :=
  (lastI_none fun j => h.2.2 j (by have := Int.natCast_nonneg j; simp only [Int.ofNat_eq_natCast]; omega)).symm
theorem par_found {t : List UInt8} {k : Int} {x : UInt8} (h : NoneFrom 47 t k) (hk : k ≥ 0) (hx : nthI t k = some x) (he : Int.ofNat x.toNat = 47) : boundLo k t.length ∧ subL t 0 (tN k) = parentS t := by
  have hx2 : x = 47 := byte_iff.mp (show Int.ofNat x.toNat = Int.ofNat (47 : UInt8).toNat from he)
  have e := nf_found h hk hx hx2
  refine ⟨⟨hk, by have := h.2.1; omega⟩, ?_⟩
  unfold parentS
  rw [← e]; rfl
theorem par_end {t : List UInt8} {k : Int} (h : NoneFrom 47 t k) (hk : ¬ k ≥ 0) : [] = parentS t := by
  unfold parentS
  rw [← nf_end h hk]
  simp [subL]
theorem par_max {t : List UInt8} : boundLo (mm true (lastS t [47]) 0) t.length ∧ subL t 0 (tN (mm true (lastS t [47]) 0)) = parentS t := by
  have h := lastI_ge 47 t
  have e : lastS t [47] = lastI 47 t := rfl
  rw [e]
  unfold mm parentS tN boundLo
  simp only [if_true]
  split
  · rename_i hl
    exact ⟨⟨Int.le_refl _, by omega⟩, by rw [show (lastI 47 t).toNat = 0 by omega]; rfl⟩
  · exact ⟨⟨by omega, by omega⟩, rfl⟩
theorem parent_len {t : List UInt8} : (parentS t).length ≤ t.length := sub_len
end Go.Fn
namespace Go.Fn
open Go.Ab
def hasPre (s p : List UInt8) : Bool := decide (p.length ≤ s.length) && decide (s.take p.length = p)
theorem hp_yes {s p : List UInt8} (h : iOf s.length ≥ iOf p.length) : boundLo (iOf p.length) s.length ∧ (subL s 0 (tN (iOf p.length)) == p) = hasPre s p := by
  have h : (p.length : Int) ≤ s.length := h
  refine ⟨⟨Int.natCast_nonneg _, h⟩, ?_⟩
  unfold hasPre
  rw [decide_eq_true (p := p.length ≤ s.length) (by omega), Bool.true_and]
  have : subL s 0 (tN (iOf p.length)) = s.take p.length := by unfold subL tN iOf; simp
  rw [this]
  by_cases e : s.take p.length = p
  · rw [decide_eq_true e, e]; simp
  · rw [decide_eq_false e]; simpa using e
theorem hp_no {s p : List UInt8} (h : ¬ iOf s.length ≥ iOf p.length) : false = hasPre s p := by
  have h : ¬ (p.length : Int) ≤ s.length := h
  unfold hasPre
  rw [decide_eq_false (p := p.length ≤ s.length) (by omega)]; rfl
theorem pl_yes {a b : List UInt8} (h1 : pathOK a = true) (h2 : pathOK b = true) : decide (cmpL (split 47 a) (split 47 b) < 0) = pathLess a b := by
  rw [cmpL_less]; unfold pathLess; rw [h1, h2]; rfl
theorem pl_no1 {a b : List UInt8} (h1 : pathOK a = false) : false = pathLess a b := by unfold pathLess; rw [h1]; rfl
theorem pl_no2 {a b : List UInt8} (h2 : pathOK b = false) : false = pathLess a b := by unfold pathLess; rw [h2]; simp
theorem cmpS_gt {a b : List UInt8} (h : Op.bytesLess a b = false) : ((Op.bytesLess a b || a == b) = false → 1 = cmpS a b) ∧ ((Op.bytesLess a b || a == b) = true → 0 = cmpS a b) := by
  unfold cmpS
  rw [h]
  simp only [Bool.false_or, Bool.false_eq_true, if_false, beq_iff_eq, beq_eq_false_iff_ne]
  exact ⟨fun h => by rw [if_neg h], fun h => by rw [if_pos h]⟩
end Go.Fn
namespace Go.Fn
open Go.Ab
def atPath (p : List UInt8) (r : Rec) : Bool := decide (r.2.1 = p)
end Go.Fn
namespace Go.Proofs.YtjkipndhdemnoaaGreatDoor
open Go.Ab Go.Fn
def s_hasPre : FSpec := { ps := [.v .str, .v .str], rs := [.v .bool], pre := fun _ => True, fn := fun x => (Fn.hasPre x.1 x.2.1, ()), upd := fun _ => () }
theorem fo_hasPre0 : FO 135 s_hasPre := by
  refine fo (specs := []) (clos := []) (fun x => []) trivial trivial Tryz.func135 rfl rfl ?_
  rintro ⟨s, p, ⟨⟩⟩ -
  refine vcOf (fits (lenL s) → fits (lenL p) → (decide (iOf (lenL s) ≥ iOf (lenL p)) = true → fits (lenL p) → boundLo (iOf (lenL p)) (lenL s) ∧ (subL s (0 : Nat) (tN (iOf (lenL p))) == p, ()) = (hasPre s p, ()) ∧ () = ()) ∧ (decide (iOf (lenL s) ≥ iOf (lenL p)) = false → (false, ()) = (hasPre s p, ()) ∧ () = ())) (by kernel_rfl) ?_
  simp only [Nat.le_refl, Nat.succ_eq_add_one, Nat.reduceAdd, Nat.reduceLeDiff, Nat.zero_le, pair_unit, mk_eta, len_bne, eqD_bne, bne_iff_ne, bne_eq_false_iff_eq, beq_iff_eq, beq_eq_false_iff_ne, true_and, and_true, and_self, eq_self, lt_iff, nthI_nat, bnd_iff, decide_eq_true_eq, decide_eq_false_iff_not, Nat.sub_eq, nz, ne_eq, not_false_eq_true, Prod.mk.injEq, Int.reduceEq, Nat.reduceEqDiff, forall_const, implies_true, bne_self_eq_false, Bool.true_eq_false, Bool.false_eq_true, false_implies, reduceCtorEq, Bool.not_true, Bool.not_false, List.all_cons, List.all_nil, Bool.and_true, Bool.not_eq_true, Bool.not_eq_false, Bool.not_eq_true', Bool.not_eq_false', Decidable.not_not]; try simp only [lenL]
  exact fun _ _ => ⟨fun h _ => hp_yes h, fun h => hp_no h⟩
theorem fo_hasPre : FO 96 s_hasPre := by
  refine fo (specs := [(135, s_hasPre)]) (clos := []) (fun x => []) ⟨fo_hasPre0, trivial⟩ trivial Tryz.func96 rfl rfl ?_
  rintro ⟨s, p, ⟨⟩⟩ -
  refine vcOf (true = true ∧ True ∧ (hasPre s p, ()) = (hasPre s p, ()) ∧ () = ()) (by kernel_rfl) ?_
  simp only [Nat.le_refl, Nat.succ_eq_add_one, Nat.reduceAdd, Nat.reduceLeDiff, Nat.zero_le, pair_unit, mk_eta, len_bne, eqD_bne, bne_iff_ne, bne_eq_false_iff_eq, beq_iff_eq, beq_eq_false_iff_ne, true_and, and_true, and_self, eq_self, lt_iff, nthI_nat, bnd_iff, decide_eq_true_eq, decide_eq_false_iff_not, Nat.sub_eq, nz, ne_eq, not_false_eq_true, Prod.mk.injEq, Int.reduceEq, Nat.reduceEqDiff, forall_const, implies_true, bne_self_eq_false, Bool.true_eq_false, Bool.false_eq_true, false_implies, reduceCtorEq, Bool.not_true, Bool.not_false, List.all_cons, List.all_nil, Bool.and_true, Bool.not_eq_true, Bool.not_eq_false, Bool.not_eq_true', Bool.not_eq_false', Decidable.not_not]; try simp only [lenL]
end Go.Proofs.YtjkipndhdemnoaaGreatDoor
namespace Go.Proofs.YtjkipndhdemnoaaGreatDoor
open Go.Ab Go.Fn
def s_l01Less : FSpec := { ps := [.v .str, .v .str], rs := [.v .bool], pre := fun x => List.length (α := UInt8) x.1 ≤ 100000000 ∧ List.length (α := UInt8) x.2.1 ≤ 100000000, fn := fun x => (Fn.lessL (Fn.split 47 x.1) (Fn.split 47 x.2.1), ()), upd := fun _ => () }
def L_l01Less (v w : List (List UInt8)) : LoopAnn := { ι := Nat, inv := fun k => LessAt v w k, slots := fun k => [(7, .d I (Int.ofNat k))], objs := fun _ => [], μ := fun k => v.length - k }
theorem fo_l01Less : FO 144 s_l01Less := by
  refine fo (specs := [(114, s_l00Cut)]) (clos := []) (fun x => [(4, .lv [5, 6, 7] <| fun _ => L_l01Less (Fn.split 47 x.1) (Fn.split 47 x.2.1))]) ⟨fo_l00Cut, trivial⟩ trivial Tryz.func144 rfl rfl ?_
  rintro ⟨a, b, ⟨⟩⟩ ⟨ha, hb⟩
  refine vcOf (true = true ∧ ((∃ (c : UInt8), (47 : Int) = Int.ofNat c.toNat) ∧ List.length a ≤ (100000000 : Nat)) ∧ true = true ∧ ((∃ (c : UInt8), (47 : Int) = Int.ofNat c.toNat) ∧ List.length b ≤ (100000000 : Nat)) ∧ (∃ (i : Nat), LessAt (split (47 : UInt8) a) (split (47 : UInt8) b) i ∧ (nat_lit 0 = nat_lit 0 ∧ nat_lit 1 = nat_lit 1 ∧ (0 : Int) = Int.ofNat i ∧ True) ∧ ((split (bOf (47 : Int)) a = split (bOf (47 : Int)) a ∧ false = false) ∧ (split (bOf (47 : Int)) b = split (bOf (47 : Int)) b ∧ false = false) ∧ True) ∧ True) ∧ ∀ (i : Nat), LessAt (split (47 : UInt8) a) (split (47 : UInt8) b) i → fits (lenL (split (bOf (47 : Int)) a)) → (decide (Int.ofNat i < iOf (lenL (split (bOf (47 : Int)) a))) = true → fits (lenL (split (bOf (47 : Int)) b)) → (decide (Int.ofNat i < iOf (lenL (split (bOf (47 : Int)) b))) = true → bnd (Int.ofNat i) (lenL (split (bOf (47 : Int)) a)) ∧ nat_lit 1 = nat_lit 1 ∧ nat_lit 1 ≤ nat_lit 1 ∧ tN (Int.ofNat i) < lenL (split (bOf (47 : Int)) a) ∧ ∀ (x : List UInt8), nth (split (bOf (47 : Int)) a) (tN (Int.ofNat i)) = some x → bnd (Int.ofNat i) (lenL (split (bOf (47 : Int)) b)) ∧ nat_lit 1 = nat_lit 1 ∧ nat_lit 1 ≤ nat_lit 1 ∧ tN (Int.ofNat i) < lenL (split (bOf (47 : Int)) b) ∧ ∀ (x_1 : List UInt8), nth (split (bOf (47 : Int)) b) (tN (Int.ofNat i)) = some x_1 → ((!x == x_1) = true → bnd (Int.ofNat i) (lenL (split (bOf (47 : Int)) a)) ∧ nat_lit 1 = nat_lit 1 ∧ nat_lit 1 ≤ nat_lit 1 ∧ tN (Int.ofNat i) < lenL (split (bOf (47 : Int)) a) ∧ ∀ (x : List UInt8), nth (split (bOf (47 : Int)) a) (tN (Int.ofNat i)) = some x → bnd (Int.ofNat i) (lenL (split (bOf (47 : Int)) b)) ∧ nat_lit 1 = nat_lit 1 ∧ nat_lit 1 ≤ nat_lit 1 ∧ tN (Int.ofNat i) < lenL (split (bOf (47 : Int)) b) ∧ ∀ (x_2 : List UInt8), nth (split (bOf (47 : Int)) b) (tN (Int.ofNat i)) = some x_2 → (Op.bytesLess x x_2, ()) = (lessL (split (47 : UInt8) a) (split (47 : UInt8) b), ()) ∧ () = ()) ∧ ((!x == x_1) = false → ∃ (j : Nat), LessAt (split (47 : UInt8) a) (split (47 : UInt8) b) j ∧ (split (47 : UInt8) a).length.sub j < (split (47 : UInt8) a).length.sub i ∧ (nat_lit 0 = nat_lit 0 ∧ nat_lit 1 = nat_lit 1 ∧ wAdd IntKind.i64 (Int.ofNat i) (1 : Int) = Int.ofNat j ∧ True) ∧ ((split (bOf (47 : Int)) a = split (bOf (47 : Int)) a ∧ false = false) ∧ (split (bOf (47 : Int)) b = split (bOf (47 : Int)) b ∧ false = false) ∧ True) ∧ True)) ∧ (decide (Int.ofNat i < iOf (lenL (split (bOf (47 : Int)) b))) = false → fits (lenL (split (bOf (47 : Int)) a)) → fits (lenL (split (bOf (47 : Int)) b)) → (decide (iOf (lenL (split (bOf (47 : Int)) a)) < iOf (lenL (split (bOf (47 : Int)) b))), ()) = (lessL (split (47 : UInt8) a) (split (47 : UInt8) b), ()) ∧ () = ())) ∧ (decide (Int.ofNat i < iOf (lenL (split (bOf (47 : Int)) a))) = false → fits (lenL (split (bOf (47 : Int)) a)) → fits (lenL (split (bOf (47 : Int)) b)) → (decide (iOf (lenL (split (bOf (47 : Int)) a)) < iOf (lenL (split (bOf (47 : Int)) b))), ()) = (lessL (split (47 : UInt8) a) (split (47 : UInt8) b), ()) ∧ () = ())) (by kernel_rfl) ?_
  simp only [Nat.le_refl, Nat.succ_eq_add_one, Nat.reduceAdd, Nat.reduceLeDiff, Nat.zero_le, pair_unit, mk_eta, len_bne, eqD_bne, bne_iff_ne, bne_eq_false_iff_eq, beq_iff_eq, beq_eq_false_iff_ne, true_and, and_true, and_self, eq_self, lt_iff, nthI_nat, bnd_iff, decide_eq_true_eq, decide_eq_false_iff_not, Nat.sub_eq, nz, ne_eq, not_false_eq_true, Prod.mk.injEq, Int.reduceEq, Nat.reduceEqDiff, forall_const, implies_true, bne_self_eq_false, Bool.true_eq_false, Bool.false_eq_true, false_implies, reduceCtorEq, Bool.not_true, Bool.not_false, List.all_cons, List.all_nil, Bool.and_true, Bool.not_eq_true, Bool.not_eq_false, Bool.not_eq_true', Bool.not_eq_false', Decidable.not_not]; try simp only [lenL]
  have e : bOf 47 = 47 := rfl
  simp only [e, tN_nat]
  refine ⟨⟨⟨47, rfl⟩, ha⟩, ⟨⟨47, rfl⟩, hb⟩, ⟨0, ⟨Nat.zero_le _, Nat.zero_le _, rfl⟩, rfl⟩, fun i h hf => ⟨fun h1 hg => ⟨fun h2 => ⟨h1, h1, fun x hx => ⟨h2, h2, fun y hy => ⟨fun hn => ⟨h1, h1, fun x' hx' => ⟨h2, h2, fun y' hy' => ?_⟩⟩, fun he => ⟨i + 1, less_eq h hx hy he, Nat.sub_lt_sub_left h1 (Nat.lt_succ_self i), inc_in hf h.1⟩⟩⟩⟩, fun h2 _ _ => less_end h (.inr h2)⟩, fun h1 _ _ => less_end h (.inl h1)⟩⟩
  have e1 := Option.some.inj (hx.symm.trans hx')
  have e2 := Option.some.inj (hy.symm.trans hy')
  subst e1 e2
  exact less_ne h hx hy hn
end Go.Proofs.YtjkipndhdemnoaaGreatDoor
namespace Go.Proofs.YtjkipndhdemnoaaGreatDoor
open Go.Ab Go.Fn
def s_isNaN : FSpec := { ps := [.v .str], rs := [.v .bool], pre := fun _ => True, fn := fun _ => (false, ()), upd := fun _ => () }
theorem fo_isNaN : FO 211 s_isNaN := by
  refine fo (specs := []) (clos := []) (fun x => []) trivial trivial Tryz.func211 rfl rfl ?_
  rintro ⟨a, ⟨⟩⟩ -
  refine vcOf ((!a == a, ()) = (false, ()) ∧ () = ()) (by kernel_rfl) ?_
  simp only [Nat.le_refl, Nat.succ_eq_add_one, Nat.reduceAdd, Nat.reduceLeDiff, Nat.zero_le, pair_unit, mk_eta, len_bne, eqD_bne, bne_iff_ne, bne_eq_false_iff_eq, beq_iff_eq, beq_eq_false_iff_ne, true_and, and_true, and_self, eq_self, lt_iff, nthI_nat, bnd_iff, decide_eq_true_eq, decide_eq_false_iff_not, Nat.sub_eq, nz, ne_eq, not_false_eq_true, Prod.mk.injEq, Int.reduceEq, Nat.reduceEqDiff, forall_const, implies_true, bne_self_eq_false, Bool.true_eq_false, Bool.false_eq_true, false_implies, reduceCtorEq, Bool.not_true, Bool.not_false, List.all_cons, List.all_nil, Bool.and_true, Bool.not_eq_true, Bool.not_eq_false, Bool.not_eq_true', Bool.not_eq_false', Decidable.not_not]; try simp only [lenL]
end Go.Proofs.YtjkipndhdemnoaaGreatDoor
namespace Go.Proofs.YtjkipndhdemnoaaGreatDoor
open Go.Ab Go.Fn
def s_cmpS : FSpec := { ps := [.v .str, .v .str], rs := [.v I], pre := fun _ => True, fn := fun x => (Fn.cmpS x.1 x.2.1, ()), upd := fun _ => () }
theorem fo_cmpS : FO 217 s_cmpS := by
  refine fo (specs := [(211, s_isNaN)]) (clos := []) (fun x => []) ⟨fo_isNaN, trivial⟩ trivial Tryz.func217 rfl rfl ?_
  rintro ⟨a, b, ⟨⟩⟩ -
  refine vcOf (true = true ∧ True ∧ true = true ∧ True ∧ (false = true → (false = true → ((0 : Int), ()) = (cmpS a b, ()) ∧ () = ()) ∧ (false = false → ((-1 : Int), ()) = (cmpS a b, ()) ∧ () = ())) ∧ (false = false → (false = true → ((1 : Int), ()) = (cmpS a b, ()) ∧ () = ()) ∧ (false = false → (Op.bytesLess a b = true → ((-1 : Int), ()) = (cmpS a b, ()) ∧ () = ()) ∧ (Op.bytesLess a b = false → ((!(Op.bytesLess a b || a == b)) = true → ((1 : Int), ()) = (cmpS a b, ()) ∧ () = ()) ∧ ((!(Op.bytesLess a b || a == b)) = false → ((0 : Int), ()) = (cmpS a b, ()) ∧ () = ()))))) (by kernel_rfl) ?_
  simp only [Nat.le_refl, Nat.succ_eq_add_one, Nat.reduceAdd, Nat.reduceLeDiff, Nat.zero_le, pair_unit, mk_eta, len_bne, eqD_bne, bne_iff_ne, bne_eq_false_iff_eq, beq_iff_eq, beq_eq_false_iff_ne, true_and, and_true, and_self, eq_self, lt_iff, nthI_nat, bnd_iff, decide_eq_true_eq, decide_eq_false_iff_not, Nat.sub_eq, nz, ne_eq, not_false_eq_true, Prod.mk.injEq, Int.reduceEq, Nat.reduceEqDiff, forall_const, implies_true, bne_self_eq_false, Bool.true_eq_false, Bool.false_eq_true, false_implies, reduceCtorEq, Bool.not_true, Bool.not_false, List.all_cons, List.all_nil, Bool.and_true, Bool.not_eq_true, Bool.not_eq_false, Bool.not_eq_true', Bool.not_eq_false', Decidable.not_not]; try simp only [lenL]
  exact ⟨fun h => by unfold Fn.cmpS; rw [if_pos h], fun h => cmpS_gt h⟩
end Go.Proofs.YtjkipndhdemnoaaGreatDoor
namespace Go.Proofs.YtjkipndhdemnoaaGreatDoor
open Go.Ab Go.Fn
def s_cmpL : FSpec := { ps := [.v (.slice .str), .v (.slice .str)], rs := [.v I], pre := fun _ => True, fn := fun x => (Fn.cmpL x.1 x.2.1, ()), upd := fun _ => () }
def L_cmpL (v w : List (List UInt8)) : LoopAnn := { ι := Nat, inv := fun k => CmpAt v w k, slots := fun k => [(11, .d I (Int.ofNat k))], objs := fun _ => [], μ := fun k => v.length - k }
theorem fo_cmpL : FO 198 s_cmpL := by
  refine fo (specs := [(217, s_cmpS)]) (clos := []) (fun x => [(2, .lv [0, 1, 9, 10, 11] <| fun _ => L_cmpL x.1 x.2.1)]) ⟨fo_cmpS, trivial⟩ trivial Tryz.func198 rfl rfl ?_
  rintro ⟨v, w, ⟨⟩⟩ -
  refine vcOf (fits (lenL v) → (∃ (i : Nat), CmpAt v w i ∧ (v = v ∧ w = w ∧ v = v ∧ iOf (lenL v) = iOf (lenL v) ∧ (0 : Int) = Int.ofNat i ∧ True) ∧ True ∧ True) ∧ ∀ (i : Nat), CmpAt v w i → (decide (Int.ofNat i < iOf (lenL v)) = true → bnd (Int.ofNat i) (lenL v) ∧ ∀ (x : List UInt8), nthI v (Int.ofNat i) = some x → nat_lit 1 ≤ nat_lit 1 ∧ (fits (lenL w) → (decide (Int.ofNat i ≥ iOf (lenL w)) = true → ((1 : Int), ()) = (cmpL v w, ()) ∧ () = ()) ∧ (decide (Int.ofNat i ≥ iOf (lenL w)) = false → bnd (Int.ofNat i) (lenL w) ∧ ∀ (x_1 : List UInt8), nthI w (Int.ofNat i) = some x_1 → nat_lit 1 ≤ nat_lit 1 ∧ true = true ∧ True ∧ ((cmpS x x_1 != (0 : Int)) = true → (cmpS x x_1, ()) = (cmpL v w, ()) ∧ () = ()) ∧ ((cmpS x x_1 != (0 : Int)) = false → ∃ (j : Nat), CmpAt v w j ∧ (List.length v).sub j < (List.length v).sub i ∧ (v = v ∧ w = w ∧ v = v ∧ iOf (lenL v) = iOf (lenL v) ∧ wAdd IntKind.i64 (Int.ofNat i) (1 : Int) = Int.ofNat j ∧ True) ∧ True ∧ True)))) ∧ (decide (Int.ofNat i < iOf (lenL v)) = false → fits (lenL v) → fits (lenL w) → (decide (iOf (lenL v) < iOf (lenL w)) = true → ((-1 : Int), ()) = (cmpL v w, ()) ∧ () = ()) ∧ (decide (iOf (lenL v) < iOf (lenL w)) = false → ((0 : Int), ()) = (cmpL v w, ()) ∧ () = ()))) (by kernel_rfl) ?_
  simp only [Nat.le_refl, Nat.succ_eq_add_one, Nat.reduceAdd, Nat.reduceLeDiff, Nat.zero_le, pair_unit, mk_eta, len_bne, eqD_bne, bne_iff_ne, bne_eq_false_iff_eq, beq_iff_eq, beq_eq_false_iff_ne, true_and, and_true, and_self, eq_self, lt_iff, nthI_nat, bnd_iff, decide_eq_true_eq, decide_eq_false_iff_not, Nat.sub_eq, nz, ne_eq, not_false_eq_true, Prod.mk.injEq, Int.reduceEq, Nat.reduceEqDiff, forall_const, implies_true, bne_self_eq_false, Bool.true_eq_false, Bool.false_eq_true, false_implies, reduceCtorEq, Bool.not_true, Bool.not_false, List.all_cons, List.all_nil, Bool.and_true, Bool.not_eq_true, Bool.not_eq_false, Bool.not_eq_true', Bool.not_eq_false', Decidable.not_not]; try simp only [lenL]
  refine fun hf => ⟨⟨0, ⟨Nat.zero_le _, Nat.zero_le _, rfl⟩, rfl⟩, fun i h => ⟨fun h1 => ⟨h1, fun x hx _ => ⟨fun hge => cmp_out h h1 (fun h2 => ?_), fun hlt => ⟨?_, fun y hy => ⟨fun hn => cmp_ne h hx hy hn, fun he => ⟨i + 1, cmp_eq h hx hy he, Nat.sub_lt_sub_left h1 (Nat.lt_succ_self i), inc_in hf h.1⟩⟩⟩⟩⟩, fun h1 _ _ => cmp_end h h1⟩⟩
  · have hge : (w.length : Int) ≤ (i : Int) := hge
    omega
  · have hlt : ¬ (w.length : Int) ≤ (i : Int) := hlt
    omega
end Go.Proofs.YtjkipndhdemnoaaGreatDoor
namespace Go.Proofs.YtjkipndhdemnoaaGreatDoor
open Go.Ab Go.Fn
def s_compare : FSpec := { ps := [.v .str, .v .str], rs := [.v I], pre := fun x => List.length (α := UInt8) x.1 ≤ 100000000 ∧ List.length (α := UInt8) x.2.1 ≤ 100000000, fn := fun x => (Fn.cmpL (Fn.split 47 x.1) (Fn.split 47 x.2.1), ()), upd := fun _ => () }
theorem fo_compare : FO 172 s_compare := by
  refine fo (specs := [(158, s_parts), (198, s_cmpL)]) (clos := []) (fun x => []) ⟨fo_parts, fo_cmpL, trivial⟩ trivial Tryz.func172 rfl rfl ?_
  rintro ⟨a, b, ⟨⟩⟩ ⟨ha, hb⟩
  refine vcOf (true = true ∧ List.length a ≤ (100000000 : Nat) ∧ true = true ∧ List.length b ≤ (100000000 : Nat) ∧ true = true ∧ True ∧ (cmpL (split (47 : UInt8) a) (split (47 : UInt8) b), ()) = (cmpL (split (47 : UInt8) a) (split (47 : UInt8) b), ()) ∧ () = ()) (by kernel_rfl) ?_
  simp only [Nat.le_refl, Nat.succ_eq_add_one, Nat.reduceAdd, Nat.reduceLeDiff, Nat.zero_le, pair_unit, mk_eta, len_bne, eqD_bne, bne_iff_ne, bne_eq_false_iff_eq, beq_iff_eq, beq_eq_false_iff_ne, true_and, and_true, and_self, eq_self, lt_iff, nthI_nat, bnd_iff, decide_eq_true_eq, decide_eq_false_iff_not, Nat.sub_eq, nz, ne_eq, not_false_eq_true, Prod.mk.injEq, Int.reduceEq, Nat.reduceEqDiff, forall_const, implies_true, bne_self_eq_false, Bool.true_eq_false, Bool.false_eq_true, false_implies, reduceCtorEq, Bool.not_true, Bool.not_false, List.all_cons, List.all_nil, Bool.and_true, Bool.not_eq_true, Bool.not_eq_false, Bool.not_eq_true', Bool.not_eq_false', Decidable.not_not]; try simp only [lenL]
  exact ⟨ha, hb⟩
end Go.Proofs.YtjkipndhdemnoaaGreatDoor
namespace Go.Proofs.YtjkipndhdemnoaaGreatDoor
open Go.Ab Go.Fn
def s_PathLess : FSpec := { ps := [.v .str, .v .str], rs := [.v .bool], pre := fun x => List.length (α := UInt8) x.1 ≤ 100000000 ∧ List.length (α := UInt8) x.2.1 ≤ 100000000, fn := fun x => (Fn.pathLess x.1 x.2.1, ()), upd := fun _ => () }
theorem fo_PathLess : FO 151 s_PathLess := by
  refine fo (specs := [(123, s_PathOK), (172, s_compare)]) (clos := []) (fun x => []) ⟨fo_PathOK, fo_compare, trivial⟩ trivial Tryz.func151 rfl rfl ?_
  rintro ⟨a, b, ⟨⟩⟩ ⟨ha, hb⟩
  refine vcOf (true = true ∧ List.length a ≤ (100000000 : Nat) ∧ (pathOK a = true → true = true ∧ List.length b ≤ (100000000 : Nat) ∧ (pathOK b = true → true = true ∧ (List.length a ≤ (100000000 : Nat) ∧ List.length b ≤ (100000000 : Nat)) ∧ (decide (cmpL (split (47 : UInt8) a) (split (47 : UInt8) b) < (0 : Int)), ()) = (pathLess a b, ()) ∧ () = ()) ∧ (pathOK b = false → (false, ()) = (pathLess a b, ()) ∧ () = ())) ∧ (pathOK a = false → (false, ()) = (pathLess a b, ()) ∧ () = ())) (by kernel_rfl) ?_
  simp only [Nat.le_refl, Nat.succ_eq_add_one, Nat.reduceAdd, Nat.reduceLeDiff, Nat.zero_le, pair_unit, mk_eta, len_bne, eqD_bne, bne_iff_ne, bne_eq_false_iff_eq, beq_iff_eq, beq_eq_false_iff_ne, true_and, and_true, and_self, eq_self, lt_iff, nthI_nat, bnd_iff, decide_eq_true_eq, decide_eq_false_iff_not, Nat.sub_eq, nz, ne_eq, not_false_eq_true, Prod.mk.injEq, Int.reduceEq, Nat.reduceEqDiff, forall_const, implies_true, bne_self_eq_false, Bool.true_eq_false, Bool.false_eq_true, false_implies, reduceCtorEq, Bool.not_true, Bool.not_false, List.all_cons, List.all_nil, Bool.and_true, Bool.not_eq_true, Bool.not_eq_false, Bool.not_eq_true', Bool.not_eq_false', Decidable.not_not]; try simp only [lenL]
  exact ⟨ha, fun h1 => ⟨hb, fun h2 => ⟨⟨ha, hb⟩, pl_yes h1 h2⟩, fun h2 => pl_no2 h2⟩, fun h1 => pl_no1 h1⟩
end Go.Proofs.YtjkipndhdemnoaaGreatDoor
namespace Go.Proofs.YtjkipndhdemnoaaGreatDoor
open Go.Ab Go.Fn
def s_parent : FSpec := { ps := [.v .str], rs := [.v .str], pre := fun x => List.length (α := UInt8) x.1 ≤ 100000000, fn := fun x => (Fn.parentS x.1, ()), upd := fun _ => () }
def L_last (c : UInt8) (s : Nat) (t : List UInt8) : LoopAnn := { ι := Int, inv := fun k => NoneFrom c t k, slots := fun k => [(s, .d I k)], objs := fun _ => [], μ := fun k => (k + 1).toNat }
theorem fo_l01Parent : FO 145 s_parent := by
  refine fo (specs := []) (clos := []) (fun x => [(2, .lv [0, 3] <| fun _ => L_last 47 3 x.1)]) trivial trivial Tryz.func145 rfl rfl ?_
  rintro ⟨t, ⟨⟩⟩ hl
  refine vcOf (fits (lenL t) → (∃ (i : Int), NoneFrom (47 : UInt8) t i ∧ (t = t ∧ wSub IntKind.i64 (iOf (lenL t)) (1 : Int) = i ∧ True) ∧ True ∧ True) ∧ ∀ (i : Int), NoneFrom (47 : UInt8) t i → (decide (i ≥ (0 : Int)) = true → bnd i (lenL t) ∧ ∀ (c : UInt8), nthI t i = some c → ((Int.ofNat c.toNat == (47 : Int)) = true → boundLo i (lenL t) ∧ (subL t (0 : Nat) (tN i), ()) = (parentS t, ()) ∧ () = ()) ∧ ((Int.ofNat c.toNat == (47 : Int)) = false → ∃ (j : Int), NoneFrom (47 : UInt8) t j ∧ (j + (1 : Int)).toNat < (i + (1 : Int)).toNat ∧ (t = t ∧ wSub IntKind.i64 i (1 : Int) = j ∧ True) ∧ True ∧ True)) ∧ (decide (i ≥ (0 : Int)) = false → (([] : List UInt8), ()) = (parentS t, ()) ∧ () = ())) (by kernel_rfl) ?_
  simp only [Nat.le_refl, Nat.succ_eq_add_one, Nat.reduceAdd, Nat.reduceLeDiff, Nat.zero_le, pair_unit, mk_eta, len_bne, eqD_bne, bne_iff_ne, bne_eq_false_iff_eq, beq_iff_eq, beq_eq_false_iff_ne, true_and, and_true, and_self, eq_self, lt_iff, nthI_nat, bnd_iff, decide_eq_true_eq, decide_eq_false_iff_not, Nat.sub_eq, nz, ne_eq, not_false_eq_true, Prod.mk.injEq, Int.reduceEq, Nat.reduceEqDiff, forall_const, implies_true, bne_self_eq_false, Bool.true_eq_false, Bool.false_eq_true, false_implies, reduceCtorEq, Bool.not_true, Bool.not_false, List.all_cons, List.all_nil, Bool.and_true, Bool.not_eq_true, Bool.not_eq_false, Bool.not_eq_true', Bool.not_eq_false', Decidable.not_not]; try simp only [lenL]
  have hl : List.length t ≤ 100000000 := hl
  refine fun _ => ⟨⟨Int.ofNat t.length - 1, nf_start 47 t, wSub_in (by unfold iOf; omega)⟩, fun i h => ⟨fun hi => ⟨⟨hi, h.2.1⟩, fun c hc => ⟨fun he => par_found h hi hc he, fun hn => ⟨i - 1, nf_step h hi hc (fun e => hn (by rw [e]; rfl)), by have h1 := hi; have h2 := h.1; omega, wSub_in (by have h1 := hi; have h2 := h.2.1; omega)⟩⟩⟩, fun hi => par_end h hi⟩⟩
end Go.Proofs.YtjkipndhdemnoaaGreatDoor
namespace Go.Proofs.YtjkipndhdemnoaaGreatDoor
open Go.Ab Go.Fn
def s_lastB : FSpec := { ps := [.v .str, .v (.int .u8)], rs := [.v I], pre := fun x => (∃ c : UInt8, x.2.1 = (Int.ofNat c.toNat)) ∧ List.length (α := UInt8) x.1 ≤ 100000000, fn := fun x => (Fn.lastI (bOf x.2.1) x.1, ()), upd := fun _ => () }
theorem fo_lastB : FO 196 s_lastB := by
  refine fo (specs := []) (clos := []) (fun x => [(2, .lv [0, 1, 5] <| fun _ => L_last (bOf x.2.1) 5 x.1)]) trivial trivial Tryz.func196 rfl rfl ?_
  rintro ⟨t, c, ⟨⟩⟩ ⟨⟨b, hb⟩, hl⟩
  have hb : c = Int.ofNat b.toNat := hb
  subst hb
  refine vcOf (fits (lenL t) → (∃ (i : Int), NoneFrom (bOf (Int.ofNat b.toNat)) t i ∧ (t = t ∧ Int.ofNat b.toNat = Int.ofNat b.toNat ∧ wSub IntKind.i64 (iOf (lenL t)) (1 : Int) = i ∧ True) ∧ True ∧ True) ∧ ∀ (i : Int), NoneFrom (bOf (Int.ofNat b.toNat)) t i → (decide (i ≥ (0 : Int)) = true → bnd i (lenL t) ∧ ∀ (c : UInt8), nthI t i = some c → ((Int.ofNat c.toNat == Int.ofNat b.toNat) = true → (i, ()) = (lastI (bOf (Int.ofNat b.toNat)) t, ()) ∧ () = ()) ∧ ((Int.ofNat c.toNat == Int.ofNat b.toNat) = false → ∃ (j : Int), NoneFrom (bOf (Int.ofNat b.toNat)) t j ∧ (j + (1 : Int)).toNat < (i + (1 : Int)).toNat ∧ (t = t ∧ Int.ofNat b.toNat = Int.ofNat b.toNat ∧ wSub IntKind.i64 i (1 : Int) = j ∧ True) ∧ True ∧ True)) ∧ (decide (i ≥ (0 : Int)) = false → ((-1 : Int), ()) = (lastI (bOf (Int.ofNat b.toNat)) t, ()) ∧ () = ())) (by kernel_rfl) ?_
  simp only [Nat.le_refl, Nat.succ_eq_add_one, Nat.reduceAdd, Nat.reduceLeDiff, Nat.zero_le, pair_unit, mk_eta, len_bne, eqD_bne, bne_iff_ne, bne_eq_false_iff_eq, beq_iff_eq, beq_eq_false_iff_ne, true_and, and_true, and_self, eq_self, lt_iff, nthI_nat, bnd_iff, decide_eq_true_eq, decide_eq_false_iff_not, Nat.sub_eq, nz, ne_eq, not_false_eq_true, Prod.mk.injEq, Int.reduceEq, Nat.reduceEqDiff, forall_const, implies_true, bne_self_eq_false, Bool.true_eq_false, Bool.false_eq_true, false_implies, reduceCtorEq, Bool.not_true, Bool.not_false, List.all_cons, List.all_nil, Bool.and_true, Bool.not_eq_true, Bool.not_eq_false, Bool.not_eq_true', Bool.not_eq_false', Decidable.not_not]; try simp only [lenL]
  have hl : List.length t ≤ 100000000 := hl
  simp only [bOf_nat, byte_iff]
  refine fun _ => ⟨⟨Int.ofNat t.length - 1, nf_start b t, wSub_in (by unfold iOf; omega)⟩, fun i h => ⟨fun hi => ⟨⟨hi, h.2.1⟩, fun c hc => ⟨fun he => nf_found h hi hc he, fun hn => ⟨i - 1, nf_step h hi hc hn, by have h1 := hi; have h2 := h.1; omega, wSub_in (by have h1 := hi; have h2 := h.2.1; omega)⟩⟩⟩, fun hi => nf_end h hi⟩⟩
def s_last : FSpec := { ps := [.v .str, .v .str], rs := [.v I], pre := fun x => (∃ c : UInt8, x.2.1 = [c]) ∧ List.length (α := UInt8) x.1 ≤ 100000000, fn := fun x => (Fn.lastS x.1 x.2.1, ()), upd := fun _ => () }
theorem fo_last : FO 169 s_last := by
  refine fo (specs := [(196, s_lastB)]) (clos := []) (fun x => []) ⟨fo_lastB, trivial⟩ trivial Tryz.func169 rfl rfl ?_
  rintro ⟨t, u, ⟨⟩⟩ ⟨⟨c, hc⟩, hl⟩
  have hc : u = [c] := hc
  subst hc
  refine vcOf (fits (lenL (c :: ([] : List UInt8))) → ((iOf (lenL (c :: ([] : List UInt8))) == (0 : Int)) = true → fits (lenL t) → (iOf (lenL t), ()) = (lastS t (c :: ([] : List UInt8)), ()) ∧ () = ()) ∧ ((iOf (lenL (c :: ([] : List UInt8))) == (0 : Int)) = false → ((iOf (lenL (c :: ([] : List UInt8))) == (1 : Int)) = true → bnd (0 : Int) (lenL (c :: ([] : List UInt8))) ∧ ∀ (c_1 : UInt8), nthI (c :: ([] : List UInt8)) (0 : Int) = some c_1 → true = true ∧ ((∃ (c : UInt8), Int.ofNat c_1.toNat = Int.ofNat c.toNat) ∧ List.length t ≤ (100000000 : Nat)) ∧ (lastI (bOf (Int.ofNat c_1.toNat)) t, ()) = (lastS t (c :: ([] : List UInt8)), ()) ∧ () = ()) ∧ ((iOf (lenL (c :: ([] : List UInt8))) == (1 : Int)) = false → fits (lenL t) → ((iOf (lenL (c :: ([] : List UInt8))) == iOf (lenL t)) = true → ((c :: ([] : List UInt8) == t) = true → ((0 : Int), ()) = (lastS t (c :: ([] : List UInt8)), ()) ∧ () = ()) ∧ ((c :: ([] : List UInt8) == t) = false → ((-1 : Int), ()) = (lastS t (c :: ([] : List UInt8)), ()) ∧ () = ())) ∧ ((iOf (lenL (c :: ([] : List UInt8))) == iOf (lenL t)) = false → fits (lenL t) → (decide (iOf (lenL (c :: ([] : List UInt8))) > iOf (lenL t)) = true → ((-1 : Int), ()) = (lastS t (c :: ([] : List UInt8)), ()) ∧ () = ()) ∧ (decide (iOf (lenL (c :: ([] : List UInt8))) > iOf (lenL t)) = false → False))))) (by kernel_rfl) ?_
  simp only [Nat.le_refl, Nat.succ_eq_add_one, Nat.reduceAdd, Nat.reduceLeDiff, Nat.zero_le, pair_unit, mk_eta, len_bne, eqD_bne, bne_iff_ne, bne_eq_false_iff_eq, beq_iff_eq, beq_eq_false_iff_ne, true_and, and_true, and_self, eq_self, lt_iff, nthI_nat, bnd_iff, decide_eq_true_eq, decide_eq_false_iff_not, Nat.sub_eq, nz, ne_eq, not_false_eq_true, Prod.mk.injEq, Int.reduceEq, Nat.reduceEqDiff, forall_const, implies_true, bne_self_eq_false, Bool.true_eq_false, Bool.false_eq_true, false_implies, reduceCtorEq, Bool.not_true, Bool.not_false, List.all_cons, List.all_nil, Bool.and_true, Bool.not_eq_true, Bool.not_eq_false, Bool.not_eq_true', Bool.not_eq_false', Decidable.not_not]; try simp only [lenL]
  refine fun _ => ⟨fun h => absurd h (by show ¬ (1 : Int) = 0; decide), fun _ => ⟨fun _ => ⟨bnd_one c, fun d hd => ⟨⟨⟨d, rfl⟩, hl⟩, ?_⟩⟩, fun h => absurd rfl h⟩⟩
  have e : c = d := Option.some.inj hd
  subst e
  rw [bOf_nat]
  rfl
end Go.Proofs.YtjkipndhdemnoaaGreatDoor
namespace Go.Proofs.YtjkipndhdemnoaaGreatDoor
open Go.Ab Go.Fn
theorem fo_parent : FO 147 s_parent := by
  refine fo (specs := [(169, s_last)]) (clos := []) (fun x => []) ⟨fo_last, trivial⟩ trivial Tryz.func147 rfl rfl ?_
  rintro ⟨t, ⟨⟩⟩ hl
  refine vcOf (true = true ∧ ((∃ (c : UInt8), (47 : UInt8) :: ([] : List UInt8) = c :: ([] : List UInt8)) ∧ List.length t ≤ (100000000 : Nat)) ∧ IntKind.i64 = IntKind.i64 ∧ boundLo (mm true (lastS t ((47 : UInt8) :: ([] : List UInt8))) (0 : Int)) (lenL t) ∧ (subL t (0 : Nat) (tN (mm true (lastS t ((47 : UInt8) :: ([] : List UInt8))) (0 : Int))), ()) = (parentS t, ()) ∧ () = ()) (by kernel_rfl) ?_
  simp only [Nat.le_refl, Nat.succ_eq_add_one, Nat.reduceAdd, Nat.reduceLeDiff, Nat.zero_le, pair_unit, mk_eta, len_bne, eqD_bne, bne_iff_ne, bne_eq_false_iff_eq, beq_iff_eq, beq_eq_false_iff_ne, true_and, and_true, and_self, eq_self, lt_iff, nthI_nat, bnd_iff, decide_eq_true_eq, decide_eq_false_iff_not, Nat.sub_eq, nz, ne_eq, not_false_eq_true, Prod.mk.injEq, Int.reduceEq, Nat.reduceEqDiff, forall_const, implies_true, bne_self_eq_false, Bool.true_eq_false, Bool.false_eq_true, false_implies, reduceCtorEq, Bool.not_true, Bool.not_false, List.all_cons, List.all_nil, Bool.and_true, Bool.not_eq_true, Bool.not_eq_false, Bool.not_eq_true', Bool.not_eq_false', Decidable.not_not]; try simp only [lenL]
  exact ⟨⟨⟨47, rfl⟩, hl⟩, par_max⟩
end Go.Proofs.YtjkipndhdemnoaaGreatDoor
namespace Go.Proofs.YtjkipndhdemnoaaGreatDoor
open Go.Ab Go.Fn
def s_find : FSpec := { ps := [.v (.slice tRec), .v .str], rs := [.v I], pre := fun _ => True, fn := fun x => (idx (Fn.atPath x.2.1) x.1, ()), upd := fun _ => () }
def L_find (l : List Rec) (p : List UInt8) : LoopAnn := { ι := Nat, inv := fun k => k ≤ l.length ∧ ∀ (j : Nat) (y : Rec), j < k → l[j]? = some y → Fn.atPath p y = false, slots := fun k => [(5, .d I (Int.ofNat k))], objs := fun _ => [], μ := fun k => l.length - k }
theorem fo_l03At : FO 146 s_find := by
  refine fo (specs := []) (clos := []) (fun x => [(2, .lv [0, 1, 5] <| fun _ => L_find x.1 x.2.1)]) trivial trivial Tryz.func146 rfl rfl ?_
  rintro ⟨l, p, ⟨⟩⟩ -
  refine vcOf ((∃ (i : Nat), (i ≤ List.length l ∧ ∀ (j : Nat) (y : Rec), j < i → l[j]? = some y → atPath p y = false) ∧ (l = l ∧ p = p ∧ (0 : Int) = Int.ofNat i ∧ True) ∧ True ∧ True) ∧ ∀ (i : Nat), (i ≤ List.length l ∧ ∀ (j : Nat) (y : Rec), j < i → l[j]? = some y → atPath p y = false) → fits (lenL l) → (decide (Int.ofNat i < iOf (lenL l)) = true → bnd (Int.ofNat i) (lenL l) ∧ ∀ (x : Int × List UInt8 × List UInt8 × Int × Bool × Unit), nthI l (Int.ofNat i) = some x → nat_lit 1 ≤ (Nat.succ (nat_lit 1)).succ.succ ∧ ((x.snd.fst == p) = true → (Int.ofNat i, ()) = (idx (atPath p) l, ()) ∧ () = ()) ∧ ((x.snd.fst == p) = false → ∃ (j : Nat), (j ≤ List.length l ∧ ∀ (j_1 : Nat) (y : Rec), j_1 < j → l[j_1]? = some y → atPath p y = false) ∧ (List.length l).sub j < (List.length l).sub i ∧ (l = l ∧ p = p ∧ wAdd IntKind.i64 (Int.ofNat i) (1 : Int) = Int.ofNat j ∧ True) ∧ True ∧ True)) ∧ (decide (Int.ofNat i < iOf (lenL l)) = false → ((-1 : Int), ()) = (idx (atPath p) l, ()) ∧ () = ())) (by kernel_rfl) ?_
  simp only [Nat.le_refl, Nat.succ_eq_add_one, Nat.reduceAdd, Nat.reduceLeDiff, Nat.zero_le, pair_unit, mk_eta, len_bne, eqD_bne, bne_iff_ne, bne_eq_false_iff_eq, beq_iff_eq, beq_eq_false_iff_ne, true_and, and_true, and_self, eq_self, lt_iff, nthI_nat, bnd_iff, decide_eq_true_eq, decide_eq_false_iff_not, Nat.sub_eq, nz, ne_eq, not_false_eq_true, Prod.mk.injEq, Int.reduceEq, Nat.reduceEqDiff, forall_const, implies_true, bne_self_eq_false, Bool.true_eq_false, Bool.false_eq_true, false_implies, reduceCtorEq, Bool.not_true, Bool.not_false, List.all_cons, List.all_nil, Bool.and_true, Bool.not_eq_true, Bool.not_eq_false, Bool.not_eq_true', Bool.not_eq_false', Decidable.not_not]; try simp only [lenL]
  refine ⟨⟨0, ⟨Nat.zero_le _, fun j y hj => absurd hj (Nat.not_lt_zero _)⟩, rfl⟩, fun i ⟨hk, hi⟩ hf => ⟨fun h => ⟨h, fun x hx => ⟨fun he => (idx_at hi hx (decide_eq_true he)).symm, fun hn => ⟨i + 1, ⟨h, below_succ (P := fun y => Fn.atPath p y = false) hi hx (decide_eq_false hn)⟩, Nat.sub_lt_sub_left h (Nat.lt_succ_self i), inc_in hf hk⟩⟩⟩, fun h => (idx_end hi h).symm⟩⟩
end Go.Proofs.YtjkipndhdemnoaaGreatDoor
namespace Go.Proofs.YtjkipndhdemnoaaGreatDoor
open Go.Ab Go.Fn
def s_IndexFunc_Rec : FSpec := { ps := [.v (.slice tRec), .f [tRec] .bool], rs := [.v I], pre := fun x => ∀ y, y ∈ x.1 → x.2.1.2 (y, ()), fn := fun x => (idx (fun y => x.2.1.1 (y, ())) x.1, ()), upd := fun _ => () }
def L_IndexFunc_Rec (xs : List (tRec : Ty).den) (p : dens [tRec] → Bool) : LoopAnn := { ι := Nat, inv := fun k => k ≤ List.length (α := (tRec : Ty).den) xs ∧ ∀ (j : Nat) (y : (tRec : Ty).den), j < k → xs[j]? = some y → p (y, ()) = false, slots := fun k => [(8, .d I (Int.ofNat k))], objs := fun _ => [], μ := fun k => List.length (α := (tRec : Ty).den) xs - k }
theorem fo_IndexFunc_Rec : FO 170 s_IndexFunc_Rec := by
  refine fo (specs := []) (clos := []) (fun x => [(2, .lv [0, 1, 7, 8] <| fun _ => L_IndexFunc_Rec x.1 x.2.1.1)]) trivial trivial Tryz.func170 rfl rfl ?_
  rintro ⟨xs, ⟨p, q⟩, ⟨⟩⟩ hp
  refine vcOf (fits (lenL xs) → (∃ (i : Nat), (i ≤ List.length xs ∧ ∀ (j : Nat) (y : Int × List UInt8 × List UInt8 × Int × Bool × Unit), j < i → xs[j]? = some y → p (y, ()) = false) ∧ (xs = xs ∧ (p, q) = (p, q) ∧ iOf (lenL xs) = iOf (lenL xs) ∧ (0 : Int) = Int.ofNat i ∧ True) ∧ True ∧ True) ∧ ∀ (i : Nat), (i ≤ List.length xs ∧ ∀ (j : Nat) (y : Int × List UInt8 × List UInt8 × Int × Bool × Unit), j < i → xs[j]? = some y → p (y, ()) = false) → (decide (Int.ofNat i < iOf (lenL xs)) = true → bnd (Int.ofNat i) (lenL xs) ∧ ∀ (x : Int × List UInt8 × List UInt8 × Int × Bool × Unit), nthI xs (Int.ofNat i) = some x → nat_lit 5 ≤ (Nat.succ (nat_lit 1)).succ.succ.succ ∧ q ((x.fst, x.snd.fst, x.snd.snd.fst, x.snd.snd.snd.fst, x.snd.snd.snd.snd.fst, ()), ()) ∧ (p ((x.fst, x.snd.fst, x.snd.snd.fst, x.snd.snd.snd.fst, x.snd.snd.snd.snd.fst, ()), ()) = true → (Int.ofNat i, ()) = (idx (fun (y : Int × List UInt8 × List UInt8 × Int × Bool × Unit) => p (y, ())) xs, ()) ∧ () = ()) ∧ (p ((x.fst, x.snd.fst, x.snd.snd.fst, x.snd.snd.snd.fst, x.snd.snd.snd.snd.fst, ()), ()) = false → ∃ (j : Nat), (j ≤ List.length xs ∧ ∀ (j_1 : Nat) (y : Int × List UInt8 × List UInt8 × Int × Bool × Unit), j_1 < j → xs[j_1]? = some y → p (y, ()) = false) ∧ (List.length xs).sub j < (List.length xs).sub i ∧ (xs = xs ∧ (p, q) = (p, q) ∧ iOf (lenL xs) = iOf (lenL xs) ∧ wAdd IntKind.i64 (Int.ofNat i) (1 : Int) = Int.ofNat j ∧ True) ∧ True ∧ True)) ∧ (decide (Int.ofNat i < iOf (lenL xs)) = false → ((-1 : Int), ()) = (idx (fun (y : Int × List UInt8 × List UInt8 × Int × Bool × Unit) => p (y, ())) xs, ()) ∧ () = ())) (by kernel_rfl) ?_
  simp only [Nat.le_refl, Nat.succ_eq_add_one, Nat.reduceAdd, Nat.reduceLeDiff, Nat.zero_le, pair_unit, mk_eta, len_bne, eqD_bne, bne_iff_ne, bne_eq_false_iff_eq, beq_iff_eq, beq_eq_false_iff_ne, true_and, and_true, and_self, eq_self, lt_iff, nthI_nat, bnd_iff, decide_eq_true_eq, decide_eq_false_iff_not, Nat.sub_eq, nz, ne_eq, not_false_eq_true, Prod.mk.injEq, Int.reduceEq, Nat.reduceEqDiff, forall_const, implies_true, bne_self_eq_false, Bool.true_eq_false, Bool.false_eq_true, false_implies, reduceCtorEq, Bool.not_true, Bool.not_false, List.all_cons, List.all_nil, Bool.and_true, Bool.not_eq_true, Bool.not_eq_false, Bool.not_eq_true', Bool.not_eq_false', Decidable.not_not]; try simp only [lenL]
  refine fun hf => ⟨⟨0, ⟨Nat.zero_le _, fun j y hj => absurd hj (Nat.not_lt_zero _)⟩, rfl⟩, fun k ⟨hk, hi⟩ => ⟨fun h => ⟨h, fun x hx => ⟨hp x (List.mem_of_getElem? hx), fun h1 => (idx_at hi hx h1).symm, fun h1 => ⟨k + 1, ⟨h, below_succ (P := fun y => p (y, ()) = false) hi hx h1⟩, by omega, inc_in hf hk⟩⟩⟩, fun h => (idx_end hi h).symm⟩⟩
end Go.Proofs.YtjkipndhdemnoaaGreatDoor
namespace Go.Proofs.YtjkipndhdemnoaaGreatDoor
open Go.Ab Go.Fn
def c_find : CSpec := { ats := [tRec], b := .bool, cs := [.r .str], pre := fun _ _ => True, fn := fun c a => Fn.atPath c.1 a.1 }
theorem fo_findc : FO 171 c_find.fspec := by
  refine fo (specs := []) (clos := []) (fun x => []) trivial trivial Tryz.func171 rfl rfl ?_
  rintro ⟨⟨k, p, b, m, o, ⟨⟩⟩, n, ⟨⟩⟩ -
  refine vcOf (nat_lit 2 ≤ (Nat.succ (nat_lit 1)).succ.succ.succ ∧ nat_lit 1 ≤ nat_lit 1 ∧ (p == n, ()) = (atPath n (k, p, b, m, o, ()), ()) ∧ () = ()) (by kernel_rfl) ?_
  simp only [Nat.le_refl, Nat.succ_eq_add_one, Nat.reduceAdd, Nat.reduceLeDiff, Nat.zero_le, pair_unit, mk_eta, len_bne, eqD_bne, bne_iff_ne, bne_eq_false_iff_eq, beq_iff_eq, beq_eq_false_iff_ne, true_and, and_true, and_self, eq_self, lt_iff, nthI_nat, bnd_iff, decide_eq_true_eq, decide_eq_false_iff_not, Nat.sub_eq, nz, ne_eq, not_false_eq_true, Prod.mk.injEq, Int.reduceEq, Nat.reduceEqDiff, forall_const, implies_true, bne_self_eq_false, Bool.true_eq_false, Bool.false_eq_true, false_implies, reduceCtorEq, Bool.not_true, Bool.not_false, List.all_cons, List.all_nil, Bool.and_true, Bool.not_eq_true, Bool.not_eq_false, Bool.not_eq_true', Bool.not_eq_false', Decidable.not_not]; try simp only [lenL]
  unfold Fn.atPath
  by_cases h : p = n
  · rw [decide_eq_true h, h]; simp
  · rw [decide_eq_false h]; simpa using h
theorem fo_find : FO 148 s_find := by
  refine fo (specs := [(170, s_IndexFunc_Rec)]) (clos := [(171, c_find)]) (fun x => []) ⟨fo_IndexFunc_Rec, trivial⟩ ⟨co fo_findc rfl rfl, trivial⟩ Tryz.func148 rfl rfl ?_
  rintro ⟨l, p, ⟨⟩⟩ -
  refine vcOf (true = true ∧ (∀ (y : Int × List UInt8 × List UInt8 × Int × Bool × Unit), y ∈ l → True) ∧ (idx (fun (y : Int × List UInt8 × List UInt8 × Int × Bool × Unit) => (fun (a : (Int × List UInt8 × List UInt8 × Int × Bool × Unit) × Unit) => atPath p a.fst, fun (x : (Int × List UInt8 × List UInt8 × Int × Bool × Unit) × Unit) => True).fst (y, ())) l, ()) = (idx (atPath p) l, ()) ∧ () = ()) (by kernel_rfl) ?_
  simp only [Nat.le_refl, Nat.succ_eq_add_one, Nat.reduceAdd, Nat.reduceLeDiff, Nat.zero_le, pair_unit, mk_eta, len_bne, eqD_bne, bne_iff_ne, bne_eq_false_iff_eq, beq_iff_eq, beq_eq_false_iff_ne, true_and, and_true, and_self, eq_self, lt_iff, nthI_nat, bnd_iff, decide_eq_true_eq, decide_eq_false_iff_not, Nat.sub_eq, nz, ne_eq, not_false_eq_true, Prod.mk.injEq, Int.reduceEq, Nat.reduceEqDiff, forall_const, implies_true, bne_self_eq_false, Bool.true_eq_false, Bool.false_eq_true, false_implies, reduceCtorEq, Bool.not_true, Bool.not_false, List.all_cons, List.all_nil, Bool.and_true, Bool.not_eq_true, Bool.not_eq_false, Bool.not_eq_true', Bool.not_eq_false', Decidable.not_not]; try simp only [lenL]
end Go.Proofs.YtjkipndhdemnoaaGreatDoor
namespace Go.Fn
open Go.Ab
def recAt (l : List Rec) (i : Nat) : Rec := l.getD i rec0
def upOf (l : List Rec) (i : Nat) : Int := if parentS (recAt l i).2.1 = [] then 0 else idx (atPath (parentS (recAt l i).2.1)) (l.take i)
def sameB (l : List Rec) (i : Int) : Bool := decide (i > 0) && decide ((recAt l (i.toNat - 1)).2.1 = (recAt l i.toNat).2.1)
def unlessB (l : List Rec) (i : Int) : Bool := decide (i > 0) && !(lessL (split 47 (recAt l (i.toNat - 1)).2.1) (split 47 (recAt l i.toNat).2.1))
def orderB (l : List Rec) (i : Int) : Bool := decide (i > 0) && !(pathLess (recAt l (i.toNat - 1)).2.1 (recAt l i.toNat).2.1)
def dirB (l : List Rec) (i : Int) : Bool := !(decide (parentS (recAt l i.toNat).2.1 = [])) && !(decide ((recAt l (upOf l i.toNat).toNat).1 = 3))
def faultAt (l : List Rec) (i : Nat) : Int := if 16 ≤ i then 6 else if ¬ recFault (recAt l i) = 0 then recFault (recAt l i) else if sameB l (Int.ofNat i) = true then 18 else if orderB l (Int.ofNat i) = true then 11 else if upOf l i < 0 then 12 else if dirB l (Int.ofNat i) = true then 13 else 0
def faultI (l : List Rec) (i : Int) : Int := faultAt l i.toNat
def okL (l : List Rec) : Prop := ∀ r ∈ l, r.2.1.length ≤ 100000000
end Go.Fn
namespace Go.Fn
open Go.Ab
def OKto (l : List Rec) (k : Nat) : Prop := k ≤ l.length ∧ ∀ j, j < k → faultAt l j = 0
def layI (l : List Rec) : Option Nat := (List.range l.length).find? fun i => !(decide (faultAt l i = 0))
def layN (l : List Rec) : Int := match layI l with | some i => Int.ofNat i | none => 0
def layC (l : List Rec) : Int := match layI l with | some i => faultAt l i | none => 0
end Go.Fn
namespace Go.Fn
open Go.Ab
theorem recAt_at {l : List Rec} {i : Nat} {x : Rec} (h : l[i]? = some x) : recAt l i = x := by unfold recAt; rw [List.getD_eq_getElem?_getD, h]; rfl
theorem ok0 (l : List Rec) : OKto l 0 := ⟨Nat.zero_le _, fun j hj => absurd hj (Nat.not_lt_zero _)⟩
theorem ok_step {l : List Rec} {i : Nat} (h : OKto l i) (hi : i < l.length) (hf : faultAt l i = 0) : OKto l (i + 1) := by
  refine ⟨hi, fun j hj => ?_⟩
  by_cases e : j = i
  · rw [e]; exact hf
  · exact h.2 j (by omega)
theorem lay_at {l : List Rec} {i : Nat} (h : OKto l i) (hi : i < l.length) (hf : ¬ faultAt l i = 0) : layI l = some i := by
  unfold layI
  rw [List.find?_range_eq_some]
  refine ⟨by simp [hf], List.mem_range.2 hi, fun j hj => by simp [h.2 j hj]⟩
theorem lay_c {l : List Rec} {i : Nat} {c : Int} (h : OKto l i) (hi : i < l.length) (hc : faultAt l i = c) (hn : ¬ c = 0) : Int.ofNat i = layN l ∧ c = layC l := by
  have := lay_at h hi (by rw [hc]; exact hn)
  unfold layN layC
  rw [this]
  exact ⟨rfl, hc.symm⟩
theorem lay_end {l : List Rec} {i : Nat} (h : OKto l i) (hi : ¬ i < l.length) : 0 = layN l ∧ 0 = layC l := by
  have : layI l = none := by
    unfold layI
    rw [List.find?_eq_none]
    intro j hj
    have := List.mem_range.1 hj
    simp [h.2 j (by omega)]
  unfold layN layC
  rw [this]
  exact ⟨rfl, rfl⟩
theorem fa_16 {l : List Rec} {i : Nat} (h : 16 ≤ i) : faultAt l i = 6 := by unfold faultAt; rw [if_pos h]
theorem ok_16 {l : List Rec} {i : Nat} (h : OKto l i) (hn : ¬ Int.ofNat i = 16) : ¬ 16 ≤ i := by
  intro hge
  have : ¬ i = 16 := fun e => hn (by rw [e]; rfl)
  have h2 := h.2 16 (by omega)
  rw [fa_16 (Nat.le_refl _)] at h2
  cases h2
theorem fa_rec {l : List Rec} {i : Nat} (h : ¬ 16 ≤ i) (hr : ¬ recFault (recAt l i) = 0) : faultAt l i = recFault (recAt l i) := by unfold faultAt; rw [if_neg h, if_pos hr]
theorem fa_18 {l : List Rec} {i : Nat} (h : ¬ 16 ≤ i) (hr : recFault (recAt l i) = 0) (hs : sameB l (Int.ofNat i) = true) : faultAt l i = 18 := by unfold faultAt; rw [if_neg h, if_neg (by simp [hr]), if_pos hs]
theorem fa_11 {l : List Rec} {i : Nat} (h : ¬ 16 ≤ i) (hr : recFault (recAt l i) = 0) (hs : sameB l (Int.ofNat i) = false) (ho : orderB l (Int.ofNat i) = true) : faultAt l i = 11 := by unfold faultAt; rw [if_neg h, if_neg (by simp [hr]), if_neg (by rw [hs]; exact Bool.false_ne_true), if_pos ho]
theorem fa_12 {l : List Rec} {i : Nat} (h : ¬ 16 ≤ i) (hr : recFault (recAt l i) = 0) (hs : sameB l (Int.ofNat i) = false) (ho : orderB l (Int.ofNat i) = false) (hu : upOf l i < 0) : faultAt l i = 12 := by unfold faultAt; rw [if_neg h, if_neg (by simp [hr]), if_neg (by rw [hs]; exact Bool.false_ne_true), if_neg (by rw [ho]; exact Bool.false_ne_true), if_pos hu]
theorem fa_13 {l : List Rec} {i : Nat} (h : ¬ 16 ≤ i) (hr : recFault (recAt l i) = 0) (hs : sameB l (Int.ofNat i) = false) (ho : orderB l (Int.ofNat i) = false) (hu : ¬ upOf l i < 0) (hd : dirB l (Int.ofNat i) = true) : faultAt l i = 13 := by unfold faultAt; rw [if_neg h, if_neg (by simp [hr]), if_neg (by rw [hs]; exact Bool.false_ne_true), if_neg (by rw [ho]; exact Bool.false_ne_true), if_neg hu, if_pos hd]
theorem fa_0 {l : List Rec} {i : Nat} (h : ¬ 16 ≤ i) (hr : recFault (recAt l i) = 0) (hs : sameB l (Int.ofNat i) = false) (ho : orderB l (Int.ofNat i) = false) (hu : ¬ upOf l i < 0) (hd : dirB l (Int.ofNat i) = false) : faultAt l i = 0 := by unfold faultAt; rw [if_neg h, if_neg (by simp [hr]), if_neg (by rw [hs]; exact Bool.false_ne_true), if_neg (by rw [ho]; exact Bool.false_ne_true), if_neg hu, if_neg (by rw [hd]; exact Bool.false_ne_true)]
theorem fa_fine {l : List Rec} {i : Nat} (h : faultAt l i = 0) : recFault (recAt l i) = 0 := by
  unfold faultAt at h
  split at h
  · cases h
  · split at h
    · exact h
    · rename_i h2
      simpa using h2
theorem rec_path {r : Rec} (h : recFault r = 0) : pathOK r.2.1 = true := by
  obtain ⟨k, p, b, m, o, ⟨⟩⟩ := r
  exact (rec_ok h).1
theorem order_eq {l : List Rec} {i : Nat} (h : OKto l i) (hr : recFault (recAt l i) = 0) : orderB l (Int.ofNat i) = unlessB l (Int.ofNat i) := by
  unfold orderB unlessB
  by_cases hp : Int.ofNat i > 0
  · have hp' : 0 < i := Int.ofNat_lt.1 hp
    have h1 : pathOK (recAt l (i - 1)).2.1 = true := rec_path (fa_fine (h.2 (i - 1) (by omega)))
    have h2 := rec_path hr
    unfold pathLess
    rw [show (Int.ofNat i).toNat = i from rfl, h1, h2]
    rfl
  · rw [decide_eq_false hp]; rfl
theorem ws1 {l : List Rec} {i : Nat} (hp : Int.ofNat i > 0) (hi : i < l.length) (hf : fits l.length) : wSub .i64 (Int.ofNat i) 1 = Int.ofNat (i - 1) := by
  have hf : l.length < 1099511627776 := hf
  have hp : 0 < i := Int.ofNat_lt.1 hp
  rw [wSub_in (by simp only [Int.ofNat_eq_natCast]; omega)]
  simp only [Int.ofNat_eq_natCast]
  omega
theorem same_at {l : List Rec} {i : Nat} {x y : Rec} (hp : Int.ofNat i > 0) (hx : l[i]? = some x) (hy : l[i - 1]? = some y) : (x.2.1 == y.2.1) = sameB l (Int.ofNat i) ∧ (y.2.1 == x.2.1) = sameB l (Int.ofNat i) := by
  unfold sameB
  rw [decide_eq_true hp, show (Int.ofNat i).toNat = i from rfl, recAt_at hx, recAt_at hy]
  by_cases e : y.2.1 = x.2.1
  · rw [decide_eq_true e, e]; simp
  · have e' : ¬ x.2.1 = y.2.1 := fun h => e h.symm
    rw [decide_eq_false e]
    simp [e, e']
theorem same_no {l : List Rec} {i : Nat} (hp : ¬ Int.ofNat i > 0) : false = sameB l (Int.ofNat i) := by unfold sameB; rw [decide_eq_false hp]; rfl
theorem unless_at {l : List Rec} {i : Nat} {x y : Rec} (hp : Int.ofNat i > 0) (hx : l[i]? = some x) (hy : l[i - 1]? = some y) : (!lessL (split 47 y.2.1) (split 47 x.2.1)) = unlessB l (Int.ofNat i) := by
  unfold unlessB
  rw [decide_eq_true hp, show (Int.ofNat i).toNat = i from rfl, recAt_at hx, recAt_at hy]; rfl
theorem unless_no {l : List Rec} {i : Nat} (hp : ¬ Int.ofNat i > 0) : false = unlessB l (Int.ofNat i) := by unfold unlessB; rw [decide_eq_false hp]; rfl
theorem order_at {l : List Rec} {i : Nat} {x y : Rec} (hp : Int.ofNat i > 0) (hx : l[i]? = some x) (hy : l[i - 1]? = some y) : (!pathLess y.2.1 x.2.1) = orderB l (Int.ofNat i) := by
  unfold orderB
  rw [decide_eq_true hp, show (Int.ofNat i).toNat = i from rfl, recAt_at hx, recAt_at hy]; rfl
theorem order_no {l : List Rec} {i : Nat} (hp : ¬ Int.ofNat i > 0) : false = orderB l (Int.ofNat i) := by unfold orderB; rw [decide_eq_false hp]; rfl
theorem up_none {l : List Rec} {i : Nat} {x : Rec} (hx : l[i]? = some x) (hp : parentS x.2.1 = []) : upOf l i = 0 := by unfold upOf; rw [recAt_at hx, if_pos hp]
theorem up_some {l : List Rec} {i : Nat} {x : Rec} (hx : l[i]? = some x) (hp : ¬ parentS x.2.1 = []) : idx (atPath (parentS x.2.1)) (subL l 0 (tN (Int.ofNat i))) = upOf l i := by
  unfold upOf; rw [recAt_at hx, if_neg hp]
  have : subL l 0 (tN (Int.ofNat i)) = l.take i := rfl
  rw [this]
theorem idx_lt {α : Type} (p : α → Bool) (l : List α) : idx p l < l.length ∧ -1 ≤ idx p l := by
  unfold idx
  cases h : l.findIdx? p with
  | none => simp; omega
  | some i =>
    have := (List.findIdx?_eq_some_iff_getElem.1 h).1
    simp only
    omega
theorem up_lt {l : List Rec} {i : Nat} (hi : i < l.length) : upOf l i < l.length := by
  unfold upOf
  split
  · omega
  · have := (idx_lt (atPath (parentS (recAt l i).2.1)) (l.take i)).1
    simp at this
    omega
theorem dir_none {l : List Rec} {i : Nat} {x : Rec} (hx : l[i]? = some x) (hp : parentS x.2.1 = []) : dirB l (Int.ofNat i) = false := by
  unfold dirB; rw [show (Int.ofNat i).toNat = i from rfl, recAt_at hx, decide_eq_true hp]; rfl
theorem dir_some {l : List Rec} {i : Nat} {x z : Rec} (hx : l[i]? = some x) (hp : ¬ parentS x.2.1 = []) (hu : ¬ upOf l i < 0) (hz : nthI l (upOf l i) = some z) : dirB l (Int.ofNat i) = !(decide (z.1 = 3)) := by
  have hz : l[(upOf l i).toNat]? = some z := hz
  unfold dirB; rw [show (Int.ofNat i).toNat = i from rfl, recAt_at hx, decide_eq_false hp, recAt_at hz]; rfl
theorem mm_toNat {u : Int} : (mm true u 0).toNat = u.toNat ∧ 0 ≤ mm true u 0 := by
  unfold mm
  simp only [if_true]
  split <;> omega
theorem ms1 {i : Nat} (hp : Int.ofNat i > 0) (hi : i < 1099511627776) : mm true (wSub .i64 (Int.ofNat i) 1) 0 = Int.ofNat (i - 1) := by
  have hp : 0 < i := Int.ofNat_lt.1 hp
  rw [wSub_in (by simp only [Int.ofNat_eq_natCast]; omega)]
  unfold mm
  simp only [if_true, Int.ofNat_eq_natCast]
  split <;> omega
theorem dir_any {l : List Rec} {i : Nat} {x : Rec} (hi : i < l.length) (hx : l[i]? = some x) (hp : ¬ parentS x.2.1 = []) : bnd (mm true (upOf l i) 0) l.length ∧ ∀ z, nthI l (mm true (upOf l i) 0) = some z → true = (!(parentS x.2.1 == [])) ∧ (z.1 != 3) = dirB l (Int.ofNat i) := by
  have hu := up_lt hi
  refine ⟨⟨mm_toNat.2, ?_⟩, fun z hz => ⟨?_, ?_⟩⟩
  · unfold mm
    simp only [if_true]
    split <;> omega
  · simpa using hp
  · unfold nthI at hz
    rw [mm_toNat.1] at hz
    unfold dirB
    rw [show (Int.ofNat i).toNat = i from rfl, recAt_at hx, decide_eq_false hp, recAt_at hz]
    by_cases h3 : z.1 = 3
    · rw [h3]; rfl
    · rw [decide_eq_false h3]; simpa using h3
theorem ge_16 {i : Nat} : decide (Int.ofNat i ≥ 16) = decide (16 ≤ i) := by
  by_cases h : 16 ≤ i
  · rw [decide_eq_true h, decide_eq_true (p := Int.ofNat i ≥ 16) (by simp only [Int.ofNat_eq_natCast]; omega)]
  · rw [decide_eq_false h, decide_eq_false (p := Int.ofNat i ≥ 16) (by simp only [Int.ofNat_eq_natCast]; omega)]
theorem fa_first {l : List Rec} {i : Nat} {x : Rec} (hx : l[i]? = some x) {o : Bool} {u : Int} (ho : o = orderB l (Int.ofNat i)) (hu : u = upOf l i) :
    first [.b (decide (Int.ofNat i ≥ 16)), .n 6, .b true, .n (first [.b (!decide (recFault x = 0)), .n (recFault x), .b (sameB l (Int.ofNat i)), .n 18, .b o, .n 11, .b (decide (u < 0)), .n 12, .b (dirB l (Int.ofNat i)), .n 13])] = faultI l (Int.ofNat i) := by
  have e : faultI l (Int.ofNat i) = faultAt l i := rfl
  rw [e, ge_16, ho, hu, ← recAt_at hx]
  unfold faultAt
  by_cases h16 : 16 ≤ i
  · rw [decide_eq_true h16, if_pos h16]; rfl
  rw [decide_eq_false h16, if_neg h16]
  by_cases hr : recFault (recAt l i) = 0
  · rw [decide_eq_true hr, if_neg (not_not_intro hr)]
    cases sameB l (Int.ofNat i) with
    | true => rfl
    | false =>
      rw [if_neg Bool.false_ne_true]
      cases orderB l (Int.ofNat i) with
      | true => rfl
      | false =>
        rw [if_neg Bool.false_ne_true]
        by_cases h5 : upOf l i < 0
        · rw [decide_eq_true h5, if_pos h5]; rfl
        · rw [decide_eq_false h5, if_neg h5]
          cases dirB l (Int.ofNat i) <;> rfl
  · rw [decide_eq_false hr, if_pos hr]; rfl
end Go.Fn
namespace Go.Proofs.YtjkipndhdemnoaaGreatDoor
open Go.Ab Go.Fn
def s_faultAt : FSpec := { ps := [.v (.slice tRec), .v I], rs := [.v I], pre := fun x => okL x.1 ∧ ∃ k : Nat, x.2.1 = Int.ofNat k ∧ k < List.length (α := Rec) x.1 ∧ k < 1099511627776, fn := fun x => (Fn.faultI x.1 x.2.1, ()), upd := fun _ => () }
theorem fo_faultAt : FO 112 s_faultAt := by
  refine fo (specs := [(147, s_parent), (148, s_find), (149, s_recOK), (150, s_fault), (151, s_PathLess), (60, s_first)]) (clos := []) (fun x => [(2000005, .ofSegs fun _ => [(15, ([16,17,18,19,20,21,22,23,24,25], fun _ => [(47, .d .bool (Fn.sameB x.1 x.2.1))])), (54, ([55,56,57,58,59,60,61], fun _ => [(83, .d .bool (Fn.dirB x.1 x.2.1))]))])]) ⟨fo_parent, fo_find, fo_RecordOK, fo_RecordFault, fo_PathLess, fo_first, trivial⟩ trivial Tryz.func112 rfl rfl ?_
  rintro ⟨l, i, ⟨⟩⟩ ⟨hl, i, rfl, hi, hb⟩
  refine vcOf (bnd (Int.ofNat i) (lenL l) ∧ ∀ (x : Int × List UInt8 × List UInt8 × Int × Bool × Unit), nthI l (Int.ofNat i) = some x → nat_lit 5 ≤ (Nat.succ (nat_lit 1)).succ.succ.succ ∧ nat_lit 5 ≤ nat_lit 5 ∧ nat_lit 2 ≤ (Nat.succ (nat_lit 1)).succ.succ.succ ∧ true = true ∧ x.snd.fst.length ≤ (100000000 : Nat) ∧ ((!parentS x.snd.fst == ([] : List UInt8)) = true → boundLo (Int.ofNat i) (lenL l) ∧ true = true ∧ True ∧ nat_lit 5 ≤ (Nat.succ (nat_lit 1)).succ.succ.succ ∧ nat_lit 5 ≤ (Nat.succ (nat_lit 1)).succ.succ.succ ∧ nat_lit 2 ≤ (Nat.succ (nat_lit 1)).succ.succ.succ ∧ true = true ∧ x.snd.fst.length ≤ (100000000 : Nat) ∧ true = true ∧ x.snd.fst.length ≤ (100000000 : Nat) ∧ ((decide (Int.ofNat i > (0 : Int)) = true → IntKind.i64 = IntKind.i64 ∧ bnd (mm true (wSub IntKind.i64 (Int.ofNat i) (1 : Int)) (0 : Int)) (lenL l) ∧ ∀ (x_1 : Int × List UInt8 × List UInt8 × Int × Bool × Unit), nthI l (mm true (wSub IntKind.i64 (Int.ofNat i) (1 : Int)) (0 : Int)) = some x_1 → nat_lit 1 ≤ (Nat.succ (nat_lit 1)).succ.succ ∧ nat_lit 2 ≤ (Nat.succ (nat_lit 1)).succ.succ.succ ∧ (l = l ∧ Int.ofNat i = Int.ofNat i ∧ (0 : Int) = (0 : Int) ∧ (nat_lit 0 = nat_lit 0 ∧ (0 : Nat) = (0 : Nat)) ∧ idx (atPath (parentS x.snd.fst)) (subL l (0 : Nat) (tN (Int.ofNat i))) = idx (atPath (parentS x.snd.fst)) (subL l (0 : Nat) (tN (Int.ofNat i))) ∧ parentS x.snd.fst = parentS x.snd.fst ∧ l = l ∧ Int.ofNat i = Int.ofNat i ∧ (x.fst = x.fst ∧ x.snd.fst = x.snd.fst ∧ x.snd.snd.fst = x.snd.snd.fst ∧ x.snd.snd.snd.fst = x.snd.snd.snd.fst ∧ x.snd.snd.snd.snd.fst = x.snd.snd.snd.snd.fst ∧ True) ∧ (x.fst = x.fst ∧ x.snd.fst = x.snd.fst ∧ x.snd.snd.fst = x.snd.snd.fst ∧ x.snd.snd.snd.fst = x.snd.snd.snd.fst ∧ x.snd.snd.snd.snd.fst = x.snd.snd.snd.snd.fst ∧ True) ∧ (nat_lit 0 = nat_lit 0 ∧ nat_lit 1 = nat_lit 1) ∧ x.snd.fst = x.snd.fst ∧ parentS x.snd.fst = parentS x.snd.fst ∧ parentS x.snd.fst = parentS x.snd.fst ∧ (!parentS x.snd.fst == ([] : List UInt8)) = !parentS x.snd.fst == ([] : List UInt8) ∧ l = l ∧ Int.ofNat i = Int.ofNat i ∧ subL l (0 : Nat) (tN (Int.ofNat i)) = subL l (0 : Nat) (tN (Int.ofNat i)) ∧ parentS x.snd.fst = parentS x.snd.fst ∧ idx (atPath (parentS x.snd.fst)) (subL l (0 : Nat) (tN (Int.ofNat i))) = idx (atPath (parentS x.snd.fst)) (subL l (0 : Nat) (tN (Int.ofNat i))) ∧ Int.ofNat i = Int.ofNat i ∧ decide (Int.ofNat i ≥ (16 : Int)) = decide (Int.ofNat i ≥ (16 : Int)) ∧ ((4 : Nat) = (4 : Nat) ∧ decide (Int.ofNat i ≥ (16 : Int)) = decide (Int.ofNat i ≥ (16 : Int))) ∧ ((3 : Nat) = (3 : Nat) ∧ (6 : Int) = (6 : Int)) ∧ ((4 : Nat) = (4 : Nat) ∧ true = true) ∧ (x.fst = x.fst ∧ x.snd.fst = x.snd.fst ∧ x.snd.snd.fst = x.snd.snd.fst ∧ x.snd.snd.snd.fst = x.snd.snd.snd.fst ∧ x.snd.snd.snd.snd.fst = x.snd.snd.snd.snd.fst ∧ True) ∧ decide (recFault (x.fst, x.snd.fst, x.snd.snd.fst, x.snd.snd.snd.fst, x.snd.snd.snd.snd.fst, ()) = (0 : Int)) = decide (recFault (x.fst, x.snd.fst, x.snd.snd.fst, x.snd.snd.snd.fst, x.snd.snd.snd.snd.fst, ()) = (0 : Int)) ∧ (!decide (recFault (x.fst, x.snd.fst, x.snd.snd.fst, x.snd.snd.snd.fst, x.snd.snd.snd.snd.fst, ()) = (0 : Int))) = !decide (recFault (x.fst, x.snd.fst, x.snd.snd.fst, x.snd.snd.snd.fst, x.snd.snd.snd.snd.fst, ()) = (0 : Int)) ∧ ((4 : Nat) = (4 : Nat) ∧ (!decide (recFault (x.fst, x.snd.fst, x.snd.snd.fst, x.snd.snd.snd.fst, x.snd.snd.snd.snd.fst, ()) = (0 : Int))) = !decide (recFault (x.fst, x.snd.fst, x.snd.snd.fst, x.snd.snd.snd.fst, x.snd.snd.snd.snd.fst, ()) = (0 : Int))) ∧ (x.fst = x.fst ∧ x.snd.fst = x.snd.fst ∧ x.snd.snd.fst = x.snd.snd.fst ∧ x.snd.snd.snd.fst = x.snd.snd.snd.fst ∧ x.snd.snd.snd.snd.fst = x.snd.snd.snd.snd.fst ∧ True) ∧ recFault (x.fst, x.snd.fst, x.snd.snd.fst, x.snd.snd.snd.fst, x.snd.snd.snd.snd.fst, ()) = recFault (x.fst, x.snd.fst, x.snd.snd.fst, x.snd.snd.snd.fst, x.snd.snd.snd.snd.fst, ()) ∧ ((3 : Nat) = (3 : Nat) ∧ recFault (x.fst, x.snd.fst, x.snd.snd.fst, x.snd.snd.snd.fst, x.snd.snd.snd.snd.fst, ()) = recFault (x.fst, x.snd.fst, x.snd.snd.fst, x.snd.snd.snd.fst, x.snd.snd.snd.snd.fst, ())) ∧ Int.ofNat i = Int.ofNat i ∧ decide (Int.ofNat i > (0 : Int)) = decide (Int.ofNat i > (0 : Int)) ∧ true = decide (Int.ofNat i > (0 : Int)) ∧ (x_1.snd.fst == x.snd.fst) = sameB l (Int.ofNat i) ∧ ((3 : Nat) = (3 : Nat) ∧ (18 : Int) = (18 : Int)) ∧ Int.ofNat i = Int.ofNat i ∧ decide (Int.ofNat i > (0 : Int)) = decide (Int.ofNat i > (0 : Int)) ∧ ((3 : Nat) = (3 : Nat) ∧ (11 : Int) = (11 : Int)) ∧ idx (atPath (parentS x.snd.fst)) (subL l (0 : Nat) (tN (Int.ofNat i))) = idx (atPath (parentS x.snd.fst)) (subL l (0 : Nat) (tN (Int.ofNat i))) ∧ decide (idx (atPath (parentS x.snd.fst)) (subL l (0 : Nat) (tN (Int.ofNat i))) < (0 : Int)) = decide (idx (atPath (parentS x.snd.fst)) (subL l (0 : Nat) (tN (Int.ofNat i))) < (0 : Int)) ∧ ((4 : Nat) = (4 : Nat) ∧ decide (idx (atPath (parentS x.snd.fst)) (subL l (0 : Nat) (tN (Int.ofNat i))) < (0 : Int)) = decide (idx (atPath (parentS x.snd.fst)) (subL l (0 : Nat) (tN (Int.ofNat i))) < (0 : Int))) ∧ ((3 : Nat) = (3 : Nat) ∧ (12 : Int) = (12 : Int)) ∧ (nat_lit 0 = nat_lit 0 ∧ nat_lit 1 = nat_lit 1) ∧ x.snd.fst = x.snd.fst ∧ ((3 : Nat) = (3 : Nat) ∧ (13 : Int) = (13 : Int)) ∧ True) ∧ ((x.fst = x.fst ∧ x.snd.fst = x.snd.fst ∧ x.snd.snd.fst = x.snd.snd.fst ∧ x.snd.snd.snd.fst = x.snd.snd.snd.fst ∧ x.snd.snd.snd.snd.fst = x.snd.snd.snd.snd.fst ∧ True) ∧ True) ∧ True) ∧ (decide (Int.ofNat i > (0 : Int)) = false → (l = l ∧ Int.ofNat i = Int.ofNat i ∧ (0 : Int) = (0 : Int) ∧ (nat_lit 0 = nat_lit 0 ∧ (0 : Nat) = (0 : Nat)) ∧ idx (atPath (parentS x.snd.fst)) (subL l (0 : Nat) (tN (Int.ofNat i))) = idx (atPath (parentS x.snd.fst)) (subL l (0 : Nat) (tN (Int.ofNat i))) ∧ parentS x.snd.fst = parentS x.snd.fst ∧ l = l ∧ Int.ofNat i = Int.ofNat i ∧ (x.fst = x.fst ∧ x.snd.fst = x.snd.fst ∧ x.snd.snd.fst = x.snd.snd.fst ∧ x.snd.snd.snd.fst = x.snd.snd.snd.fst ∧ x.snd.snd.snd.snd.fst = x.snd.snd.snd.snd.fst ∧ True) ∧ (x.fst = x.fst ∧ x.snd.fst = x.snd.fst ∧ x.snd.snd.fst = x.snd.snd.fst ∧ x.snd.snd.snd.fst = x.snd.snd.snd.fst ∧ x.snd.snd.snd.snd.fst = x.snd.snd.snd.snd.fst ∧ True) ∧ (nat_lit 0 = nat_lit 0 ∧ nat_lit 1 = nat_lit 1) ∧ x.snd.fst = x.snd.fst ∧ parentS x.snd.fst = parentS x.snd.fst ∧ parentS x.snd.fst = parentS x.snd.fst ∧ (!parentS x.snd.fst == ([] : List UInt8)) = !parentS x.snd.fst == ([] : List UInt8) ∧ l = l ∧ Int.ofNat i = Int.ofNat i ∧ subL l (0 : Nat) (tN (Int.ofNat i)) = subL l (0 : Nat) (tN (Int.ofNat i)) ∧ parentS x.snd.fst = parentS x.snd.fst ∧ idx (atPath (parentS x.snd.fst)) (subL l (0 : Nat) (tN (Int.ofNat i))) = idx (atPath (parentS x.snd.fst)) (subL l (0 : Nat) (tN (Int.ofNat i))) ∧ Int.ofNat i = Int.ofNat i ∧ decide (Int.ofNat i ≥ (16 : Int)) = decide (Int.ofNat i ≥ (16 : Int)) ∧ ((4 : Nat) = (4 : Nat) ∧ decide (Int.ofNat i ≥ (16 : Int)) = decide (Int.ofNat i ≥ (16 : Int))) ∧ ((3 : Nat) = (3 : Nat) ∧ (6 : Int) = (6 : Int)) ∧ ((4 : Nat) = (4 : Nat) ∧ true = true) ∧ (x.fst = x.fst ∧ x.snd.fst = x.snd.fst ∧ x.snd.snd.fst = x.snd.snd.fst ∧ x.snd.snd.snd.fst = x.snd.snd.snd.fst ∧ x.snd.snd.snd.snd.fst = x.snd.snd.snd.snd.fst ∧ True) ∧ decide (recFault (x.fst, x.snd.fst, x.snd.snd.fst, x.snd.snd.snd.fst, x.snd.snd.snd.snd.fst, ()) = (0 : Int)) = decide (recFault (x.fst, x.snd.fst, x.snd.snd.fst, x.snd.snd.snd.fst, x.snd.snd.snd.snd.fst, ()) = (0 : Int)) ∧ (!decide (recFault (x.fst, x.snd.fst, x.snd.snd.fst, x.snd.snd.snd.fst, x.snd.snd.snd.snd.fst, ()) = (0 : Int))) = !decide (recFault (x.fst, x.snd.fst, x.snd.snd.fst, x.snd.snd.snd.fst, x.snd.snd.snd.snd.fst, ()) = (0 : Int)) ∧ ((4 : Nat) = (4 : Nat) ∧ (!decide (recFault (x.fst, x.snd.fst, x.snd.snd.fst, x.snd.snd.snd.fst, x.snd.snd.snd.snd.fst, ()) = (0 : Int))) = !decide (recFault (x.fst, x.snd.fst, x.snd.snd.fst, x.snd.snd.snd.fst, x.snd.snd.snd.snd.fst, ()) = (0 : Int))) ∧ (x.fst = x.fst ∧ x.snd.fst = x.snd.fst ∧ x.snd.snd.fst = x.snd.snd.fst ∧ x.snd.snd.snd.fst = x.snd.snd.snd.fst ∧ x.snd.snd.snd.snd.fst = x.snd.snd.snd.snd.fst ∧ True) ∧ recFault (x.fst, x.snd.fst, x.snd.snd.fst, x.snd.snd.snd.fst, x.snd.snd.snd.snd.fst, ()) = recFault (x.fst, x.snd.fst, x.snd.snd.fst, x.snd.snd.snd.fst, x.snd.snd.snd.snd.fst, ()) ∧ ((3 : Nat) = (3 : Nat) ∧ recFault (x.fst, x.snd.fst, x.snd.snd.fst, x.snd.snd.snd.fst, x.snd.snd.snd.snd.fst, ()) = recFault (x.fst, x.snd.fst, x.snd.snd.fst, x.snd.snd.snd.fst, x.snd.snd.snd.snd.fst, ())) ∧ Int.ofNat i = Int.ofNat i ∧ decide (Int.ofNat i > (0 : Int)) = decide (Int.ofNat i > (0 : Int)) ∧ false = decide (Int.ofNat i > (0 : Int)) ∧ false = sameB l (Int.ofNat i) ∧ ((3 : Nat) = (3 : Nat) ∧ (18 : Int) = (18 : Int)) ∧ Int.ofNat i = Int.ofNat i ∧ decide (Int.ofNat i > (0 : Int)) = decide (Int.ofNat i > (0 : Int)) ∧ ((3 : Nat) = (3 : Nat) ∧ (11 : Int) = (11 : Int)) ∧ idx (atPath (parentS x.snd.fst)) (subL l (0 : Nat) (tN (Int.ofNat i))) = idx (atPath (parentS x.snd.fst)) (subL l (0 : Nat) (tN (Int.ofNat i))) ∧ decide (idx (atPath (parentS x.snd.fst)) (subL l (0 : Nat) (tN (Int.ofNat i))) < (0 : Int)) = decide (idx (atPath (parentS x.snd.fst)) (subL l (0 : Nat) (tN (Int.ofNat i))) < (0 : Int)) ∧ ((4 : Nat) = (4 : Nat) ∧ decide (idx (atPath (parentS x.snd.fst)) (subL l (0 : Nat) (tN (Int.ofNat i))) < (0 : Int)) = decide (idx (atPath (parentS x.snd.fst)) (subL l (0 : Nat) (tN (Int.ofNat i))) < (0 : Int))) ∧ ((3 : Nat) = (3 : Nat) ∧ (12 : Int) = (12 : Int)) ∧ (nat_lit 0 = nat_lit 0 ∧ nat_lit 1 = nat_lit 1) ∧ x.snd.fst = x.snd.fst ∧ ((3 : Nat) = (3 : Nat) ∧ (13 : Int) = (13 : Int)) ∧ True) ∧ ((x.fst = x.fst ∧ x.snd.fst = x.snd.fst ∧ x.snd.snd.fst = x.snd.snd.fst ∧ x.snd.snd.snd.fst = x.snd.snd.snd.fst ∧ x.snd.snd.snd.snd.fst = x.snd.snd.snd.snd.fst ∧ True) ∧ True) ∧ True)) ∧ (decide (Int.ofNat i > (0 : Int)) = true → IntKind.i64 = IntKind.i64 ∧ bnd (mm true (wSub IntKind.i64 (Int.ofNat i) (1 : Int)) (0 : Int)) (lenL l) ∧ ∀ (x_1 : Int × List UInt8 × List UInt8 × Int × Bool × Unit), nthI l (mm true (wSub IntKind.i64 (Int.ofNat i) (1 : Int)) (0 : Int)) = some x_1 → nat_lit 1 ≤ (Nat.succ (nat_lit 1)).succ.succ ∧ nat_lit 2 ≤ (Nat.succ (nat_lit 1)).succ.succ.succ ∧ true = true ∧ (x_1.snd.fst.length ≤ (100000000 : Nat) ∧ x.snd.fst.length ≤ (100000000 : Nat)) ∧ true = true ∧ x.snd.fst.length ≤ (100000000 : Nat) ∧ (((!parentS x.snd.fst == ([] : List UInt8)) = true → IntKind.i64 = IntKind.i64 ∧ bnd (mm true (idx (atPath (parentS x.snd.fst)) (subL l (0 : Nat) (tN (Int.ofNat i)))) (0 : Int)) (lenL l) ∧ ∀ (x_2 : Int × List UInt8 × List UInt8 × Int × Bool × Unit), nthI l (mm true (idx (atPath (parentS x.snd.fst)) (subL l (0 : Nat) (tN (Int.ofNat i)))) (0 : Int)) = some x_2 → nat_lit 1 ≤ (Nat.succ (nat_lit 1)).succ.succ.succ ∧ (l = l ∧ Int.ofNat i = Int.ofNat i ∧ (0 : Int) = (0 : Int) ∧ (nat_lit 0 = nat_lit 0 ∧ (0 : Nat) = (0 : Nat)) ∧ idx (atPath (parentS x.snd.fst)) (subL l (0 : Nat) (tN (Int.ofNat i))) = idx (atPath (parentS x.snd.fst)) (subL l (0 : Nat) (tN (Int.ofNat i))) ∧ parentS x.snd.fst = parentS x.snd.fst ∧ l = l ∧ Int.ofNat i = Int.ofNat i ∧ (x.fst = x.fst ∧ x.snd.fst = x.snd.fst ∧ x.snd.snd.fst = x.snd.snd.fst ∧ x.snd.snd.snd.fst = x.snd.snd.snd.fst ∧ x.snd.snd.snd.snd.fst = x.snd.snd.snd.snd.fst ∧ True) ∧ (x.fst = x.fst ∧ x.snd.fst = x.snd.fst ∧ x.snd.snd.fst = x.snd.snd.fst ∧ x.snd.snd.snd.fst = x.snd.snd.snd.fst ∧ x.snd.snd.snd.snd.fst = x.snd.snd.snd.snd.fst ∧ True) ∧ (nat_lit 0 = nat_lit 0 ∧ nat_lit 1 = nat_lit 1) ∧ x.snd.fst = x.snd.fst ∧ parentS x.snd.fst = parentS x.snd.fst ∧ parentS x.snd.fst = parentS x.snd.fst ∧ (!parentS x.snd.fst == ([] : List UInt8)) = !parentS x.snd.fst == ([] : List UInt8) ∧ l = l ∧ Int.ofNat i = Int.ofNat i ∧ subL l (0 : Nat) (tN (Int.ofNat i)) = subL l (0 : Nat) (tN (Int.ofNat i)) ∧ parentS x.snd.fst = parentS x.snd.fst ∧ idx (atPath (parentS x.snd.fst)) (subL l (0 : Nat) (tN (Int.ofNat i))) = idx (atPath (parentS x.snd.fst)) (subL l (0 : Nat) (tN (Int.ofNat i))) ∧ Int.ofNat i = Int.ofNat i ∧ decide (Int.ofNat i ≥ (16 : Int)) = decide (Int.ofNat i ≥ (16 : Int)) ∧ ((4 : Nat) = (4 : Nat) ∧ decide (Int.ofNat i ≥ (16 : Int)) = decide (Int.ofNat i ≥ (16 : Int))) ∧ ((3 : Nat) = (3 : Nat) ∧ (6 : Int) = (6 : Int)) ∧ ((4 : Nat) = (4 : Nat) ∧ true = true) ∧ (x.fst = x.fst ∧ x.snd.fst = x.snd.fst ∧ x.snd.snd.fst = x.snd.snd.fst ∧ x.snd.snd.snd.fst = x.snd.snd.snd.fst ∧ x.snd.snd.snd.snd.fst = x.snd.snd.snd.snd.fst ∧ True) ∧ decide (recFault (x.fst, x.snd.fst, x.snd.snd.fst, x.snd.snd.snd.fst, x.snd.snd.snd.snd.fst, ()) = (0 : Int)) = decide (recFault (x.fst, x.snd.fst, x.snd.snd.fst, x.snd.snd.snd.fst, x.snd.snd.snd.snd.fst, ()) = (0 : Int)) ∧ (!decide (recFault (x.fst, x.snd.fst, x.snd.snd.fst, x.snd.snd.snd.fst, x.snd.snd.snd.snd.fst, ()) = (0 : Int))) = !decide (recFault (x.fst, x.snd.fst, x.snd.snd.fst, x.snd.snd.snd.fst, x.snd.snd.snd.snd.fst, ()) = (0 : Int)) ∧ ((4 : Nat) = (4 : Nat) ∧ (!decide (recFault (x.fst, x.snd.fst, x.snd.snd.fst, x.snd.snd.snd.fst, x.snd.snd.snd.snd.fst, ()) = (0 : Int))) = !decide (recFault (x.fst, x.snd.fst, x.snd.snd.fst, x.snd.snd.snd.fst, x.snd.snd.snd.snd.fst, ()) = (0 : Int))) ∧ (x.fst = x.fst ∧ x.snd.fst = x.snd.fst ∧ x.snd.snd.fst = x.snd.snd.fst ∧ x.snd.snd.snd.fst = x.snd.snd.snd.fst ∧ x.snd.snd.snd.snd.fst = x.snd.snd.snd.snd.fst ∧ True) ∧ recFault (x.fst, x.snd.fst, x.snd.snd.fst, x.snd.snd.snd.fst, x.snd.snd.snd.snd.fst, ()) = recFault (x.fst, x.snd.fst, x.snd.snd.fst, x.snd.snd.snd.fst, x.snd.snd.snd.snd.fst, ()) ∧ ((3 : Nat) = (3 : Nat) ∧ recFault (x.fst, x.snd.fst, x.snd.snd.fst, x.snd.snd.snd.fst, x.snd.snd.snd.snd.fst, ()) = recFault (x.fst, x.snd.fst, x.snd.snd.fst, x.snd.snd.snd.fst, x.snd.snd.snd.snd.fst, ())) ∧ Int.ofNat i = Int.ofNat i ∧ decide (Int.ofNat i > (0 : Int)) = decide (Int.ofNat i > (0 : Int)) ∧ decide (Int.ofNat i > (0 : Int)) = decide (Int.ofNat i > (0 : Int)) ∧ sameB l (Int.ofNat i) = sameB l (Int.ofNat i) ∧ ((4 : Nat) = (4 : Nat) ∧ sameB l (Int.ofNat i) = sameB l (Int.ofNat i)) ∧ ((3 : Nat) = (3 : Nat) ∧ (18 : Int) = (18 : Int)) ∧ Int.ofNat i = Int.ofNat i ∧ decide (Int.ofNat i > (0 : Int)) = decide (Int.ofNat i > (0 : Int)) ∧ true = true ∧ l = l ∧ Int.ofNat i = Int.ofNat i ∧ wSub IntKind.i64 (Int.ofNat i) (1 : Int) = wSub IntKind.i64 (Int.ofNat i) (1 : Int) ∧ mm true (wSub IntKind.i64 (Int.ofNat i) (1 : Int)) (0 : Int) = mm true (wSub IntKind.i64 (Int.ofNat i) (1 : Int)) (0 : Int) ∧ (x_1.fst = x_1.fst ∧ x_1.snd.fst = x_1.snd.fst ∧ x_1.snd.snd.fst = x_1.snd.snd.fst ∧ x_1.snd.snd.snd.fst = x_1.snd.snd.snd.fst ∧ x_1.snd.snd.snd.snd.fst = x_1.snd.snd.snd.snd.fst ∧ True) ∧ (x_1.snd.fst = x_1.snd.fst ∧ x_1.snd.snd.fst = x_1.snd.snd.fst ∧ x_1.snd.snd.snd.fst = x_1.snd.snd.snd.fst ∧ x_1.snd.snd.snd.snd.fst = x_1.snd.snd.snd.snd.fst ∧ True) ∧ x_1.snd.fst = x_1.snd.fst ∧ (nat_lit 0 = nat_lit 0 ∧ nat_lit 1 = nat_lit 1) ∧ x.snd.fst = x.snd.fst ∧ pathLess x_1.snd.fst x.snd.fst = pathLess x_1.snd.fst x.snd.fst ∧ (!pathLess x_1.snd.fst x.snd.fst) = !pathLess x_1.snd.fst x.snd.fst ∧ (!pathLess x_1.snd.fst x.snd.fst) = !pathLess x_1.snd.fst x.snd.fst ∧ ((4 : Nat) = (4 : Nat) ∧ (!pathLess x_1.snd.fst x.snd.fst) = !pathLess x_1.snd.fst x.snd.fst) ∧ ((3 : Nat) = (3 : Nat) ∧ (11 : Int) = (11 : Int)) ∧ idx (atPath (parentS x.snd.fst)) (subL l (0 : Nat) (tN (Int.ofNat i))) = idx (atPath (parentS x.snd.fst)) (subL l (0 : Nat) (tN (Int.ofNat i))) ∧ decide (idx (atPath (parentS x.snd.fst)) (subL l (0 : Nat) (tN (Int.ofNat i))) < (0 : Int)) = decide (idx (atPath (parentS x.snd.fst)) (subL l (0 : Nat) (tN (Int.ofNat i))) < (0 : Int)) ∧ ((4 : Nat) = (4 : Nat) ∧ decide (idx (atPath (parentS x.snd.fst)) (subL l (0 : Nat) (tN (Int.ofNat i))) < (0 : Int)) = decide (idx (atPath (parentS x.snd.fst)) (subL l (0 : Nat) (tN (Int.ofNat i))) < (0 : Int))) ∧ ((3 : Nat) = (3 : Nat) ∧ (12 : Int) = (12 : Int)) ∧ (nat_lit 0 = nat_lit 0 ∧ nat_lit 1 = nat_lit 1) ∧ x.snd.fst = x.snd.fst ∧ parentS x.snd.fst = parentS x.snd.fst ∧ (!parentS x.snd.fst == ([] : List UInt8)) = !parentS x.snd.fst == ([] : List UInt8) ∧ true = !parentS x.snd.fst == ([] : List UInt8) ∧ (x_2.fst != (3 : Int)) = dirB l (Int.ofNat i) ∧ ((3 : Nat) = (3 : Nat) ∧ (13 : Int) = (13 : Int)) ∧ True) ∧ ((x.fst = x.fst ∧ x.snd.fst = x.snd.fst ∧ x.snd.snd.fst = x.snd.snd.fst ∧ x.snd.snd.snd.fst = x.snd.snd.snd.fst ∧ x.snd.snd.snd.snd.fst = x.snd.snd.snd.snd.fst ∧ True) ∧ True) ∧ True) ∧ ((!parentS x.snd.fst == ([] : List UInt8)) = false → (l = l ∧ Int.ofNat i = Int.ofNat i ∧ (0 : Int) = (0 : Int) ∧ (nat_lit 0 = nat_lit 0 ∧ (0 : Nat) = (0 : Nat)) ∧ idx (atPath (parentS x.snd.fst)) (subL l (0 : Nat) (tN (Int.ofNat i))) = idx (atPath (parentS x.snd.fst)) (subL l (0 : Nat) (tN (Int.ofNat i))) ∧ parentS x.snd.fst = parentS x.snd.fst ∧ l = l ∧ Int.ofNat i = Int.ofNat i ∧ (x.fst = x.fst ∧ x.snd.fst = x.snd.fst ∧ x.snd.snd.fst = x.snd.snd.fst ∧ x.snd.snd.snd.fst = x.snd.snd.snd.fst ∧ x.snd.snd.snd.snd.fst = x.snd.snd.snd.snd.fst ∧ True) ∧ (x.fst = x.fst ∧ x.snd.fst = x.snd.fst ∧ x.snd.snd.fst = x.snd.snd.fst ∧ x.snd.snd.snd.fst = x.snd.snd.snd.fst ∧ x.snd.snd.snd.snd.fst = x.snd.snd.snd.snd.fst ∧ True) ∧ (nat_lit 0 = nat_lit 0 ∧ nat_lit 1 = nat_lit 1) ∧ x.snd.fst = x.snd.fst ∧ parentS x.snd.fst = parentS x.snd.fst ∧ parentS x.snd.fst = parentS x.snd.fst ∧ (!parentS x.snd.fst == ([] : List UInt8)) = !parentS x.snd.fst == ([] : List UInt8) ∧ l = l ∧ Int.ofNat i = Int.ofNat i ∧ subL l (0 : Nat) (tN (Int.ofNat i)) = subL l (0 : Nat) (tN (Int.ofNat i)) ∧ parentS x.snd.fst = parentS x.snd.fst ∧ idx (atPath (parentS x.snd.fst)) (subL l (0 : Nat) (tN (Int.ofNat i))) = idx (atPath (parentS x.snd.fst)) (subL l (0 : Nat) (tN (Int.ofNat i))) ∧ Int.ofNat i = Int.ofNat i ∧ decide (Int.ofNat i ≥ (16 : Int)) = decide (Int.ofNat i ≥ (16 : Int)) ∧ ((4 : Nat) = (4 : Nat) ∧ decide (Int.ofNat i ≥ (16 : Int)) = decide (Int.ofNat i ≥ (16 : Int))) ∧ ((3 : Nat) = (3 : Nat) ∧ (6 : Int) = (6 : Int)) ∧ ((4 : Nat) = (4 : Nat) ∧ true = true) ∧ (x.fst = x.fst ∧ x.snd.fst = x.snd.fst ∧ x.snd.snd.fst = x.snd.snd.fst ∧ x.snd.snd.snd.fst = x.snd.snd.snd.fst ∧ x.snd.snd.snd.snd.fst = x.snd.snd.snd.snd.fst ∧ True) ∧ decide (recFault (x.fst, x.snd.fst, x.snd.snd.fst, x.snd.snd.snd.fst, x.snd.snd.snd.snd.fst, ()) = (0 : Int)) = decide (recFault (x.fst, x.snd.fst, x.snd.snd.fst, x.snd.snd.snd.fst, x.snd.snd.snd.snd.fst, ()) = (0 : Int)) ∧ (!decide (recFault (x.fst, x.snd.fst, x.snd.snd.fst, x.snd.snd.snd.fst, x.snd.snd.snd.snd.fst, ()) = (0 : Int))) = !decide (recFault (x.fst, x.snd.fst, x.snd.snd.fst, x.snd.snd.snd.fst, x.snd.snd.snd.snd.fst, ()) = (0 : Int)) ∧ ((4 : Nat) = (4 : Nat) ∧ (!decide (recFault (x.fst, x.snd.fst, x.snd.snd.fst, x.snd.snd.snd.fst, x.snd.snd.snd.snd.fst, ()) = (0 : Int))) = !decide (recFault (x.fst, x.snd.fst, x.snd.snd.fst, x.snd.snd.snd.fst, x.snd.snd.snd.snd.fst, ()) = (0 : Int))) ∧ (x.fst = x.fst ∧ x.snd.fst = x.snd.fst ∧ x.snd.snd.fst = x.snd.snd.fst ∧ x.snd.snd.snd.fst = x.snd.snd.snd.fst ∧ x.snd.snd.snd.snd.fst = x.snd.snd.snd.snd.fst ∧ True) ∧ recFault (x.fst, x.snd.fst, x.snd.snd.fst, x.snd.snd.snd.fst, x.snd.snd.snd.snd.fst, ()) = recFault (x.fst, x.snd.fst, x.snd.snd.fst, x.snd.snd.snd.fst, x.snd.snd.snd.snd.fst, ()) ∧ ((3 : Nat) = (3 : Nat) ∧ recFault (x.fst, x.snd.fst, x.snd.snd.fst, x.snd.snd.snd.fst, x.snd.snd.snd.snd.fst, ()) = recFault (x.fst, x.snd.fst, x.snd.snd.fst, x.snd.snd.snd.fst, x.snd.snd.snd.snd.fst, ())) ∧ Int.ofNat i = Int.ofNat i ∧ decide (Int.ofNat i > (0 : Int)) = decide (Int.ofNat i > (0 : Int)) ∧ decide (Int.ofNat i > (0 : Int)) = decide (Int.ofNat i > (0 : Int)) ∧ sameB l (Int.ofNat i) = sameB l (Int.ofNat i) ∧ ((4 : Nat) = (4 : Nat) ∧ sameB l (Int.ofNat i) = sameB l (Int.ofNat i)) ∧ ((3 : Nat) = (3 : Nat) ∧ (18 : Int) = (18 : Int)) ∧ Int.ofNat i = Int.ofNat i ∧ decide (Int.ofNat i > (0 : Int)) = decide (Int.ofNat i > (0 : Int)) ∧ true = true ∧ l = l ∧ Int.ofNat i = Int.ofNat i ∧ wSub IntKind.i64 (Int.ofNat i) (1 : Int) = wSub IntKind.i64 (Int.ofNat i) (1 : Int) ∧ mm true (wSub IntKind.i64 (Int.ofNat i) (1 : Int)) (0 : Int) = mm true (wSub IntKind.i64 (Int.ofNat i) (1 : Int)) (0 : Int) ∧ (x_1.fst = x_1.fst ∧ x_1.snd.fst = x_1.snd.fst ∧ x_1.snd.snd.fst = x_1.snd.snd.fst ∧ x_1.snd.snd.snd.fst = x_1.snd.snd.snd.fst ∧ x_1.snd.snd.snd.snd.fst = x_1.snd.snd.snd.snd.fst ∧ True) ∧ (x_1.snd.fst = x_1.snd.fst ∧ x_1.snd.snd.fst = x_1.snd.snd.fst ∧ x_1.snd.snd.snd.fst = x_1.snd.snd.snd.fst ∧ x_1.snd.snd.snd.snd.fst = x_1.snd.snd.snd.snd.fst ∧ True) ∧ x_1.snd.fst = x_1.snd.fst ∧ (nat_lit 0 = nat_lit 0 ∧ nat_lit 1 = nat_lit 1) ∧ x.snd.fst = x.snd.fst ∧ pathLess x_1.snd.fst x.snd.fst = pathLess x_1.snd.fst x.snd.fst ∧ (!pathLess x_1.snd.fst x.snd.fst) = !pathLess x_1.snd.fst x.snd.fst ∧ (!pathLess x_1.snd.fst x.snd.fst) = !pathLess x_1.snd.fst x.snd.fst ∧ ((4 : Nat) = (4 : Nat) ∧ (!pathLess x_1.snd.fst x.snd.fst) = !pathLess x_1.snd.fst x.snd.fst) ∧ ((3 : Nat) = (3 : Nat) ∧ (11 : Int) = (11 : Int)) ∧ idx (atPath (parentS x.snd.fst)) (subL l (0 : Nat) (tN (Int.ofNat i))) = idx (atPath (parentS x.snd.fst)) (subL l (0 : Nat) (tN (Int.ofNat i))) ∧ decide (idx (atPath (parentS x.snd.fst)) (subL l (0 : Nat) (tN (Int.ofNat i))) < (0 : Int)) = decide (idx (atPath (parentS x.snd.fst)) (subL l (0 : Nat) (tN (Int.ofNat i))) < (0 : Int)) ∧ ((4 : Nat) = (4 : Nat) ∧ decide (idx (atPath (parentS x.snd.fst)) (subL l (0 : Nat) (tN (Int.ofNat i))) < (0 : Int)) = decide (idx (atPath (parentS x.snd.fst)) (subL l (0 : Nat) (tN (Int.ofNat i))) < (0 : Int))) ∧ ((3 : Nat) = (3 : Nat) ∧ (12 : Int) = (12 : Int)) ∧ (nat_lit 0 = nat_lit 0 ∧ nat_lit 1 = nat_lit 1) ∧ x.snd.fst = x.snd.fst ∧ parentS x.snd.fst = parentS x.snd.fst ∧ (!parentS x.snd.fst == ([] : List UInt8)) = !parentS x.snd.fst == ([] : List UInt8) ∧ false = !parentS x.snd.fst == ([] : List UInt8) ∧ false = dirB l (Int.ofNat i) ∧ ((3 : Nat) = (3 : Nat) ∧ (13 : Int) = (13 : Int)) ∧ True) ∧ ((x.fst = x.fst ∧ x.snd.fst = x.snd.fst ∧ x.snd.snd.fst = x.snd.snd.fst ∧ x.snd.snd.snd.fst = x.snd.snd.snd.fst ∧ x.snd.snd.snd.snd.fst = x.snd.snd.snd.snd.fst ∧ True) ∧ True) ∧ True)) ∧ true = true ∧ True ∧ true = true ∧ True ∧ (first (AnyV.b (decide (Int.ofNat i ≥ (16 : Int))) :: AnyV.n (6 : Int) :: AnyV.b true :: AnyV.n (first ((AnyV.b !decide (recFault (x.fst, x.snd.fst, x.snd.snd.fst, x.snd.snd.snd.fst, x.snd.snd.snd.snd.fst, ()) = (0 : Int))) :: AnyV.n (recFault (x.fst, x.snd.fst, x.snd.snd.fst, x.snd.snd.snd.fst, x.snd.snd.snd.snd.fst, ())) :: AnyV.b (sameB l (Int.ofNat i)) :: AnyV.n (18 : Int) :: (AnyV.b !pathLess x_1.snd.fst x.snd.fst) :: AnyV.n (11 : Int) :: AnyV.b (decide (idx (atPath (parentS x.snd.fst)) (subL l (0 : Nat) (tN (Int.ofNat i))) < (0 : Int))) :: AnyV.n (12 : Int) :: AnyV.b (dirB l (Int.ofNat i)) :: AnyV.n (13 : Int) :: ([] : List AnyV))) :: ([] : List AnyV)), ()) = (faultI l (Int.ofNat i), ()) ∧ () = ()) ∧ (decide (Int.ofNat i > (0 : Int)) = false → true = true ∧ x.snd.fst.length ≤ (100000000 : Nat) ∧ (((!parentS x.snd.fst == ([] : List UInt8)) = true → IntKind.i64 = IntKind.i64 ∧ bnd (mm true (idx (atPath (parentS x.snd.fst)) (subL l (0 : Nat) (tN (Int.ofNat i)))) (0 : Int)) (lenL l) ∧ ∀ (x_1 : Int × List UInt8 × List UInt8 × Int × Bool × Unit), nthI l (mm true (idx (atPath (parentS x.snd.fst)) (subL l (0 : Nat) (tN (Int.ofNat i)))) (0 : Int)) = some x_1 → nat_lit 1 ≤ (Nat.succ (nat_lit 1)).succ.succ.succ ∧ (l = l ∧ Int.ofNat i = Int.ofNat i ∧ (0 : Int) = (0 : Int) ∧ (nat_lit 0 = nat_lit 0 ∧ (0 : Nat) = (0 : Nat)) ∧ idx (atPath (parentS x.snd.fst)) (subL l (0 : Nat) (tN (Int.ofNat i))) = idx (atPath (parentS x.snd.fst)) (subL l (0 : Nat) (tN (Int.ofNat i))) ∧ parentS x.snd.fst = parentS x.snd.fst ∧ l = l ∧ Int.ofNat i = Int.ofNat i ∧ (x.fst = x.fst ∧ x.snd.fst = x.snd.fst ∧ x.snd.snd.fst = x.snd.snd.fst ∧ x.snd.snd.snd.fst = x.snd.snd.snd.fst ∧ x.snd.snd.snd.snd.fst = x.snd.snd.snd.snd.fst ∧ True) ∧ (x.fst = x.fst ∧ x.snd.fst = x.snd.fst ∧ x.snd.snd.fst = x.snd.snd.fst ∧ x.snd.snd.snd.fst = x.snd.snd.snd.fst ∧ x.snd.snd.snd.snd.fst = x.snd.snd.snd.snd.fst ∧ True) ∧ (nat_lit 0 = nat_lit 0 ∧ nat_lit 1 = nat_lit 1) ∧ x.snd.fst = x.snd.fst ∧ parentS x.snd.fst = parentS x.snd.fst ∧ parentS x.snd.fst = parentS x.snd.fst ∧ (!parentS x.snd.fst == ([] : List UInt8)) = !parentS x.snd.fst == ([] : List UInt8) ∧ l = l ∧ Int.ofNat i = Int.ofNat i ∧ subL l (0 : Nat) (tN (Int.ofNat i)) = subL l (0 : Nat) (tN (Int.ofNat i)) ∧ parentS x.snd.fst = parentS x.snd.fst ∧ idx (atPath (parentS x.snd.fst)) (subL l (0 : Nat) (tN (Int.ofNat i))) = idx (atPath (parentS x.snd.fst)) (subL l (0 : Nat) (tN (Int.ofNat i))) ∧ Int.ofNat i = Int.ofNat i ∧ decide (Int.ofNat i ≥ (16 : Int)) = decide (Int.ofNat i ≥ (16 : Int)) ∧ ((4 : Nat) = (4 : Nat) ∧ decide (Int.ofNat i ≥ (16 : Int)) = decide (Int.ofNat i ≥ (16 : Int))) ∧ ((3 : Nat) = (3 : Nat) ∧ (6 : Int) = (6 : Int)) ∧ ((4 : Nat) = (4 : Nat) ∧ true = true) ∧ (x.fst = x.fst ∧ x.snd.fst = x.snd.fst ∧ x.snd.snd.fst = x.snd.snd.fst ∧ x.snd.snd.snd.fst = x.snd.snd.snd.fst ∧ x.snd.snd.snd.snd.fst = x.snd.snd.snd.snd.fst ∧ True) ∧ decide (recFault (x.fst, x.snd.fst, x.snd.snd.fst, x.snd.snd.snd.fst, x.snd.snd.snd.snd.fst, ()) = (0 : Int)) = decide (recFault (x.fst, x.snd.fst, x.snd.snd.fst, x.snd.snd.snd.fst, x.snd.snd.snd.snd.fst, ()) = (0 : Int)) ∧ (!decide (recFault (x.fst, x.snd.fst, x.snd.snd.fst, x.snd.snd.snd.fst, x.snd.snd.snd.snd.fst, ()) = (0 : Int))) = !decide (recFault (x.fst, x.snd.fst, x.snd.snd.fst, x.snd.snd.snd.fst, x.snd.snd.snd.snd.fst, ()) = (0 : Int)) ∧ ((4 : Nat) = (4 : Nat) ∧ (!decide (recFault (x.fst, x.snd.fst, x.snd.snd.fst, x.snd.snd.snd.fst, x.snd.snd.snd.snd.fst, ()) = (0 : Int))) = !decide (recFault (x.fst, x.snd.fst, x.snd.snd.fst, x.snd.snd.snd.fst, x.snd.snd.snd.snd.fst, ()) = (0 : Int))) ∧ (x.fst = x.fst ∧ x.snd.fst = x.snd.fst ∧ x.snd.snd.fst = x.snd.snd.fst ∧ x.snd.snd.snd.fst = x.snd.snd.snd.fst ∧ x.snd.snd.snd.snd.fst = x.snd.snd.snd.snd.fst ∧ True) ∧ recFault (x.fst, x.snd.fst, x.snd.snd.fst, x.snd.snd.snd.fst, x.snd.snd.snd.snd.fst, ()) = recFault (x.fst, x.snd.fst, x.snd.snd.fst, x.snd.snd.snd.fst, x.snd.snd.snd.snd.fst, ()) ∧ ((3 : Nat) = (3 : Nat) ∧ recFault (x.fst, x.snd.fst, x.snd.snd.fst, x.snd.snd.snd.fst, x.snd.snd.snd.snd.fst, ()) = recFault (x.fst, x.snd.fst, x.snd.snd.fst, x.snd.snd.snd.fst, x.snd.snd.snd.snd.fst, ())) ∧ Int.ofNat i = Int.ofNat i ∧ decide (Int.ofNat i > (0 : Int)) = decide (Int.ofNat i > (0 : Int)) ∧ decide (Int.ofNat i > (0 : Int)) = decide (Int.ofNat i > (0 : Int)) ∧ sameB l (Int.ofNat i) = sameB l (Int.ofNat i) ∧ ((4 : Nat) = (4 : Nat) ∧ sameB l (Int.ofNat i) = sameB l (Int.ofNat i)) ∧ ((3 : Nat) = (3 : Nat) ∧ (18 : Int) = (18 : Int)) ∧ Int.ofNat i = Int.ofNat i ∧ decide (Int.ofNat i > (0 : Int)) = decide (Int.ofNat i > (0 : Int)) ∧ false = false ∧ True ∧ True ∧ True ∧ True ∧ True ∧ True ∧ True ∧ True ∧ True ∧ True ∧ True ∧ false = false ∧ ((4 : Nat) = (4 : Nat) ∧ false = false) ∧ ((3 : Nat) = (3 : Nat) ∧ (11 : Int) = (11 : Int)) ∧ idx (atPath (parentS x.snd.fst)) (subL l (0 : Nat) (tN (Int.ofNat i))) = idx (atPath (parentS x.snd.fst)) (subL l (0 : Nat) (tN (Int.ofNat i))) ∧ decide (idx (atPath (parentS x.snd.fst)) (subL l (0 : Nat) (tN (Int.ofNat i))) < (0 : Int)) = decide (idx (atPath (parentS x.snd.fst)) (subL l (0 : Nat) (tN (Int.ofNat i))) < (0 : Int)) ∧ ((4 : Nat) = (4 : Nat) ∧ decide (idx (atPath (parentS x.snd.fst)) (subL l (0 : Nat) (tN (Int.ofNat i))) < (0 : Int)) = decide (idx (atPath (parentS x.snd.fst)) (subL l (0 : Nat) (tN (Int.ofNat i))) < (0 : Int))) ∧ ((3 : Nat) = (3 : Nat) ∧ (12 : Int) = (12 : Int)) ∧ (nat_lit 0 = nat_lit 0 ∧ nat_lit 1 = nat_lit 1) ∧ x.snd.fst = x.snd.fst ∧ parentS x.snd.fst = parentS x.snd.fst ∧ (!parentS x.snd.fst == ([] : List UInt8)) = !parentS x.snd.fst == ([] : List UInt8) ∧ true = !parentS x.snd.fst == ([] : List UInt8) ∧ (x_1.fst != (3 : Int)) = dirB l (Int.ofNat i) ∧ ((3 : Nat) = (3 : Nat) ∧ (13 : Int) = (13 : Int)) ∧ True) ∧ ((x.fst = x.fst ∧ x.snd.fst = x.snd.fst ∧ x.snd.snd.fst = x.snd.snd.fst ∧ x.snd.snd.snd.fst = x.snd.snd.snd.fst ∧ x.snd.snd.snd.snd.fst = x.snd.snd.snd.snd.fst ∧ True) ∧ True) ∧ True) ∧ ((!parentS x.snd.fst == ([] : List UInt8)) = false → (l = l ∧ Int.ofNat i = Int.ofNat i ∧ (0 : Int) = (0 : Int) ∧ (nat_lit 0 = nat_lit 0 ∧ (0 : Nat) = (0 : Nat)) ∧ idx (atPath (parentS x.snd.fst)) (subL l (0 : Nat) (tN (Int.ofNat i))) = idx (atPath (parentS x.snd.fst)) (subL l (0 : Nat) (tN (Int.ofNat i))) ∧ parentS x.snd.fst = parentS x.snd.fst ∧ l = l ∧ Int.ofNat i = Int.ofNat i ∧ (x.fst = x.fst ∧ x.snd.fst = x.snd.fst ∧ x.snd.snd.fst = x.snd.snd.fst ∧ x.snd.snd.snd.fst = x.snd.snd.snd.fst ∧ x.snd.snd.snd.snd.fst = x.snd.snd.snd.snd.fst ∧ True) ∧ (x.fst = x.fst ∧ x.snd.fst = x.snd.fst ∧ x.snd.snd.fst = x.snd.snd.fst ∧ x.snd.snd.snd.fst = x.snd.snd.snd.fst ∧ x.snd.snd.snd.snd.fst = x.snd.snd.snd.snd.fst ∧ True) ∧ (nat_lit 0 = nat_lit 0 ∧ nat_lit 1 = nat_lit 1) ∧ x.snd.fst = x.snd.fst ∧ parentS x.snd.fst = parentS x.snd.fst ∧ parentS x.snd.fst = parentS x.snd.fst ∧ (!parentS x.snd.fst == ([] : List UInt8)) = !parentS x.snd.fst == ([] : List UInt8) ∧ l = l ∧ Int.ofNat i = Int.ofNat i ∧ subL l (0 : Nat) (tN (Int.ofNat i)) = subL l (0 : Nat) (tN (Int.ofNat i)) ∧ parentS x.snd.fst = parentS x.snd.fst ∧ idx (atPath (parentS x.snd.fst)) (subL l (0 : Nat) (tN (Int.ofNat i))) = idx (atPath (parentS x.snd.fst)) (subL l (0 : Nat) (tN (Int.ofNat i))) ∧ Int.ofNat i = Int.ofNat i ∧ decide (Int.ofNat i ≥ (16 : Int)) = decide (Int.ofNat i ≥ (16 : Int)) ∧ ((4 : Nat) = (4 : Nat) ∧ decide (Int.ofNat i ≥ (16 : Int)) = decide (Int.ofNat i ≥ (16 : Int))) ∧ ((3 : Nat) = (3 : Nat) ∧ (6 : Int) = (6 : Int)) ∧ ((4 : Nat) = (4 : Nat) ∧ true = true) ∧ (x.fst = x.fst ∧ x.snd.fst = x.snd.fst ∧ x.snd.snd.fst = x.snd.snd.fst ∧ x.snd.snd.snd.fst = x.snd.snd.snd.fst ∧ x.snd.snd.snd.snd.fst = x.snd.snd.snd.snd.fst ∧ True) ∧ decide (recFault (x.fst, x.snd.fst, x.snd.snd.fst, x.snd.snd.snd.fst, x.snd.snd.snd.snd.fst, ()) = (0 : Int)) = decide (recFault (x.fst, x.snd.fst, x.snd.snd.fst, x.snd.snd.snd.fst, x.snd.snd.snd.snd.fst, ()) = (0 : Int)) ∧ (!decide (recFault (x.fst, x.snd.fst, x.snd.snd.fst, x.snd.snd.snd.fst, x.snd.snd.snd.snd.fst, ()) = (0 : Int))) = !decide (recFault (x.fst, x.snd.fst, x.snd.snd.fst, x.snd.snd.snd.fst, x.snd.snd.snd.snd.fst, ()) = (0 : Int)) ∧ ((4 : Nat) = (4 : Nat) ∧ (!decide (recFault (x.fst, x.snd.fst, x.snd.snd.fst, x.snd.snd.snd.fst, x.snd.snd.snd.snd.fst, ()) = (0 : Int))) = !decide (recFault (x.fst, x.snd.fst, x.snd.snd.fst, x.snd.snd.snd.fst, x.snd.snd.snd.snd.fst, ()) = (0 : Int))) ∧ (x.fst = x.fst ∧ x.snd.fst = x.snd.fst ∧ x.snd.snd.fst = x.snd.snd.fst ∧ x.snd.snd.snd.fst = x.snd.snd.snd.fst ∧ x.snd.snd.snd.snd.fst = x.snd.snd.snd.snd.fst ∧ True) ∧ recFault (x.fst, x.snd.fst, x.snd.snd.fst, x.snd.snd.snd.fst, x.snd.snd.snd.snd.fst, ()) = recFault (x.fst, x.snd.fst, x.snd.snd.fst, x.snd.snd.snd.fst, x.snd.snd.snd.snd.fst, ()) ∧ ((3 : Nat) = (3 : Nat) ∧ recFault (x.fst, x.snd.fst, x.snd.snd.fst, x.snd.snd.snd.fst, x.snd.snd.snd.snd.fst, ()) = recFault (x.fst, x.snd.fst, x.snd.snd.fst, x.snd.snd.snd.fst, x.snd.snd.snd.snd.fst, ())) ∧ Int.ofNat i = Int.ofNat i ∧ decide (Int.ofNat i > (0 : Int)) = decide (Int.ofNat i > (0 : Int)) ∧ decide (Int.ofNat i > (0 : Int)) = decide (Int.ofNat i > (0 : Int)) ∧ sameB l (Int.ofNat i) = sameB l (Int.ofNat i) ∧ ((4 : Nat) = (4 : Nat) ∧ sameB l (Int.ofNat i) = sameB l (Int.ofNat i)) ∧ ((3 : Nat) = (3 : Nat) ∧ (18 : Int) = (18 : Int)) ∧ Int.ofNat i = Int.ofNat i ∧ decide (Int.ofNat i > (0 : Int)) = decide (Int.ofNat i > (0 : Int)) ∧ false = false ∧ True ∧ True ∧ True ∧ True ∧ True ∧ True ∧ True ∧ True ∧ True ∧ True ∧ True ∧ false = false ∧ ((4 : Nat) = (4 : Nat) ∧ false = false) ∧ ((3 : Nat) = (3 : Nat) ∧ (11 : Int) = (11 : Int)) ∧ idx (atPath (parentS x.snd.fst)) (subL l (0 : Nat) (tN (Int.ofNat i))) = idx (atPath (parentS x.snd.fst)) (subL l (0 : Nat) (tN (Int.ofNat i))) ∧ decide (idx (atPath (parentS x.snd.fst)) (subL l (0 : Nat) (tN (Int.ofNat i))) < (0 : Int)) = decide (idx (atPath (parentS x.snd.fst)) (subL l (0 : Nat) (tN (Int.ofNat i))) < (0 : Int)) ∧ ((4 : Nat) = (4 : Nat) ∧ decide (idx (atPath (parentS x.snd.fst)) (subL l (0 : Nat) (tN (Int.ofNat i))) < (0 : Int)) = decide (idx (atPath (parentS x.snd.fst)) (subL l (0 : Nat) (tN (Int.ofNat i))) < (0 : Int))) ∧ ((3 : Nat) = (3 : Nat) ∧ (12 : Int) = (12 : Int)) ∧ (nat_lit 0 = nat_lit 0 ∧ nat_lit 1 = nat_lit 1) ∧ x.snd.fst = x.snd.fst ∧ parentS x.snd.fst = parentS x.snd.fst ∧ (!parentS x.snd.fst == ([] : List UInt8)) = !parentS x.snd.fst == ([] : List UInt8) ∧ false = !parentS x.snd.fst == ([] : List UInt8) ∧ false = dirB l (Int.ofNat i) ∧ ((3 : Nat) = (3 : Nat) ∧ (13 : Int) = (13 : Int)) ∧ True) ∧ ((x.fst = x.fst ∧ x.snd.fst = x.snd.fst ∧ x.snd.snd.fst = x.snd.snd.fst ∧ x.snd.snd.snd.fst = x.snd.snd.snd.fst ∧ x.snd.snd.snd.snd.fst = x.snd.snd.snd.snd.fst ∧ True) ∧ True) ∧ True)) ∧ true = true ∧ True ∧ true = true ∧ True ∧ (first (AnyV.b (decide (Int.ofNat i ≥ (16 : Int))) :: AnyV.n (6 : Int) :: AnyV.b true :: AnyV.n (first ((AnyV.b !decide (recFault (x.fst, x.snd.fst, x.snd.snd.fst, x.snd.snd.snd.fst, x.snd.snd.snd.snd.fst, ()) = (0 : Int))) :: AnyV.n (recFault (x.fst, x.snd.fst, x.snd.snd.fst, x.snd.snd.snd.fst, x.snd.snd.snd.snd.fst, ())) :: AnyV.b (sameB l (Int.ofNat i)) :: AnyV.n (18 : Int) :: AnyV.b false :: AnyV.n (11 : Int) :: AnyV.b (decide (idx (atPath (parentS x.snd.fst)) (subL l (0 : Nat) (tN (Int.ofNat i))) < (0 : Int))) :: AnyV.n (12 : Int) :: AnyV.b (dirB l (Int.ofNat i)) :: AnyV.n (13 : Int) :: ([] : List AnyV))) :: ([] : List AnyV)), ()) = (faultI l (Int.ofNat i), ()) ∧ () = ())) ∧ ((!parentS x.snd.fst == ([] : List UInt8)) = false → nat_lit 5 ≤ (Nat.succ (nat_lit 1)).succ.succ.succ ∧ nat_lit 5 ≤ (Nat.succ (nat_lit 1)).succ.succ.succ ∧ nat_lit 2 ≤ (Nat.succ (nat_lit 1)).succ.succ.succ ∧ true = true ∧ x.snd.fst.length ≤ (100000000 : Nat) ∧ true = true ∧ x.snd.fst.length ≤ (100000000 : Nat) ∧ ((decide (Int.ofNat i > (0 : Int)) = true → IntKind.i64 = IntKind.i64 ∧ bnd (mm true (wSub IntKind.i64 (Int.ofNat i) (1 : Int)) (0 : Int)) (lenL l) ∧ ∀ (x_1 : Int × List UInt8 × List UInt8 × Int × Bool × Unit), nthI l (mm true (wSub IntKind.i64 (Int.ofNat i) (1 : Int)) (0 : Int)) = some x_1 → nat_lit 1 ≤ (Nat.succ (nat_lit 1)).succ.succ ∧ nat_lit 2 ≤ (Nat.succ (nat_lit 1)).succ.succ.succ ∧ (l = l ∧ Int.ofNat i = Int.ofNat i ∧ (0 : Int) = (0 : Int) ∧ (nat_lit 0 = nat_lit 0 ∧ (0 : Nat) = (0 : Nat)) ∧ (0 : Int) = (0 : Int) ∧ parentS x.snd.fst = parentS x.snd.fst ∧ l = l ∧ Int.ofNat i = Int.ofNat i ∧ (x.fst = x.fst ∧ x.snd.fst = x.snd.fst ∧ x.snd.snd.fst = x.snd.snd.fst ∧ x.snd.snd.snd.fst = x.snd.snd.snd.fst ∧ x.snd.snd.snd.snd.fst = x.snd.snd.snd.snd.fst ∧ True) ∧ (x.fst = x.fst ∧ x.snd.fst = x.snd.fst ∧ x.snd.snd.fst = x.snd.snd.fst ∧ x.snd.snd.snd.fst = x.snd.snd.snd.fst ∧ x.snd.snd.snd.snd.fst = x.snd.snd.snd.snd.fst ∧ True) ∧ (nat_lit 0 = nat_lit 0 ∧ nat_lit 1 = nat_lit 1) ∧ x.snd.fst = x.snd.fst ∧ parentS x.snd.fst = parentS x.snd.fst ∧ parentS x.snd.fst = parentS x.snd.fst ∧ (!parentS x.snd.fst == ([] : List UInt8)) = !parentS x.snd.fst == ([] : List UInt8) ∧ Int.ofNat i = Int.ofNat i ∧ decide (Int.ofNat i ≥ (16 : Int)) = decide (Int.ofNat i ≥ (16 : Int)) ∧ ((4 : Nat) = (4 : Nat) ∧ decide (Int.ofNat i ≥ (16 : Int)) = decide (Int.ofNat i ≥ (16 : Int))) ∧ ((3 : Nat) = (3 : Nat) ∧ (6 : Int) = (6 : Int)) ∧ ((4 : Nat) = (4 : Nat) ∧ true = true) ∧ (x.fst = x.fst ∧ x.snd.fst = x.snd.fst ∧ x.snd.snd.fst = x.snd.snd.fst ∧ x.snd.snd.snd.fst = x.snd.snd.snd.fst ∧ x.snd.snd.snd.snd.fst = x.snd.snd.snd.snd.fst ∧ True) ∧ decide (recFault (x.fst, x.snd.fst, x.snd.snd.fst, x.snd.snd.snd.fst, x.snd.snd.snd.snd.fst, ()) = (0 : Int)) = decide (recFault (x.fst, x.snd.fst, x.snd.snd.fst, x.snd.snd.snd.fst, x.snd.snd.snd.snd.fst, ()) = (0 : Int)) ∧ (!decide (recFault (x.fst, x.snd.fst, x.snd.snd.fst, x.snd.snd.snd.fst, x.snd.snd.snd.snd.fst, ()) = (0 : Int))) = !decide (recFault (x.fst, x.snd.fst, x.snd.snd.fst, x.snd.snd.snd.fst, x.snd.snd.snd.snd.fst, ()) = (0 : Int)) ∧ ((4 : Nat) = (4 : Nat) ∧ (!decide (recFault (x.fst, x.snd.fst, x.snd.snd.fst, x.snd.snd.snd.fst, x.snd.snd.snd.snd.fst, ()) = (0 : Int))) = !decide (recFault (x.fst, x.snd.fst, x.snd.snd.fst, x.snd.snd.snd.fst, x.snd.snd.snd.snd.fst, ()) = (0 : Int))) ∧ (x.fst = x.fst ∧ x.snd.fst = x.snd.fst ∧ x.snd.snd.fst = x.snd.snd.fst ∧ x.snd.snd.snd.fst = x.snd.snd.snd.fst ∧ x.snd.snd.snd.snd.fst = x.snd.snd.snd.snd.fst ∧ True) ∧ recFault (x.fst, x.snd.fst, x.snd.snd.fst, x.snd.snd.snd.fst, x.snd.snd.snd.snd.fst, ()) = recFault (x.fst, x.snd.fst, x.snd.snd.fst, x.snd.snd.snd.fst, x.snd.snd.snd.snd.fst, ()) ∧ ((3 : Nat) = (3 : Nat) ∧ recFault (x.fst, x.snd.fst, x.snd.snd.fst, x.snd.snd.snd.fst, x.snd.snd.snd.snd.fst, ()) = recFault (x.fst, x.snd.fst, x.snd.snd.fst, x.snd.snd.snd.fst, x.snd.snd.snd.snd.fst, ())) ∧ Int.ofNat i = Int.ofNat i ∧ decide (Int.ofNat i > (0 : Int)) = decide (Int.ofNat i > (0 : Int)) ∧ true = decide (Int.ofNat i > (0 : Int)) ∧ (x_1.snd.fst == x.snd.fst) = sameB l (Int.ofNat i) ∧ ((3 : Nat) = (3 : Nat) ∧ (18 : Int) = (18 : Int)) ∧ Int.ofNat i = Int.ofNat i ∧ decide (Int.ofNat i > (0 : Int)) = decide (Int.ofNat i > (0 : Int)) ∧ ((3 : Nat) = (3 : Nat) ∧ (11 : Int) = (11 : Int)) ∧ (0 : Int) = (0 : Int) ∧ decide ((0 : Int) < (0 : Int)) = decide ((0 : Int) < (0 : Int)) ∧ ((4 : Nat) = (4 : Nat) ∧ decide ((0 : Int) < (0 : Int)) = decide ((0 : Int) < (0 : Int))) ∧ ((3 : Nat) = (3 : Nat) ∧ (12 : Int) = (12 : Int)) ∧ (nat_lit 0 = nat_lit 0 ∧ nat_lit 1 = nat_lit 1) ∧ x.snd.fst = x.snd.fst ∧ ((3 : Nat) = (3 : Nat) ∧ (13 : Int) = (13 : Int)) ∧ True) ∧ ((x.fst = x.fst ∧ x.snd.fst = x.snd.fst ∧ x.snd.snd.fst = x.snd.snd.fst ∧ x.snd.snd.snd.fst = x.snd.snd.snd.fst ∧ x.snd.snd.snd.snd.fst = x.snd.snd.snd.snd.fst ∧ True) ∧ True) ∧ True) ∧ (decide (Int.ofNat i > (0 : Int)) = false → (l = l ∧ Int.ofNat i = Int.ofNat i ∧ (0 : Int) = (0 : Int) ∧ (nat_lit 0 = nat_lit 0 ∧ (0 : Nat) = (0 : Nat)) ∧ (0 : Int) = (0 : Int) ∧ parentS x.snd.fst = parentS x.snd.fst ∧ l = l ∧ Int.ofNat i = Int.ofNat i ∧ (x.fst = x.fst ∧ x.snd.fst = x.snd.fst ∧ x.snd.snd.fst = x.snd.snd.fst ∧ x.snd.snd.snd.fst = x.snd.snd.snd.fst ∧ x.snd.snd.snd.snd.fst = x.snd.snd.snd.snd.fst ∧ True) ∧ (x.fst = x.fst ∧ x.snd.fst = x.snd.fst ∧ x.snd.snd.fst = x.snd.snd.fst ∧ x.snd.snd.snd.fst = x.snd.snd.snd.fst ∧ x.snd.snd.snd.snd.fst = x.snd.snd.snd.snd.fst ∧ True) ∧ (nat_lit 0 = nat_lit 0 ∧ nat_lit 1 = nat_lit 1) ∧ x.snd.fst = x.snd.fst ∧ parentS x.snd.fst = parentS x.snd.fst ∧ parentS x.snd.fst = parentS x.snd.fst ∧ (!parentS x.snd.fst == ([] : List UInt8)) = !parentS x.snd.fst == ([] : List UInt8) ∧ Int.ofNat i = Int.ofNat i ∧ decide (Int.ofNat i ≥ (16 : Int)) = decide (Int.ofNat i ≥ (16 : Int)) ∧ ((4 : Nat) = (4 : Nat) ∧ decide (Int.ofNat i ≥ (16 : Int)) = decide (Int.ofNat i ≥ (16 : Int))) ∧ ((3 : Nat) = (3 : Nat) ∧ (6 : Int) = (6 : Int)) ∧ ((4 : Nat) = (4 : Nat) ∧ true = true) ∧ (x.fst = x.fst ∧ x.snd.fst = x.snd.fst ∧ x.snd.snd.fst = x.snd.snd.fst ∧ x.snd.snd.snd.fst = x.snd.snd.snd.fst ∧ x.snd.snd.snd.snd.fst = x.snd.snd.snd.snd.fst ∧ True) ∧ decide (recFault (x.fst, x.snd.fst, x.snd.snd.fst, x.snd.snd.snd.fst, x.snd.snd.snd.snd.fst, ()) = (0 : Int)) = decide (recFault (x.fst, x.snd.fst, x.snd.snd.fst, x.snd.snd.snd.fst, x.snd.snd.snd.snd.fst, ()) = (0 : Int)) ∧ (!decide (recFault (x.fst, x.snd.fst, x.snd.snd.fst, x.snd.snd.snd.fst, x.snd.snd.snd.snd.fst, ()) = (0 : Int))) = !decide (recFault (x.fst, x.snd.fst, x.snd.snd.fst, x.snd.snd.snd.fst, x.snd.snd.snd.snd.fst, ()) = (0 : Int)) ∧ ((4 : Nat) = (4 : Nat) ∧ (!decide (recFault (x.fst, x.snd.fst, x.snd.snd.fst, x.snd.snd.snd.fst, x.snd.snd.snd.snd.fst, ()) = (0 : Int))) = !decide (recFault (x.fst, x.snd.fst, x.snd.snd.fst, x.snd.snd.snd.fst, x.snd.snd.snd.snd.fst, ()) = (0 : Int))) ∧ (x.fst = x.fst ∧ x.snd.fst = x.snd.fst ∧ x.snd.snd.fst = x.snd.snd.fst ∧ x.snd.snd.snd.fst = x.snd.snd.snd.fst ∧ x.snd.snd.snd.snd.fst = x.snd.snd.snd.snd.fst ∧ True) ∧ recFault (x.fst, x.snd.fst, x.snd.snd.fst, x.snd.snd.snd.fst, x.snd.snd.snd.snd.fst, ()) = recFault (x.fst, x.snd.fst, x.snd.snd.fst, x.snd.snd.snd.fst, x.snd.snd.snd.snd.fst, ()) ∧ ((3 : Nat) = (3 : Nat) ∧ recFault (x.fst, x.snd.fst, x.snd.snd.fst, x.snd.snd.snd.fst, x.snd.snd.snd.snd.fst, ()) = recFault (x.fst, x.snd.fst, x.snd.snd.fst, x.snd.snd.snd.fst, x.snd.snd.snd.snd.fst, ())) ∧ Int.ofNat i = Int.ofNat i ∧ decide (Int.ofNat i > (0 : Int)) = decide (Int.ofNat i > (0 : Int)) ∧ false = decide (Int.ofNat i > (0 : Int)) ∧ false = sameB l (Int.ofNat i) ∧ ((3 : Nat) = (3 : Nat) ∧ (18 : Int) = (18 : Int)) ∧ Int.ofNat i = Int.ofNat i ∧ decide (Int.ofNat i > (0 : Int)) = decide (Int.ofNat i > (0 : Int)) ∧ ((3 : Nat) = (3 : Nat) ∧ (11 : Int) = (11 : Int)) ∧ (0 : Int) = (0 : Int) ∧ decide ((0 : Int) < (0 : Int)) = decide ((0 : Int) < (0 : Int)) ∧ ((4 : Nat) = (4 : Nat) ∧ decide ((0 : Int) < (0 : Int)) = decide ((0 : Int) < (0 : Int))) ∧ ((3 : Nat) = (3 : Nat) ∧ (12 : Int) = (12 : Int)) ∧ (nat_lit 0 = nat_lit 0 ∧ nat_lit 1 = nat_lit 1) ∧ x.snd.fst = x.snd.fst ∧ ((3 : Nat) = (3 : Nat) ∧ (13 : Int) = (13 : Int)) ∧ True) ∧ ((x.fst = x.fst ∧ x.snd.fst = x.snd.fst ∧ x.snd.snd.fst = x.snd.snd.fst ∧ x.snd.snd.snd.fst = x.snd.snd.snd.fst ∧ x.snd.snd.snd.snd.fst = x.snd.snd.snd.snd.fst ∧ True) ∧ True) ∧ True)) ∧ (decide (Int.ofNat i > (0 : Int)) = true → IntKind.i64 = IntKind.i64 ∧ bnd (mm true (wSub IntKind.i64 (Int.ofNat i) (1 : Int)) (0 : Int)) (lenL l) ∧ ∀ (x_1 : Int × List UInt8 × List UInt8 × Int × Bool × Unit), nthI l (mm true (wSub IntKind.i64 (Int.ofNat i) (1 : Int)) (0 : Int)) = some x_1 → nat_lit 1 ≤ (Nat.succ (nat_lit 1)).succ.succ ∧ nat_lit 2 ≤ (Nat.succ (nat_lit 1)).succ.succ.succ ∧ true = true ∧ (x_1.snd.fst.length ≤ (100000000 : Nat) ∧ x.snd.fst.length ≤ (100000000 : Nat)) ∧ true = true ∧ x.snd.fst.length ≤ (100000000 : Nat) ∧ (((!parentS x.snd.fst == ([] : List UInt8)) = true → IntKind.i64 = IntKind.i64 ∧ bnd (mm true (0 : Int) (0 : Int)) (lenL l) ∧ ∀ (x_2 : Int × List UInt8 × List UInt8 × Int × Bool × Unit), nthI l (mm true (0 : Int) (0 : Int)) = some x_2 → nat_lit 1 ≤ (Nat.succ (nat_lit 1)).succ.succ.succ ∧ (l = l ∧ Int.ofNat i = Int.ofNat i ∧ (0 : Int) = (0 : Int) ∧ (nat_lit 0 = nat_lit 0 ∧ (0 : Nat) = (0 : Nat)) ∧ (0 : Int) = (0 : Int) ∧ parentS x.snd.fst = parentS x.snd.fst ∧ l = l ∧ Int.ofNat i = Int.ofNat i ∧ (x.fst = x.fst ∧ x.snd.fst = x.snd.fst ∧ x.snd.snd.fst = x.snd.snd.fst ∧ x.snd.snd.snd.fst = x.snd.snd.snd.fst ∧ x.snd.snd.snd.snd.fst = x.snd.snd.snd.snd.fst ∧ True) ∧ (x.fst = x.fst ∧ x.snd.fst = x.snd.fst ∧ x.snd.snd.fst = x.snd.snd.fst ∧ x.snd.snd.snd.fst = x.snd.snd.snd.fst ∧ x.snd.snd.snd.snd.fst = x.snd.snd.snd.snd.fst ∧ True) ∧ (nat_lit 0 = nat_lit 0 ∧ nat_lit 1 = nat_lit 1) ∧ x.snd.fst = x.snd.fst ∧ parentS x.snd.fst = parentS x.snd.fst ∧ parentS x.snd.fst = parentS x.snd.fst ∧ (!parentS x.snd.fst == ([] : List UInt8)) = !parentS x.snd.fst == ([] : List UInt8) ∧ Int.ofNat i = Int.ofNat i ∧ decide (Int.ofNat i ≥ (16 : Int)) = decide (Int.ofNat i ≥ (16 : Int)) ∧ ((4 : Nat) = (4 : Nat) ∧ decide (Int.ofNat i ≥ (16 : Int)) = decide (Int.ofNat i ≥ (16 : Int))) ∧ ((3 : Nat) = (3 : Nat) ∧ (6 : Int) = (6 : Int)) ∧ ((4 : Nat) = (4 : Nat) ∧ true = true) ∧ (x.fst = x.fst ∧ x.snd.fst = x.snd.fst ∧ x.snd.snd.fst = x.snd.snd.fst ∧ x.snd.snd.snd.fst = x.snd.snd.snd.fst ∧ x.snd.snd.snd.snd.fst = x.snd.snd.snd.snd.fst ∧ True) ∧ decide (recFault (x.fst, x.snd.fst, x.snd.snd.fst, x.snd.snd.snd.fst, x.snd.snd.snd.snd.fst, ()) = (0 : Int)) = decide (recFault (x.fst, x.snd.fst, x.snd.snd.fst, x.snd.snd.snd.fst, x.snd.snd.snd.snd.fst, ()) = (0 : Int)) ∧ (!decide (recFault (x.fst, x.snd.fst, x.snd.snd.fst, x.snd.snd.snd.fst, x.snd.snd.snd.snd.fst, ()) = (0 : Int))) = !decide (recFault (x.fst, x.snd.fst, x.snd.snd.fst, x.snd.snd.snd.fst, x.snd.snd.snd.snd.fst, ()) = (0 : Int)) ∧ ((4 : Nat) = (4 : Nat) ∧ (!decide (recFault (x.fst, x.snd.fst, x.snd.snd.fst, x.snd.snd.snd.fst, x.snd.snd.snd.snd.fst, ()) = (0 : Int))) = !decide (recFault (x.fst, x.snd.fst, x.snd.snd.fst, x.snd.snd.snd.fst, x.snd.snd.snd.snd.fst, ()) = (0 : Int))) ∧ (x.fst = x.fst ∧ x.snd.fst = x.snd.fst ∧ x.snd.snd.fst = x.snd.snd.fst ∧ x.snd.snd.snd.fst = x.snd.snd.snd.fst ∧ x.snd.snd.snd.snd.fst = x.snd.snd.snd.snd.fst ∧ True) ∧ recFault (x.fst, x.snd.fst, x.snd.snd.fst, x.snd.snd.snd.fst, x.snd.snd.snd.snd.fst, ()) = recFault (x.fst, x.snd.fst, x.snd.snd.fst, x.snd.snd.snd.fst, x.snd.snd.snd.snd.fst, ()) ∧ ((3 : Nat) = (3 : Nat) ∧ recFault (x.fst, x.snd.fst, x.snd.snd.fst, x.snd.snd.snd.fst, x.snd.snd.snd.snd.fst, ()) = recFault (x.fst, x.snd.fst, x.snd.snd.fst, x.snd.snd.snd.fst, x.snd.snd.snd.snd.fst, ())) ∧ Int.ofNat i = Int.ofNat i ∧ decide (Int.ofNat i > (0 : Int)) = decide (Int.ofNat i > (0 : Int)) ∧ decide (Int.ofNat i > (0 : Int)) = decide (Int.ofNat i > (0 : Int)) ∧ sameB l (Int.ofNat i) = sameB l (Int.ofNat i) ∧ ((4 : Nat) = (4 : Nat) ∧ sameB l (Int.ofNat i) = sameB l (Int.ofNat i)) ∧ ((3 : Nat) = (3 : Nat) ∧ (18 : Int) = (18 : Int)) ∧ Int.ofNat i = Int.ofNat i ∧ decide (Int.ofNat i > (0 : Int)) = decide (Int.ofNat i > (0 : Int)) ∧ true = true ∧ l = l ∧ Int.ofNat i = Int.ofNat i ∧ wSub IntKind.i64 (Int.ofNat i) (1 : Int) = wSub IntKind.i64 (Int.ofNat i) (1 : Int) ∧ mm true (wSub IntKind.i64 (Int.ofNat i) (1 : Int)) (0 : Int) = mm true (wSub IntKind.i64 (Int.ofNat i) (1 : Int)) (0 : Int) ∧ (x_1.fst = x_1.fst ∧ x_1.snd.fst = x_1.snd.fst ∧ x_1.snd.snd.fst = x_1.snd.snd.fst ∧ x_1.snd.snd.snd.fst = x_1.snd.snd.snd.fst ∧ x_1.snd.snd.snd.snd.fst = x_1.snd.snd.snd.snd.fst ∧ True) ∧ (x_1.snd.fst = x_1.snd.fst ∧ x_1.snd.snd.fst = x_1.snd.snd.fst ∧ x_1.snd.snd.snd.fst = x_1.snd.snd.snd.fst ∧ x_1.snd.snd.snd.snd.fst = x_1.snd.snd.snd.snd.fst ∧ True) ∧ x_1.snd.fst = x_1.snd.fst ∧ (nat_lit 0 = nat_lit 0 ∧ nat_lit 1 = nat_lit 1) ∧ x.snd.fst = x.snd.fst ∧ pathLess x_1.snd.fst x.snd.fst = pathLess x_1.snd.fst x.snd.fst ∧ (!pathLess x_1.snd.fst x.snd.fst) = !pathLess x_1.snd.fst x.snd.fst ∧ (!pathLess x_1.snd.fst x.snd.fst) = !pathLess x_1.snd.fst x.snd.fst ∧ ((4 : Nat) = (4 : Nat) ∧ (!pathLess x_1.snd.fst x.snd.fst) = !pathLess x_1.snd.fst x.snd.fst) ∧ ((3 : Nat) = (3 : Nat) ∧ (11 : Int) = (11 : Int)) ∧ (0 : Int) = (0 : Int) ∧ decide ((0 : Int) < (0 : Int)) = decide ((0 : Int) < (0 : Int)) ∧ ((4 : Nat) = (4 : Nat) ∧ decide ((0 : Int) < (0 : Int)) = decide ((0 : Int) < (0 : Int))) ∧ ((3 : Nat) = (3 : Nat) ∧ (12 : Int) = (12 : Int)) ∧ (nat_lit 0 = nat_lit 0 ∧ nat_lit 1 = nat_lit 1) ∧ x.snd.fst = x.snd.fst ∧ parentS x.snd.fst = parentS x.snd.fst ∧ (!parentS x.snd.fst == ([] : List UInt8)) = !parentS x.snd.fst == ([] : List UInt8) ∧ true = !parentS x.snd.fst == ([] : List UInt8) ∧ (x_2.fst != (3 : Int)) = dirB l (Int.ofNat i) ∧ ((3 : Nat) = (3 : Nat) ∧ (13 : Int) = (13 : Int)) ∧ True) ∧ ((x.fst = x.fst ∧ x.snd.fst = x.snd.fst ∧ x.snd.snd.fst = x.snd.snd.fst ∧ x.snd.snd.snd.fst = x.snd.snd.snd.fst ∧ x.snd.snd.snd.snd.fst = x.snd.snd.snd.snd.fst ∧ True) ∧ True) ∧ True) ∧ ((!parentS x.snd.fst == ([] : List UInt8)) = false → (l = l ∧ Int.ofNat i = Int.ofNat i ∧ (0 : Int) = (0 : Int) ∧ (nat_lit 0 = nat_lit 0 ∧ (0 : Nat) = (0 : Nat)) ∧ (0 : Int) = (0 : Int) ∧ parentS x.snd.fst = parentS x.snd.fst ∧ l = l ∧ Int.ofNat i = Int.ofNat i ∧ (x.fst = x.fst ∧ x.snd.fst = x.snd.fst ∧ x.snd.snd.fst = x.snd.snd.fst ∧ x.snd.snd.snd.fst = x.snd.snd.snd.fst ∧ x.snd.snd.snd.snd.fst = x.snd.snd.snd.snd.fst ∧ True) ∧ (x.fst = x.fst ∧ x.snd.fst = x.snd.fst ∧ x.snd.snd.fst = x.snd.snd.fst ∧ x.snd.snd.snd.fst = x.snd.snd.snd.fst ∧ x.snd.snd.snd.snd.fst = x.snd.snd.snd.snd.fst ∧ True) ∧ (nat_lit 0 = nat_lit 0 ∧ nat_lit 1 = nat_lit 1) ∧ x.snd.fst = x.snd.fst ∧ parentS x.snd.fst = parentS x.snd.fst ∧ parentS x.snd.fst = parentS x.snd.fst ∧ (!parentS x.snd.fst == ([] : List UInt8)) = !parentS x.snd.fst == ([] : List UInt8) ∧ Int.ofNat i = Int.ofNat i ∧ decide (Int.ofNat i ≥ (16 : Int)) = decide (Int.ofNat i ≥ (16 : Int)) ∧ ((4 : Nat) = (4 : Nat) ∧ decide (Int.ofNat i ≥ (16 : Int)) = decide (Int.ofNat i ≥ (16 : Int))) ∧ ((3 : Nat) = (3 : Nat) ∧ (6 : Int) = (6 : Int)) ∧ ((4 : Nat) = (4 : Nat) ∧ true = true) ∧ (x.fst = x.fst ∧ x.snd.fst = x.snd.fst ∧ x.snd.snd.fst = x.snd.snd.fst ∧ x.snd.snd.snd.fst = x.snd.snd.snd.fst ∧ x.snd.snd.snd.snd.fst = x.snd.snd.snd.snd.fst ∧ True) ∧ decide (recFault (x.fst, x.snd.fst, x.snd.snd.fst, x.snd.snd.snd.fst, x.snd.snd.snd.snd.fst, ()) = (0 : Int)) = decide (recFault (x.fst, x.snd.fst, x.snd.snd.fst, x.snd.snd.snd.fst, x.snd.snd.snd.snd.fst, ()) = (0 : Int)) ∧ (!decide (recFault (x.fst, x.snd.fst, x.snd.snd.fst, x.snd.snd.snd.fst, x.snd.snd.snd.snd.fst, ()) = (0 : Int))) = !decide (recFault (x.fst, x.snd.fst, x.snd.snd.fst, x.snd.snd.snd.fst, x.snd.snd.snd.snd.fst, ()) = (0 : Int)) ∧ ((4 : Nat) = (4 : Nat) ∧ (!decide (recFault (x.fst, x.snd.fst, x.snd.snd.fst, x.snd.snd.snd.fst, x.snd.snd.snd.snd.fst, ()) = (0 : Int))) = !decide (recFault (x.fst, x.snd.fst, x.snd.snd.fst, x.snd.snd.snd.fst, x.snd.snd.snd.snd.fst, ()) = (0 : Int))) ∧ (x.fst = x.fst ∧ x.snd.fst = x.snd.fst ∧ x.snd.snd.fst = x.snd.snd.fst ∧ x.snd.snd.snd.fst = x.snd.snd.snd.fst ∧ x.snd.snd.snd.snd.fst = x.snd.snd.snd.snd.fst ∧ True) ∧ recFault (x.fst, x.snd.fst, x.snd.snd.fst, x.snd.snd.snd.fst, x.snd.snd.snd.snd.fst, ()) = recFault (x.fst, x.snd.fst, x.snd.snd.fst, x.snd.snd.snd.fst, x.snd.snd.snd.snd.fst, ()) ∧ ((3 : Nat) = (3 : Nat) ∧ recFault (x.fst, x.snd.fst, x.snd.snd.fst, x.snd.snd.snd.fst, x.snd.snd.snd.snd.fst, ()) = recFault (x.fst, x.snd.fst, x.snd.snd.fst, x.snd.snd.snd.fst, x.snd.snd.snd.snd.fst, ())) ∧ Int.ofNat i = Int.ofNat i ∧ decide (Int.ofNat i > (0 : Int)) = decide (Int.ofNat i > (0 : Int)) ∧ decide (Int.ofNat i > (0 : Int)) = decide (Int.ofNat i > (0 : Int)) ∧ sameB l (Int.ofNat i) = sameB l (Int.ofNat i) ∧ ((4 : Nat) = (4 : Nat) ∧ sameB l (Int.ofNat i) = sameB l (Int.ofNat i)) ∧ ((3 : Nat) = (3 : Nat) ∧ (18 : Int) = (18 : Int)) ∧ Int.ofNat i = Int.ofNat i ∧ decide (Int.ofNat i > (0 : Int)) = decide (Int.ofNat i > (0 : Int)) ∧ true = true ∧ l = l ∧ Int.ofNat i = Int.ofNat i ∧ wSub IntKind.i64 (Int.ofNat i) (1 : Int) = wSub IntKind.i64 (Int.ofNat i) (1 : Int) ∧ mm true (wSub IntKind.i64 (Int.ofNat i) (1 : Int)) (0 : Int) = mm true (wSub IntKind.i64 (Int.ofNat i) (1 : Int)) (0 : Int) ∧ (x_1.fst = x_1.fst ∧ x_1.snd.fst = x_1.snd.fst ∧ x_1.snd.snd.fst = x_1.snd.snd.fst ∧ x_1.snd.snd.snd.fst = x_1.snd.snd.snd.fst ∧ x_1.snd.snd.snd.snd.fst = x_1.snd.snd.snd.snd.fst ∧ True) ∧ (x_1.snd.fst = x_1.snd.fst ∧ x_1.snd.snd.fst = x_1.snd.snd.fst ∧ x_1.snd.snd.snd.fst = x_1.snd.snd.snd.fst ∧ x_1.snd.snd.snd.snd.fst = x_1.snd.snd.snd.snd.fst ∧ True) ∧ x_1.snd.fst = x_1.snd.fst ∧ (nat_lit 0 = nat_lit 0 ∧ nat_lit 1 = nat_lit 1) ∧ x.snd.fst = x.snd.fst ∧ pathLess x_1.snd.fst x.snd.fst = pathLess x_1.snd.fst x.snd.fst ∧ (!pathLess x_1.snd.fst x.snd.fst) = !pathLess x_1.snd.fst x.snd.fst ∧ (!pathLess x_1.snd.fst x.snd.fst) = !pathLess x_1.snd.fst x.snd.fst ∧ ((4 : Nat) = (4 : Nat) ∧ (!pathLess x_1.snd.fst x.snd.fst) = !pathLess x_1.snd.fst x.snd.fst) ∧ ((3 : Nat) = (3 : Nat) ∧ (11 : Int) = (11 : Int)) ∧ (0 : Int) = (0 : Int) ∧ decide ((0 : Int) < (0 : Int)) = decide ((0 : Int) < (0 : Int)) ∧ ((4 : Nat) = (4 : Nat) ∧ decide ((0 : Int) < (0 : Int)) = decide ((0 : Int) < (0 : Int))) ∧ ((3 : Nat) = (3 : Nat) ∧ (12 : Int) = (12 : Int)) ∧ (nat_lit 0 = nat_lit 0 ∧ nat_lit 1 = nat_lit 1) ∧ x.snd.fst = x.snd.fst ∧ parentS x.snd.fst = parentS x.snd.fst ∧ (!parentS x.snd.fst == ([] : List UInt8)) = !parentS x.snd.fst == ([] : List UInt8) ∧ false = !parentS x.snd.fst == ([] : List UInt8) ∧ false = dirB l (Int.ofNat i) ∧ ((3 : Nat) = (3 : Nat) ∧ (13 : Int) = (13 : Int)) ∧ True) ∧ ((x.fst = x.fst ∧ x.snd.fst = x.snd.fst ∧ x.snd.snd.fst = x.snd.snd.fst ∧ x.snd.snd.snd.fst = x.snd.snd.snd.fst ∧ x.snd.snd.snd.snd.fst = x.snd.snd.snd.snd.fst ∧ True) ∧ True) ∧ True)) ∧ true = true ∧ True ∧ true = true ∧ True ∧ (first (AnyV.b (decide (Int.ofNat i ≥ (16 : Int))) :: AnyV.n (6 : Int) :: AnyV.b true :: AnyV.n (first ((AnyV.b !decide (recFault (x.fst, x.snd.fst, x.snd.snd.fst, x.snd.snd.snd.fst, x.snd.snd.snd.snd.fst, ()) = (0 : Int))) :: AnyV.n (recFault (x.fst, x.snd.fst, x.snd.snd.fst, x.snd.snd.snd.fst, x.snd.snd.snd.snd.fst, ())) :: AnyV.b (sameB l (Int.ofNat i)) :: AnyV.n (18 : Int) :: (AnyV.b !pathLess x_1.snd.fst x.snd.fst) :: AnyV.n (11 : Int) :: AnyV.b (decide ((0 : Int) < (0 : Int))) :: AnyV.n (12 : Int) :: AnyV.b (dirB l (Int.ofNat i)) :: AnyV.n (13 : Int) :: ([] : List AnyV))) :: ([] : List AnyV)), ()) = (faultI l (Int.ofNat i), ()) ∧ () = ()) ∧ (decide (Int.ofNat i > (0 : Int)) = false → true = true ∧ x.snd.fst.length ≤ (100000000 : Nat) ∧ (((!parentS x.snd.fst == ([] : List UInt8)) = true → IntKind.i64 = IntKind.i64 ∧ bnd (mm true (0 : Int) (0 : Int)) (lenL l) ∧ ∀ (x_1 : Int × List UInt8 × List UInt8 × Int × Bool × Unit), nthI l (mm true (0 : Int) (0 : Int)) = some x_1 → nat_lit 1 ≤ (Nat.succ (nat_lit 1)).succ.succ.succ ∧ (l = l ∧ Int.ofNat i = Int.ofNat i ∧ (0 : Int) = (0 : Int) ∧ (nat_lit 0 = nat_lit 0 ∧ (0 : Nat) = (0 : Nat)) ∧ (0 : Int) = (0 : Int) ∧ parentS x.snd.fst = parentS x.snd.fst ∧ l = l ∧ Int.ofNat i = Int.ofNat i ∧ (x.fst = x.fst ∧ x.snd.fst = x.snd.fst ∧ x.snd.snd.fst = x.snd.snd.fst ∧ x.snd.snd.snd.fst = x.snd.snd.snd.fst ∧ x.snd.snd.snd.snd.fst = x.snd.snd.snd.snd.fst ∧ True) ∧ (x.fst = x.fst ∧ x.snd.fst = x.snd.fst ∧ x.snd.snd.fst = x.snd.snd.fst ∧ x.snd.snd.snd.fst = x.snd.snd.snd.fst ∧ x.snd.snd.snd.snd.fst = x.snd.snd.snd.snd.fst ∧ True) ∧ (nat_lit 0 = nat_lit 0 ∧ nat_lit 1 = nat_lit 1) ∧ x.snd.fst = x.snd.fst ∧ parentS x.snd.fst = parentS x.snd.fst ∧ parentS x.snd.fst = parentS x.snd.fst ∧ (!parentS x.snd.fst == ([] : List UInt8)) = !parentS x.snd.fst == ([] : List UInt8) ∧ Int.ofNat i = Int.ofNat i ∧ decide (Int.ofNat i ≥ (16 : Int)) = decide (Int.ofNat i ≥ (16 : Int)) ∧ ((4 : Nat) = (4 : Nat) ∧ decide (Int.ofNat i ≥ (16 : Int)) = decide (Int.ofNat i ≥ (16 : Int))) ∧ ((3 : Nat) = (3 : Nat) ∧ (6 : Int) = (6 : Int)) ∧ ((4 : Nat) = (4 : Nat) ∧ true = true) ∧ (x.fst = x.fst ∧ x.snd.fst = x.snd.fst ∧ x.snd.snd.fst = x.snd.snd.fst ∧ x.snd.snd.snd.fst = x.snd.snd.snd.fst ∧ x.snd.snd.snd.snd.fst = x.snd.snd.snd.snd.fst ∧ True) ∧ decide (recFault (x.fst, x.snd.fst, x.snd.snd.fst, x.snd.snd.snd.fst, x.snd.snd.snd.snd.fst, ()) = (0 : Int)) = decide (recFault (x.fst, x.snd.fst, x.snd.snd.fst, x.snd.snd.snd.fst, x.snd.snd.snd.snd.fst, ()) = (0 : Int)) ∧ (!decide (recFault (x.fst, x.snd.fst, x.snd.snd.fst, x.snd.snd.snd.fst, x.snd.snd.snd.snd.fst, ()) = (0 : Int))) = !decide (recFault (x.fst, x.snd.fst, x.snd.snd.fst, x.snd.snd.snd.fst, x.snd.snd.snd.snd.fst, ()) = (0 : Int)) ∧ ((4 : Nat) = (4 : Nat) ∧ (!decide (recFault (x.fst, x.snd.fst, x.snd.snd.fst, x.snd.snd.snd.fst, x.snd.snd.snd.snd.fst, ()) = (0 : Int))) = !decide (recFault (x.fst, x.snd.fst, x.snd.snd.fst, x.snd.snd.snd.fst, x.snd.snd.snd.snd.fst, ()) = (0 : Int))) ∧ (x.fst = x.fst ∧ x.snd.fst = x.snd.fst ∧ x.snd.snd.fst = x.snd.snd.fst ∧ x.snd.snd.snd.fst = x.snd.snd.snd.fst ∧ x.snd.snd.snd.snd.fst = x.snd.snd.snd.snd.fst ∧ True) ∧ recFault (x.fst, x.snd.fst, x.snd.snd.fst, x.snd.snd.snd.fst, x.snd.snd.snd.snd.fst, ()) = recFault (x.fst, x.snd.fst, x.snd.snd.fst, x.snd.snd.snd.fst, x.snd.snd.snd.snd.fst, ()) ∧ ((3 : Nat) = (3 : Nat) ∧ recFault (x.fst, x.snd.fst, x.snd.snd.fst, x.snd.snd.snd.fst, x.snd.snd.snd.snd.fst, ()) = recFault (x.fst, x.snd.fst, x.snd.snd.fst, x.snd.snd.snd.fst, x.snd.snd.snd.snd.fst, ())) ∧ Int.ofNat i = Int.ofNat i ∧ decide (Int.ofNat i > (0 : Int)) = decide (Int.ofNat i > (0 : Int)) ∧ decide (Int.ofNat i > (0 : Int)) = decide (Int.ofNat i > (0 : Int)) ∧ sameB l (Int.ofNat i) = sameB l (Int.ofNat i) ∧ ((4 : Nat) = (4 : Nat) ∧ sameB l (Int.ofNat i) = sameB l (Int.ofNat i)) ∧ ((3 : Nat) = (3 : Nat) ∧ (18 : Int) = (18 : Int)) ∧ Int.ofNat i = Int.ofNat i ∧ decide (Int.ofNat i > (0 : Int)) = decide (Int.ofNat i > (0 : Int)) ∧ false = false ∧ True ∧ True ∧ True ∧ True ∧ True ∧ True ∧ True ∧ True ∧ True ∧ True ∧ True ∧ false = false ∧ ((4 : Nat) = (4 : Nat) ∧ false = false) ∧ ((3 : Nat) = (3 : Nat) ∧ (11 : Int) = (11 : Int)) ∧ (0 : Int) = (0 : Int) ∧ decide ((0 : Int) < (0 : Int)) = decide ((0 : Int) < (0 : Int)) ∧ ((4 : Nat) = (4 : Nat) ∧ decide ((0 : Int) < (0 : Int)) = decide ((0 : Int) < (0 : Int))) ∧ ((3 : Nat) = (3 : Nat) ∧ (12 : Int) = (12 : Int)) ∧ (nat_lit 0 = nat_lit 0 ∧ nat_lit 1 = nat_lit 1) ∧ x.snd.fst = x.snd.fst ∧ parentS x.snd.fst = parentS x.snd.fst ∧ (!parentS x.snd.fst == ([] : List UInt8)) = !parentS x.snd.fst == ([] : List UInt8) ∧ true = !parentS x.snd.fst == ([] : List UInt8) ∧ (x_1.fst != (3 : Int)) = dirB l (Int.ofNat i) ∧ ((3 : Nat) = (3 : Nat) ∧ (13 : Int) = (13 : Int)) ∧ True) ∧ ((x.fst = x.fst ∧ x.snd.fst = x.snd.fst ∧ x.snd.snd.fst = x.snd.snd.fst ∧ x.snd.snd.snd.fst = x.snd.snd.snd.fst ∧ x.snd.snd.snd.snd.fst = x.snd.snd.snd.snd.fst ∧ True) ∧ True) ∧ True) ∧ ((!parentS x.snd.fst == ([] : List UInt8)) = false → (l = l ∧ Int.ofNat i = Int.ofNat i ∧ (0 : Int) = (0 : Int) ∧ (nat_lit 0 = nat_lit 0 ∧ (0 : Nat) = (0 : Nat)) ∧ (0 : Int) = (0 : Int) ∧ parentS x.snd.fst = parentS x.snd.fst ∧ l = l ∧ Int.ofNat i = Int.ofNat i ∧ (x.fst = x.fst ∧ x.snd.fst = x.snd.fst ∧ x.snd.snd.fst = x.snd.snd.fst ∧ x.snd.snd.snd.fst = x.snd.snd.snd.fst ∧ x.snd.snd.snd.snd.fst = x.snd.snd.snd.snd.fst ∧ True) ∧ (x.fst = x.fst ∧ x.snd.fst = x.snd.fst ∧ x.snd.snd.fst = x.snd.snd.fst ∧ x.snd.snd.snd.fst = x.snd.snd.snd.fst ∧ x.snd.snd.snd.snd.fst = x.snd.snd.snd.snd.fst ∧ True) ∧ (nat_lit 0 = nat_lit 0 ∧ nat_lit 1 = nat_lit 1) ∧ x.snd.fst = x.snd.fst ∧ parentS x.snd.fst = parentS x.snd.fst ∧ parentS x.snd.fst = parentS x.snd.fst ∧ (!parentS x.snd.fst == ([] : List UInt8)) = !parentS x.snd.fst == ([] : List UInt8) ∧ Int.ofNat i = Int.ofNat i ∧ decide (Int.ofNat i ≥ (16 : Int)) = decide (Int.ofNat i ≥ (16 : Int)) ∧ ((4 : Nat) = (4 : Nat) ∧ decide (Int.ofNat i ≥ (16 : Int)) = decide (Int.ofNat i ≥ (16 : Int))) ∧ ((3 : Nat) = (3 : Nat) ∧ (6 : Int) = (6 : Int)) ∧ ((4 : Nat) = (4 : Nat) ∧ true = true) ∧ (x.fst = x.fst ∧ x.snd.fst = x.snd.fst ∧ x.snd.snd.fst = x.snd.snd.fst ∧ x.snd.snd.snd.fst = x.snd.snd.snd.fst ∧ x.snd.snd.snd.snd.fst = x.snd.snd.snd.snd.fst ∧ True) ∧ decide (recFault (x.fst, x.snd.fst, x.snd.snd.fst, x.snd.snd.snd.fst, x.snd.snd.snd.snd.fst, ()) = (0 : Int)) = decide (recFault (x.fst, x.snd.fst, x.snd.snd.fst, x.snd.snd.snd.fst, x.snd.snd.snd.snd.fst, ()) = (0 : Int)) ∧ (!decide (recFault (x.fst, x.snd.fst, x.snd.snd.fst, x.snd.snd.snd.fst, x.snd.snd.snd.snd.fst, ()) = (0 : Int))) = !decide (recFault (x.fst, x.snd.fst, x.snd.snd.fst, x.snd.snd.snd.fst, x.snd.snd.snd.snd.fst, ()) = (0 : Int)) ∧ ((4 : Nat) = (4 : Nat) ∧ (!decide (recFault (x.fst, x.snd.fst, x.snd.snd.fst, x.snd.snd.snd.fst, x.snd.snd.snd.snd.fst, ()) = (0 : Int))) = !decide (recFault (x.fst, x.snd.fst, x.snd.snd.fst, x.snd.snd.snd.fst, x.snd.snd.snd.snd.fst, ()) = (0 : Int))) ∧ (x.fst = x.fst ∧ x.snd.fst = x.snd.fst ∧ x.snd.snd.fst = x.snd.snd.fst ∧ x.snd.snd.snd.fst = x.snd.snd.snd.fst ∧ x.snd.snd.snd.snd.fst = x.snd.snd.snd.snd.fst ∧ True) ∧ recFault (x.fst, x.snd.fst, x.snd.snd.fst, x.snd.snd.snd.fst, x.snd.snd.snd.snd.fst, ()) = recFault (x.fst, x.snd.fst, x.snd.snd.fst, x.snd.snd.snd.fst, x.snd.snd.snd.snd.fst, ()) ∧ ((3 : Nat) = (3 : Nat) ∧ recFault (x.fst, x.snd.fst, x.snd.snd.fst, x.snd.snd.snd.fst, x.snd.snd.snd.snd.fst, ()) = recFault (x.fst, x.snd.fst, x.snd.snd.fst, x.snd.snd.snd.fst, x.snd.snd.snd.snd.fst, ())) ∧ Int.ofNat i = Int.ofNat i ∧ decide (Int.ofNat i > (0 : Int)) = decide (Int.ofNat i > (0 : Int)) ∧ decide (Int.ofNat i > (0 : Int)) = decide (Int.ofNat i > (0 : Int)) ∧ sameB l (Int.ofNat i) = sameB l (Int.ofNat i) ∧ ((4 : Nat) = (4 : Nat) ∧ sameB l (Int.ofNat i) = sameB l (Int.ofNat i)) ∧ ((3 : Nat) = (3 : Nat) ∧ (18 : Int) = (18 : Int)) ∧ Int.ofNat i = Int.ofNat i ∧ decide (Int.ofNat i > (0 : Int)) = decide (Int.ofNat i > (0 : Int)) ∧ false = false ∧ True ∧ True ∧ True ∧ True ∧ True ∧ True ∧ True ∧ True ∧ True ∧ True ∧ True ∧ false = false ∧ ((4 : Nat) = (4 : Nat) ∧ false = false) ∧ ((3 : Nat) = (3 : Nat) ∧ (11 : Int) = (11 : Int)) ∧ (0 : Int) = (0 : Int) ∧ decide ((0 : Int) < (0 : Int)) = decide ((0 : Int) < (0 : Int)) ∧ ((4 : Nat) = (4 : Nat) ∧ decide ((0 : Int) < (0 : Int)) = decide ((0 : Int) < (0 : Int))) ∧ ((3 : Nat) = (3 : Nat) ∧ (12 : Int) = (12 : Int)) ∧ (nat_lit 0 = nat_lit 0 ∧ nat_lit 1 = nat_lit 1) ∧ x.snd.fst = x.snd.fst ∧ parentS x.snd.fst = parentS x.snd.fst ∧ (!parentS x.snd.fst == ([] : List UInt8)) = !parentS x.snd.fst == ([] : List UInt8) ∧ false = !parentS x.snd.fst == ([] : List UInt8) ∧ false = dirB l (Int.ofNat i) ∧ ((3 : Nat) = (3 : Nat) ∧ (13 : Int) = (13 : Int)) ∧ True) ∧ ((x.fst = x.fst ∧ x.snd.fst = x.snd.fst ∧ x.snd.snd.fst = x.snd.snd.fst ∧ x.snd.snd.snd.fst = x.snd.snd.snd.fst ∧ x.snd.snd.snd.snd.fst = x.snd.snd.snd.snd.fst ∧ True) ∧ True) ∧ True)) ∧ true = true ∧ True ∧ true = true ∧ True ∧ (first (AnyV.b (decide (Int.ofNat i ≥ (16 : Int))) :: AnyV.n (6 : Int) :: AnyV.b true :: AnyV.n (first ((AnyV.b !decide (recFault (x.fst, x.snd.fst, x.snd.snd.fst, x.snd.snd.snd.fst, x.snd.snd.snd.snd.fst, ()) = (0 : Int))) :: AnyV.n (recFault (x.fst, x.snd.fst, x.snd.snd.fst, x.snd.snd.snd.fst, x.snd.snd.snd.snd.fst, ())) :: AnyV.b (sameB l (Int.ofNat i)) :: AnyV.n (18 : Int) :: AnyV.b false :: AnyV.n (11 : Int) :: AnyV.b (decide ((0 : Int) < (0 : Int))) :: AnyV.n (12 : Int) :: AnyV.b (dirB l (Int.ofNat i)) :: AnyV.n (13 : Int) :: ([] : List AnyV))) :: ([] : List AnyV)), ()) = (faultI l (Int.ofNat i), ()) ∧ () = ()))) (by kernel_rfl) ?_
  simp only [Nat.le_refl, Nat.succ_eq_add_one, Nat.reduceAdd, Nat.reduceLeDiff, Nat.zero_le, pair_unit, mk_eta, len_bne, eqD_bne, bne_iff_ne, bne_eq_false_iff_eq, beq_iff_eq, beq_eq_false_iff_ne, true_and, and_true, and_self, eq_self, lt_iff, nthI_nat, bnd_iff, decide_eq_true_eq, decide_eq_false_iff_not, Nat.sub_eq, nz, ne_eq, not_false_eq_true, Prod.mk.injEq, Int.reduceEq, Nat.reduceEqDiff, forall_const, implies_true, bne_self_eq_false, Bool.true_eq_false, Bool.false_eq_true, false_implies, reduceCtorEq, Bool.not_true, Bool.not_false, List.all_cons, List.all_nil, Bool.and_true, Bool.not_eq_true, Bool.not_eq_false, Bool.not_eq_true', Bool.not_eq_false', Decidable.not_not]; try simp only [lenL]
  have hl : okL l := hl
  have hi : i < List.length l := hi
  refine ⟨hi, fun x hx => ?_⟩
  have hlx := hl x (List.mem_of_getElem? hx)
  have hA : (Int.ofNat i > 0 → bnd (mm true (wSub .i64 (Int.ofNat i) 1) 0) (List.length l) ∧ ∀ y, nthI l (mm true (wSub .i64 (Int.ofNat i) 1) 0) = some y → true = decide (Int.ofNat i > 0) ∧ (y.2.1 == x.2.1) = sameB l (Int.ofNat i)) ∧ (¬ Int.ofNat i > 0 → false = decide (Int.ofNat i > 0) ∧ false = sameB l (Int.ofNat i)) := by
    refine ⟨fun h0 => ?_, fun h0 => ⟨(decide_eq_false h0).symm, same_no h0⟩⟩
    rw [ms1 h0 hb]
    exact ⟨bnd_nat (by omega), fun y hy => ⟨(decide_eq_true h0).symm, (same_at h0 hx hy).2⟩⟩
  refine ⟨hlx, fun hp => ⟨⟨Int.natCast_nonneg _, Int.ofNat_le.2 (Nat.le_of_lt hi)⟩, hlx, hlx, hA, ?_, ?_⟩, fun hp => ⟨hlx, hlx, hA, ?_, ?_⟩⟩
  · intro h0
    rw [ms1 h0 hb]
    refine ⟨bnd_nat (by omega), fun y hy => ⟨⟨hl y (List.mem_of_getElem? hy), hlx⟩, hlx, ⟨fun _ => ?_, fun h => absurd h hp⟩, fa_first hx (order_at h0 hx hy) (up_some hx hp)⟩⟩
    rw [up_some hx hp]
    exact dir_any hi hx hp
  · intro h0
    refine ⟨hlx, ⟨fun _ => ?_, fun h => absurd h hp⟩, fa_first hx (order_no h0) (up_some hx hp)⟩
    rw [up_some hx hp]
    exact dir_any hi hx hp
  · intro h0
    rw [ms1 h0 hb]
    exact ⟨bnd_nat (by omega), fun y hy => ⟨⟨hl y (List.mem_of_getElem? hy), hlx⟩, hlx, ⟨fun h => absurd hp h, fun _ => ⟨by rw [hp]; rfl, (dir_none hx hp).symm⟩⟩, fa_first hx (order_at h0 hx hy) (up_none hx hp).symm⟩⟩
  · intro h0
    exact ⟨hlx, ⟨fun h => absurd hp h, fun _ => ⟨by rw [hp]; rfl, (dir_none hx hp).symm⟩⟩, fa_first hx (order_no h0) (up_none hx hp).symm⟩
end Go.Proofs.YtjkipndhdemnoaaGreatDoor
namespace Go.Proofs.YtjkipndhdemnoaaGreatDoor
open Go.Ab Go.Fn
def s_layF : FSpec := { ps := [.v (.slice tRec)], rs := [.v I, .v I], pre := fun x => okL x.1, fn := fun x => (Fn.layN x.1, Fn.layC x.1, ()), upd := fun _ => () }
def L_l03Fault (l : List Rec) : LoopAnn := { ι := Nat, inv := fun k => Fn.OKto l k, slots := fun k => [(4, .d I (Int.ofNat k))], objs := fun _ => [], μ := fun k => l.length - k }
theorem fo_l03Fault : FO 105 s_layF := by
  refine fo (specs := [(143, s_fault), (144, s_l01Less), (145, s_parent), (146, s_find)]) (clos := []) (fun x => [(2, .lv [0, 4] <| fun _ => L_l03Fault x.1), (1000009, .lv [0, 4, 41] <| .ofCut fun s => [(41, .d .bool (Fn.sameB x.1 (s.tI 4)))]), (1000011, .lv [0, 4, 59] <| .ofCut fun s => [(59, .d .bool (Fn.unlessB x.1 (s.tI 4)))])]) ⟨fo_l02Fault, fo_l01Less, fo_l01Parent, fo_l03At, trivial⟩ trivial Tryz.func105 rfl rfl ?_
  rintro ⟨l, ⟨⟩⟩ hl
  refine vcOf ((∃ (i : Nat), OKto l i ∧ (l = l ∧ (0 : Int) = Int.ofNat i ∧ True) ∧ True ∧ True) ∧ ∀ (i : Nat), OKto l i → fits (lenL l) → (decide (Int.ofNat i < iOf (lenL l)) = true → ((Int.ofNat i == (16 : Int)) = true → (Int.ofNat i, (6 : Int), ()) = (layN l, layC l, ()) ∧ () = ()) ∧ ((Int.ofNat i == (16 : Int)) = false → bnd (Int.ofNat i) (lenL l) ∧ ∀ (x : Int × List UInt8 × List UInt8 × Int × Bool × Unit), nthI l (Int.ofNat i) = some x → nat_lit 5 ≤ (Nat.succ (nat_lit 1)).succ.succ.succ ∧ true = true ∧ x.snd.fst.length ≤ (100000000 : Nat) ∧ ((recFault (x.fst, x.snd.fst, x.snd.snd.fst, x.snd.snd.snd.fst, x.snd.snd.snd.snd.fst, ()) != (0 : Int)) = true → (Int.ofNat i, recFault (x.fst, x.snd.fst, x.snd.snd.fst, x.snd.snd.snd.fst, x.snd.snd.snd.snd.fst, ()), ()) = (layN l, layC l, ()) ∧ () = ()) ∧ ((recFault (x.fst, x.snd.fst, x.snd.snd.fst, x.snd.snd.snd.fst, x.snd.snd.snd.snd.fst, ()) != (0 : Int)) = false → ((decide (Int.ofNat i > (0 : Int)) = true → bnd (Int.ofNat i) (lenL l) ∧ ∀ (x : Int × List UInt8 × List UInt8 × Int × Bool × Unit), nthI l (Int.ofNat i) = some x → nat_lit 1 ≤ (Nat.succ (nat_lit 1)).succ.succ ∧ bnd (wSub IntKind.i64 (Int.ofNat i) (1 : Int)) (lenL l) ∧ ∀ (x_1 : Int × List UInt8 × List UInt8 × Int × Bool × Unit), nthI l (wSub IntKind.i64 (Int.ofNat i) (1 : Int)) = some x_1 → nat_lit 1 ≤ (Nat.succ (nat_lit 1)).succ.succ ∧ (l = l ∧ Int.ofNat i = Int.ofNat i ∧ (x.snd.fst == x_1.snd.fst) = sameB l (Int.ofNat i) ∧ True) ∧ True ∧ True) ∧ (decide (Int.ofNat i > (0 : Int)) = false → (l = l ∧ Int.ofNat i = Int.ofNat i ∧ false = sameB l (Int.ofNat i) ∧ True) ∧ True ∧ True)) ∧ (sameB l (Int.ofNat i) = true → (Int.ofNat i, (18 : Int), ()) = (layN l, layC l, ()) ∧ () = ()) ∧ (sameB l (Int.ofNat i) = false → ((decide (Int.ofNat i > (0 : Int)) = true → bnd (wSub IntKind.i64 (Int.ofNat i) (1 : Int)) (lenL l) ∧ ∀ (x : Int × List UInt8 × List UInt8 × Int × Bool × Unit), nthI l (wSub IntKind.i64 (Int.ofNat i) (1 : Int)) = some x → nat_lit 1 ≤ (Nat.succ (nat_lit 1)).succ.succ ∧ bnd (Int.ofNat i) (lenL l) ∧ ∀ (x_1 : Int × List UInt8 × List UInt8 × Int × Bool × Unit), nthI l (Int.ofNat i) = some x_1 → nat_lit 1 ≤ (Nat.succ (nat_lit 1)).succ.succ ∧ true = true ∧ (x.snd.fst.length ≤ (100000000 : Nat) ∧ x_1.snd.fst.length ≤ (100000000 : Nat)) ∧ (l = l ∧ Int.ofNat i = Int.ofNat i ∧ (!lessL (split (47 : UInt8) x.snd.fst) (split (47 : UInt8) x_1.snd.fst)) = unlessB l (Int.ofNat i) ∧ True) ∧ True ∧ True) ∧ (decide (Int.ofNat i > (0 : Int)) = false → (l = l ∧ Int.ofNat i = Int.ofNat i ∧ false = unlessB l (Int.ofNat i) ∧ True) ∧ True ∧ True)) ∧ (unlessB l (Int.ofNat i) = true → (Int.ofNat i, (11 : Int), ()) = (layN l, layC l, ()) ∧ () = ()) ∧ (unlessB l (Int.ofNat i) = false → bnd (Int.ofNat i) (lenL l) ∧ ∀ (x : Int × List UInt8 × List UInt8 × Int × Bool × Unit), nthI l (Int.ofNat i) = some x → nat_lit 1 ≤ (Nat.succ (nat_lit 1)).succ.succ ∧ true = true ∧ x.snd.fst.length ≤ (100000000 : Nat) ∧ ((parentS x.snd.fst == ([] : List UInt8)) = true → ∃ (j : Nat), OKto l j ∧ (List.length l).sub j < (List.length l).sub i ∧ (l = l ∧ wAdd IntKind.i64 (Int.ofNat i) (1 : Int) = Int.ofNat j ∧ True) ∧ True ∧ True) ∧ ((parentS x.snd.fst == ([] : List UInt8)) = false → boundLo (Int.ofNat i) (lenL l) ∧ true = true ∧ True ∧ (decide (idx (atPath (parentS x.snd.fst)) (subL l (0 : Nat) (tN (Int.ofNat i))) < (0 : Int)) = true → (Int.ofNat i, (12 : Int), ()) = (layN l, layC l, ()) ∧ () = ()) ∧ (decide (idx (atPath (parentS x.snd.fst)) (subL l (0 : Nat) (tN (Int.ofNat i))) < (0 : Int)) = false → bnd (idx (atPath (parentS x.snd.fst)) (subL l (0 : Nat) (tN (Int.ofNat i)))) (lenL l) ∧ ∀ (x_1 : Int × List UInt8 × List UInt8 × Int × Bool × Unit), nthI l (idx (atPath (parentS x.snd.fst)) (subL l (0 : Nat) (tN (Int.ofNat i)))) = some x_1 → nat_lit 1 ≤ (Nat.succ (nat_lit 1)).succ.succ.succ ∧ ((x_1.fst != (3 : Int)) = true → (Int.ofNat i, (13 : Int), ()) = (layN l, layC l, ()) ∧ () = ()) ∧ ((x_1.fst != (3 : Int)) = false → ∃ (j : Nat), OKto l j ∧ (List.length l).sub j < (List.length l).sub i ∧ (l = l ∧ wAdd IntKind.i64 (Int.ofNat i) (1 : Int) = Int.ofNat j ∧ True) ∧ True ∧ True)))))))) ∧ (decide (Int.ofNat i < iOf (lenL l)) = false → ((0 : Int), (0 : Int), ()) = (layN l, layC l, ()) ∧ () = ())) (by kernel_rfl) ?_
  simp only [Nat.le_refl, Nat.succ_eq_add_one, Nat.reduceAdd, Nat.reduceLeDiff, Nat.zero_le, pair_unit, mk_eta, len_bne, eqD_bne, bne_iff_ne, bne_eq_false_iff_eq, beq_iff_eq, beq_eq_false_iff_ne, true_and, and_true, and_self, eq_self, lt_iff, nthI_nat, bnd_iff, decide_eq_true_eq, decide_eq_false_iff_not, Nat.sub_eq, nz, ne_eq, not_false_eq_true, Prod.mk.injEq, Int.reduceEq, Nat.reduceEqDiff, forall_const, implies_true, bne_self_eq_false, Bool.true_eq_false, Bool.false_eq_true, false_implies, reduceCtorEq, Bool.not_true, Bool.not_false, List.all_cons, List.all_nil, Bool.and_true, Bool.not_eq_true, Bool.not_eq_false, Bool.not_eq_true', Bool.not_eq_false', Decidable.not_not]; try simp only [lenL]
  have hl : okL l := hl
  refine ⟨⟨0, ok0 l, rfl⟩, fun i h hf => ⟨fun hi => ⟨fun h16 => lay_c h hi (fa_16 (Nat.le_of_eq (Int.ofNat.inj h16).symm)) (by decide), fun h16 => ⟨hi, fun x hx => ⟨hl x (List.mem_of_getElem? hx), ?_⟩⟩⟩, fun he => lay_end h he⟩⟩
  have hlt := ok_16 h h16
  have ex := recAt_at hx
  refine ⟨fun hr => lay_c h hi (by rw [fa_rec hlt (by rw [ex]; exact hr), ex]) hr, fun hr => ?_⟩
  have hr' : recFault (recAt l i) = 0 := by rw [ex]; exact hr
  refine ⟨⟨fun hp => ⟨hi, fun x' hx' => ?_⟩, fun hn => same_no hn⟩, fun hs => lay_c h hi (fa_18 hlt hr' hs) (by decide), fun hs => ⟨⟨fun hp => ?_, fun hn => unless_no hn⟩, fun ho => lay_c h hi (fa_11 hlt hr' hs (by rw [order_eq h hr']; exact ho)) (by decide), fun ho => ⟨hi, fun x' hx' => ?_⟩⟩⟩
  · rw [ws1 hp hi hf]
    exact ⟨bnd_nat (by omega), fun y hy => (same_at hp hx' hy).1⟩
  · rw [ws1 hp hi hf]
    exact ⟨bnd_nat (by omega), fun y hy => ⟨hi, fun x' hx' => ⟨⟨hl y (List.mem_of_getElem? hy), hl x' (List.mem_of_getElem? hx')⟩, unless_at hp hx' hy⟩⟩⟩
  · have ho' : orderB l (Int.ofNat i) = false := by rw [order_eq h hr']; exact ho
    refine ⟨hl x' (List.mem_of_getElem? hx'), fun hp => ?_, fun hp => ⟨⟨Int.natCast_nonneg _, Int.ofNat_le.2 (Nat.le_of_lt hi)⟩, ?_⟩⟩
    · exact ⟨i + 1, ok_step h hi (fa_0 hlt hr' hs ho' (by rw [up_none hx' hp]; decide) (dir_none hx' hp)), Nat.sub_lt_sub_left hi (Nat.lt_succ_self i), inc_in hf h.1⟩
    · rw [up_some hx' hp]
      refine ⟨fun hu => lay_c h hi (fa_12 hlt hr' hs ho' hu) (by decide), fun hu => ⟨⟨by omega, up_lt hi⟩, fun z hz => ⟨fun hk => lay_c h hi (fa_13 hlt hr' hs ho' hu (by rw [dir_some hx' hp hu hz]; simp [hk])) (by decide), fun hk => ⟨i + 1, ok_step h hi (fa_0 hlt hr' hs ho' hu (by rw [dir_some hx' hp hu hz]; simp [hk])), Nat.sub_lt_sub_left hi (Nat.lt_succ_self i), inc_in hf h.1⟩⟩⟩⟩
end Go.Proofs.YtjkipndhdemnoaaGreatDoor
namespace Go.Fn
open Go.Ab
def stepBad (t : List UInt8) (k : Nat) : Bool := decide (decL (t.drop k) = 0) || decide (t.length < k + decL (t.drop k) + 2)
def stepSum (t : List UInt8) (k : Nat) : Bool := decide (subL t (k + decL (t.drop k)) (k + decL (t.drop k) + 2) = two (sum (subL t k (k + decL (t.drop k)))))
def readL (t : List UInt8) : Nat → List Rec → Nat → List Rec × Int × Int
  | 0, out, k => if ¬ t.length = k + 2 then ([], Int.ofNat k, 3) else if ¬ t.drop k = two (sum (t.take k)) then ([], Int.ofNat k, 15) else (out, 0, 0)
  | n + 1, out, k => if stepBad t k = true then ([], Int.ofNat k, 3) else if stepSum t k = false then ([], Int.ofNat k, 15)
    else if ¬ faultAt (out ++ [decR (t.drop k)]) out.length = 0 then ([], Int.ofNat k, faultAt (out ++ [decR (t.drop k)]) out.length)
    else readL t n (out ++ [decR (t.drop k)]) (k + decL (t.drop k) + 2)
def headBad (t : List UInt8) : Bool := decide (t.length < 4) || !(hasPre t [76, 89, 82])
def whole (t : List UInt8) : List Rec × Int × Int := if headBad t = true then ([], 0, 3) else readL t (byteN t 3) [] 4
def wholeL (t : List UInt8) : List Rec := (whole t).1
def wholeN (t : List UInt8) : Int := (whole t).2.1
def wholeC (t : List UInt8) : Int := (whole t).2.2
def RInv (t : List UInt8) (q : List Rec × Nat × Nat) : Prop := q.2.1 ≤ t.length ∧ readL t q.2.2 q.1 q.2.1 = whole t ∧ OKto q.1 q.1.length ∧ q.1.length + q.2.2 = byteN t 3 ∧ okL q.1
theorem wh_head {t : List UInt8} (h : headBad t = true) : [] = wholeL t ∧ 0 = wholeN t ∧ 3 = wholeC t := by
  unfold wholeL wholeN wholeC whole; rw [if_pos h]; exact ⟨rfl, rfl, rfl⟩
theorem head_a {t : List UInt8} (h : iOf t.length < 4) : headBad t = true := by
  have h : (t.length : Int) < 4 := h
  unfold headBad; rw [decide_eq_true (p := t.length < 4) (by omega)]; rfl
theorem take3 {t : List UInt8} : subL t 0 (tN 3) = t.take 3 := rfl
theorem head_b {t : List UInt8} (h : ¬ subL t 0 (tN 3) = [76, 89, 82]) : headBad t = true := by
  rw [take3] at h
  unfold headBad hasPre
  have : ¬ t.take [(76 : UInt8), 89, 82].length = [76, 89, 82] := h
  rw [decide_eq_false this, Bool.and_false]
  simp
theorem head_no {t : List UInt8} (h : ¬ iOf t.length < 4) (h2 : subL t 0 (tN 3) = [76, 89, 82]) : headBad t = false := by
  have h : ¬ (t.length : Int) < 4 := h
  rw [take3] at h2
  unfold headBad hasPre
  have : t.take [(76 : UInt8), 89, 82].length = [76, 89, 82] := h2
  rw [decide_eq_true this, decide_eq_false (p := t.length < 4) (by omega), decide_eq_true (p := [(76 : UInt8), 89, 82].length ≤ t.length) (by show 3 ≤ t.length; omega)]
  rfl
theorem head_len {t : List UInt8} (h : headBad t = false) : 4 ≤ t.length := by
  unfold headBad at h
  simp only [Bool.or_eq_false_iff, decide_eq_false_iff_not] at h
  omega
theorem r_start {t : List UInt8} (h : headBad t = false) : RInv t ([], 4, byteN t 3) :=
  ⟨head_len h, by unfold whole; rw [if_neg (by rw [h]; exact Bool.false_ne_true)], ⟨Nat.le_refl _, fun j hj => absurd hj (Nat.not_lt_zero _)⟩, Nat.zero_add _, fun r hr => by cases hr⟩
theorem wh_of {t : List UInt8} {a : List Rec × Int × Int} (h : a = whole t) : a.1 = wholeL t ∧ a.2.1 = wholeN t ∧ a.2.2 = wholeC t := by subst h; exact ⟨rfl, rfl, rfl⟩
theorem readL_succ (t : List UInt8) (n : Nat) (out : List Rec) (k : Nat) : readL t (n + 1) out k = if stepBad t k = true then ([], Int.ofNat k, 3) else if stepSum t k = false then ([], Int.ofNat k, 15)
    else if ¬ faultAt (out ++ [decR (t.drop k)]) out.length = 0 then ([], Int.ofNat k, faultAt (out ++ [decR (t.drop k)]) out.length)
    else readL t n (out ++ [decR (t.drop k)]) (k + decL (t.drop k) + 2) := rfl
theorem wh_a {t : List UInt8} {out : List Rec} {k n : Nat} (h : RInv t (out, k, n + 1)) (hb : stepBad t k = true) : [] = wholeL t ∧ Int.ofNat k = wholeN t ∧ 3 = wholeC t := by
  have e : readL t (n + 1) out k = whole t := h.2.1
  rw [readL_succ, if_pos hb] at e
  exact wh_of e
theorem wh_b {t : List UInt8} {out : List Rec} {k n : Nat} (h : RInv t (out, k, n + 1)) (hb : ¬ stepBad t k = true) (hs : stepSum t k = false) : [] = wholeL t ∧ Int.ofNat k = wholeN t ∧ 15 = wholeC t := by
  have e : readL t (n + 1) out k = whole t := h.2.1
  rw [readL_succ, if_neg hb, if_pos hs] at e
  exact wh_of e
theorem wh_c {t : List UInt8} {out : List Rec} {k n : Nat} {c : Int} (h : RInv t (out, k, n + 1)) (hb : ¬ stepBad t k = true) (hs : ¬ stepSum t k = false) (hc : faultAt (out ++ [decR (t.drop k)]) out.length = c) (hn : ¬ c = 0) : [] = wholeL t ∧ Int.ofNat k = wholeN t ∧ c = wholeC t := by
  have e : readL t (n + 1) out k = whole t := h.2.1
  rw [readL_succ, if_neg hb, if_neg hs, hc, if_pos hn] at e
  exact wh_of e
theorem recAt_pre {out : List Rec} {r : Rec} {j : Nat} (hj : j < out.length) : recAt (out ++ [r]) j = recAt out j := by
  unfold recAt
  rw [List.getD_eq_getElem?_getD, List.getD_eq_getElem?_getD, List.getElem?_append_left hj]
theorem up_pre {out : List Rec} {r : Rec} {j : Nat} (hj : j < out.length) : upOf (out ++ [r]) j = upOf out j := by
  unfold upOf
  rw [recAt_pre hj, List.take_append_of_le_length (Nat.le_of_lt hj)]
theorem fa_pre {out : List Rec} {r : Rec} {j : Nat} (hj : j < out.length) : faultAt (out ++ [r]) j = faultAt out j := by
  have h1 : recAt (out ++ [r]) (j - 1) = recAt out (j - 1) := recAt_pre (by omega)
  have h2 := recAt_pre (r := r) hj
  have h3 := up_pre (r := r) hj
  have h4 : recAt (out ++ [r]) (upOf out j).toNat = recAt out (upOf out j).toNat := recAt_pre (by have := up_lt hj; omega)
  unfold faultAt sameB orderB dirB
  simp only [show (Int.ofNat j).toNat = j from rfl, h1, h2, h3, h4]
theorem ok_pre {out : List Rec} {r : Rec} (h : OKto out out.length) : OKto (out ++ [r]) out.length :=
  ⟨by simp, fun j hj => by rw [fa_pre hj]; exact h.2 j hj⟩
theorem wh_step {t : List UInt8} {out : List Rec} {k n : Nat} (h : RInv t (out, k, n + 1)) (ht : t.length ≤ 100000000) (hb : ¬ stepBad t k = true) (hs : ¬ stepSum t k = false) (hc : faultAt (out ++ [decR (t.drop k)]) out.length = 0) : RInv t (out ++ [decR (t.drop k)], k + decL (t.drop k) + 2, n) := by
  obtain ⟨h1, e, h3, h4, h5⟩ := h
  have e : readL t (n + 1) out k = whole t := e
  rw [readL_succ, if_neg hb, if_neg hs, if_neg (not_not_intro hc)] at e
  have h4 : out.length + (n + 1) = byteN t 3 := h4
  have hb' : ¬ t.length < k + decL (t.drop k) + 2 := by
    intro hlt
    apply hb
    unfold stepBad
    rw [decide_eq_true hlt]; simp
  refine ⟨?_, e, ?_, ?_, ?_⟩
  · show k + decL (t.drop k) + 2 ≤ t.length
    omega
  · have := ok_step (ok_pre (r := decR (t.drop k)) h3) (by simp) hc
    simpa using this
  · show (out ++ [decR (t.drop k)]).length + n = byteN t 3
    simp; omega
  · intro r hr
    rcases List.mem_append.1 hr with hr | hr
    · exact h5 r hr
    · rw [List.mem_singleton.1 hr]
      have := decR_path (t.drop k)
      simp at this
      omega
theorem okL_snoc {t : List UInt8} {out : List Rec} {k n : Nat} (h : RInv t (out, k, n)) (ht : t.length ≤ 100000000) : okL (out ++ [decR (t.drop k)]) := by
  intro r hr
  rcases List.mem_append.1 hr with hr | hr
  · exact h.2.2.2.2 r hr
  · rw [List.mem_singleton.1 hr]
    have := decR_path (t.drop k)
    simp at this
    omega
theorem wh_e1 {t : List UInt8} {out : List Rec} {k : Nat} (h : RInv t (out, k, 0)) (h1 : ¬ t.length = k + 2) : [] = wholeL t ∧ Int.ofNat k = wholeN t ∧ 3 = wholeC t := by
  have e : readL t 0 out k = whole t := h.2.1
  unfold readL at e
  rw [if_pos h1] at e
  exact wh_of e
theorem wh_e2 {t : List UInt8} {out : List Rec} {k : Nat} (h : RInv t (out, k, 0)) (h1 : t.length = k + 2) (h2 : ¬ t.drop k = two (sum (t.take k))) : [] = wholeL t ∧ Int.ofNat k = wholeN t ∧ 15 = wholeC t := by
  have e : readL t 0 out k = whole t := h.2.1
  unfold readL at e
  rw [if_neg (not_not_intro h1), if_pos h2] at e
  exact wh_of e
theorem wh_e3 {t : List UInt8} {out : List Rec} {k : Nat} (h : RInv t (out, k, 0)) (h1 : t.length = k + 2) (h2 : t.drop k = two (sum (t.take k))) : out = wholeL t ∧ 0 = wholeN t ∧ 0 = wholeC t := by
  have e : readL t 0 out k = whole t := h.2.1
  unfold readL at e
  rw [if_neg (not_not_intro h1), if_neg (not_not_intro h2)] at e
  exact wh_of e
theorem decL_le (t : List UInt8) : decL t ≤ t.length := by
  unfold decL
  split
  · omega
  · split
    · omega
    · split <;> omega
theorem sub_all {α : Type} {l : List α} {k : Nat} : subL l k l.length = l.drop k := by unfold subL; rw [List.take_length]
theorem sum_two {t : List UInt8} : (0 : Int) ≤ sum t ∧ sum t < 65536 := ⟨(sum_range t).1, Int.lt_trans (sum_range t).2 (by decide)⟩
theorem lay_last {l : List Rec} {r : Rec} (h : OKto l l.length) : (¬ layC (l ++ [r]) = 0 → layN (l ++ [r]) = Int.ofNat l.length ∧ faultAt (l ++ [r]) l.length = layC (l ++ [r])) ∧ (layC (l ++ [r]) = 0 → faultAt (l ++ [r]) l.length = 0) := by
  by_cases hf : faultAt (l ++ [r]) l.length = 0
  · have := lay_end (l := l ++ [r]) (i := l.length + 1) (by have := ok_step (ok_pre (r := r) h) (by simp) hf; exact this) (by simp)
    exact ⟨fun hn => absurd this.2.symm hn, fun _ => hf⟩
  · have := lay_c (ok_pre (r := r) h) (by simp) rfl hf
    exact ⟨fun _ => ⟨this.1.symm, this.2⟩, fun h0 => by rw [this.2]; exact h0⟩
def ffN (t : List UInt8) : Int := if short t = false then 0 else wholeN t
def ffC (t : List UInt8) : Int := if short t = false then 2 else wholeC t
theorem ff_long {t : List UInt8} (h : short t = false) : 0 = ffN t ∧ 2 = ffC t := by unfold ffN ffC; rw [if_pos h, if_pos h]; exact ⟨rfl, rfl⟩
theorem ff_ok {t : List UInt8} (h : ¬ short t = false) : wholeN t = ffN t ∧ wholeC t = ffC t := by unfold ffN ffC; rw [if_neg h, if_neg h]; exact ⟨rfl, rfl⟩
end Go.Fn
namespace Go.Proofs.YtjkipndhdemnoaaGreatDoor
open Go.Ab Go.Fn
def s_wholeV : FSpec := { ps := [.v .str], rs := [.v (.slice tRec), .v I, .v I], pre := fun x => List.length (α := UInt8) x.1 ≤ 100000000, fn := fun x => (Fn.wholeL x.1, Fn.wholeN x.1, Fn.wholeC x.1, ()), upd := fun _ => () }
def L_l09WholeV (t : List UInt8) : LoopAnn := { ι := List Rec × Nat × Nat, inv := fun q => Fn.RInv t q, slots := fun q => [(5, .os 1), (6, .d I (Int.ofNat q.2.1)), (7, .d I (Int.ofNat q.2.2))], objs := fun q => [(1, .arr tRec q.1 false)], μ := fun q => q.2.2 }
theorem fo_l09WholeV : FO 76 s_wholeV := by
  refine fo (specs := [(102, s_l09Read), (104, s_l09Sum), (103, s_two), (105, s_layF)]) (clos := []) (fun x => [(6, .lv [0, 5, 6, 7] <| fun _ => L_l09WholeV x.1)]) ⟨fo_l09Read, fo_l09Sum, fo_l09Two, fo_l03Fault, trivial⟩ trivial Tryz.func76 rfl rfl ?_
  rintro ⟨t, ⟨⟩⟩ hl
  refine vcOf (fits (lenL t) → (decide (iOf (lenL t) < (4 : Int)) = false → boundLo (3 : Int) (lenL t) ∧ ((!subL t (0 : Nat) (tN (3 : Int)) == (76 : UInt8) :: (89 : UInt8) :: (82 : UInt8) :: ([] : List UInt8)) = true → (([] : List (Int × List UInt8 × List UInt8 × Int × Bool × Unit)), (0 : Int), (3 : Int), ()) = (wholeL t, wholeN t, wholeC t, ()) ∧ () = ()) ∧ ((!subL t (0 : Nat) (tN (3 : Int)) == (76 : UInt8) :: (89 : UInt8) :: (82 : UInt8) :: ([] : List UInt8)) = false → bnd (3 : Int) (lenL t) ∧ ∀ (c : UInt8), nthI t (3 : Int) = some c → (∃ (i : List Rec × Nat × Nat), RInv t i ∧ (t = t ∧ nat_lit 1 = (1 : Nat) ∧ (4 : Int) = Int.ofNat i.snd.fst ∧ IntKind.i64.wrap (Int.ofNat c.toNat) = Int.ofNat i.snd.snd ∧ True) ∧ ((([] : List (Int × List UInt8 × List UInt8 × Int × Bool × Unit)) = ([] : List (Int × List UInt8 × List UInt8 × Int × Bool × Unit)) ∧ false = false) ∧ (([] : List (Int × List UInt8 × List UInt8 × Int × Bool × Unit)) = i.fst ∧ false = false) ∧ True) ∧ True) ∧ ∀ (i : List Rec × Nat × Nat), RInv t i → (decide (Int.ofNat i.snd.snd > (0 : Int)) = true → true = true ∧ (List.length t ≤ (100000000 : Nat) ∧ ∃ (k : Nat), Int.ofNat i.snd.fst = Int.ofNat k ∧ k ≤ List.length t) ∧ nat_lit 5 ≤ nat_lit 5 ∧ ((!rdB t (Int.ofNat i.snd.fst)) = false → fits (lenL t) → (decide (wAdd IntKind.i64 (rdN t (Int.ofNat i.snd.fst)) (2 : Int) > iOf (lenL t)) = true → (([] : List (Int × List UInt8 × List UInt8 × Int × Bool × Unit)), Int.ofNat i.snd.fst, (3 : Int), ()) = (wholeL t, wholeN t, wholeC t, ()) ∧ () = ()) ∧ (decide (wAdd IntKind.i64 (rdN t (Int.ofNat i.snd.fst)) (2 : Int) > iOf (lenL t)) = false → boundLH (rdN t (Int.ofNat i.snd.fst)) (wAdd IntKind.i64 (rdN t (Int.ofNat i.snd.fst)) (2 : Int)) (lenL t) ∧ boundLH (Int.ofNat i.snd.fst) (rdN t (Int.ofNat i.snd.fst)) (lenL t) ∧ true = true ∧ True ∧ true = true ∧ ((0 : Int) ≤ sum (subL t (tN (Int.ofNat i.snd.fst)) (tN (rdN t (Int.ofNat i.snd.fst)))) ∧ sum (subL t (tN (Int.ofNat i.snd.fst)) (tN (rdN t (Int.ofNat i.snd.fst)))) < (65536 : (PTy.v I).den)) ∧ ((!subL t (tN (rdN t (Int.ofNat i.snd.fst))) (tN (wAdd IntKind.i64 (rdN t (Int.ofNat i.snd.fst)) (2 : Int))) == two (sum (subL t (tN (Int.ofNat i.snd.fst)) (tN (rdN t (Int.ofNat i.snd.fst)))))) = true → (([] : List (Int × List UInt8 × List UInt8 × Int × Bool × Unit)), Int.ofNat i.snd.fst, (15 : Int), ()) = (wholeL t, wholeN t, wholeC t, ()) ∧ () = ()) ∧ ((!subL t (tN (rdN t (Int.ofNat i.snd.fst))) (tN (wAdd IntKind.i64 (rdN t (Int.ofNat i.snd.fst)) (2 : Int))) == two (sum (subL t (tN (Int.ofNat i.snd.fst)) (tN (rdN t (Int.ofNat i.snd.fst)))))) = false → nat_lit 5 ≤ (Nat.succ (nat_lit 1)).succ.succ.succ ∧ fits (lenL i.fst + lenL (((rdR t (Int.ofNat i.snd.fst)).fst, (rdR t (Int.ofNat i.snd.fst)).snd.fst, (rdR t (Int.ofNat i.snd.fst)).snd.snd.fst, (rdR t (Int.ofNat i.snd.fst)).snd.snd.snd.fst, (rdR t (Int.ofNat i.snd.fst)).snd.snd.snd.snd.fst, ()) :: ([] : List (Int × List UInt8 × List UInt8 × Int × Bool × Unit)))) ∧ true = true ∧ okL (i.fst ++ ((rdR t (Int.ofNat i.snd.fst)).fst, (rdR t (Int.ofNat i.snd.fst)).snd.fst, (rdR t (Int.ofNat i.snd.fst)).snd.snd.fst, (rdR t (Int.ofNat i.snd.fst)).snd.snd.snd.fst, (rdR t (Int.ofNat i.snd.fst)).snd.snd.snd.snd.fst, ()) :: ([] : List (Int × List UInt8 × List UInt8 × Int × Bool × Unit))) ∧ ((layC (i.fst ++ ((rdR t (Int.ofNat i.snd.fst)).fst, (rdR t (Int.ofNat i.snd.fst)).snd.fst, (rdR t (Int.ofNat i.snd.fst)).snd.snd.fst, (rdR t (Int.ofNat i.snd.fst)).snd.snd.snd.fst, (rdR t (Int.ofNat i.snd.fst)).snd.snd.snd.snd.fst, ()) :: ([] : List (Int × List UInt8 × List UInt8 × Int × Bool × Unit))) != (0 : Int)) = true → fits (lenL (i.fst ++ ((rdR t (Int.ofNat i.snd.fst)).fst, (rdR t (Int.ofNat i.snd.fst)).snd.fst, (rdR t (Int.ofNat i.snd.fst)).snd.snd.fst, (rdR t (Int.ofNat i.snd.fst)).snd.snd.snd.fst, (rdR t (Int.ofNat i.snd.fst)).snd.snd.snd.snd.fst, ()) :: ([] : List (Int × List UInt8 × List UInt8 × Int × Bool × Unit)))) → ((layN (i.fst ++ ((rdR t (Int.ofNat i.snd.fst)).fst, (rdR t (Int.ofNat i.snd.fst)).snd.fst, (rdR t (Int.ofNat i.snd.fst)).snd.snd.fst, (rdR t (Int.ofNat i.snd.fst)).snd.snd.snd.fst, (rdR t (Int.ofNat i.snd.fst)).snd.snd.snd.snd.fst, ()) :: ([] : List (Int × List UInt8 × List UInt8 × Int × Bool × Unit))) == wSub IntKind.i64 (iOf (lenL (i.fst ++ ((rdR t (Int.ofNat i.snd.fst)).fst, (rdR t (Int.ofNat i.snd.fst)).snd.fst, (rdR t (Int.ofNat i.snd.fst)).snd.snd.fst, (rdR t (Int.ofNat i.snd.fst)).snd.snd.snd.fst, (rdR t (Int.ofNat i.snd.fst)).snd.snd.snd.snd.fst, ()) :: ([] : List (Int × List UInt8 × List UInt8 × Int × Bool × Unit))))) (1 : Int)) = true → (([] : List (Int × List UInt8 × List UInt8 × Int × Bool × Unit)), Int.ofNat i.snd.fst, layC (i.fst ++ ((rdR t (Int.ofNat i.snd.fst)).fst, (rdR t (Int.ofNat i.snd.fst)).snd.fst, (rdR t (Int.ofNat i.snd.fst)).snd.snd.fst, (rdR t (Int.ofNat i.snd.fst)).snd.snd.snd.fst, (rdR t (Int.ofNat i.snd.fst)).snd.snd.snd.snd.fst, ()) :: ([] : List (Int × List UInt8 × List UInt8 × Int × Bool × Unit))), ()) = (wholeL t, wholeN t, wholeC t, ()) ∧ () = ()) ∧ ((layN (i.fst ++ ((rdR t (Int.ofNat i.snd.fst)).fst, (rdR t (Int.ofNat i.snd.fst)).snd.fst, (rdR t (Int.ofNat i.snd.fst)).snd.snd.fst, (rdR t (Int.ofNat i.snd.fst)).snd.snd.snd.fst, (rdR t (Int.ofNat i.snd.fst)).snd.snd.snd.snd.fst, ()) :: ([] : List (Int × List UInt8 × List UInt8 × Int × Bool × Unit))) == wSub IntKind.i64 (iOf (lenL (i.fst ++ ((rdR t (Int.ofNat i.snd.fst)).fst, (rdR t (Int.ofNat i.snd.fst)).snd.fst, (rdR t (Int.ofNat i.snd.fst)).snd.snd.fst, (rdR t (Int.ofNat i.snd.fst)).snd.snd.snd.fst, (rdR t (Int.ofNat i.snd.fst)).snd.snd.snd.snd.fst, ()) :: ([] : List (Int × List UInt8 × List UInt8 × Int × Bool × Unit))))) (1 : Int)) = false → ∃ (j : List Rec × Nat × Nat), RInv t j ∧ j.snd.snd < i.snd.snd ∧ (t = t ∧ (1 : Nat) = (1 : Nat) ∧ wAdd IntKind.i64 (rdN t (Int.ofNat i.snd.fst)) (2 : Int) = Int.ofNat j.snd.fst ∧ wSub IntKind.i64 (Int.ofNat i.snd.snd) (1 : Int) = Int.ofNat j.snd.snd ∧ True) ∧ ((([] : List (Int × List UInt8 × List UInt8 × Int × Bool × Unit)) = ([] : List (Int × List UInt8 × List UInt8 × Int × Bool × Unit)) ∧ false = false) ∧ (i.fst ++ ((rdR t (Int.ofNat i.snd.fst)).fst, (rdR t (Int.ofNat i.snd.fst)).snd.fst, (rdR t (Int.ofNat i.snd.fst)).snd.snd.fst, (rdR t (Int.ofNat i.snd.fst)).snd.snd.snd.fst, (rdR t (Int.ofNat i.snd.fst)).snd.snd.snd.snd.fst, ()) :: ([] : List (Int × List UInt8 × List UInt8 × Int × Bool × Unit)) = j.fst ∧ false = false) ∧ True) ∧ True)) ∧ ((layC (i.fst ++ ((rdR t (Int.ofNat i.snd.fst)).fst, (rdR t (Int.ofNat i.snd.fst)).snd.fst, (rdR t (Int.ofNat i.snd.fst)).snd.snd.fst, (rdR t (Int.ofNat i.snd.fst)).snd.snd.snd.fst, (rdR t (Int.ofNat i.snd.fst)).snd.snd.snd.snd.fst, ()) :: ([] : List (Int × List UInt8 × List UInt8 × Int × Bool × Unit))) != (0 : Int)) = false → ∃ (j : List Rec × Nat × Nat), RInv t j ∧ j.snd.snd < i.snd.snd ∧ (t = t ∧ (1 : Nat) = (1 : Nat) ∧ wAdd IntKind.i64 (rdN t (Int.ofNat i.snd.fst)) (2 : Int) = Int.ofNat j.snd.fst ∧ wSub IntKind.i64 (Int.ofNat i.snd.snd) (1 : Int) = Int.ofNat j.snd.snd ∧ True) ∧ ((([] : List (Int × List UInt8 × List UInt8 × Int × Bool × Unit)) = ([] : List (Int × List UInt8 × List UInt8 × Int × Bool × Unit)) ∧ false = false) ∧ (i.fst ++ ((rdR t (Int.ofNat i.snd.fst)).fst, (rdR t (Int.ofNat i.snd.fst)).snd.fst, (rdR t (Int.ofNat i.snd.fst)).snd.snd.fst, (rdR t (Int.ofNat i.snd.fst)).snd.snd.snd.fst, (rdR t (Int.ofNat i.snd.fst)).snd.snd.snd.snd.fst, ()) :: ([] : List (Int × List UInt8 × List UInt8 × Int × Bool × Unit)) = j.fst ∧ false = false) ∧ True) ∧ True)))) ∧ ((!rdB t (Int.ofNat i.snd.fst)) = true → (([] : List (Int × List UInt8 × List UInt8 × Int × Bool × Unit)), Int.ofNat i.snd.fst, (3 : Int), ()) = (wholeL t, wholeN t, wholeC t, ()) ∧ () = ())) ∧ (decide (Int.ofNat i.snd.snd > (0 : Int)) = false → fits (lenL t) → ((wAdd IntKind.i64 (Int.ofNat i.snd.fst) (2 : Int) != iOf (lenL t)) = true → (([] : List (Int × List UInt8 × List UInt8 × Int × Bool × Unit)), Int.ofNat i.snd.fst, (3 : Int), ()) = (wholeL t, wholeN t, wholeC t, ()) ∧ () = ()) ∧ ((wAdd IntKind.i64 (Int.ofNat i.snd.fst) (2 : Int) != iOf (lenL t)) = false → boundLo (Int.ofNat i.snd.fst) (lenL t) ∧ boundLo (Int.ofNat i.snd.fst) (lenL t) ∧ true = true ∧ True ∧ true = true ∧ ((0 : Int) ≤ sum (subL t (0 : Nat) (tN (Int.ofNat i.snd.fst))) ∧ sum (subL t (0 : Nat) (tN (Int.ofNat i.snd.fst))) < (65536 : (PTy.v I).den)) ∧ ((!subL t (tN (Int.ofNat i.snd.fst)) (lenL t) == two (sum (subL t (0 : Nat) (tN (Int.ofNat i.snd.fst))))) = true → (([] : List (Int × List UInt8 × List UInt8 × Int × Bool × Unit)), Int.ofNat i.snd.fst, (15 : Int), ()) = (wholeL t, wholeN t, wholeC t, ()) ∧ () = ()) ∧ ((!subL t (tN (Int.ofNat i.snd.fst)) (lenL t) == two (sum (subL t (0 : Nat) (tN (Int.ofNat i.snd.fst))))) = false → (i.fst, (0 : Int), (0 : Int), ()) = (wholeL t, wholeN t, wholeC t, ()) ∧ () = ()))))) ∧ (decide (iOf (lenL t) < (4 : Int)) = true → (([] : List (Int × List UInt8 × List UInt8 × Int × Bool × Unit)), (0 : Int), (3 : Int), ()) = (wholeL t, wholeN t, wholeC t, ()) ∧ () = ())) (by kernel_rfl) ?_
  simp only [Nat.le_refl, Nat.succ_eq_add_one, Nat.reduceAdd, Nat.reduceLeDiff, Nat.zero_le, pair_unit, mk_eta, len_bne, eqD_bne, bne_iff_ne, bne_eq_false_iff_eq, beq_iff_eq, beq_eq_false_iff_ne, true_and, and_true, and_self, eq_self, lt_iff, nthI_nat, bnd_iff, decide_eq_true_eq, decide_eq_false_iff_not, Nat.sub_eq, nz, ne_eq, not_false_eq_true, Prod.mk.injEq, Int.reduceEq, Nat.reduceEqDiff, forall_const, implies_true, bne_self_eq_false, Bool.true_eq_false, Bool.false_eq_true, false_implies, reduceCtorEq, Bool.not_true, Bool.not_false, List.all_cons, List.all_nil, Bool.and_true, Bool.not_eq_true, Bool.not_eq_false, Bool.not_eq_true', Bool.not_eq_false', Decidable.not_not]; try simp only [lenL]
  have hl : List.length t ≤ 100000000 := hl
  refine fun _ => ⟨fun h4 => ⟨⟨by decide, by have h4 : ¬ (t.length : Int) < 4 := h4; omega⟩, fun hh => wh_head (head_b hh), fun hh => ?_⟩, fun h4 => wh_head (head_a h4)⟩
  have hb := head_no h4 hh
  have hlen := head_len hb
  refine ⟨bnd_nat (k := 3) (by omega), fun c hc => ⟨⟨([], 4, byteN t 3), r_start hb, ⟨rfl, ?_⟩, rfl⟩, ?_⟩⟩
  · rw [byte_in, byteN_at (t := t) (i := 3) hc]
  rintro ⟨out, k, n⟩ hR
  have hk : k ≤ t.length := hR.1
  have hn : out.length + n = byteN t 3 := hR.2.2.2.1
  have hbyte := byteN_lt t 3
  have hdl : decL (t.drop k) ≤ t.length - k := by have := decL_le (t.drop k); simpa using this
  have e2 : wAdd .i64 (Int.ofNat k) 2 = Int.ofNat (k + 2) := wA (b := 2) (by omega)
  have e3 : wAdd .i64 (Int.ofNat (k + decL (t.drop k))) 2 = Int.ofNat (k + decL (t.drop k) + 2) := wA (b := 2) (by omega)
  refine ⟨fun hpos => ⟨⟨hl, k, rfl, hk⟩, fun hB _ => ?_, fun hB => ?_⟩, fun hpos _ => ?_⟩
  · cases n with
    | zero => exact absurd hpos (by simp)
    | succ n =>
    have hd : ¬ decL (t.drop k) = 0 := by
      have : (!(decide (decL (t.drop k) = 0))) = true := hB
      simpa using this
    have eN : rdN t (Int.ofNat k) = Int.ofNat (k + decL (t.drop k)) := by
      have : rdN t (Int.ofNat k) = if decL (t.drop k) = 0 then 0 else Int.ofNat (k + decL (t.drop k)) := rfl
      rw [this, if_neg hd]
    have eR : rdR t (Int.ofNat k) = decR (t.drop k) := rfl
    simp only [eN, eR, e3, gt_iOf, tN_nat, bLH]
    refine ⟨fun hs => wh_a hR (by unfold stepBad; rw [decide_eq_true hs]; simp), fun hs => ?_⟩
    have hsb : ¬ stepBad t k = true := by unfold stepBad; rw [decide_eq_false hs, decide_eq_false hd]; exact Bool.false_ne_true
    refine ⟨⟨by omega, by omega⟩, ⟨by omega, by omega⟩, sum_two, fun hq => wh_b hR hsb (by unfold stepSum; exact decide_eq_false hq), fun hq => ?_⟩
    have hss : ¬ stepSum t k = false := by unfold stepSum; rw [decide_eq_true hq]; exact fun h => Bool.noConfusion h
    have hll := lay_last (r := decR (t.drop k)) hR.2.2.1
    have e4 : wSub .i64 (iOf (out ++ [decR (t.drop k)]).length) 1 = Int.ofNat out.length := by
      unfold iOf
      rw [wSub_in (by simp; omega)]
      simp
    have e5 : wSub .i64 (Int.ofNat (n + 1)) 1 = Int.ofNat n := by
      rw [wSub_in (by simp only [Int.ofNat_eq_natCast]; omega)]
      simp
    simp only [e4, e5]
    refine ⟨by show out.length + 1 < 1099511627776; omega, okL_snoc hR hl, fun hc _ => ⟨fun _ => wh_c hR hsb hss (hll.1 hc).2 hc, fun hne => absurd (hll.1 hc).1 hne⟩, fun hc => ⟨(out ++ [decR (t.drop k)], k + decL (t.drop k) + 2, n), wh_step hR hl hsb hss (hll.2 hc), Nat.lt_succ_self n, ⟨rfl, rfl⟩, rfl⟩⟩
  · cases n with
    | zero => exact absurd hpos (by simp)
    | succ n =>
    have hd : decL (t.drop k) = 0 := by
      have : (!(decide (decL (t.drop k) = 0))) = false := hB
      simpa using this
    exact wh_a hR (by unfold stepBad; rw [decide_eq_true hd]; rfl)
  · cases n with
    | succ n => exact absurd (Int.ofNat_lt.2 (Nat.succ_pos n)) hpos
    | zero =>
    have e6 : (Int.ofNat (k + 2) = iOf t.length) = (t.length = k + 2) := by
      unfold iOf
      simp only [Int.ofNat_eq_natCast, eq_iff_iff]
      omega
    simp only [e2, e6, tN_nat, sub_all]
    exact ⟨fun h => wh_e1 hR h, fun h => ⟨⟨Int.natCast_nonneg _, Int.ofNat_le.2 hk⟩, ⟨Int.natCast_nonneg _, Int.ofNat_le.2 hk⟩, sum_two, fun h2 => wh_e2 hR h h2, fun h2 => wh_e3 hR h h2⟩⟩
end Go.Proofs.YtjkipndhdemnoaaGreatDoor
namespace Go.Proofs.YtjkipndhdemnoaaGreatDoor
open Go.Ab Go.Fn
def L_readLayerV (t : List UInt8) : LoopAnn := { ι := List Rec × Nat × Nat, inv := fun q => Fn.RInv t q, slots := fun q => [(5, .os 1), (6, .d I (Int.ofNat q.2.1)), (23, .d I (Int.ofNat q.1.length))], objs := fun q => [(1, .arr tRec q.1 false)], μ := fun q => q.2.2 }
theorem fo_readLayerV : FO 80 s_wholeV := by
  refine fo (specs := [(109, s_decode), (111, s_l09Sum), (110, s_two), (112, s_faultAt), (96, s_hasPre)]) (clos := []) (fun x => [(5, .lv [0, 5, 6, 22, 23] <| fun _ => L_readLayerV x.1)]) ⟨fo_decode, fo_layerSum, fo_two, fo_faultAt, fo_hasPre, trivial⟩ trivial Tryz.func80 rfl rfl ?_
  rintro ⟨t, ⟨⟩⟩ hl
  refine vcOf (fits (lenL t) → (decide (iOf (lenL t) < (4 : Int)) = false → true = true ∧ True ∧ ((!hasPre t ((76 : UInt8) :: (89 : UInt8) :: (82 : UInt8) :: ([] : List UInt8))) = true → (([] : List (Int × List UInt8 × List UInt8 × Int × Bool × Unit)), (0 : Int), (3 : Int), ()) = (wholeL t, wholeN t, wholeC t, ()) ∧ () = ()) ∧ ((!hasPre t ((76 : UInt8) :: (89 : UInt8) :: (82 : UInt8) :: ([] : List UInt8))) = false → bnd (3 : Int) (lenL t) ∧ ∀ (c : UInt8), nthI t (3 : Int) = some c → (∃ (i : List Rec × Nat × Nat), RInv t i ∧ (t = t ∧ nat_lit 1 = (1 : Nat) ∧ (4 : Int) = Int.ofNat i.snd.fst ∧ IntKind.i64.wrap (Int.ofNat c.toNat) = IntKind.i64.wrap (Int.ofNat c.toNat) ∧ (0 : Int) = Int.ofNat i.fst.length ∧ True) ∧ ((([] : List (Int × List UInt8 × List UInt8 × Int × Bool × Unit)) = ([] : List (Int × List UInt8 × List UInt8 × Int × Bool × Unit)) ∧ false = false) ∧ (([] : List (Int × List UInt8 × List UInt8 × Int × Bool × Unit)) = i.fst ∧ false = false) ∧ True) ∧ True) ∧ ∀ (i : List Rec × Nat × Nat), RInv t i → (decide (Int.ofNat i.fst.length < IntKind.i64.wrap (Int.ofNat c.toNat)) = true → boundLo (Int.ofNat i.snd.fst) (lenL t) ∧ true = true ∧ (subL t (tN (Int.ofNat i.snd.fst)) (lenL t)).length ≤ (100000000 : Nat) ∧ nat_lit 5 ≤ nat_lit 5 ∧ ((decN (subL t (tN (Int.ofNat i.snd.fst)) (lenL t)) == (0 : Int)) = false → fits (lenL t) → (decide (wAdd IntKind.i64 (wAdd IntKind.i64 (Int.ofNat i.snd.fst) (decN (subL t (tN (Int.ofNat i.snd.fst)) (lenL t)))) (2 : Int) > iOf (lenL t)) = true → (([] : List (Int × List UInt8 × List UInt8 × Int × Bool × Unit)), Int.ofNat i.snd.fst, (3 : Int), ()) = (wholeL t, wholeN t, wholeC t, ()) ∧ () = ()) ∧ (decide (wAdd IntKind.i64 (wAdd IntKind.i64 (Int.ofNat i.snd.fst) (decN (subL t (tN (Int.ofNat i.snd.fst)) (lenL t)))) (2 : Int) > iOf (lenL t)) = false → boundLH (wAdd IntKind.i64 (Int.ofNat i.snd.fst) (decN (subL t (tN (Int.ofNat i.snd.fst)) (lenL t)))) (wAdd IntKind.i64 (wAdd IntKind.i64 (Int.ofNat i.snd.fst) (decN (subL t (tN (Int.ofNat i.snd.fst)) (lenL t)))) (2 : Int)) (lenL t) ∧ boundLH (Int.ofNat i.snd.fst) (wAdd IntKind.i64 (Int.ofNat i.snd.fst) (decN (subL t (tN (Int.ofNat i.snd.fst)) (lenL t)))) (lenL t) ∧ true = true ∧ True ∧ true = true ∧ ((0 : Int) ≤ sum (subL t (tN (Int.ofNat i.snd.fst)) (tN (wAdd IntKind.i64 (Int.ofNat i.snd.fst) (decN (subL t (tN (Int.ofNat i.snd.fst)) (lenL t)))))) ∧ sum (subL t (tN (Int.ofNat i.snd.fst)) (tN (wAdd IntKind.i64 (Int.ofNat i.snd.fst) (decN (subL t (tN (Int.ofNat i.snd.fst)) (lenL t)))))) < (65536 : (PTy.v I).den)) ∧ ((!subL t (tN (wAdd IntKind.i64 (Int.ofNat i.snd.fst) (decN (subL t (tN (Int.ofNat i.snd.fst)) (lenL t))))) (tN (wAdd IntKind.i64 (wAdd IntKind.i64 (Int.ofNat i.snd.fst) (decN (subL t (tN (Int.ofNat i.snd.fst)) (lenL t)))) (2 : Int))) == two (sum (subL t (tN (Int.ofNat i.snd.fst)) (tN (wAdd IntKind.i64 (Int.ofNat i.snd.fst) (decN (subL t (tN (Int.ofNat i.snd.fst)) (lenL t)))))))) = true → (([] : List (Int × List UInt8 × List UInt8 × Int × Bool × Unit)), Int.ofNat i.snd.fst, (15 : Int), ()) = (wholeL t, wholeN t, wholeC t, ()) ∧ () = ()) ∧ ((!subL t (tN (wAdd IntKind.i64 (Int.ofNat i.snd.fst) (decN (subL t (tN (Int.ofNat i.snd.fst)) (lenL t))))) (tN (wAdd IntKind.i64 (wAdd IntKind.i64 (Int.ofNat i.snd.fst) (decN (subL t (tN (Int.ofNat i.snd.fst)) (lenL t)))) (2 : Int))) == two (sum (subL t (tN (Int.ofNat i.snd.fst)) (tN (wAdd IntKind.i64 (Int.ofNat i.snd.fst) (decN (subL t (tN (Int.ofNat i.snd.fst)) (lenL t)))))))) = false → nat_lit 5 ≤ (Nat.succ (nat_lit 1)).succ.succ.succ ∧ fits (lenL i.fst + lenL (((decR (subL t (tN (Int.ofNat i.snd.fst)) (lenL t))).fst, (decR (subL t (tN (Int.ofNat i.snd.fst)) (lenL t))).snd.fst, (decR (subL t (tN (Int.ofNat i.snd.fst)) (lenL t))).snd.snd.fst, (decR (subL t (tN (Int.ofNat i.snd.fst)) (lenL t))).snd.snd.snd.fst, (decR (subL t (tN (Int.ofNat i.snd.fst)) (lenL t))).snd.snd.snd.snd.fst, ()) :: ([] : List (Int × List UInt8 × List UInt8 × Int × Bool × Unit)))) ∧ (fits (lenL (i.fst ++ ((decR (subL t (tN (Int.ofNat i.snd.fst)) (lenL t))).fst, (decR (subL t (tN (Int.ofNat i.snd.fst)) (lenL t))).snd.fst, (decR (subL t (tN (Int.ofNat i.snd.fst)) (lenL t))).snd.snd.fst, (decR (subL t (tN (Int.ofNat i.snd.fst)) (lenL t))).snd.snd.snd.fst, (decR (subL t (tN (Int.ofNat i.snd.fst)) (lenL t))).snd.snd.snd.snd.fst, ()) :: ([] : List (Int × List UInt8 × List UInt8 × Int × Bool × Unit)))) → true = true ∧ (okL (i.fst ++ ((decR (subL t (tN (Int.ofNat i.snd.fst)) (lenL t))).fst, (decR (subL t (tN (Int.ofNat i.snd.fst)) (lenL t))).snd.fst, (decR (subL t (tN (Int.ofNat i.snd.fst)) (lenL t))).snd.snd.fst, (decR (subL t (tN (Int.ofNat i.snd.fst)) (lenL t))).snd.snd.snd.fst, (decR (subL t (tN (Int.ofNat i.snd.fst)) (lenL t))).snd.snd.snd.snd.fst, ()) :: ([] : List (Int × List UInt8 × List UInt8 × Int × Bool × Unit))) ∧ ∃ (k : Nat), wSub IntKind.i64 (iOf (lenL (i.fst ++ ((decR (subL t (tN (Int.ofNat i.snd.fst)) (lenL t))).fst, (decR (subL t (tN (Int.ofNat i.snd.fst)) (lenL t))).snd.fst, (decR (subL t (tN (Int.ofNat i.snd.fst)) (lenL t))).snd.snd.fst, (decR (subL t (tN (Int.ofNat i.snd.fst)) (lenL t))).snd.snd.snd.fst, (decR (subL t (tN (Int.ofNat i.snd.fst)) (lenL t))).snd.snd.snd.snd.fst, ()) :: ([] : List (Int × List UInt8 × List UInt8 × Int × Bool × Unit))))) (1 : Int) = Int.ofNat k ∧ k < (i.fst ++ ((decR (subL t (tN (Int.ofNat i.snd.fst)) (lenL t))).fst, (decR (subL t (tN (Int.ofNat i.snd.fst)) (lenL t))).snd.fst, (decR (subL t (tN (Int.ofNat i.snd.fst)) (lenL t))).snd.snd.fst, (decR (subL t (tN (Int.ofNat i.snd.fst)) (lenL t))).snd.snd.snd.fst, (decR (subL t (tN (Int.ofNat i.snd.fst)) (lenL t))).snd.snd.snd.snd.fst, ()) :: ([] : List (Int × List UInt8 × List UInt8 × Int × Bool × Unit))).length ∧ k < (1099511627776 : Nat)) ∧ ((faultI (i.fst ++ ((decR (subL t (tN (Int.ofNat i.snd.fst)) (lenL t))).fst, (decR (subL t (tN (Int.ofNat i.snd.fst)) (lenL t))).snd.fst, (decR (subL t (tN (Int.ofNat i.snd.fst)) (lenL t))).snd.snd.fst, (decR (subL t (tN (Int.ofNat i.snd.fst)) (lenL t))).snd.snd.snd.fst, (decR (subL t (tN (Int.ofNat i.snd.fst)) (lenL t))).snd.snd.snd.snd.fst, ()) :: ([] : List (Int × List UInt8 × List UInt8 × Int × Bool × Unit))) (wSub IntKind.i64 (iOf (lenL (i.fst ++ ((decR (subL t (tN (Int.ofNat i.snd.fst)) (lenL t))).fst, (decR (subL t (tN (Int.ofNat i.snd.fst)) (lenL t))).snd.fst, (decR (subL t (tN (Int.ofNat i.snd.fst)) (lenL t))).snd.snd.fst, (decR (subL t (tN (Int.ofNat i.snd.fst)) (lenL t))).snd.snd.snd.fst, (decR (subL t (tN (Int.ofNat i.snd.fst)) (lenL t))).snd.snd.snd.snd.fst, ()) :: ([] : List (Int × List UInt8 × List UInt8 × Int × Bool × Unit))))) (1 : Int)) != (0 : Int)) = true → (([] : List (Int × List UInt8 × List UInt8 × Int × Bool × Unit)), Int.ofNat i.snd.fst, faultI (i.fst ++ ((decR (subL t (tN (Int.ofNat i.snd.fst)) (lenL t))).fst, (decR (subL t (tN (Int.ofNat i.snd.fst)) (lenL t))).snd.fst, (decR (subL t (tN (Int.ofNat i.snd.fst)) (lenL t))).snd.snd.fst, (decR (subL t (tN (Int.ofNat i.snd.fst)) (lenL t))).snd.snd.snd.fst, (decR (subL t (tN (Int.ofNat i.snd.fst)) (lenL t))).snd.snd.snd.snd.fst, ()) :: ([] : List (Int × List UInt8 × List UInt8 × Int × Bool × Unit))) (wSub IntKind.i64 (iOf (lenL (i.fst ++ ((decR (subL t (tN (Int.ofNat i.snd.fst)) (lenL t))).fst, (decR (subL t (tN (Int.ofNat i.snd.fst)) (lenL t))).snd.fst, (decR (subL t (tN (Int.ofNat i.snd.fst)) (lenL t))).snd.snd.fst, (decR (subL t (tN (Int.ofNat i.snd.fst)) (lenL t))).snd.snd.snd.fst, (decR (subL t (tN (Int.ofNat i.snd.fst)) (lenL t))).snd.snd.snd.snd.fst, ()) :: ([] : List (Int × List UInt8 × List UInt8 × Int × Bool × Unit))))) (1 : Int)), ()) = (wholeL t, wholeN t, wholeC t, ()) ∧ () = ()) ∧ ((faultI (i.fst ++ ((decR (subL t (tN (Int.ofNat i.snd.fst)) (lenL t))).fst, (decR (subL t (tN (Int.ofNat i.snd.fst)) (lenL t))).snd.fst, (decR (subL t (tN (Int.ofNat i.snd.fst)) (lenL t))).snd.snd.fst, (decR (subL t (tN (Int.ofNat i.snd.fst)) (lenL t))).snd.snd.snd.fst, (decR (subL t (tN (Int.ofNat i.snd.fst)) (lenL t))).snd.snd.snd.snd.fst, ()) :: ([] : List (Int × List UInt8 × List UInt8 × Int × Bool × Unit))) (wSub IntKind.i64 (iOf (lenL (i.fst ++ ((decR (subL t (tN (Int.ofNat i.snd.fst)) (lenL t))).fst, (decR (subL t (tN (Int.ofNat i.snd.fst)) (lenL t))).snd.fst, (decR (subL t (tN (Int.ofNat i.snd.fst)) (lenL t))).snd.snd.fst, (decR (subL t (tN (Int.ofNat i.snd.fst)) (lenL t))).snd.snd.snd.fst, (decR (subL t (tN (Int.ofNat i.snd.fst)) (lenL t))).snd.snd.snd.snd.fst, ()) :: ([] : List (Int × List UInt8 × List UInt8 × Int × Bool × Unit))))) (1 : Int)) != (0 : Int)) = false → ∃ (j : List Rec × Nat × Nat), RInv t j ∧ j.snd.snd < i.snd.snd ∧ (t = t ∧ (1 : Nat) = (1 : Nat) ∧ wAdd IntKind.i64 (wAdd IntKind.i64 (Int.ofNat i.snd.fst) (decN (subL t (tN (Int.ofNat i.snd.fst)) (lenL t)))) (2 : Int) = Int.ofNat j.snd.fst ∧ IntKind.i64.wrap (Int.ofNat c.toNat) = IntKind.i64.wrap (Int.ofNat c.toNat) ∧ wAdd IntKind.i64 (Int.ofNat i.fst.length) (1 : Int) = Int.ofNat j.fst.length ∧ True) ∧ ((([] : List (Int × List UInt8 × List UInt8 × Int × Bool × Unit)) = ([] : List (Int × List UInt8 × List UInt8 × Int × Bool × Unit)) ∧ false = false) ∧ (i.fst ++ ((decR (subL t (tN (Int.ofNat i.snd.fst)) (lenL t))).fst, (decR (subL t (tN (Int.ofNat i.snd.fst)) (lenL t))).snd.fst, (decR (subL t (tN (Int.ofNat i.snd.fst)) (lenL t))).snd.snd.fst, (decR (subL t (tN (Int.ofNat i.snd.fst)) (lenL t))).snd.snd.snd.fst, (decR (subL t (tN (Int.ofNat i.snd.fst)) (lenL t))).snd.snd.snd.snd.fst, ()) :: ([] : List (Int × List UInt8 × List UInt8 × Int × Bool × Unit)) = j.fst ∧ false = false) ∧ True) ∧ True))))) ∧ ((decN (subL t (tN (Int.ofNat i.snd.fst)) (lenL t)) == (0 : Int)) = true → (([] : List (Int × List UInt8 × List UInt8 × Int × Bool × Unit)), Int.ofNat i.snd.fst, (3 : Int), ()) = (wholeL t, wholeN t, wholeC t, ()) ∧ () = ())) ∧ (decide (Int.ofNat i.fst.length < IntKind.i64.wrap (Int.ofNat c.toNat)) = false → fits (lenL t) → ((iOf (lenL t) != wAdd IntKind.i64 (Int.ofNat i.snd.fst) (2 : Int)) = true → (([] : List (Int × List UInt8 × List UInt8 × Int × Bool × Unit)), Int.ofNat i.snd.fst, (3 : Int), ()) = (wholeL t, wholeN t, wholeC t, ()) ∧ () = ()) ∧ ((iOf (lenL t) != wAdd IntKind.i64 (Int.ofNat i.snd.fst) (2 : Int)) = false → boundLo (Int.ofNat i.snd.fst) (lenL t) ∧ boundLo (Int.ofNat i.snd.fst) (lenL t) ∧ true = true ∧ True ∧ true = true ∧ ((0 : Int) ≤ sum (subL t (0 : Nat) (tN (Int.ofNat i.snd.fst))) ∧ sum (subL t (0 : Nat) (tN (Int.ofNat i.snd.fst))) < (65536 : (PTy.v I).den)) ∧ ((!subL t (tN (Int.ofNat i.snd.fst)) (lenL t) == two (sum (subL t (0 : Nat) (tN (Int.ofNat i.snd.fst))))) = true → (([] : List (Int × List UInt8 × List UInt8 × Int × Bool × Unit)), Int.ofNat i.snd.fst, (15 : Int), ()) = (wholeL t, wholeN t, wholeC t, ()) ∧ () = ()) ∧ ((!subL t (tN (Int.ofNat i.snd.fst)) (lenL t) == two (sum (subL t (0 : Nat) (tN (Int.ofNat i.snd.fst))))) = false → (i.fst, (0 : Int), (0 : Int), ()) = (wholeL t, wholeN t, wholeC t, ()) ∧ () = ()))))) ∧ (decide (iOf (lenL t) < (4 : Int)) = true → (([] : List (Int × List UInt8 × List UInt8 × Int × Bool × Unit)), (0 : Int), (3 : Int), ()) = (wholeL t, wholeN t, wholeC t, ()) ∧ () = ())) (by kernel_rfl) ?_
  simp only [Nat.le_refl, Nat.succ_eq_add_one, Nat.reduceAdd, Nat.reduceLeDiff, Nat.zero_le, pair_unit, mk_eta, len_bne, eqD_bne, bne_iff_ne, bne_eq_false_iff_eq, beq_iff_eq, beq_eq_false_iff_ne, true_and, and_true, and_self, eq_self, lt_iff, nthI_nat, bnd_iff, decide_eq_true_eq, decide_eq_false_iff_not, Nat.sub_eq, nz, ne_eq, not_false_eq_true, Prod.mk.injEq, Int.reduceEq, Nat.reduceEqDiff, forall_const, implies_true, bne_self_eq_false, Bool.true_eq_false, Bool.false_eq_true, false_implies, reduceCtorEq, Bool.not_true, Bool.not_false, List.all_cons, List.all_nil, Bool.and_true, Bool.not_eq_true, Bool.not_eq_false, Bool.not_eq_true', Bool.not_eq_false', Decidable.not_not]; try simp only [lenL]
  have hl : List.length t ≤ 100000000 := hl
  refine fun _ => ⟨fun h4 => ⟨fun hh => wh_head (by unfold Fn.headBad; rw [hh]; simp), fun hh => ?_⟩, fun h4 => wh_head (head_a h4)⟩
  have hb : headBad t = false := by
    have h4 : ¬ (t.length : Int) < 4 := h4
    unfold Fn.headBad
    rw [hh, decide_eq_false (p := t.length < 4) (by omega)]; rfl
  have hlen := head_len hb
  refine ⟨bnd_nat (k := 3) (by omega), fun c hc => ⟨⟨([], 4, byteN t 3), r_start hb, ⟨rfl, rfl⟩, rfl⟩, ?_⟩⟩
  rw [byte_in, byteN_at (t := t) (i := 3) hc]
  rintro ⟨out, k, n⟩ hR
  have hk : k ≤ t.length := hR.1
  have hn : out.length + n = byteN t 3 := hR.2.2.2.1
  have hbyte := byteN_lt t 3
  have hdl : decL (t.drop k) ≤ t.length - k := by have := decL_le (t.drop k); simpa using this
  have e2 : wAdd .i64 (Int.ofNat k) 2 = Int.ofNat (k + 2) := wA (b := 2) (by omega)
  have e1 : wAdd .i64 (Int.ofNat k) (decN (t.drop k)) = Int.ofNat (k + decL (t.drop k)) := wA (b := decL (t.drop k)) (by omega)
  have e3 : wAdd .i64 (Int.ofNat (k + decL (t.drop k))) 2 = Int.ofNat (k + decL (t.drop k) + 2) := wA (b := 2) (by omega)
  have e4 : wSub .i64 (iOf (out ++ [decR (t.drop k)]).length) 1 = Int.ofNat out.length := by
    unfold iOf
    rw [wSub_in (by simp; omega)]
    simp
  have e5 : wAdd .i64 (Int.ofNat out.length) 1 = Int.ofNat (out.length + 1) := wA (b := 1) (by omega)
  have e6 : (iOf t.length = Int.ofNat (k + 2)) = (t.length = k + 2) := by
    unfold iOf
    simp only [Int.ofNat_eq_natCast, eq_iff_iff]
    omega
  have e7 : (decN (t.drop k) = 0) = (decL (t.drop k) = 0) := by
    unfold decN
    simp only [Int.ofNat_eq_natCast, eq_iff_iff]
    omega
  have e8 : (Int.ofNat out.length < Int.ofNat (byteN t 3)) = (0 < n) := by
    simp only [Int.ofNat_eq_natCast, eq_iff_iff]
    omega
  simp only [tN_nat, sub_all, e1, e2, e3, e4, e5, e6, e7, e8, gt_iOf, bLH]
  refine ⟨fun hpos => ⟨⟨Int.natCast_nonneg _, Int.ofNat_le.2 hk⟩, by simp; omega, fun hd _ => ?_, fun hd => ?_⟩, fun hpos _ => ?_⟩
  · cases n with
    | zero => exact absurd hpos (Nat.lt_irrefl 0)
    | succ n =>
    refine ⟨fun hs => wh_a hR (by unfold Fn.stepBad; rw [decide_eq_true hs]; simp), fun hs => ?_⟩
    have hsb : ¬ stepBad t k = true := by unfold Fn.stepBad; rw [decide_eq_false hs, decide_eq_false hd]; exact Bool.false_ne_true
    refine ⟨⟨by omega, by omega⟩, ⟨by omega, by omega⟩, sum_two, fun hq => wh_b hR hsb (by unfold Fn.stepSum; exact decide_eq_false hq), fun hq => ?_⟩
    have hss : ¬ stepSum t k = false := by unfold Fn.stepSum; rw [decide_eq_true hq]; exact fun h => Bool.noConfusion h
    refine ⟨by show out.length + 1 < 1099511627776; omega, fun _ => ⟨⟨okL_snoc hR hl, out.length, rfl, by simp, by omega⟩, fun hc => wh_c hR hsb hss rfl hc, fun hc => ⟨(out ++ [decR (t.drop k)], k + decL (t.drop k) + 2, n), wh_step hR hl hsb hss hc, Nat.lt_succ_self n, ⟨rfl, ?_⟩, rfl⟩⟩⟩
    show Int.ofNat (out.length + 1) = Int.ofNat (out ++ [decR (t.drop k)]).length
    simp
  · cases n with
    | zero => exact absurd hpos (Nat.lt_irrefl 0)
    | succ n => exact wh_a hR (by unfold Fn.stepBad; rw [decide_eq_true hd]; rfl)
  · cases n with
    | succ n => exact absurd (Nat.succ_pos n) hpos
    | zero => exact ⟨fun h => wh_e1 hR h, fun h => ⟨⟨Int.natCast_nonneg _, Int.ofNat_le.2 hk⟩, ⟨Int.natCast_nonneg _, Int.ofNat_le.2 hk⟩, sum_two, fun h2 => wh_e2 hR h h2, fun h2 => wh_e3 hR h h2⟩⟩
end Go.Proofs.YtjkipndhdemnoaaGreatDoor
namespace Go.Proofs
open Go.Shelf
def Tryz.laysM171_ren : Go.Shelf.Ren := ⟨fun | 171 => 142 | 243 => 168 | 246 => 195 | 283 => 212 | 284 => 213 | 285 => 214 | 286 => 215 | 129 => 194 | 317 => 223 | 318 => 224 | 319 => 225 | 320 => 226 | 337 => 230 | 338 => 231 | n => n, fun | 3 => 3 | 9 => 9 | 2 => 2 | 4 => 4 | 171 => 205 | 0 => 0 | 53 => 190 | 37 => 113 | 5 => 5 | 173 => 207 | 212 => 213 | 51 => 188 | 20 => 20 | 213 => 214 | 46 => 166 | 232 => 218 | 233 => 219 | n => n, fun | 17 => 1 | 18 => 2 | 19 => 3 | n => n⟩
theorem Tryz.laysM171 : Go.Proofs.LaysM.n171 Tryz.prog Tryz.laysM171_ren := {
  mixed := by kernel_rfl
  f129 := Tryz.func194.trans (congrArg some (by kernel_rfl))
  f171 := Tryz.func142.trans (congrArg some (by kernel_rfl))
  f243 := Tryz.func168.trans (congrArg some (by kernel_rfl))
  f246 := Tryz.func195.trans (congrArg some (by kernel_rfl))
  f283 := Tryz.func212.trans (congrArg some (by kernel_rfl))
  f284 := Tryz.func213.trans (congrArg some (by kernel_rfl))
  f285 := Tryz.func214.trans (congrArg some (by kernel_rfl))
  f286 := Tryz.func215.trans (congrArg some (by kernel_rfl))
  f317 := Tryz.func223.trans (congrArg some (by kernel_rfl))
  f318 := Tryz.func224.trans (congrArg some (by kernel_rfl))
  f319 := Tryz.func225.trans (congrArg some (by kernel_rfl))
  f320 := Tryz.func226.trans (congrArg some (by kernel_rfl))
  f337 := Tryz.func230.trans (congrArg some (by kernel_rfl))
  f338 := Tryz.func231.trans (congrArg some (by kernel_rfl))
  t0 := Tryz.underlying0
  a0 := Tryz.isAgg0
  z0 := Tryz.sizeOf0
  v0 := Tryz.zeroValue0
  t2 := Tryz.underlying2
  a2 := Tryz.isAgg2
  z2 := Tryz.sizeOf2
  v2 := Tryz.zeroValue2
  t3 := Tryz.underlying3
  a3 := Tryz.isAgg3
  z3 := Tryz.sizeOf3
  v3 := Tryz.zeroValue3
  t4 := Tryz.underlying4
  a4 := Tryz.isAgg4
  z4 := Tryz.sizeOf4
  v4 := Tryz.zeroValue4
  t5 := Tryz.underlying5
  a5 := Tryz.isAgg5
  z5 := Tryz.sizeOf5
  v5 := Tryz.zeroValue5
  t9 := Tryz.underlying9
  a9 := Tryz.isAgg9
  z9 := Tryz.sizeOf9
  v9 := Tryz.zeroValue9
  t20 := Tryz.underlying20
  a20 := Tryz.isAgg20
  z20 := Tryz.sizeOf20
  v20 := Tryz.zeroValue20
  t37 := Tryz.underlying113
  a37 := Tryz.isAgg113
  z37 := Tryz.sizeOf113
  v37 := Tryz.zeroValue113
  t46 := Tryz.underlying166
  a46 := Tryz.isAgg166
  z46 := Tryz.sizeOf166
  v46 := Tryz.zeroValue166
  t51 := Tryz.underlying188
  a51 := Tryz.isAgg188
  z51 := Tryz.sizeOf188
  v51 := Tryz.zeroValue188
  t53 := Tryz.underlying190
  a53 := Tryz.isAgg190
  z53 := Tryz.sizeOf190
  v53 := Tryz.zeroValue190
  t171 := Tryz.underlying205
  a171 := Tryz.isAgg205
  z171 := Tryz.sizeOf205
  v171 := Tryz.zeroValue205
  t173 := Tryz.underlying207
  a173 := Tryz.isAgg207
  z173 := Tryz.sizeOf207
  v173 := Tryz.zeroValue207
  t212 := Tryz.underlying213
  a212 := Tryz.isAgg213
  z212 := Tryz.sizeOf213
  v212 := Tryz.zeroValue213
  t213 := Tryz.underlying214
  a213 := Tryz.isAgg214
  z213 := Tryz.sizeOf214
  t232 := Tryz.underlying218
  a232 := Tryz.isAgg218
  z232 := Tryz.sizeOf218
  v232 := Tryz.zeroValue218
  t233 := Tryz.underlying219
  a233 := Tryz.isAgg219
  z233 := Tryz.sizeOf219
  v233 := Tryz.zeroValue219
  g17 := by kernel_rfl
  g18 := by kernel_rfl
  g19 := by kernel_rfl
  i0 := by kernel_rfl
  i2 := by kernel_rfl
  i3 := by kernel_rfl
  i4 := by kernel_rfl
  i5 := by kernel_rfl
  i9 := by kernel_rfl
  i20 := by kernel_rfl
  i37 := by kernel_rfl
  i46 := by kernel_rfl
  i51 := by kernel_rfl
  i53 := by kernel_rfl
  i171 := by kernel_rfl
  i173 := by kernel_rfl
  i212 := by kernel_rfl
  i232 := by kernel_rfl
  i233 := by kernel_rfl
  m17 := by kernel_rfl
  m18 := by kernel_rfl
  m19 := by kernel_rfl }
open Go.RowKit Go.Sort Go.Lib in
theorem Tryz.strconv_Itoa (n : Int) (h0 : -9223372036854775808 ≤ n) (h1 : n ≤ 9223372036854775807) (w : World) (htab : Lib.TabIs Tryz.prog w "internal/strconv.uint64pow10" .u64 Lib.pow10Tab) :
    Calls Tryz.prog 142 #[.int .i64 n] w fun e w' => e = .returned (.string ⟨(Lib.itoa n).toArray⟩) ∧ ∃ k os, w' = grow (w.drewN k) os := Any.strconv_Itoa Tryz.laysM171 n h0 h1 w htab
end Go.Proofs
namespace Go.Fn
open Go.Ab
def itoaS (n : Int) : List UInt8 := Lib.itoa n
def joinS (l : List (List UInt8)) (u : List UInt8) : List UInt8 := Lib.join l u
def inI (n : Int) : Prop := -9223372036854775808 ≤ n ∧ n ≤ 9223372036854775807
def dm (n : Int) : Nat := 2 * n.natAbs + (if n < 0 then 1 else 0)
theorem itoa_len {n : Int} (h : inI n) : (itoaS n).length ≤ 21 := Lib.itoa_length_le n h.1 h.2
theorem dig_neg {n : Int} (h : inI n) (hm : ¬ n = -9223372036854775808) (hn : n < 0) : wNeg .i64 n = -n ∧ inI (-n) ∧ dm (-n) < dm n ∧ catS [45] (itoaS (-n)) = itoaS n := by
  unfold inI at *
  refine ⟨?_, by omega, ?_, ?_⟩
  · unfold wNeg
    rw [IntKind.wrap_i64]
    omega
  · unfold dm
    rw [if_pos hn, if_neg (by omega)]
    omega
  · obtain ⟨u, rfl⟩ : ∃ u : Nat, n = -(u : Int) := ⟨n.natAbs, by omega⟩
    unfold itoaS catS
    rw [Int.neg_neg, Lib.itoa_nonneg, Lib.itoa_neg u (by omega)]
    rfl
theorem dig_min : ([45, 57, 50, 50, 51, 51, 55, 50, 48, 51, 54, 56, 53, 52, 55, 55, 53, 56, 48, 56] : List UInt8) = itoaS (-9223372036854775808) := by
  have e : (-9223372036854775808 : Int) = -((9223372036854775808 : Nat) : Int) := rfl
  unfold itoaS
  rw [e, Lib.itoa_neg _ (by decide)]
  simp [Lib.decDigits]
theorem dig_small {n : Int} (hn : ¬ n < 0) (h : n < 10) : [UInt8.ofNat (IntKind.u8.wrap (wAdd .i64 48 n)).toNat] = itoaS n := by
  obtain ⟨u, rfl⟩ : ∃ u : Nat, n = (u : Int) := ⟨n.toNat, by omega⟩
  unfold itoaS
  rw [Lib.itoa_nonneg, Lib.decDigits, dif_pos (by omega), wAdd_in (by omega), IntKind.wrap_u8]
  congr 2
  omega
theorem dig_big {n : Int} (h : inI n) (hn : ¬ n < 0) (h10 : ¬ n < 10) : wQuo .i64 n 10 = n / 10 ∧ inI (n / 10) ∧ dm (n / 10) < dm n ∧ catS (itoaS (n / 10)) [UInt8.ofNat (IntKind.u8.wrap (wAdd .i64 48 (wRem n 10))).toNat] = itoaS n := by
  unfold inI at *
  obtain ⟨u, rfl⟩ : ∃ u : Nat, n = (u : Int) := ⟨n.toNat, by omega⟩
  have hq : ((u : Int) / 10) = ((u / 10 : Nat) : Int) := by omega
  refine ⟨?_, by omega, ?_, ?_⟩
  · unfold wQuo
    rw [Int.tdiv_eq_ediv_of_nonneg (by omega), i64_in (by omega)]
  · unfold dm
    rw [if_neg hn, if_neg (by omega)]
    omega
  · unfold itoaS catS
    have e2 : wRem (u : Int) 10 = ((u % 10 : Nat) : Int) := rfl
    rw [hq, Lib.itoa_nonneg, Lib.itoa_nonneg, Lib.decDigits.eq_1 u, dif_neg (by omega), e2, wAdd_in (by omega), IntKind.wrap_u8]
    congr 3
    omega
end Go.Fn
namespace Go.Fn
open Go.Ab
def anyText : AnyV → Option (List UInt8)
  | .n x => some (itoaS x)
  | .s t => some t
  | .b _ => none
def texts (l : List AnyV) : List (List UInt8) := l.filterMap anyText
def said (l : List AnyV) : List UInt8 := joinS (texts l) [32]
def saidOK (l : List AnyV) : Prop := (∀ n, AnyV.n n ∈ l → inI n) ∧ (said l).length ≤ 100000000 ∧ l.length ≤ 100000000
theorem texts_zero (l : List AnyV) : texts (l.take 0) = [] := by simp [texts]
theorem texts_n {l : List AnyV} {k : Nat} {n : Int} (h : l[k]? = some (.n n)) : texts (l.take k) ++ [itoaS n] = texts (l.take (k + 1)) := by
  unfold texts; rw [List.take_add_one, h, List.filterMap_append]; rfl
theorem texts_s {l : List AnyV} {k : Nat} {s : List UInt8} (h : l[k]? = some (.s s)) : texts (l.take k) ++ [s] = texts (l.take (k + 1)) := by
  unfold texts; rw [List.take_add_one, h, List.filterMap_append]; rfl
theorem texts_b {l : List AnyV} {k : Nat} {x : AnyV} (h : l[k]? = some x) (h1 : ∀ a, x ≠ .n a) (h2 : ∀ a, x ≠ .s a) : texts (l.take k) = texts (l.take (k + 1)) := by
  unfold texts; rw [List.take_add_one, h, List.filterMap_append]
  cases x with
  | n a => exact absurd rfl (h1 a)
  | s a => exact absurd rfl (h2 a)
  | b a => simp [anyText]
theorem texts_end {l : List AnyV} {k : Nat} (h : ¬ k < l.length) : texts (l.take k) = texts l := by rw [List.take_of_length_le (by omega)]
theorem texts_len (l : List AnyV) (k : Nat) : (texts (l.take k)).length ≤ l.length := by
  unfold texts
  exact Nat.le_trans (List.length_filterMap_le _ _) (by rw [List.length_take]; omega)
end Go.Fn
namespace Go.Fn
open Go.Ab
def stpBad (k : Int) (a b c : List UInt8) : Bool := !(within k 1 5) || (decide ((a.length : Int) > 12) || (decide ((b.length : Int) > 12) || decide ((c.length : Int) > 4096)))
def stepT (s : Step) : List UInt8 := if s.1 = 1 then said [.s [119, 114, 105, 116, 101], .s s.2.1, .n (iOf (lenL s.2.2.2.1))] else if s.1 = 2 then said [.s [115, 121, 110, 99], .s s.2.1]
  else if s.1 = 3 then said [.s [114, 101, 110, 97, 109, 101], .s s.2.1, .s s.2.2.1] else if s.1 = 4 then said [.s [114, 101, 109, 111, 118, 101], .s s.2.1] else [115, 121, 110, 99, 100, 105, 114]
def stepC (s : Step) : Int := if stpBad s.1 s.2.1 s.2.2.1 s.2.2.2.1 = true then 1 else 0
def stepS (s : Step) : List UInt8 := if stpBad s.1 s.2.1 s.2.2.1 s.2.2.2.1 = true then [] else stepT s
theorem join2 (a b : List UInt8) : joinS [a, b] [32] = a ++ ([32] ++ b) := by simp [joinS, Lib.join, List.intercalate, List.intersperse]
theorem join3 (a b c : List UInt8) : joinS [a, b, c] [32] = a ++ ([32] ++ (b ++ ([32] ++ c))) := by simp [joinS, Lib.join, List.intercalate, List.intersperse]
theorem join4 (a b c d : List UInt8) : joinS [a, b, c, d] [32] = a ++ ([32] ++ (b ++ ([32] ++ (c ++ ([32] ++ d))))) := by simp [joinS, Lib.join, List.intercalate, List.intersperse]
theorem stpBad_no {k : Int} {a b c : List UInt8} (h : stpBad k a b c = false) : a.length ≤ 12 ∧ b.length ≤ 12 ∧ c.length ≤ 4096 := by
  unfold stpBad at h
  simp only [Bool.or_eq_false_iff, decide_eq_false_iff_not] at h
  omega
theorem stpBad_w {k : Int} {a b c : List UInt8} (h : within k 1 5 = false) : true = stpBad k a b c := by unfold stpBad; rw [h]; rfl
theorem stpBad_a {k : Int} {a b c : List UInt8} (h : iOf a.length > 12) : true = stpBad k a b c := by
  unfold stpBad; rw [decide_eq_true (p := (a.length : Int) > 12) h]; simp
theorem stpBad_b {k : Int} {a b c : List UInt8} (h : iOf b.length > 12) : true = stpBad k a b c := by
  unfold stpBad; rw [decide_eq_true (p := (b.length : Int) > 12) h]; simp
theorem stpBad_c {k : Int} {a b c : List UInt8} (hk : within k 1 5 = true) (h1 : ¬ iOf a.length > 12) (h2 : ¬ iOf b.length > 12) : decide (iOf c.length > 4096) = stpBad k a b c := by
  unfold stpBad; rw [hk, decide_eq_false (p := (a.length : Int) > 12) h1, decide_eq_false (p := (b.length : Int) > 12) h2]; rfl
theorem step_bad {s : Step} (h : stpBad s.1 s.2.1 s.2.2.1 s.2.2.2.1 = true) : [] = stepS s ∧ 1 = stepC s := by unfold stepS stepC; rw [if_pos h, if_pos h]; exact ⟨rfl, rfl⟩
theorem step_ok {s : Step} (h : stpBad s.1 s.2.1 s.2.2.1 s.2.2.2.1 = false) : stepT s = stepS s ∧ 0 = stepC s := by unfold stepS stepC; rw [if_neg (by rw [h]; exact Bool.false_ne_true), if_neg (by rw [h]; exact Bool.false_ne_true)]; exact ⟨rfl, rfl⟩
def szStep (s : Step) (n : Int) : Int := if wSub .i64 n (iOf (lenL s.2.1)) < 0 then -1 else if wSub .i64 (wSub .i64 n (iOf (lenL s.2.1))) (iOf (lenL s.2.2.1)) < 0 then -1 else if wSub .i64 (wSub .i64 (wSub .i64 n (iOf (lenL s.2.1))) (iOf (lenL s.2.2.1))) (iOf (lenL s.2.2.2.1)) < 0 then -1 else wSub .i64 (wSub .i64 (wSub .i64 n (iOf (lenL s.2.1))) (iOf (lenL s.2.2.1))) (iOf (lenL s.2.2.2.1))
theorem inI_len {n : Nat} (h : n < 1099511627776) : inI (iOf n) := by unfold inI iOf; omega
theorem said_ss (w a : List UInt8) : said [.s w, .s a] = w ++ ([32] ++ a) := join2 w a
theorem said_sss (w a b : List UInt8) : said [.s w, .s a, .s b] = w ++ ([32] ++ (a ++ ([32] ++ b))) := join3 w a b
theorem said_ssn (w a : List UInt8) (n : Int) : said [.s w, .s a, .n n] = w ++ ([32] ++ (a ++ ([32] ++ itoaS n))) := join3 w a (itoaS n)
theorem said_ssns (w a b : List UInt8) (n : Int) : said [.s w, .s a, .n n, .s b] = w ++ ([32] ++ (a ++ ([32] ++ (itoaS n ++ ([32] ++ b))))) := join4 w a (itoaS n) b
theorem sok_ss {w a : List UInt8} (h1 : w.length ≤ 100) (h2 : a.length ≤ 10000) : saidOK [.s w, .s a] := by
  refine ⟨fun n hn => by simp at hn, ?_, by simp⟩
  rw [said_ss]; simp; omega
theorem sok_sss {w a b : List UInt8} (h1 : w.length ≤ 100) (h2 : a.length ≤ 10000) (h3 : b.length ≤ 10000) : saidOK [.s w, .s a, .s b] := by
  refine ⟨fun n hn => by simp at hn, ?_, by simp⟩
  rw [said_sss]; simp; omega
theorem sok_ssn {w a : List UInt8} {n : Int} (h1 : w.length ≤ 100) (h2 : a.length ≤ 10000) (hn : inI n) : saidOK [.s w, .s a, .n n] := by
  refine ⟨fun m hm => by simp at hm; rw [hm]; exact hn, ?_, by simp⟩
  have := itoa_len hn
  rw [said_ssn]; simp; omega
theorem sok_ssns {w a b : List UInt8} {n : Int} (h1 : w.length ≤ 100) (h2 : a.length ≤ 10000) (hn : inI n) (h3 : b.length ≤ 10000) : saidOK [.s w, .s a, .n n, .s b] := by
  refine ⟨fun m hm => by simp at hm; rw [hm]; exact hn, ?_, by simp⟩
  have := itoa_len hn
  rw [said_ssns]; simp; omega
theorem f_cat {a b : List UInt8} (h : a.length + b.length ≤ 1000000) : fits (a.length + b.length) := by show _ < 1099511627776; omega
end Go.Fn
namespace Go.Proofs.YtjkipndhdemnoaaGreatDoor
open Go.Ab Go.Fn
def tabP (w : World) : Prop := Lib.TabIs Tryz.prog w "internal/strconv.uint64pow10" .u64 Lib.pow10Tab
theorem gPow : Tryz.prog.globalNamed "internal/strconv.uint64pow10" = some 1 := by kernel_rfl
def mkT (specs : List (Nat × FSpec)) (clos : List (Nat × CSpec)) : Env := { tys := tys, specs := specs, clos := clos, anyB := 4, anyN := 3, anyS := 9, gl := 1 + 1, tab := tabP }
theorem tabT (specs clos) : TabS (mkT specs clos) := by
  intro w w' h hb
  have hb0 : w'.heap[1]? = w.heap[1]? := hb 1 (Nat.lt_succ_self _)
  have h : w.var? Tryz.prog "internal/strconv.uint64pow10" = _ := h
  show w'.var? Tryz.prog "internal/strconv.uint64pow10" = _
  rw [← h]
  unfold World.var?
  rw [gPow]
  simp only [Option.bind_some, hb0]
theorem envT (specs clos) : EnvOK Tryz.prog (mkT specs clos) :=
  { tys := (envOK specs clos []).tys, distinct := (envOK specs clos []).distinct, anyTys := (envOK specs clos []).anyTys, anyZ := (envOK specs clos []).anyZ }
def FT (f : Nat) (sp : FSpec) : Prop := FOK Tryz.prog (mkT [] []) f sp
theorem toT {f : Nat} {sp : FSpec} (h : FO f sp) : FT f sp := fok_env (E := E0) (E' := mkT [] []) ⟨rfl, rfl, rfl⟩ ⟨fun _ _ => trivial, Nat.zero_le _, fun _ _ _ _ => trivial⟩ h
def AllT : List (Nat × FSpec) → Prop
  | [] => True
  | (f, sp) :: r => FT f sp ∧ AllT r
theorem AllT.get : ∀ {l : List (Nat × FSpec)}, AllT l → ∀ {f sp} , Go.Ab.look l f = some sp → FT f sp
  | [], _, f, sp, h => by cases h
  | (k, x) :: r, ⟨h1, h2⟩, f, sp, h => by
    simp only [Go.Ab.look] at h
    cases hk : Nat.beq k f with
    | true => rw [hk] at h; cases h; rw [← Nat.eq_of_beq_eq_true hk]; exact h1
    | false => rw [hk] at h; exact AllT.get h2 h
theorem progT {specs clos} (h1 : AllT specs) (h2 : AllC clos) : ProgOK Tryz.prog (mkT specs clos) :=
  { env := envT specs clos, specs := fun f sp h => fok_env (E := mkT [] []) (E' := mkT specs clos) ⟨rfl, rfl, rfl⟩ ⟨fun _ h => h, Nat.le_refl _, tabT [] []⟩ (h1.get h), clos := fun f cl h => cok_env (E := E0) (E' := mkT specs clos) ⟨rfl, rfl, rfl⟩ (h2.get h), inl := fun f T h => (by cases h), mixed := by kernel_rfl }
theorem foT {specs clos f fn sp} (A : pdens sp.ps → List (Nat × (St → LoopAnn))) (h1 : AllT specs) (h2 : AllC clos) (hf : Tryz.prog.funcs[f]? = some fn) (hn : (fn.name == "runtime.NumGoroutine") = false) (hb : fn.body.isSome = true) (hv : ∀ x, sp.pre x → vc (mkT specs clos) (A x) fn sp x) : FT f sp :=
  fok_env (E := mkT specs clos) (E' := mkT [] []) ⟨rfl, rfl, rfl⟩ ⟨fun _ h => h, Nat.le_refl _, tabT specs clos⟩ (fok_of_vc (progT h1 h2) hf hn A hv hb)
end Go.Proofs.YtjkipndhdemnoaaGreatDoor
namespace Go.Proofs.YtjkipndhdemnoaaGreatDoor
open Go.Ab Go.Fn
def s_Itoa : FSpec := { ps := [.v I], rs := [.v .str], pre := fun x => Fn.inI x.1, fn := fun x => (Fn.itoaS x.1, ()), upd := fun _ => () }
theorem ft_Itoa : FT 142 s_Itoa := by
  refine fok_raw (ps := [.v I]) (fn := fun x => Fn.itoaS x.1) rfl ⟨_, Tryz.func142, rfl, rfl⟩ ?_
  rintro ⟨(n : Int), ⟨⟩⟩ c vs hE hT ⟨h1, h2⟩ hV
  have h1 : -9223372036854775808 ≤ n := h1
  have h2 : n ≤ 9223372036854775807 := h2
  have hV : VRelL c [.d (.int .i64) n] vs := hV
  simp only [VRelL] at hV
  obtain ⟨v, q, rfl, r, rfl⟩ := hV
  have hv := int_ok (k := .i64) (n := n) r
  subst hv
  refine Calls.mono (Tryz.strconv_Itoa n h1 h2 c.w hT) fun e w' he => ?_
  obtain ⟨rfl, k, os, rfl⟩ := he
  refine ⟨rfl, ?_, keep_of rfl rfl rfl ?_ ?_⟩
  · have := Lib.itoa_length_le n h1 h2
    show (Lib.itoa n).length < lim
    unfold lim
    omega
  · unfold Sort.grow World.drewN; simp
  · intro b hb
    unfold Sort.grow World.drewN
    simp only
    rw [Array.getElem?_append_left hb]
end Go.Proofs.YtjkipndhdemnoaaGreatDoor
namespace Go.Proofs.YtjkipndhdemnoaaGreatDoor
open Go.Ab Go.Fn
def s_dig (N : Nat) : FSpec := { ps := [.v I], rs := [.v .str], pre := fun x => Fn.inI x.1 ∧ Fn.dm x.1 < N, fn := fun x => (Fn.itoaS x.1, ()), upd := fun _ => () }
theorem fo_dig : ∀ N, FO 163 (s_dig N)
  | 0 => ⟨⟨_, Tryz.func163, rfl, rfl⟩, fun _ _ _ _ _ _ hp => absurd hp.2 (Nat.not_lt_zero _)⟩
  | N + 1 => by
    refine fo (specs := [(163, s_dig N)]) (clos := []) (fun x => []) ⟨fo_dig N, trivial⟩ trivial Tryz.func163 rfl rfl ?_
    rintro ⟨n, ⟨⟩⟩ ⟨hi, hd⟩
    refine vcOf (((n == (-9223372036854775808 : Int)) = true → ((45 : UInt8) :: (57 : UInt8) :: (50 : UInt8) :: (50 : UInt8) :: (51 : UInt8) :: (51 : UInt8) :: (55 : UInt8) :: (50 : UInt8) :: (48 : UInt8) :: (51 : UInt8) :: (54 : UInt8) :: (56 : UInt8) :: (53 : UInt8) :: (52 : UInt8) :: (55 : UInt8) :: (55 : UInt8) :: (53 : UInt8) :: (56 : UInt8) :: (48 : UInt8) :: (56 : UInt8) :: ([] : List UInt8), ()) = (itoaS n, ()) ∧ () = ()) ∧ ((n == (-9223372036854775808 : Int)) = false → (decide (n < (0 : Int)) = true → true = true ∧ (inI (wNeg IntKind.i64 n) ∧ dm (wNeg IntKind.i64 n) < N) ∧ fits (lenL ((45 : UInt8) :: ([] : List UInt8)) + lenL (itoaS (wNeg IntKind.i64 n))) ∧ (catS ((45 : UInt8) :: ([] : List UInt8)) (itoaS (wNeg IntKind.i64 n)), ()) = (itoaS n, ()) ∧ () = ()) ∧ (decide (n < (0 : Int)) = false → (decide (n < (10 : Int)) = true → (UInt8.ofNat (IntKind.u8.wrap (wAdd IntKind.i64 (48 : Int) n)).toNat :: ([] : List UInt8), ()) = (itoaS n, ()) ∧ () = ()) ∧ (decide (n < (10 : Int)) = false → nz (10 : Int) ∧ nz (10 : Int) ∧ (true = true ∧ (inI (wQuo IntKind.i64 n (10 : Int)) ∧ dm (wQuo IntKind.i64 n (10 : Int)) < N) ∧ fits (lenL (itoaS (wQuo IntKind.i64 n (10 : Int))) + lenL (UInt8.ofNat (IntKind.u8.wrap (wAdd IntKind.i64 (48 : Int) (wRem n (10 : Int)))).toNat :: ([] : List UInt8))) ∧ (catS (itoaS (wQuo IntKind.i64 n (10 : Int))) (UInt8.ofNat (IntKind.u8.wrap (wAdd IntKind.i64 (48 : Int) (wRem n (10 : Int)))).toNat :: ([] : List UInt8)), ()) = (itoaS n, ()) ∧ () = ()) ∧ true = true ∧ (inI (wQuo IntKind.i64 n (10 : Int)) ∧ dm (wQuo IntKind.i64 n (10 : Int)) < N) ∧ fits (lenL (itoaS (wQuo IntKind.i64 n (10 : Int))) + lenL (UInt8.ofNat (IntKind.u8.wrap (wAdd IntKind.i64 (48 : Int) (wRem n (10 : Int)))).toNat :: ([] : List UInt8))) ∧ (catS (itoaS (wQuo IntKind.i64 n (10 : Int))) (UInt8.ofNat (IntKind.u8.wrap (wAdd IntKind.i64 (48 : Int) (wRem n (10 : Int)))).toNat :: ([] : List UInt8)), ()) = (itoaS n, ()) ∧ () = ())))) (by kernel_rfl) ?_
    simp only [Nat.le_refl, Nat.succ_eq_add_one, Nat.reduceAdd, Nat.reduceLeDiff, Nat.zero_le, pair_unit, mk_eta, len_bne, eqD_bne, bne_iff_ne, bne_eq_false_iff_eq, beq_iff_eq, beq_eq_false_iff_ne, true_and, and_true, and_self, eq_self, lt_iff, nthI_nat, bnd_iff, decide_eq_true_eq, decide_eq_false_iff_not, Nat.sub_eq, nz, ne_eq, not_false_eq_true, Prod.mk.injEq, Int.reduceEq, Nat.reduceEqDiff, forall_const, implies_true, bne_self_eq_false, Bool.true_eq_false, Bool.false_eq_true, false_implies, reduceCtorEq, Bool.not_true, Bool.not_false, List.all_cons, List.all_nil, Bool.and_true, Bool.not_eq_true, Bool.not_eq_false, Bool.not_eq_true', Bool.not_eq_false', Decidable.not_not]; try simp only [lenL]
    have hi : Fn.inI n := hi
    have hd : Fn.dm n < N + 1 := hd
    refine ⟨fun h => by rw [h]; exact dig_min, fun hm => ⟨fun hn => ?_, fun hn => ⟨fun h10 => dig_small hn h10, fun h10 => ?_⟩⟩⟩
    · obtain ⟨e, h1, h2, h3⟩ := dig_neg hi hm hn
      rw [e]
      have := itoa_len h1
      exact ⟨⟨h1, by omega⟩, f_cat (by simp only [List.length_cons, List.length_nil]; omega), h3⟩
    · obtain ⟨e, h1, h2, h3⟩ := dig_big hi hn h10
      rw [e]
      have := itoa_len h1
      exact ⟨⟨h1, by omega⟩, f_cat (by simp only [List.length_cons, List.length_nil]; omega), h3⟩
def s_Digits : FSpec := { ps := [.v I], rs := [.v .str], pre := fun x => Fn.inI x.1, fn := fun x => (Fn.itoaS x.1, ()), upd := fun _ => () }
theorem fo_l00Digits : FO 163 s_Digits :=
  fok_pre (sp := s_Digits) ⟨_, Tryz.func163, rfl, rfl⟩ fun x hx => ⟨fun y => Fn.inI y.1 ∧ Fn.dm y.1 < Fn.dm x.1 + 1, ⟨hx, Nat.lt_succ_self _⟩, fo_dig (Fn.dm x.1 + 1)⟩
end Go.Proofs.YtjkipndhdemnoaaGreatDoor
namespace Go.Proofs
open Go.Shelf
def Tryz.sortStr_ren : Go.Shelf.Ren := ⟨fun | 6 => 138 | 8 => 166 | 9 => 165 | 19 => 193 | 20 => 194 | 21 => 184 | 22 => 185 | 23 => 186 | 24 => 187 | 25 => 188 | 26 => 189 | 27 => 190 | 28 => 191 | 29 => 192 | 36 => 206 | 31 => 207 | 32 => 208 | 37 => 209 | 38 => 210 | 39 => 211 | 41 => 222 | n => n, fun | 27 => 65 | 29 => 9 | 3 => 3 | 32 => 166 | 26 => 65 | 0 => 0 | 44 => 188 | 46 => 190 | 4 => 4 | 36 => 182 | 35 => 181 | 41 => 129 | 5 => 5 | 9 => 9 | 53 => 199 | 57 => 203 | 63 => 210 | 64 => 54 | n => n, fun | n => n⟩
theorem Tryz.sortStr : Go.Proofs.SlLaysM.n6 Tryz.prog Tryz.sortStr_ren := {
  mixed := by kernel_rfl
  f6 := ⟨Tryz.f138.name, by decide, Tryz.func138.trans (congrArg some (by kernel_rfl))⟩
  f8 := Tryz.func166.trans (congrArg some (by kernel_rfl))
  f9 := ⟨Tryz.f165.name, by decide, Tryz.func165.trans (congrArg some (by kernel_rfl))⟩
  f19 := Tryz.func193.trans (congrArg some (by kernel_rfl))
  f20 := Tryz.func194.trans (congrArg some (by kernel_rfl))
  f21 := ⟨Tryz.f184.name, by decide, Tryz.func184.trans (congrArg some (by kernel_rfl))⟩
  f22 := ⟨Tryz.f185.name, by decide, Tryz.func185.trans (congrArg some (by kernel_rfl))⟩
  f23 := ⟨Tryz.f186.name, by decide, Tryz.func186.trans (congrArg some (by kernel_rfl))⟩
  f24 := ⟨Tryz.f187.name, by decide, Tryz.func187.trans (congrArg some (by kernel_rfl))⟩
  f25 := ⟨Tryz.f188.name, by decide, Tryz.func188.trans (congrArg some (by kernel_rfl))⟩
  f26 := ⟨Tryz.f189.name, by decide, Tryz.func189.trans (congrArg some (by kernel_rfl))⟩
  f27 := ⟨Tryz.f190.name, by decide, Tryz.func190.trans (congrArg some (by kernel_rfl))⟩
  f28 := ⟨Tryz.f191.name, by decide, Tryz.func191.trans (congrArg some (by kernel_rfl))⟩
  f29 := ⟨Tryz.f192.name, by decide, Tryz.func192.trans (congrArg some (by kernel_rfl))⟩
  f31 := Tryz.func207.trans (congrArg some (by kernel_rfl))
  f32 := Tryz.func208.trans (congrArg some (by kernel_rfl))
  f36 := ⟨Tryz.f206.name, by decide, Tryz.func206.trans (congrArg some (by kernel_rfl))⟩
  f37 := ⟨Tryz.f209.name, by decide, Tryz.func209.trans (congrArg some (by kernel_rfl))⟩
  f38 := ⟨Tryz.f210.name, by decide, Tryz.func210.trans (congrArg some (by kernel_rfl))⟩
  f39 := ⟨Tryz.f211.name, by decide, Tryz.func211.trans (congrArg some (by kernel_rfl))⟩
  f41 := ⟨Tryz.f222.name, by decide, Tryz.func222.trans (congrArg some (by kernel_rfl))⟩
  t0 := Tryz.underlying0
  a0 := Tryz.isAgg0
  z0 := Tryz.sizeOf0
  v0 := Tryz.zeroValue0
  t3 := Tryz.underlying3
  a3 := Tryz.isAgg3
  z3 := Tryz.sizeOf3
  v3 := Tryz.zeroValue3
  t4 := Tryz.underlying4
  a4 := Tryz.isAgg4
  z4 := Tryz.sizeOf4
  v4 := Tryz.zeroValue4
  t5 := Tryz.underlying5
  a5 := Tryz.isAgg5
  z5 := Tryz.sizeOf5
  v5 := Tryz.zeroValue5
  t9 := Tryz.underlying9
  a9 := Tryz.isAgg9
  z9 := Tryz.sizeOf9
  v9 := Tryz.zeroValue9
  t26 := Tryz.underlying65
  a26 := Tryz.isAgg65
  z26 := Tryz.sizeOf65
  v26 := Tryz.zeroValue65
  t27 := Tryz.underlying65
  a27 := Tryz.isAgg65
  z27 := Tryz.sizeOf65
  v27 := Tryz.zeroValue65
  t29 := Tryz.underlying9
  a29 := Tryz.isAgg9
  z29 := Tryz.sizeOf9
  v29 := Tryz.zeroValue9
  t32 := Tryz.underlying166
  a32 := Tryz.isAgg166
  z32 := Tryz.sizeOf166
  v32 := Tryz.zeroValue166
  t35 := Tryz.underlying181
  a35 := Tryz.isAgg181
  z35 := Tryz.sizeOf181
  v35 := Tryz.zeroValue181
  t36 := Tryz.underlying182
  a36 := Tryz.isAgg182
  z36 := Tryz.sizeOf182
  v36 := Tryz.zeroValue182
  t41 := Tryz.underlying129
  a41 := Tryz.isAgg129
  z41 := Tryz.sizeOf129
  v41 := Tryz.zeroValue129
  t44 := Tryz.underlying188
  a44 := Tryz.isAgg188
  z44 := Tryz.sizeOf188
  v44 := Tryz.zeroValue188
  t46 := Tryz.underlying190
  a46 := Tryz.isAgg190
  z46 := Tryz.sizeOf190
  v46 := Tryz.zeroValue190
  t53 := Tryz.underlying199
  a53 := Tryz.isAgg199
  z53 := Tryz.sizeOf199
  v53 := Tryz.zeroValue199
  t57 := Tryz.underlying203
  a57 := Tryz.isAgg203
  z57 := Tryz.sizeOf203
  v57 := Tryz.zeroValue203
  t63 := Tryz.underlying210
  a63 := Tryz.isAgg210
  z63 := Tryz.sizeOf210
  v63 := Tryz.zeroValue210
  t64 := Tryz.underlying54
  a64 := Tryz.isAgg54
  z64 := Tryz.sizeOf54
  v64 := Tryz.zeroValue54 }
def Tryz.compStr_ren : Go.Shelf.Ren := ⟨fun | 44 => 139 | n => n, fun | 25 => 65 | 26 => 9 | 3 => 3 | 4 => 4 | 0 => 0 | n => n, fun | n => n⟩
theorem Tryz.compStr : Go.Proofs.SlLaysN.n44 Tryz.prog Tryz.compStr_ren := {
  mixed := by kernel_rfl
  f44 := ⟨Tryz.f139.name, by decide, Tryz.func139.trans (congrArg some (by kernel_rfl))⟩
  t0 := Tryz.underlying0
  a0 := Tryz.isAgg0
  z0 := Tryz.sizeOf0
  v0 := Tryz.zeroValue0
  t3 := Tryz.underlying3
  a3 := Tryz.isAgg3
  z3 := Tryz.sizeOf3
  v3 := Tryz.zeroValue3
  t4 := Tryz.underlying4
  a4 := Tryz.isAgg4
  z4 := Tryz.sizeOf4
  v4 := Tryz.zeroValue4
  t25 := Tryz.underlying65
  a25 := Tryz.isAgg65
  z25 := Tryz.sizeOf65
  v25 := Tryz.zeroValue65
  t26 := Tryz.underlying9
  a26 := Tryz.isAgg9
  z26 := Tryz.sizeOf9
  v26 := Tryz.zeroValue9
  i26 := by kernel_rfl }
end Go.Proofs
namespace Go.Fn
open Go.Ab
def drop (n : List UInt8) (l : List Slot) : List Slot := l.filter (fun s => !(nameIs n s))
def dropTo (n : List UInt8) (l : List Slot) (k : Nat) : List Slot := (l.take k).filter (fun s => !(nameIs n s))
theorem dropTo_keep {n : List UInt8} {l : List Slot} {k : Nat} {x : Slot} (hx : l[k]? = some x) (h : ¬ x.1 = n) : dropTo n l k ++ [x] = dropTo n l (k + 1) := by
  have : nameIs n x = false := by unfold nameIs; simpa using h
  unfold dropTo; rw [List.take_add_one, hx]; simp [this]
theorem dropTo_del {n : List UInt8} {l : List Slot} {k : Nat} {x : Slot} (hx : l[k]? = some x) (h : x.1 = n) : dropTo n l k = dropTo n l (k + 1) := by
  have : nameIs n x = true := by unfold nameIs; simpa using h
  unfold dropTo; rw [List.take_add_one, hx]; simp [this]
theorem dropTo_end {n : List UInt8} {l : List Slot} {k : Nat} (h : ¬ k < l.length) : dropTo n l k = drop n l := by
  unfold dropTo drop; rw [List.take_of_length_le (by omega)]
theorem dropTo_len (n : List UInt8) (l : List Slot) (k : Nat) : (dropTo n l k).length ≤ l.length := Nat.le_trans (List.length_filter_le _ _) (by rw [List.length_take]; omega)
theorem dropTo_less (n : List UInt8) {l : List Slot} {k : Nat} (hk : k ≤ l.length) (h : k < l.length) : (dropTo n l k).length + 1 ≤ l.length := by
  have h1 : (dropTo n l k).length ≤ (l.take k).length := List.length_filter_le _ _
  rw [List.length_take] at h1
  omega
def removeC (d : Disk) (n : List UInt8) : Int := if short n = false then 2 else if diskOK d = false then 1 else if readB d n = false then 5 else 0
def removeD (d : Disk) (n : List UInt8) : Disk := if short n = false then zeroDisk else if diskOK d = false then zeroDisk else if readB d n = false then d else tidy (d.1, drop n d.2.1, d.2.2.1, d.2.2.2.1, ())
theorem used_all {d : Disk} (h : diskOK d = true) : ∀ x ∈ d.1, used d x.1 = true := by
  intro x hx
  obtain ⟨j, hj, rfl⟩ := List.getElem_of_mem hx
  unfold diskOK at h
  simp only [Bool.and_eq_true] at h
  have := allI_iff.1 h.1.2 j _ (List.getElem?_eq_getElem hj)
  simp only [Bool.not_eq_true', Bool.or_eq_false_iff, Bool.not_eq_false'] at this
  exact this.2
theorem tidy_all {d : Disk} (h : ∀ x ∈ d.1, used d x.1 = true) : tidy d = d := by
  unfold tidy
  rw [List.filter_eq_self.2 h]
theorem tidy_ok {d : Disk} (h : diskOK d = true) : tidy d = d := tidy_all (used_all h)
theorem del_none {α : Type} {p : α → Bool} {xs : List α} (h : idx p xs = -1) : xs = xs.filter (fun x => !(p x)) := by
  symm
  rw [List.filter_eq_self]
  intro x hx
  unfold idx at h
  cases hf : xs.findIdx? p with
  | none => rw [List.findIdx?_eq_none_iff] at hf; simp [hf x hx]
  | some k => rw [hf] at h; cases h
theorem small_remove {d : Disk} {n : List UInt8} (h : smallD d) : smallD (removeD d n) := by
  unfold removeD
  split
  · exact small_zero
  split
  · exact small_zero
  split
  · exact h
  · exact small_tidy ⟨h.1, Nat.le_trans (List.length_filter_le _ _) h.2.1, h.2.2⟩
end Go.Fn
namespace Go.Fn
open Go.Ab
theorem bl_trans : ∀ {x y z : List UInt8}, Op.bytesLess x y = true → Op.bytesLess y z = true → Op.bytesLess x z = true
  | _, [], _, h, _ => by simp [Op.bytesLess] at h
  | _, _ :: _, [], _, h => by simp [Op.bytesLess] at h
  | [], _ :: _, _ :: _, _, _ => by simp [Op.bytesLess]
  | a :: x, b :: y, c :: z, h1, h2 => by
    simp only [Op.bytesLess, Bool.or_eq_true, Bool.and_eq_true, decide_eq_true_eq, beq_iff_eq] at h1 h2 ⊢
    rcases h1 with h1 | ⟨rfl, h1⟩
    · rcases h2 with h2 | ⟨rfl, h2⟩
      · exact .inl (UInt8.lt_trans h1 h2)
      · exact .inl h1
    · rcases h2 with h2 | ⟨rfl, h2⟩
      · exact .inl h2
      · exact .inr ⟨rfl, bl_trans h1 h2⟩
theorem bl_total : ∀ {x y : List UInt8}, Op.bytesLess x y = false → Op.bytesLess y x = false → x = y
  | [], [], _, _ => rfl
  | [], _ :: _, h, _ => by simp [Op.bytesLess] at h
  | _ :: _, [], _, h => by simp [Op.bytesLess] at h
  | a :: x, b :: y, h1, h2 => by
    simp only [Op.bytesLess, Bool.or_eq_false_iff, Bool.and_eq_false_iff, decide_eq_false_iff_not, beq_eq_false_iff_ne, ne_eq] at h1 h2
    have e : a = b := by
      have h3 := UInt8.not_lt.1 h1.1
      have h4 := UInt8.not_lt.1 h2.1
      exact UInt8.le_antisymm h4 h3
    subst e
    have h1 : Op.bytesLess x y = false := by rcases h1.2 with h | h; exact absurd rfl h; exact h
    have h2 : Op.bytesLess y x = false := by rcases h2.2 with h | h; exact absurd rfl h; exact h
    rw [bl_total h1 h2]
theorem bl_asymm {x y : List UInt8} (h : Op.bytesLess x y = true) : Op.bytesLess y x = false := by
  cases e : Op.bytesLess y x with
  | false => rfl
  | true => have := bl_trans h e; rw [bl_irrefl] at this; cases this
theorem bl_ne {x y : List UInt8} (h : Op.bytesLess x y = true) : x ≠ y := by rintro rfl; rw [bl_irrefl] at h; cases h
theorem bl_flip {x y : List UInt8} (h1 : Op.bytesLess x y = false) (h2 : x ≠ y) : Op.bytesLess y x = true := by
  cases e : Op.bytesLess y x with
  | true => rfl
  | false => exact absurd (bl_total h1 e) h2
end Go.Fn
namespace Go.Fn
open Go.Ab
theorem sorted_eq {α : Type} {lt : α → α → Bool} (ha : ∀ x y, lt x y = true → lt y x = false) : ∀ {zs ys : List α}, ys.Perm zs → zs.Pairwise (fun a b => lt a b = true) → ys.Pairwise (fun a b => lt b a = false) → ys = zs
  | [], ys, hp, _, _ => by simpa using hp.length_eq
  | z :: zs, [], hp, _, _ => by simpa using hp.length_eq
  | z :: zs, y :: ys, hp, hz, hy => by
    rw [List.pairwise_cons] at hz hy
    have hym : y ∈ z :: zs := hp.mem_iff.1 List.mem_cons_self
    have hzm : z ∈ y :: ys := hp.mem_iff.2 List.mem_cons_self
    have e : y = z := by
      rcases List.mem_cons.1 hym with h | h
      · exact h
      · rcases List.mem_cons.1 hzm with h' | h'
        · exact h'.symm
        · have h1 := hz.1 y h
          have h2 := hy.1 z h'
          rw [h1] at h2; cases h2
    subst e
    rw [sorted_eq ha (List.Perm.cons_inv hp) hz.2 hy.2]
end Go.Fn
namespace Go.Fn
open Go.Ab
def ltN (a b : Slot) : Bool := Op.bytesLess a.1 b.1
def SortedN (l : List Slot) : Prop := l.Pairwise (fun a b => ltN a b = true)
def put (s : Slot) : List Slot → List Slot
  | [] => [s]
  | y :: r => if Op.bytesLess y.1 s.1 = true then y :: put s r else if y.1 = s.1 then s :: r else s :: y :: r
theorem put_mem {s x : Slot} : ∀ {l : List Slot}, x ∈ put s l → x = s ∨ x ∈ l
  | [], h => by simp [put] at h; exact .inl h
  | y :: r, h => by
    unfold put at h
    split at h
    · rcases List.mem_cons.1 h with rfl | h
      · exact .inr List.mem_cons_self
      · rcases put_mem h with h | h
        · exact .inl h
        · exact .inr (List.mem_cons_of_mem _ h)
    · split at h
      · rcases List.mem_cons.1 h with h | h
        · exact .inl h
        · exact .inr (List.mem_cons_of_mem _ h)
      · rcases List.mem_cons.1 h with h | h
        · exact .inl h
        · exact .inr h
theorem put_sorted {s : Slot} : ∀ {l : List Slot}, SortedN l → SortedN (put s l)
  | [], _ => by unfold SortedN put; simp
  | y :: r, h => by
    unfold SortedN at h
    rw [List.pairwise_cons] at h
    unfold put
    split
    · rename_i hlt
      refine List.pairwise_cons.2 ⟨fun x hx => ?_, put_sorted h.2⟩
      rcases put_mem hx with rfl | hx
      · exact hlt
      · exact h.1 x hx
    · rename_i hlt
      split
      · rename_i he
        refine List.pairwise_cons.2 ⟨fun x hx => ?_, h.2⟩
        have := h.1 x hx
        unfold ltN at this ⊢
        rw [← he]; exact this
      · rename_i he
        have h3 : Op.bytesLess s.1 y.1 = true := bl_flip (by simpa using hlt) he
        refine List.pairwise_cons.2 ⟨fun x hx => ?_, List.pairwise_cons.2 h⟩
        rcases List.mem_cons.1 hx with rfl | hx
        · exact h3
        · exact bl_trans h3 (h.1 x hx)
theorem drop_cons (n : List UInt8) (y : Slot) (r : List Slot) : drop n (y :: r) = if y.1 = n then drop n r else y :: drop n r := by
  unfold drop nameIs
  rw [List.filter_cons]
  by_cases h : y.1 = n
  · simp [h]
  · simp [h]
theorem drop_all {n : List UInt8} {l : List Slot} (h : ∀ x ∈ l, x.1 ≠ n) : drop n l = l := by
  unfold drop
  rw [List.filter_eq_self]
  intro x hx
  simp [nameIs, h x hx]
theorem put_perm {s : Slot} : ∀ {l : List Slot}, SortedN l → (put s l).Perm (drop s.1 l ++ [s])
  | [], _ => by unfold put drop; simp
  | y :: r, h => by
    unfold SortedN at h
    rw [List.pairwise_cons] at h
    unfold put
    rw [drop_cons]
    split
    · rename_i hlt
      rw [if_neg (bl_ne hlt)]
      exact List.Perm.cons _ (put_perm h.2)
    · rename_i hlt
      split
      · rename_i he
        rw [drop_all (l := r) (fun x hx e => by
          have := h.1 x hx
          unfold ltN at this
          exact bl_ne this (he.trans e.symm))]
        exact List.perm_append_comm (l₁ := [s])
      · rename_i he
        have h3 : Op.bytesLess s.1 y.1 = true := bl_flip (by simpa using hlt) he
        rw [drop_all (l := r) (fun x hx e => by
          have := bl_trans h3 (h.1 x hx)
          exact bl_ne this e.symm)]
        exact List.perm_append_comm (l₁ := [s])
theorem ltN_asymm (x y : Slot) (h : ltN x y = true) : ltN y x = false := bl_asymm h
theorem sort_put {s : Slot} {l ys : List Slot} (hl : SortedN l) (hp : ys.Perm (drop s.1 l ++ [s])) (hs : ys.Pairwise (fun a b => ltN b a = false)) : ys = put s l :=
  sorted_eq ltN_asymm (hp.trans (put_perm hl).symm) (put_sorted hl) hs
theorem put_len (s : Slot) : ∀ l : List Slot, (put s l).length ≤ l.length + 1
  | [] => by simp [put]
  | y :: r => by
    unfold put
    split
    · have := put_len s r; simp; omega
    · split <;> simp
theorem sorted_drop {n : List UInt8} {l : List Slot} (h : SortedN l) : SortedN (drop n l) := List.Pairwise.filter _ h
theorem slots_sorted {ino : List Inode} {l : List Slot} (h : slotsOK ino l = true) : SortedN l := by
  unfold slotsOK at h
  rw [allI_iff] at h
  have hstep : ∀ (k : Nat) (x y : Slot), l[k]? = some x → l[k + 1]? = some y → ltN x y = true := fun k x y hx hy => by
    have := h (k + 1) y hy
    simp only [Nat.zero_add, badSlot, Bool.not_eq_true', Bool.or_eq_false_iff, Bool.and_eq_false_iff, decide_eq_false_iff_not] at this
    have h2 := this.1.2
    rcases h2 with h2 | h2
    · exact absurd (by simp only [Int.ofNat_eq_natCast]; omega) h2
    · unfold prevSlot at h2
      have e : nthI l (Int.ofNat (k + 1) - 1) = some x := by
        have : (Int.ofNat (k + 1) - 1).toNat = k := by simp only [Int.ofNat_eq_natCast]; omega
        unfold nthI; rw [this]; exact hx
      rw [e] at h2
      simp only [leS, Bool.or_eq_false_iff, beq_eq_false_iff_ne] at h2
      exact bl_flip h2.1 h2.2
  have hall : ∀ (n k : Nat) (x y : Slot), l[k]? = some x → l[k + 1 + n]? = some y → ltN x y = true := by
    intro n
    induction n with
    | zero => intro k x y hx hy; exact hstep k x y hx hy
    | succ n ih =>
      intro k x y hx hy
      have hlt : k + 1 + n < l.length := by
        have := (List.getElem?_eq_some_iff.1 hy).1; omega
      have hz := List.getElem?_eq_getElem hlt
      exact bl_trans (ih k x _ hx hz) (hstep (k + 1 + n) _ y hz hy)
  unfold SortedN
  rw [List.pairwise_iff_getElem]
  intro i j hi hj hij
  exact hall (j - i - 1) i _ _ (List.getElem?_eq_getElem hi) (by rw [show i + 1 + (j - i - 1) = j by omega]; exact List.getElem?_eq_getElem hj)
end Go.Fn
namespace Go.Fn
open Go.Ab
def LeadAt (s : Slot) (l : List Slot) (k : Nat) : Prop := k ≤ l.length ∧ ∀ (j : Nat) (y : Slot), j < k → l[j]? = some y → Op.bytesLess y.1 s.1 = true
theorem put_lead {s : Slot} : ∀ {k : Nat} {l : List Slot}, LeadAt s l k → put s l = l.take k ++ put s (l.drop k)
  | 0, l, _ => by simp
  | k + 1, [], h => by have := h.1; simp at this
  | k + 1, y :: r, h => by
    have hy : Op.bytesLess y.1 s.1 = true := h.2 0 y (Nat.succ_pos _) rfl
    have h' : LeadAt s r k := ⟨by have := h.1; simp at this; omega, fun j z hj hz => h.2 (j + 1) z (by omega) (by simpa using hz)⟩
    show put s (y :: r) = y :: (r.take k) ++ put s (r.drop k)
    rw [put, if_pos hy, put_lead h']; rfl
theorem put_end {s : Slot} {l : List Slot} {k : Nat} (h : LeadAt s l k) (he : ¬ k < l.length) : l.take k ++ [s] ++ l.drop k = put s l := by
  rw [put_lead h, List.drop_eq_nil_of_le (by omega)]; simp [put]
theorem put_same {s y : Slot} {l : List Slot} {k : Nat} (h : LeadAt s l k) (hy : l[k]? = some y) (hn : ¬ Op.bytesLess y.1 s.1 = true) (he : y.1 = s.1) : l.take k ++ [s] ++ l.drop (k + 1) = put s l := by
  rw [put_lead h, drop_at hy, put, if_neg hn, if_pos he]; simp
theorem put_more {s y : Slot} {l : List Slot} {k : Nat} (h : LeadAt s l k) (hy : l[k]? = some y) (hn : ¬ Op.bytesLess y.1 s.1 = true) (he : ¬ y.1 = s.1) : l.take k ++ [s] ++ l.drop k = put s l := by
  rw [put_lead h]
  conv => rhs; rw [drop_at hy, put, if_neg hn, if_neg he]
  rw [drop_at hy]; simp
theorem lead_step {s y : Slot} {l : List Slot} {k : Nat} (h : LeadAt s l k) (hy : l[k]? = some y) (hn : Op.bytesLess y.1 s.1 = true) : LeadAt s l (k + 1) := by
  have hk := (List.getElem?_eq_some_iff.1 hy).1
  refine ⟨hk, fun j z hj hz => ?_⟩
  rcases Nat.lt_or_ge j k with h1 | h1
  · exact h.2 j z h1 hz
  · obtain rfl : j = k := by omega
    rw [hy] at hz; cases hz; exact hn
theorem sub_take {α : Type} (l : List α) (k : Nat) : subL l 0 (tN (Int.ofNat k)) = l.take k := by unfold subL tN; simp
theorem sub_drop {α : Type} (l : List α) (k : Nat) : subL l (tN (Int.ofNat k)) l.length = l.drop k := by unfold subL tN; simp
theorem lead0 (s : Slot) (l : List Slot) : LeadAt s l 0 := ⟨Nat.zero_le _, fun j y hj => absurd hj (Nat.not_lt_zero _)⟩
theorem put_fit {s : Slot} {l : List Slot} (hl : l.length ≤ 1000000) (k j : Nat) : fits ((subL l 0 (tN (Int.ofNat k))).length + [s].length) ∧ fits ((subL l 0 (tN (Int.ofNat k)) ++ [s]).length + (subL l (tN (Int.ofNat j)) l.length).length) := by
  rw [sub_take, sub_drop]
  unfold fits
  simp only [List.length_take, List.length_append, List.length_drop, List.length_cons, List.length_nil]
  omega
theorem bound_lo {k n : Nat} (h : k ≤ n) : boundLo (Int.ofNat k) n := ⟨Int.natCast_nonneg _, Int.ofNat_le.2 h⟩
end Go.Fn
namespace Go.Fn
open Go.Ab
def shortWT (n t : List UInt8) : Bool := short n && short t
def fullD (d : Disk) (n : List UInt8) : Bool := decide (slotAt d.2.1 n < 0) && decide ((d.2.1.length : Int) = 24) || decide (d.2.2.2.1 = 1000000)
def writeC (d : Disk) (n t : List UInt8) : Int := if shortWT n t = false then 2 else if diskOK d = false then 1 else if nameOK n = false then 10 else if iOf t.length > 4096 then 8 else if fullD d n = true then 7 else 0
def wroteD (d : Disk) (n t : List UInt8) : Disk := tidy (d.1 ++ [(d.2.2.2.1, t, false, ())], put (n, d.2.2.2.1, ()) d.2.1, d.2.2.1, d.2.2.2.1 + 1, ())
def writeD (d : Disk) (n t : List UInt8) : Disk := if writeC d n t = 0 then wroteD d n t else if writeC d n t = 2 then zeroDisk else if writeC d n t = 1 then zeroDisk else d
def renameC (d : Disk) (f t : List UInt8) : Int := if shortWT f t = false then 2 else if diskOK d = false then 1 else if nameOK t = false then 10 else if readB d f = false then 5 else 0
def renamedD (d : Disk) (f t : List UInt8) : Disk := tidy (d.1, put (t, slotId d.2.1 f, ()) (drop f d.2.1), d.2.2.1, d.2.2.2.1, ())
def renameD (d : Disk) (f t : List UInt8) : Disk := if renameC d f t = 0 then renamedD d f t else if renameC d f t = 2 then zeroDisk else if renameC d f t = 1 then zeroDisk else d
theorem w_code {d : Disk} {n t : List UInt8} {c : Int} (h : writeC d n t = c) (h0 : c ≠ 0) (h1 : c ≠ 1) (h2 : c ≠ 2) : d = writeD d n t ∧ c = writeC d n t := by
  unfold writeD
  rw [h, if_neg h0, if_neg h2, if_neg h1]
  exact ⟨rfl, rfl⟩
theorem w_two {d : Disk} {n t : List UInt8} (hs : shortWT n t = false) : zeroDisk = writeD d n t ∧ 2 = writeC d n t := by
  have h : writeC d n t = 2 := by unfold writeC; rw [if_pos hs]
  unfold writeD
  rw [h]; exact ⟨rfl, rfl⟩
theorem w_one {d : Disk} {n t : List UInt8} (hs : shortWT n t = true) (hd : diskOK d = false) : zeroDisk = writeD d n t ∧ 1 = writeC d n t := by
  have h : writeC d n t = 1 := by unfold writeC; rw [if_neg (by rw [hs]; exact fun e => Bool.noConfusion e), if_pos hd]
  unfold writeD
  rw [h]; exact ⟨rfl, rfl⟩
theorem w_c {d : Disk} {n t : List UInt8} (hs : shortWT n t = true) (hd : diskOK d = true) : writeC d n t = if nameOK n = false then 10 else if iOf t.length > 4096 then 8 else if fullD d n = true then 7 else 0 := by
  unfold writeC
  rw [if_neg (by rw [hs]; exact fun e => Bool.noConfusion e), if_neg (by rw [hd]; exact fun e => Bool.noConfusion e)]
theorem w_ten {d : Disk} {n t : List UInt8} (hs : shortWT n t = true) (hd : diskOK d = true) (hw : nameOK n = false) : d = writeD d n t ∧ 10 = writeC d n t :=
  w_code (by rw [w_c hs hd, if_pos hw]) (by decide) (by decide) (by decide)
theorem w_eight {d : Disk} {n t : List UInt8} (hs : shortWT n t = true) (hd : diskOK d = true) (hw : nameOK n = true) (hl : iOf t.length > 4096) : d = writeD d n t ∧ 8 = writeC d n t :=
  w_code (by rw [w_c hs hd, if_neg (by rw [hw]; exact fun e => Bool.noConfusion e), if_pos hl]) (by decide) (by decide) (by decide)
theorem w_seven {d : Disk} {n t : List UInt8} (hs : shortWT n t = true) (hd : diskOK d = true) (hw : nameOK n = true) (hl : ¬ iOf t.length > 4096) (hf : fullD d n = true) : d = writeD d n t ∧ 7 = writeC d n t :=
  w_code (by rw [w_c hs hd, if_neg (by rw [hw]; exact fun e => Bool.noConfusion e), if_neg hl, if_pos hf]) (by decide) (by decide) (by decide)
theorem w_ok {d : Disk} {n t : List UInt8} (hs : shortWT n t = true) (hd : diskOK d = true) (hw : nameOK n = true) (hl : ¬ iOf t.length > 4096) (hf : fullD d n = false) : wroteD d n t = writeD d n t ∧ 0 = writeC d n t := by
  have h : writeC d n t = 0 := by rw [w_c hs hd, if_neg (by rw [hw]; exact fun e => Bool.noConfusion e), if_neg hl, if_neg (by rw [hf]; exact fun e => Bool.noConfusion e)]
  unfold writeD
  rw [h]; exact ⟨rfl, rfl⟩
theorem sh_wt {n t : List UInt8} (h1 : ¬ iOf n.length > 65536) (h2 : ¬ iOf t.length > 65536) : shortWT n t = true := by
  unfold shortWT short iOf at *
  rw [decide_eq_true (by omega), decide_eq_true (by omega)]; rfl
theorem sh_n {n t : List UInt8} (h1 : iOf n.length > 65536) : shortWT n t = false := by
  unfold shortWT short iOf at *
  rw [decide_eq_false (p := n.length ≤ 65536) (by omega)]; rfl
theorem sh_t {n t : List UInt8} (h1 : iOf t.length > 65536) : shortWT n t = false := by
  unfold shortWT short iOf at *
  rw [decide_eq_false (p := t.length ≤ 65536) (by omega), Bool.and_false]
theorem disk_next {d : Disk} (h : diskOK d = true) : 1 ≤ d.2.2.2.1 ∧ d.2.2.2.1 ≤ 1000000 := by
  unfold diskOK at h
  simp only [Bool.and_eq_true] at h
  have h1 := h.1.1
  unfold badHead within at h1
  simp only [Bool.not_eq_true', Bool.or_eq_false_iff, Bool.not_eq_false', Bool.and_eq_true, decide_eq_true_eq] at h1
  omega
theorem full_a {b : List Slot} {a : List Inode} {c : List Slot} {d : Int} {n : List UInt8} (h1 : slotAt b n < 0) (h2 : iOf b.length = 24) : fullD (a, b, c, d, ()) n = true := by
  unfold fullD iOf at *
  rw [decide_eq_true (p := slotAt b n < 0) h1, decide_eq_true (p := (b.length : Int) = 24) h2]; rfl
theorem full_b {b : List Slot} {a : List Inode} {c : List Slot} {d : Int} {n : List UInt8} (h : d = 1000000) : fullD (a, b, c, d, ()) n = true := by
  unfold fullD
  rw [decide_eq_true (p := d = 1000000) h, Bool.or_true]
theorem full_no {b : List Slot} {a : List Inode} {c : List Slot} {d : Int} {n : List UInt8} (h : ¬ d = 1000000) (h2 : ¬ slotAt b n < 0 ∨ ¬ iOf b.length = 24) : fullD (a, b, c, d, ()) n = false := by
  unfold fullD iOf at *
  rw [decide_eq_false (p := d = 1000000) h, Bool.or_false]
  rcases h2 with h2 | h2
  · rw [decide_eq_false (p := slotAt b n < 0) h2]; rfl
  · rw [decide_eq_false (p := (b.length : Int) = 24) h2, Bool.and_false]
theorem r_code {d : Disk} {f t : List UInt8} {c : Int} (h : renameC d f t = c) (h0 : c ≠ 0) (h1 : c ≠ 1) (h2 : c ≠ 2) : d = renameD d f t ∧ c = renameC d f t := by
  unfold renameD
  rw [h, if_neg h0, if_neg h2, if_neg h1]
  exact ⟨rfl, rfl⟩
theorem r_two {d : Disk} {f t : List UInt8} (hs : shortWT f t = false) : zeroDisk = renameD d f t ∧ 2 = renameC d f t := by
  have h : renameC d f t = 2 := by unfold renameC; rw [if_pos hs]
  unfold renameD
  rw [h]; exact ⟨rfl, rfl⟩
theorem r_one {d : Disk} {f t : List UInt8} (hs : shortWT f t = true) (hd : diskOK d = false) : zeroDisk = renameD d f t ∧ 1 = renameC d f t := by
  have h : renameC d f t = 1 := by unfold renameC; rw [if_neg (by rw [hs]; exact fun e => Bool.noConfusion e), if_pos hd]
  unfold renameD
  rw [h]; exact ⟨rfl, rfl⟩
theorem r_c {d : Disk} {f t : List UInt8} (hs : shortWT f t = true) (hd : diskOK d = true) : renameC d f t = if nameOK t = false then 10 else if readB d f = false then 5 else 0 := by
  unfold renameC
  rw [if_neg (by rw [hs]; exact fun e => Bool.noConfusion e), if_neg (by rw [hd]; exact fun e => Bool.noConfusion e)]
theorem r_ten {d : Disk} {f t : List UInt8} (hs : shortWT f t = true) (hd : diskOK d = true) (hw : nameOK t = false) : d = renameD d f t ∧ 10 = renameC d f t :=
  r_code (by rw [r_c hs hd, if_pos hw]) (by decide) (by decide) (by decide)
theorem r_five {d : Disk} {f t : List UInt8} (hs : shortWT f t = true) (hd : diskOK d = true) (hw : nameOK t = true) (hr : readB d f = false) : d = renameD d f t ∧ 5 = renameC d f t :=
  r_code (by rw [r_c hs hd, if_neg (by rw [hw]; exact fun e => Bool.noConfusion e), if_pos hr]) (by decide) (by decide) (by decide)
theorem r_ok {d : Disk} {f t : List UInt8} (hs : shortWT f t = true) (hd : diskOK d = true) (hw : nameOK t = true) (hr : readB d f = true) : renamedD d f t = renameD d f t ∧ 0 = renameC d f t := by
  have h : renameC d f t = 0 := by rw [r_c hs hd, if_neg (by rw [hw]; exact fun e => Bool.noConfusion e), if_neg (by rw [hr]; exact fun e => Bool.noConfusion e)]
  unfold renameD
  rw [h]; exact ⟨rfl, rfl⟩
theorem drop_24 {b : List Slot} {n : List UInt8} (hb : b.length ≤ 24) : decide (iOf (drop n b).length = 24) = (decide (slotAt b n < 0) && decide (iOf b.length = 24)) := by
  by_cases h : slotAt b n < 0
  · rw [decide_eq_true h, Bool.true_and]
    have : ∀ x ∈ b, nameIs n x = false := by
      unfold slotAt idx at h
      split at h
      · exact absurd (Int.natCast_nonneg _) (Int.not_le.2 h)
      · rename_i hf
        exact fun x hx => List.findIdx?_eq_none_iff.1 hf x hx
    have e : drop n b = b := by
      unfold drop
      rw [List.filter_eq_self]
      intro x hx
      rw [this x hx]; rfl
    rw [e]
  · rw [decide_eq_false h, Bool.false_and]
    obtain ⟨k, x, e, hx, hp, _⟩ := idx_some (p := nameIs n) (xs := b) (fun e => h (by unfold slotAt; rw [e]; decide))
    have hlt : (drop n b).length < b.length := by
      unfold drop
      refine List.length_filter_lt_length_iff_exists.2 ⟨x, List.mem_of_getElem? hx, ?_⟩
      rw [hp]; simp
    exact decide_eq_false (by unfold iOf; omega)
theorem small_tidyL {a : List Inode} {b c : List Slot} {d : Int} (ha : a.length ≤ 2000000) (hb : b.length ≤ 2000000) (hc : c.length ≤ 2000000) : smallD (tidy (a, b, c, d, ())) := ⟨Nat.le_trans (List.length_filter_le _ _) ha, hb, hc⟩
theorem small_write {d : Disk} {n t : List UInt8} (h : smallD d) : smallD (writeD d n t) := by
  unfold writeD
  split
  · rename_i hc
    have hd : diskOK d = true := by
      unfold writeC at hc
      cases e : diskOK d with
      | true => rfl
      | false =>
        rw [e] at hc
        split at hc
        · cases hc
        · rw [if_pos rfl] at hc; cases hc
    have hl := disk_short hd
    obtain ⟨a, b, c, e, ⟨⟩⟩ := d
    have h1 : a.length ≤ 48 := hl.1
    have h2 : b.length ≤ 24 := hl.2.1
    have h3 : c.length ≤ 24 := hl.2.2
    have h4 := put_len (n, e, ()) b
    exact small_tidyL (by rw [List.length_append, List.length_cons, List.length_nil]; omega) (by show (put (n, e, ()) b).length ≤ _; omega) (by omega)
  · split
    · exact small_zero
    · split
      · exact small_zero
      · exact h
theorem small_rename {d : Disk} {f t : List UInt8} (h : smallD d) : smallD (renameD d f t) := by
  unfold renameD
  split
  · rename_i hc
    have hd : diskOK d = true := by
      unfold renameC at hc
      cases e : diskOK d with
      | true => rfl
      | false =>
        rw [e] at hc
        split at hc
        · cases hc
        · rw [if_pos rfl] at hc; cases hc
    have hl := disk_short hd
    obtain ⟨a, b, c, e, ⟨⟩⟩ := d
    have h1 : a.length ≤ 48 := hl.1
    have h2 : b.length ≤ 24 := hl.2.1
    have h3 : c.length ≤ 24 := hl.2.2
    have h4 := put_len (t, slotId b f, ()) (drop f b)
    have h5 : (drop f b).length ≤ b.length := List.length_filter_le _ _
    exact small_tidyL (by omega) (by show (put (t, slotId b f, ()) (drop f b)).length ≤ _; omega) (by omega)
  · split
    · exact small_zero
    · split
      · exact small_zero
      · exact h
theorem first3 (p q r : Bool) (a b c : Int) : first [.b p, .n a, .b q, .n b, .b r, .n c] = if p then a else if q then b else if r then c else 0 := rfl
def fullT (b : List Slot) (n : List UInt8) (d : Int) : Bool := decide (iOf (drop n b).length = 24) || decide (d = 1000000)
theorem full_t1 {b : List Slot} {n : List UInt8} {d : Int} (h : ¬ iOf (drop n b).length = 24) : (d == 1000000) = fullT b n d := by
  unfold fullT
  rw [decide_eq_false h, Bool.false_or, eqI_dec]
theorem full_t2 {b : List Slot} {n : List UInt8} {d : Int} (h : iOf (drop n b).length = 24) : true = fullT b n d := by
  unfold fullT
  rw [decide_eq_true h]; rfl
theorem full_eq {b : List Slot} {a : List Inode} {c : List Slot} {d : Int} {n : List UInt8} (h : diskOK (a, b, c, d, ()) = true) : fullT b n d = fullD (a, b, c, d, ()) n := by
  have h2 : b.length ≤ 24 := (disk_short h).2.1
  unfold fullT fullD
  rw [drop_24 h2]; rfl
theorem w_first {a : List Inode} {b c : List Slot} {d : Int} {n t : List UInt8} (hs : shortWT n t = true) (hd : diskOK (a, b, c, d, ()) = true) : first [.b (!(nameOK n)), .n 10, .b (decide (iOf t.length > 4096)), .n 8, .b (fullT b n d), .n 7] = writeC (a, b, c, d, ()) n t := by
  rw [first3, w_c hs hd, full_eq hd]
  cases nameOK n with
  | false => rfl
  | true =>
    by_cases h : iOf t.length > 4096
    · rw [decide_eq_true h, if_pos h]; rfl
    · rw [decide_eq_false h, if_neg h]
      cases fullD (a, b, c, d, ()) n <;> rfl
theorem w_no {d : Disk} {n t : List UInt8} (hs : shortWT n t = true) (hd : diskOK d = true) (h : ¬ writeC d n t = 0) : d = writeD d n t := by
  refine (w_code (c := writeC d n t) rfl h (fun e => ?_) fun e => ?_).1
  · rw [w_c hs hd] at e
    split at e
    · cases e
    · split at e
      · cases e
      · split at e <;> cases e
  · rw [w_c hs hd] at e
    split at e
    · cases e
    · split at e
      · cases e
      · split at e <;> cases e
theorem w_yes {d : Disk} {n t : List UInt8} (h : writeC d n t = 0) : wroteD d n t = writeD d n t := by unfold writeD; rw [if_pos h]
theorem w_two' {d : Disk} {n t : List UInt8} (h : ¬ first [.b (!(short n && short t)), .n 2, .b (!(diskOK d)), .n 1] = 0) : zeroDisk = writeD d n t ∧ first [.b (!(short n && short t)), .n 2, .b (!(diskOK d)), .n 1] = writeC d n t := by
  rw [first2] at h ⊢
  cases hs : short n && short t with
  | false => exact w_two hs
  | true =>
    rw [hs] at h
    cases hd : diskOK d with
    | false => exact w_one hs hd
    | true => rw [hd] at h; exact absurd rfl h
theorem w_good {d : Disk} {n t : List UInt8} (h : first [.b (!(short n && short t)), .n 2, .b (!(diskOK d)), .n 1] = 0) : shortWT n t = true ∧ diskOK d = true := by
  rw [first2] at h
  unfold shortWT
  cases hs : short n && short t with
  | false => rw [hs] at h; cases h
  | true =>
    rw [hs] at h
    cases hd : diskOK d with
    | false => rw [hd] at h; cases h
    | true => exact ⟨rfl, rfl⟩
theorem r_two' {d : Disk} {n t : List UInt8} (h : ¬ first [.b (!(short n && short t)), .n 2, .b (!(diskOK d)), .n 1] = 0) : zeroDisk = renameD d n t ∧ first [.b (!(short n && short t)), .n 2, .b (!(diskOK d)), .n 1] = renameC d n t := by
  rw [first2] at h ⊢
  cases hs : short n && short t with
  | false => exact r_two hs
  | true =>
    rw [hs] at h
    cases hd : diskOK d with
    | false => exact r_one hs hd
    | true => rw [hd] at h; exact absurd rfl h
theorem r_first {a : List Inode} {b c : List Slot} {d : Int} {f t : List UInt8} (hs : shortWT f t = true) (hd : diskOK (a, b, c, d, ()) = true) : first [.b (!(nameOK t)), .n 10, .b (decide (slotAt b f < 0)), .n 5] = renameC (a, b, c, d, ()) f t := by
  rw [first2, r_c hs hd]
  cases nameOK t with
  | false => rfl
  | true =>
    by_cases h : slotAt b f < 0
    · have e : readB (a, b, c, d, ()) f = false := by unfold readB; exact decide_eq_false (fun hn => hn h)
      rw [decide_eq_true h, e]; rfl
    · have e : readB (a, b, c, d, ()) f = true := by unfold readB; exact decide_eq_true h
      rw [decide_eq_false h, e]; rfl
theorem r_no {d : Disk} {f t : List UInt8} (hs : shortWT f t = true) (hd : diskOK d = true) (h : ¬ renameC d f t = 0) : d = renameD d f t := by
  refine (r_code (c := renameC d f t) rfl h (fun e => ?_) fun e => ?_).1
  · rw [r_c hs hd] at e
    split at e
    · cases e
    · split at e <;> cases e
  · rw [r_c hs hd] at e
    split at e
    · cases e
    · split at e <;> cases e
theorem r_yes {d : Disk} {f t : List UInt8} (h : renameC d f t = 0) : renamedD d f t = renameD d f t := by unfold renameD; rw [if_pos h]
end Go.Fn
namespace Go.Fn
open Go.Ab
def compactL : List (List UInt8) → List (List UInt8)
  | [] => []
  | x :: r => match compactL r with
    | [] => [x]
    | y :: q => if x = y then y :: q else x :: y :: q
def ltT (a b : List UInt8) : Bool := Op.bytesLess a b
def SortedT (l : List (List UInt8)) : Prop := l.Pairwise (fun a b => ltT a b = true)
def WeakT (l : List (List UInt8)) : Prop := l.Pairwise (fun a b => ltT b a = false)
theorem compact_mem {x : List UInt8} : ∀ {l : List (List UInt8)}, x ∈ compactL l ↔ x ∈ l
  | [] => by simp [compactL]
  | y :: r => by
    have ih := compact_mem (x := x) (l := r)
    unfold compactL
    split
    · rename_i h
      rw [h] at ih
      have hr : ¬ x ∈ r := fun hx => by simpa using ih.2 hx
      simp [hr]
    · rename_i z q h
      rw [h] at ih
      split
      · rename_i he
        subst he
        rw [ih]
        constructor
        · intro hx; exact List.mem_cons_of_mem _ hx
        · intro hx
          rcases List.mem_cons.1 hx with rfl | hx
          · exact ih.1 List.mem_cons_self
          · exact hx
      · rw [List.mem_cons, ih, List.mem_cons]
theorem compact_sorted : ∀ {l : List (List UInt8)}, WeakT l → SortedT (compactL l)
  | [], _ => by simp [compactL, SortedT]
  | y :: r, h => by
    unfold WeakT at h
    rw [List.pairwise_cons] at h
    have ih := compact_sorted h.2
    unfold compactL
    split
    · simp [SortedT]
    · rename_i z q hc
      rw [hc] at ih
      split
      · exact ih
      · rename_i hne
        refine List.pairwise_cons.2 ⟨fun x hx => ?_, ih⟩
        have hz : z ∈ r := compact_mem.1 (by rw [hc]; exact List.mem_cons_self)
        have hyz : ltT y z = true := bl_flip (h.1 z hz) (fun e => hne e.symm)
        rcases List.mem_cons.1 hx with rfl | hx
        · exact hyz
        · exact bl_trans hyz ((List.pairwise_cons.1 ih).1 x hx)
theorem compact_len : ∀ l : List (List UInt8), (compactL l).length ≤ l.length
  | [] => Nat.le_refl _
  | y :: r => by
    have ih := compact_len r
    unfold compactL
    split
    · simp
    · rename_i z q hc
      rw [hc] at ih
      split
      · simp only [List.length_cons] at ih ⊢; omega
      · simp only [List.length_cons] at ih ⊢; omega
theorem sortedT_nodup {l : List (List UInt8)} (h : SortedT l) : l.Nodup := List.Pairwise.imp (fun h => bl_ne h) h
theorem sortedT_weak {l : List (List UInt8)} (h : SortedT l) : WeakT l := List.Pairwise.imp (fun h => bl_asymm h) h
theorem sortedT_ext {a b : List (List UInt8)} (ha : SortedT a) (hb : SortedT b) (h : ∀ x, x ∈ a ↔ x ∈ b) : a = b :=
  sorted_eq (lt := ltT) (fun _ _ h => bl_asymm h) ((List.perm_ext_iff_of_nodup (sortedT_nodup ha) (sortedT_nodup hb)).2 h) hb (sortedT_weak ha)
theorem compact_cons (y : List UInt8) (r : List (List UInt8)) : compactL (y :: r) = (match compactL r with | [] => [y] | z :: q => if y = z then z :: q else y :: z :: q) := rfl
theorem compact_same : ∀ {l : List (List UInt8)}, (compactL l).length = l.length → compactL l = l
  | [], _ => rfl
  | y :: r, h => by
    have hl := compact_len r
    rw [compact_cons] at h ⊢
    cases hc : compactL r with
    | nil =>
      rw [hc] at h
      simp only [List.length_cons, List.length_nil] at h
      rw [List.eq_nil_of_length_eq_zero (l := r) (by omega)]
    | cons z q =>
      rw [hc] at h hl
      simp only at h ⊢
      by_cases hne : y = z
      · rw [if_pos hne] at h
        simp only [List.length_cons] at h hl; omega
      · rw [if_neg hne] at h ⊢
        have hr := compact_same (l := r) (by rw [hc]; simp only [List.length_cons] at h ⊢; omega)
        rw [hc] at hr
        rw [hr]
theorem compact_nodup {l : List (List UInt8)} (h : WeakT l) : (compactL l).length = l.length ↔ l.Nodup := by
  constructor
  · intro he
    have hs := compact_sorted h
    rw [compact_same he] at hs
    exact sortedT_nodup hs
  · intro hn
    have := (List.perm_ext_iff_of_nodup (sortedT_nodup (compact_sorted h)) hn).2 (fun x => compact_mem)
    exact this.length_eq
theorem compact_ne {w : List UInt8} {r : List (List UInt8)} : ∃ q, compactL (w :: r) = w :: q := by
  rw [compact_cons]
  cases hc : compactL r with
  | nil => exact ⟨[], rfl⟩
  | cons z q =>
    simp only
    by_cases h : w = z
    · rw [if_pos h, h]; exact ⟨q, rfl⟩
    · rw [if_neg h]; exact ⟨z :: q, rfl⟩
theorem compact_snoc {x y : List UInt8} : ∀ {l : List (List UInt8)}, l.getLast? = some y → compactL (l ++ [x]) = if y = x then compactL l else compactL l ++ [x]
  | [], h => by simp at h
  | [z], h => by
    simp only [List.getLast?_singleton, Option.some.injEq] at h
    subst h
    show compactL [z, x] = _
    rw [compact_cons]
    show (if z = x then [x] else [z, x]) = if z = x then [z] else [z] ++ [x]
    by_cases h : z = x
    · rw [if_pos h, if_pos h, h]
    · rw [if_neg h, if_neg h]; rfl
  | z :: w :: r, h => by
    have h' : (w :: r).getLast? = some y := by rw [List.getLast?_cons_cons] at h; exact h
    have ih := compact_snoc (x := x) h'
    obtain ⟨q, hq⟩ := compact_ne (w := w) (r := r)
    show compactL (z :: (w :: r ++ [x])) = _
    rw [compact_cons z (w :: r ++ [x]), ih, compact_cons z (w :: r), hq]
    by_cases hy : y = x
    · rw [if_pos hy, if_pos hy]
    · rw [if_neg hy, if_neg hy]
      show (if z = w then w :: (q ++ [x]) else z :: w :: (q ++ [x])) = (if z = w then w :: q else z :: w :: q) ++ [x]
      by_cases hz : z = w
      · rw [if_pos hz, if_pos hz]; rfl
      · rw [if_neg hz, if_neg hz]; rfl
theorem take_last {l : List (List UInt8)} {k : Nat} {y : List UInt8} (hk : 0 < k) (hy : l[k - 1]? = some y) : (l.take k).getLast? = some y := by
  have hl := (List.getElem?_eq_some_iff.1 hy).1
  rw [List.getLast?_eq_getElem?, List.length_take, Nat.min_eq_left (by omega), List.getElem?_take_of_lt (by omega), hy]
theorem compact_take {l : List (List UInt8)} {k : Nat} {x y : List UInt8} (hk : 0 < k) (hy : l[k - 1]? = some y) (hx : l[k]? = some x) : compactL (l.take (k + 1)) = if y = x then compactL (l.take k) else compactL (l.take k) ++ [x] := by
  have e : l.take (k + 1) = l.take k ++ [x] := by rw [List.take_add_one, hx]; rfl
  rw [e]
  exact compact_snoc (take_last hk hy)
def Comp1 (l : List (List UInt8)) (k : Nat) : Prop := 0 < k ∧ k ≤ l.length ∧ compactL (l.take k) = l.take k
theorem comp1_start {l : List (List UInt8)} (h : ¬ iOf l.length < 2) : Comp1 l 1 := by
  unfold iOf at h
  refine ⟨Nat.one_pos, by omega, ?_⟩
  cases l with
  | nil => rfl
  | cons a r => rfl
theorem comp1_step {l : List (List UInt8)} {k : Nat} {x y : List UInt8} (h : Comp1 l k) (hx : l[k]? = some x) (hy : l[k - 1]? = some y) (hn : ¬ x = y) : Comp1 l (k + 1) := by
  refine ⟨Nat.succ_pos _, (List.getElem?_eq_some_iff.1 hx).1, ?_⟩
  rw [compact_take h.1 hy hx, if_neg (fun e => hn e.symm), h.2.2, List.take_add_one, hx]; rfl
theorem comp1_end {l : List (List UInt8)} {k : Nat} (h : Comp1 l k) (he : ¬ k < l.length) : l = compactL l := by
  have := h.2.2
  rw [List.take_of_length_le (by omega)] at this
  exact this.symm
theorem comp_small {l : List (List UInt8)} (h : iOf l.length < 2) : l = compactL l := by
  unfold iOf at h
  match l, h with
  | [], _ => rfl
  | [a], _ => rfl
  | a :: b :: r, h => simp at h; omega
def Comp2 (l : List (List UInt8)) (k0 : Nat) (k k2 : Nat) (cur : List (List UInt8)) : Prop :=
  0 < k2 ∧ k0 + k2 ≤ l.length ∧ cur.length = l.length ∧ k + 1 ≤ k0 + k2 ∧ 0 < k ∧ cur.take k = compactL (l.take (k0 + k2)) ∧ cur.drop (k0 + k2 - 1) = l.drop (k0 + k2 - 1)
theorem comp2_start {l : List (List UInt8)} {k : Nat} {x y : List UInt8} (h : Comp1 l k) (hx : l[k]? = some x) (hy : l[k - 1]? = some y) (hn : x = y) : Comp2 l k k 1 l := by
  refine ⟨Nat.one_pos, (List.getElem?_eq_some_iff.1 hx).1, rfl, by omega, h.1, ?_, rfl⟩
  rw [compact_take h.1 hy hx, if_pos hn.symm, h.2.2]
theorem comp2_read {l cur : List (List UInt8)} {k0 k k2 j : Nat} (h : Comp2 l k0 k k2 cur) (hj : k0 + k2 - 1 ≤ j) : cur[j]? = l[j]? := by
  have e := h.2.2.2.2.2.2
  have h1 : (cur.drop (k0 + k2 - 1))[j - (k0 + k2 - 1)]? = (l.drop (k0 + k2 - 1))[j - (k0 + k2 - 1)]? := by rw [e]
  rw [List.getElem?_drop, List.getElem?_drop, show k0 + k2 - 1 + (j - (k0 + k2 - 1)) = j by omega] at h1
  exact h1
theorem comp2_drop {l cur : List (List UInt8)} {k0 k2 i : Nat} (e : cur.drop (k0 + k2 - 1) = l.drop (k0 + k2 - 1)) (hi : k0 + k2 - 1 ≤ i) : cur.drop i = l.drop i := by
  have : (cur.drop (k0 + k2 - 1)).drop (i - (k0 + k2 - 1)) = (l.drop (k0 + k2 - 1)).drop (i - (k0 + k2 - 1)) := by rw [e]
  rw [List.drop_drop, List.drop_drop, show k0 + k2 - 1 + (i - (k0 + k2 - 1)) = i by omega] at this
  exact this
theorem comp2_skip {l cur : List (List UInt8)} {k0 k k2 : Nat} {x y : List UInt8} (h : Comp2 l k0 k k2 cur) (hx : l[k0 + k2]? = some x) (hy : l[k0 + k2 - 1]? = some y) (hn : x = y) : Comp2 l k0 k (k2 + 1) cur := by
  obtain ⟨h1, h2, h3, h4, h5, h6, h7⟩ := h
  refine ⟨Nat.succ_pos _, (List.getElem?_eq_some_iff.1 hx).1, h3, by omega, h5, ?_, comp2_drop h7 (by omega)⟩
  rw [show k0 + (k2 + 1) = k0 + k2 + 1 by omega, compact_take (by omega) hy hx, if_pos hn.symm, h6]
theorem comp2_put {l cur : List (List UInt8)} {k0 k k2 : Nat} {x y : List UInt8} (h : Comp2 l k0 k k2 cur) (hx : l[k0 + k2]? = some x) (hy : l[k0 + k2 - 1]? = some y) (hn : ¬ x = y) : Comp2 l k0 (k + 1) (k2 + 1) (cur.set k x) := by
  obtain ⟨h1, h2, h3, h4, h5, h6, h7⟩ := h
  have hlt := (List.getElem?_eq_some_iff.1 hx).1
  refine ⟨Nat.succ_pos _, hlt, by rw [List.length_set]; exact h3, by omega, Nat.succ_pos _, ?_, ?_⟩
  · rw [show k0 + (k2 + 1) = k0 + k2 + 1 by omega, compact_take (by omega) hy hx, if_neg (fun e => hn e.symm), ← h6, List.take_add_one, List.take_set_of_le (Nat.le_refl _), List.getElem?_set_self (by omega)]; rfl
  · rw [List.drop_set_of_lt (by omega)]
    exact comp2_drop h7 (by omega)
theorem comp2_end {l cur : List (List UInt8)} {k0 k k2 : Nat} (h : Comp2 l k0 k k2 cur) (he : ¬ k0 + k2 < l.length) : cur.take k = compactL l := by
  have h6 := h.2.2.2.2.2.1
  have h2 := h.2.1
  rw [List.take_of_length_le (l := l) (by omega)] at h6
  exact h6
theorem comp2_sub {l cur : List (List UInt8)} {k0 k k2 : Nat} (h : Comp2 l k0 k k2 cur) (he : ¬ k0 + k2 < l.length) (hi : Nat) (ys : List (List UInt8)) : subL (copyL cur k hi ys) 0 k = compactL l := by
  have h2 := h.2.1
  have h3 := h.2.2.1
  have h4 := h.2.2.2.1
  unfold subL
  rw [List.drop_zero, copyL_take _ _ _ _ (by omega), comp2_end h he]
end Go.Fn
namespace Go.Ab
open Go.Sort
theorem flat_at {t : Ty} [Inhabited t.den] {ys : List t.den} (ht : flatB t = true) {k j : Nat} {x : t.den} (hx : ys[k]? = some x) (hj : j < t.size) : (flatK (cellsV t) t.size ys.toArray)[k * t.size + j]? = (cellsV t x)[j]? := by
  obtain ⟨hk, hx⟩ := List.getElem?_eq_some_iff.1 hx
  have hpos : 0 < t.size := by omega
  have hlt : k * t.size + j < ys.toArray.size * t.size := by
    have h1 : (k + 1) * t.size ≤ ys.length * t.size := Nat.mul_le_mul_right _ hk
    rw [Nat.add_mul, Nat.one_mul] at h1
    have h2 : ys.toArray.size = ys.length := by simp
    rw [h2]; omega
  have hg := get_flatK (cellsV t) t.size ys.toArray _ hlt
  have e1 : (k * t.size + j) / t.size = k := by rw [Nat.add_comm, Nat.add_mul_div_right _ _ hpos, Nat.div_eq_of_lt hj, Nat.zero_add]
  have e2 : (k * t.size + j) % t.size = j := by rw [Nat.add_comm, Nat.add_mul_mod_self_right, Nat.mod_eq_of_lt hj]
  rw [e1, e2] at hg
  have e3 : ys.toArray[k]! = x := by
    rw [getElem!_pos ys.toArray k (by simpa using hk)]
    simpa using hx
  rw [e3] at hg
  have hs : k * t.size + j < (flatK (cellsV t) t.size ys.toArray).size := by rw [size_flatK]; exact hlt
  have hl : j < (cellsV t x).length := by rw [cellsV_len ht]; exact hj
  rw [getElem!_pos (flatK (cellsV t) t.size ys.toArray) _ hs, getElem!_pos (cellsV t x) _ hl] at hg
  rw [Array.getElem?_eq_getElem hs, List.getElem?_eq_getElem hl, hg]
theorem flat_holds {t : Ty} [Inhabited t.den] {xs : List t.den} (ht : flatB t = true) {w : World} {b : Nat} {cs : List Value} {e : TypeId} (hb : w.heap[b]? = some (.cells cs.toArray e (0, 0)))
    (hr : ∀ (k : Nat) x, xs[k]? = some x → (cs.drop (k * t.size)).take t.size = cellsV t x) : Sort.Holds id w b 0 (flatK (cellsV t) t.size xs.toArray) := by
  intro q hq
  rw [size_flatK] at hq
  have hpos : 0 < t.size := by
    rcases Nat.eq_zero_or_pos t.size with h | h
    · rw [h] at hq; omega
    · exact h
  have hk : q / t.size < xs.length := by
    have : q / t.size < xs.toArray.size := Nat.div_lt_of_lt_mul (by rw [Nat.mul_comm]; exact hq)
    simpa using this
  have hx := List.getElem?_eq_getElem hk
  have hm : q % t.size < t.size := Nat.mod_lt _ hpos
  have hf := flat_at ht hx hm
  have eq : q / t.size * t.size + q % t.size = q := by rw [Nat.mul_comm]; exact Nat.div_add_mod q t.size
  rw [eq] at hf
  have hc := hr _ _ hx
  have hcq : cs[q]? = (cellsV t xs[q / t.size])[q % t.size]? := by
    rw [← hc, List.getElem?_take_of_lt hm, List.getElem?_drop, eq]
  have hs : q < (flatK (cellsV t) t.size xs.toArray).size := by rw [size_flatK]; exact hq
  have e1 : cs[q]? = some ((flatK (cellsV t) t.size xs.toArray)[q]!) := by
    rw [hcq, ← hf, getElem!_pos (flatK (cellsV t) t.size xs.toArray) _ hs, Array.getElem?_eq_getElem hs]
  refine ⟨?_, ?_⟩
  · simp only [World.cell?, Nat.zero_add, hb, Option.isSome_none, Bool.false_eq_true, if_false, List.getElem?_toArray, id]
    exact e1
  · simp [World.frozen?, hb]
theorem flat_rows {t : Ty} [Inhabited t.den] {ys : List t.den} (ht : flatB t = true) (r : List Value) {k : Nat} {x : t.den} (hx : ys[k]? = some x) : (((flatK (cellsV t) t.size ys.toArray).toList ++ r).drop (k * t.size)).take t.size = cellsV t x := by
  refine chunk_at (cellsV_len ht) fun j hj => ?_
  have hf := flat_at ht hx hj
  have hlt : k * t.size + j < (flatK (cellsV t) t.size ys.toArray).toList.length := by
    have hl : j < (cellsV t x).length := by rw [cellsV_len ht]; exact hj
    rw [List.getElem?_eq_getElem hl] at hf
    have := (Array.getElem?_eq_some_iff.1 hf).1
    simpa using this
  rw [List.getElem?_append_left hlt, Array.getElem?_toList, hf]
theorem sorted_list {α : Type} [Inhabited α] {lt : α → α → Bool} {d d' : Array α} (hp : PermIn 0 d.size d d') (hs : SortedIn lt 0 d.size d') : d'.toList.Perm d.toList ∧ d'.toList.Pairwise (fun a b => lt b a = false) := by
  obtain ⟨h1, _, h3⟩ := hp
  have e1 : d'.extract 0 d.size = d' := by rw [← h1]; simp
  have e2 : d.extract 0 d.size = d := by simp
  rw [e1, e2] at h3
  refine ⟨h3, ?_⟩
  rw [List.pairwise_iff_getElem]
  intro i j hi hj hij
  have hj' : j < d'.size := by simpa using hj
  have := hs i j (Nat.zero_le _) hij (by omega)
  rw [getElem!_pos d' j hj', getElem!_pos d' i (by omega)] at this
  simpa using this
theorem sorted_row {t : Ty} [Inhabited t.den] {ys xs : List t.den} (ht : flatB t = true) {w : World} {b : Nat} {cs : List Value} {e : TypeId} (hb : w.heap[b]? = some (.cells cs.toArray e (0, 0))) (hlen : ys.length = xs.length) {cap : Nat} (hcs : cs.length = cap * t.size) (hcap : xs.length ≤ cap) (n : Nat) (os : Array _root_.Go.Obj) :
    ∃ cs' : List Value, cs'.length = cs.length ∧ (∀ (k : Nat) x, ys[k]? = some x → (cs'.drop (k * t.size)).take t.size = cellsV t x) ∧ grow (putRow id (Sort.ahead w n) b 0 (flatK (cellsV t) t.size ys.toArray)) os = grow (Sort.ahead (w.setRow b cs'.toArray) n) os := by
  have hF : (flatK (cellsV t) t.size ys.toArray).size ≤ cs.length := by
    rw [size_flatK, hcs]
    have : ys.toArray.size = xs.length := by simpa using hlen
    rw [this]
    exact Nat.mul_le_mul_right _ hcap
  refine ⟨(flatK (cellsV t) t.size ys.toArray).toList ++ cs.drop (flatK (cellsV t) t.size ys.toArray).size, ?_, fun k x hx => flat_rows ht _ hx, ?_⟩
  · rw [List.length_append, List.length_drop, Array.length_toList]; omega
  · rw [putRow_ahead, row_set hb hF]
end Go.Ab
namespace Go.Ab
open Go.Sort
def cutT (t : Ty) (fn : List t.den → List t.den) : Inl := fun s args K =>
  match args with
  | [.os i] => (match s.heap i with
    | some (.arr u xs false) => match castTy (.slice u) (.slice t) xs with
      | some xs => K ((s.kill i).setObj i (some (.arr t (fn xs) false))) [.os i]
      | none => False
    | _ => False)
  | _ => False
theorem cutOK {P : Program} {E : Env} {f : Nat} {t : Ty} {fn : List t.den → List t.den} (ht : flatB t = true) (hE : Enters P f) (hlen : ∀ xs, (fn xs).length ≤ xs.length) (hmem : ∀ xs x, x ∈ fn xs → x ∈ xs)
    (h0 : ∀ ad w, Calls P f [.slice ad 0 0].toArray w fun e w' => e = .returned (.slice ad 0 0) ∧ w' = w)
    (hc : ∀ (w : World) (b cap : Nat) (cs : List Value) (e : TypeId) (xs : List t.den), w.heap[b]? = some (.cells cs.toArray e (0, 0)) → cs.length = cap * t.size → xs.length ≤ cap → xs.length < lim →
      (∀ (k : Nat) x, xs[k]? = some x → (cs.drop (k * t.size)).take t.size = cellsV t x) →
      Calls P f [.slice (some ⟨b, 0, none⟩) xs.length cap].toArray w fun e' w' => e' = .returned (.slice (some ⟨b, 0, none⟩) (fn xs).length cap) ∧ ∃ (cs' : List Value) (n : Nat) (os : Array _root_.Go.Obj),
        cs'.length = cs.length ∧ (∀ (k : Nat) x, (fn xs)[k]? = some x → (cs'.drop (k * t.size)).take t.size = cellsV t x) ∧ w' = Sort.grow (Sort.ahead (w.setRow b cs'.toArray) n) os) :
    InlOK P E f (cutT t fn) := by
  refine .inl ⟨hE, fun {G s a w m args vals K} hP hEq h hv hk => ?_⟩
  unfold cutT at hk
  split at hk
  · rename_i i
    split at hk
    · rename_i u xs0 hi
      split at hk
      · rename_i xs hcast
        unfold castTy at hcast
        split at hcast
        · rename_i e
          injection e with e
          subst e
          cases hcast
          obtain ⟨v, q, rfl, hv1, hv2⟩ := hv
          obtain rfl : q = [] := hv2
          obtain ⟨hin, hvm, _⟩ := hv1
          obtain ⟨ad, n, cap, hm, hn, hcap, hl, hr⟩ := (h.heap i _ hi).2
          have hvm : v = m i := hvm
          have hm : m i = .slice ad n cap := hm
          have hn : n = List.length xs0 := hn
          subst hn
          have fin : ∀ (w' : World) (v' : Value), (∃ av cv, v' = .slice av (fn xs0).length cv) → Keep (fun b => blk (m i) = some b) w w' → (∀ b, blk v' = some b → blk (m i) = some b) →
              (LeX i (G.rc s.objs m w) (G.rc (renewed s.objs i (some (.arr u (fn xs0) false))) (upd1 m i v') w') → ORel (G.rc (renewed s.objs i (some (.arr u (fn xs0) false))) (upd1 m i v') w') v' (.arr u (fn xs0) false)) →
              ∃ s' m' rs rvals, Ending.returned v' = .returned (retVal rvals) ∧ K s' rs ∧ Holds G s' a w' m' ∧ VRelL (G.rc s'.objs m' w') rs rvals := fun w' v' hv' hkeep hb hrel => by
            obtain ⟨h1, h2⟩ := h.o.renew (heap_get hi) v' (some (.arr u (fn xs0) false)) hkeep (fun p b _ hh => .inl (hb b hh)) (fun p hh _ hf => by cases hh; cases hf) (fun hle p hp => by cases hp; exact hrel hle)
            refine ⟨_, upd1 m i v', [.os i], [v'], rfl, hk, { o := h1, tmps := h.tmps.killed h2, defers := h.defers, kp := h.kp.killed h2 }, v', [], rfl, ⟨?_, ?_, ?_⟩, rfl⟩
            · have := get_lt (heap_get hi)
              simpa [Ctx.rc, St.setObj, St.kill] using this
            · simp [Ctx.rc]
            · obtain ⟨av, cv, e⟩ := hv'
              exact ⟨av, _, cv, e⟩
          rcases Nat.eq_zero_or_pos cap with h0c | hpos
          · subst h0c
            have hx : List.length xs0 = 0 := Nat.le_zero.1 hcap
            have hf0 : (fn xs0).length = 0 := Nat.le_zero.1 (hx ▸ hlen xs0)
            rw [hvm, hm, hx]
            refine Calls.mono (h0 ad w) fun e w' he => ?_
            obtain ⟨rfl, rfl⟩ := he
            refine fin _ (.slice ad 0 0) ⟨ad, 0, by rw [hf0]⟩ (Keep.refl _ _) (fun b hb => by cases ad <;> simp [blk] at hb) fun hle => ?_
            exact ⟨ad, 0, 0, rfl, hf0.symm, Nat.le_refl _, by unfold lim; decide, .inl rfl⟩
          · rcases hr with hr | ⟨b, cs, e', rfl, hb, hvl, hcm, hrep⟩
            · omega
            rw [hvm, hm]
            have hrep' : ∀ (k : Nat) x, xs0[k]? = some x → (cs.drop (k * u.size)).take u.size = cellsV u x ∧ smallV u x := fun k x hx => rep_flat ht (hrep k x hx)
            refine Calls.mono (hc w b cap cs e' xs0 hb hvl hcap hl (fun k x hx => (hrep' k x hx).1)) fun e w' he => ?_
            obtain ⟨rfl, cs', nn, os, hlen', hrows, rfl⟩ := he
            refine fin _ _ ⟨_, cap, rfl⟩ (keep_sorted.weaken fun k _ e => by subst e; rw [hm]; simp [blk]; omega) (fun k hk => (congrArg blk hm).trans hk) fun hle => ?_
            have hll := hlen xs0
            refine ⟨_, _, cap, rfl, rfl, by omega, by omega, .inr ⟨b, cs', e', rfl, ?_, by rw [hlen']; exact hvl, hcm, fun k x hx => ?_⟩⟩
            · show (Array.append (w.setRow b cs'.toArray).heap os)[b]? = _
              have hs := setRow_heap w b cs.toArray cs'.toArray e' (0, 0) hb
              have hlt : b < (w.setRow b cs'.toArray).heap.size := (Array.getElem?_eq_some_iff.1 hs).1
              exact (Array.getElem?_append_left hlt).trans hs
            · rw [hrows k x hx]
              refine flat_rep ht ?_
              obtain ⟨j, hj⟩ := List.mem_iff_getElem?.1 (hmem _ _ (List.mem_of_getElem? hx))
              exact (hrep' j x hj).2
        · cases hcast
      · cases hk
    · cases hk
  · cases hk
end Go.Ab
namespace Go.Proofs.YtjkipndhdemnoaaGreatDoor
open Go.Ab Go.Fn
theorem putRow_map {α : Type} [Inhabited α] (enc : α → Value) (w : World) (b off : Nat) (d : Array α) : Go.Sort.putRow enc w b off d = Go.Sort.putRow id w b off (d.map enc) := by
  unfold Go.Sort.putRow
  refine Go.Sort.mapBlock_congr _ _ _ _ fun c e fr _ => ?_
  apply Array.ext_getElem?
  intro k
  simp only [Go.Sort.putCells, Array.getElem?_mapIdx, Array.size_map, id]
  cases c[k]? with
  | none => rfl
  | some y =>
    simp only [Option.map_some]
    by_cases h : off ≤ k ∧ k < off + d.size
    · rw [if_pos h, if_pos h]
      have hk : k - off < d.size := by omega
      rw [getElem!_pos d _ hk, getElem!_pos (d.map enc) _ (by simpa using hk), Array.getElem_map]
    · rw [if_neg h, if_neg h]
theorem flat_str (d : Array (List UInt8)) : Go.Sort.flatK (cellsV .str) 1 d = d.map (fun s => Value.string ⟨s.toArray⟩) := by
  apply Array.ext
  · simp
  · intro i h1 h2
    have hi : i < d.size := by simpa using h2
    rw [← getElem!_pos (Go.Sort.flatK (cellsV .str) 1 d) i h1, Go.Sort.get_flatK _ _ _ _ (by simpa using hi), Nat.div_one, Nat.mod_one, Array.getElem_map, getElem!_pos d i hi]
    rfl
theorem le_bl (x y : List UInt8) : decide (x ≤ y) = !(Op.bytesLess y x) := by
  rw [bytesLess_eq]
  by_cases h : y < x
  · rw [decide_eq_true h, decide_eq_false (fun hn => hn h)]; rfl
  · rw [decide_eq_false h, decide_eq_true (p := x ≤ y) h]; rfl
theorem merge_weak (xs : List (List UInt8)) : (xs.mergeSort fun x y => decide (x ≤ y)).Pairwise (fun a b => Fn.ltT b a = false) := by
  have h := List.pairwise_mergeSort (le := fun x y : List UInt8 => decide (x ≤ y)) (fun a b c h1 h2 => by
    simp only [le_bl, Bool.not_eq_true'] at h1 h2 ⊢
    cases h : Op.bytesLess c a with
    | false => rfl
    | true =>
      by_cases e : b = a
      · subst e; rw [h] at h2; cases h2
      · have h3 : Op.bytesLess a b = true := bl_flip h1 e
        rw [bl_trans h h3] at h2; cases h2) (fun a b => by
    simp only [le_bl]
    cases h : Op.bytesLess b a with
    | false => rfl
    | true => rw [bl_asymm h]; rfl) xs
  refine List.Pairwise.imp (fun {a b} h => ?_) h
  simp only [le_bl, Bool.not_eq_true'] at h
  exact h
theorem hold_str {w : World} {b : Nat} {cs : List Value} {e : TypeId} {xs : List (List UInt8)} (hb : w.heap[b]? = some (.cells cs.toArray e (0, 0))) (hr : ∀ (k : Nat) x, xs[k]? = some x → (cs.drop (k * 1)).take 1 = cellsV .str x) : Go.Sort.Holds Go.Proofs.encStr w b 0 xs.toArray := fun j hj => by
  have hH0 : Go.Sort.Holds id w b 0 (Go.Sort.flatK (cellsV .str) 1 xs.toArray) := flat_holds (t := .str) rfl hb hr
  rw [flat_str] at hH0
  have := hH0 j (by simpa using hj)
  rw [getElem!_pos (xs.toArray.map _) j (by simpa using hj), Array.getElem_map] at this
  rw [getElem!_pos xs.toArray j hj]
  exact this
def i_SortStr : Inl := sortT .str Fn.ltT []
theorem in_SortStr : InO 138 i_SortStr := fun s c i => sortOK (exs := []) rfl ⟨_, Tryz.func138, rfl, rfl⟩
  (fun c vs h => h)
  (fun ad w => AnyM.slices_Sort_string_none Tryz.sortStr ad 0 w)
  (fun w b cap cs e xs hb hcs hcap hl hr hsm => by
    have hH := hold_str hb hr
    have hblk : b < w.heap.size := (Array.getElem?_eq_some_iff.1 hb).1
    have hsz : xs.length < 4611686018427387904 := by unfold lim at hl; omega
    have hcon := AnyM.slices_Sort_string Tryz.sortStr b 0 cap xs w hH hblk hsz
    refine Calls.mono hcon fun e' w' he => ?_
    obtain ⟨he, n, os, hw⟩ := he
    have hperm := List.mergeSort_perm xs (fun x y => decide (x ≤ y))
    obtain ⟨cs', hl', hr', hw'⟩ := sorted_row (t := .str) (ys := xs.mergeSort fun x y => decide (x ≤ y)) (xs := xs) rfl hb hperm.length_eq hcs hcap n os
    refine ⟨he, _, cs', n, os, hperm, merge_weak xs, hl', hr', ?_⟩
    rw [hw, putRow_map, ← hw']
    show _ = Go.Sort.grow (Go.Sort.putRow id (Go.Sort.ahead w n) b 0 (Go.Sort.flatK (cellsV .str) 1 _)) os
    rw [flat_str])
end Go.Proofs.YtjkipndhdemnoaaGreatDoor
namespace Go.Proofs.YtjkipndhdemnoaaGreatDoor
open Go.Ab Go.Fn
theorem comp_upto (l : List (List UInt8)) : ∀ k, k ≤ l.length → Go.Lib.compactUpTo l.toArray k = Fn.compactL (l.take k)
  | 0, _ => rfl
  | k + 1, hk => by
    rw [Go.Lib.compactUpTo_succ, comp_upto l k (by omega)]
    have hx := List.getElem?_eq_getElem (show k < l.length by omega)
    have hxe : l.toArray[k]! = l[k] := by rw [getElem!_pos l.toArray k (by simp; omega)]; simp
    rcases Nat.eq_zero_or_pos k with h0 | h0
    · subst h0
      rw [Go.Lib.keeps_lt_one _ 0 Nat.one_pos, if_pos rfl, hxe, List.take_add_one, hx]; rfl
    · have hy := List.getElem?_eq_getElem (show k - 1 < l.length by omega)
      have hye : l.toArray[k - 1]! = l[k - 1] := by rw [getElem!_pos l.toArray (k - 1) (by simp; omega)]; simp
      rw [compact_take h0 hy hx]
      by_cases he : l[k - 1] = l[k]
      · rw [Go.Lib.keeps_neg h0 (by rw [hxe, hye, he]), if_pos he]; simp
      · rw [Go.Lib.keeps_pos (by rw [hxe, hye]; exact fun e => he e.symm), if_neg he, if_pos rfl, hxe]
theorem lib_compact (l : List (List UInt8)) : Go.Lib.compact l = Fn.compactL l := by
  unfold Go.Lib.compact
  rw [comp_upto l l.length (Nat.le_refl _), List.take_length]
def i_CompStr : Inl := cutT .str Fn.compactL
theorem in_CompStr : InO 139 i_CompStr := fun s c i => cutOK rfl ⟨_, Tryz.func139, rfl, rfl⟩
  (fun xs => compact_len xs) (fun xs x hx => compact_mem.1 hx)
  (fun ad w => AnyG.slices_Compact_string_empty Tryz.compStr ad 0 w)
  (fun w b cap cs e xs hb hcs hcap hl hr => by
    have hH := hold_str hb hr
    have hcon := AnyG.slices_Compact_string Tryz.compStr b 0 cap xs w hH (by unfold lim at hl; omega) hcap
    rw [lib_compact] at hcon
    refine Calls.mono hcon fun e' w' he => ?_
    obtain ⟨he, n, hw⟩ := he
    have hcl := compact_len xs
    have hlen : (Fn.compactL xs ++ List.replicate (xs.length - (Fn.compactL xs).length) []).length = xs.length := by rw [List.length_append, List.length_replicate]; omega
    obtain ⟨cs', hl', hr', hw'⟩ := sorted_row (t := .str) (ys := Fn.compactL xs ++ List.replicate (xs.length - (Fn.compactL xs).length) []) (xs := xs) rfl hb hlen hcs hcap n #[]
    refine ⟨he, cs', n, #[], hl', fun k x hx => hr' k x (by rw [List.getElem?_append_left (List.getElem?_eq_some_iff.1 hx).1]; exact hx), ?_⟩
    rw [hw, putRow_map, ← hw', Go.Sort.grow_empty]
    show _ = Go.Sort.putRow id (Go.Sort.ahead w n) b 0 (Go.Sort.flatK (cellsV .str) 1 _)
    rw [flat_str])
end Go.Proofs.YtjkipndhdemnoaaGreatDoor
namespace Go.Fn
open Go.Ab
def badName (n : List UInt8) : Bool := !(nameOK n) || (decide (n = [77, 65, 78, 73, 70, 69, 83, 84]) || (decide (n = [116, 109, 112]) || decide (n = [109, 116, 109, 112])))
def nameS (l : List (List UInt8)) (i : Nat) : List UInt8 := l.getD i []
def nameBad (l : List (List UInt8)) (i : Nat) : Bool := badName (nameS l i) || (l.take i).any (fun y => decide (y = nameS l i))
def nameBadI (l : List (List UInt8)) (i : Int) : Bool := nameBad l i.toNat
def namesOK (l : List (List UInt8)) : Bool := decide (l.length ≤ 5) && (List.range l.length).all fun i => !(nameBad l i)
def OKM (l : List (List UInt8)) (k : Nat) : Prop := k ≤ l.length ∧ ∀ j, j < k → nameBad l j = false
theorem nameS_at {l : List (List UInt8)} {i : Nat} {x : List UInt8} (h : l[i]? = some x) : nameS l i = x := by unfold nameS; rw [List.getD_eq_getElem?_getD, h]; rfl
theorem okm0 (l : List (List UInt8)) : OKM l 0 := ⟨Nat.zero_le _, fun j hj => absurd hj (Nat.not_lt_zero _)⟩
theorem okm_step {l : List (List UInt8)} {i : Nat} (h : OKM l i) (hi : i < l.length) (hf : nameBad l i = false) : OKM l (i + 1) := by
  refine ⟨hi, fun j hj => ?_⟩
  rcases Nat.lt_or_ge j i with h1 | h1
  · exact h.2 j h1
  · obtain rfl : j = i := by omega
    exact hf
theorem okm_bad {l : List (List UInt8)} {i : Nat} (hi : i < l.length) (hf : nameBad l i = true) : false = namesOK l := by
  symm
  unfold namesOK
  rw [show ((List.range l.length).all fun i => !(nameBad l i)) = false from List.all_eq_false.2 ⟨i, List.mem_range.2 hi, by simp [hf]⟩, Bool.and_false]
theorem okm_end {l : List (List UInt8)} {i : Nat} (h : OKM l i) (hi : ¬ i < l.length) (h16 : ¬ iOf l.length > 5) : true = namesOK l := by
  symm
  unfold namesOK
  rw [decide_eq_true (p := l.length ≤ 5) (by unfold iOf at h16; omega), Bool.true_and, List.all_eq_true]
  intro j hj
  simp [h.2 j (by have := List.mem_range.1 hj; omega)]
theorem okm_16 {l : List (List UInt8)} (h : iOf l.length > 5) : false = namesOK l := by
  unfold namesOK
  rw [decide_eq_false (p := l.length ≤ 5) (by unfold iOf at h; omega)]; rfl
theorem nodup_take {l : List (List UInt8)} : l.Nodup ↔ ∀ i, i < l.length → (l.take i).any (fun y => decide (y = nameS l i)) = false := by
  rw [List.nodup_iff_pairwise_ne, List.pairwise_iff_getElem]
  constructor
  · intro h i hi
    rw [List.any_eq_false]
    intro y hy
    obtain ⟨j, hj⟩ := List.mem_iff_getElem?.1 hy
    have hji : j < i := by
      have := (List.getElem?_eq_some_iff.1 hj).1
      simp at this; omega
    rw [List.getElem?_take_of_lt hji] at hj
    have e1 := (List.getElem?_eq_some_iff.1 hj)
    obtain ⟨h1, e1⟩ := e1
    have e2 := nameS_at (List.getElem?_eq_getElem hi)
    have := h j i h1 hi hji
    rw [e2, ← e1]
    simpa using this
  · intro h i j hi hj hij e
    have := h j hj
    rw [List.any_eq_false] at this
    refine this l[i] ?_ ?_
    · rw [List.mem_iff_getElem?]
      exact ⟨i, by rw [List.getElem?_take_of_lt hij]; exact List.getElem?_eq_getElem hi⟩
    · rw [nameS_at (List.getElem?_eq_getElem hj)]
      exact decide_eq_true e
theorem all_names {l : List (List UInt8)} : (l.all fun n => !(badName n)) = true ↔ ∀ i, i < l.length → badName (nameS l i) = false := by
  rw [List.all_eq_true]
  constructor
  · intro h i hi
    rw [nameS_at (List.getElem?_eq_getElem hi)]
    have := h _ (List.getElem_mem hi)
    simpa using this
  · intro h x hx
    obtain ⟨j, hj⟩ := List.mem_iff_getElem?.1 hx
    have := h j (List.getElem?_eq_some_iff.1 hj).1
    rw [nameS_at hj] at this
    simp [this]
theorem namesOK_iff {l : List (List UInt8)} : namesOK l = (decide (l.length ≤ 5) && (decide (l.Nodup) && (l.all fun n => !(badName n)))) := by
  rw [Bool.eq_iff_iff]
  unfold namesOK
  simp only [Bool.and_eq_true, decide_eq_true_eq, all_names, nodup_take]
  refine and_congr_right fun _ => ?_
  rw [List.all_eq_true]
  simp only [nameBad, Bool.not_eq_true', Bool.or_eq_false_iff, List.mem_range]
  constructor
  · intro h; exact ⟨fun i hi => (h i hi).2, fun i hi => (h i hi).1⟩
  · intro h i hi; exact ⟨h.2 i hi, h.1 i hi⟩
theorem names_ok {l : List (List UInt8)} (h : namesOK l = true) : l.length ≤ 5 ∧ ∀ x ∈ l, x.length ≤ 12 := by
  rw [namesOK_iff] at h
  simp only [Bool.and_eq_true, decide_eq_true_eq] at h
  refine ⟨h.1, fun x hx => ?_⟩
  have := List.all_eq_true.1 h.2.2 x hx
  simp only [Bool.not_eq_true', badName, Bool.or_eq_false_iff, Bool.not_eq_false'] at this
  have hn := this.1
  unfold nameOK within at hn
  simp only [Bool.and_eq_true, decide_eq_true_eq] at hn
  omega
def manStep (acc t : List UInt8) : List UInt8 := catS acc (catS t [10])
def manTo (l : List (List UInt8)) (k : Nat) : List UInt8 := (l.take k).foldl manStep []
def manT (l : List (List UInt8)) : List UInt8 := catS (catS (catS (manTo l l.length) [115, 117, 109, 32]) (itoaS (sum (manTo l l.length)))) [10]
theorem man_succ {l : List (List UInt8)} {k : Nat} {x : List UInt8} (hx : l[k]? = some x) : catS (manTo l k) (catS x [10]) = manTo l (k + 1) := by
  unfold manTo
  rw [List.take_add_one, hx]
  simp [manStep]
theorem man_len {l : List (List UInt8)} (h : ∀ x ∈ l, x.length ≤ 12) : ∀ k, k ≤ l.length → (manTo l k).length ≤ 13 * k
  | 0, _ => by simp [manTo]
  | k + 1, hk => by
    have ih := man_len h k (by omega)
    have hx := List.getElem?_eq_getElem (show k < l.length by omega)
    rw [← man_succ hx]
    have := h _ (List.mem_of_getElem? hx)
    simp only [catS, List.length_append, List.length_cons, List.length_nil]
    omega
theorem sum_inI (t : List UInt8) : inI (sum t) := by
  unfold inI
  have h := sum_range t
  omega
theorem man_sum {l : List (List UInt8)} (h : namesOK l = true) : layerSum (manTo l l.length) = sum (manTo l l.length) := by
  have h2 := names_ok h
  have := man_len h2.2 l.length (Nat.le_refl _)
  unfold layerSum short
  rw [decide_eq_true (by omega)]; rfl
def manC (l : List (List UInt8)) : Int := if iOf l.length > 4096 then 2 else if namesOK l = false then 1 else 0
def manS (l : List (List UInt8)) : List UInt8 := if manC l = 0 then manT l else []
theorem mc_long {l : List (List UInt8)} (h : iOf l.length > 4096) : [] = manS l ∧ 2 = manC l := by
  have e : manC l = 2 := by unfold manC; rw [if_pos h]
  unfold manS
  rw [e]; exact ⟨rfl, rfl⟩
theorem mc_bad {l : List (List UInt8)} (h : ¬ iOf l.length > 4096) (hb : namesOK l = false) : [] = manS l ∧ 1 = manC l := by
  have e : manC l = 1 := by unfold manC; rw [if_neg h, if_pos hb]
  unfold manS
  rw [e]; exact ⟨rfl, rfl⟩
theorem mc_ok {l : List (List UInt8)} (h : ¬ iOf l.length > 4096) (hb : namesOK l = true) : manT l = manS l ∧ 0 = manC l := by
  have e : manC l = 0 := by unfold manC; rw [if_neg h, if_neg (by rw [hb]; exact fun e => Bool.noConfusion e)]
  unfold manS
  rw [e]; exact ⟨rfl, rfl⟩
theorem mc_first {l : List (List UInt8)} : first [.b (decide (iOf l.length > 4096)), .n 2, .b (!(namesOK l)), .n 1] = manC l := by
  rw [first2]
  unfold manC
  by_cases h : iOf l.length > 4096
  · rw [if_pos h, decide_eq_true h]; rfl
  · rw [if_neg h, decide_eq_false h]
    cases namesOK l <;> rfl
theorem mc_zero {l : List (List UInt8)} (h : manC l = 0) : ¬ iOf l.length > 4096 ∧ namesOK l = true := by
  unfold manC at h
  split at h
  · cases h
  · rename_i h1
    split at h
    · cases h
    · rename_i h2
      exact ⟨h1, by simpa using h2⟩
end Go.Fn
