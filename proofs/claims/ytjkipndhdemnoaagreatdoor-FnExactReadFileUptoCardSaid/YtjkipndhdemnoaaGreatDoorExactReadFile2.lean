/- Every function that the law FnExactReadFile reaches does what its specification (a function on plain data) says; the law answers true wherever what it reads is of bulk at most 1048576. Conditions: that bound. -/
import Derived.Test.YtjkipndhdemnoaaGreatDoorAb2
import Derived.Deep.DeepHandedRow
import Derived.Deep.DeepLaidRun
import Derived.Laws.BitsLemmas
import Derived.Lib.Bytealg
import Derived.Lib.ItoaLen
import Derived.Lib.ItoaMem
import Derived.Lib.Join
import Derived.LoopIn
import Derived.LoopNIn
import Derived.OpenShut
import Derived.OwnWalkIn
import Derived.ProofKit
import Derived.RangeFuncBox
import Derived.RangeFuncCalls
import Derived.RangeFuncLeaves
import Derived.RangeFuncWrites
import Derived.Shelf.Abstract
import Derived.TacticsInMore
import Derived.Test.YtjkipndhdemnoaaGreatDoorCards
import Derived.Test.YtjkipndhdemnoaaGreatDoorRows
import Derived.Test.YtjkipndhdemnoaaGreatDoorTie
import Derived.WalkKit
import Derived.Test.YtjkipndhdemnoaaGreatDoorExactReadFile1
set_option autoImplicit true
set_option relaxedAutoImplicit true
set_option maxHeartbeats 4000000
set_option maxRecDepth 4000
set_option linter.unusedVariables false
set_option linter.unusedSimpArgs false
namespace Go.Proofs.YtjkipndhdemnoaaGreatDoor
open Go.Ab Go.Fn
def s_eqRecordS : FSpec := { ps := [.v (.slice tRec), .v (.slice tRec)], rs := [.v .bool], pre := fun _ => True, fn := fun x => (eqL (α := Rec) x.1 x.2.1, ()), upd := fun _ => () }
def L_eqRecordS (xs ys : List (tRec : Ty).den) : LoopAnn := { ι := Nat, inv := fun k => k ≤ xs.length ∧ xs.length = ys.length ∧ xs.take k = ys.take k, slots := fun k => [(5, .d I (Int.ofNat k))], objs := fun _ => [], μ := fun k => xs.length - k }
theorem fo_eqRecordS : FO 51 s_eqRecordS := by
  refine fo (specs := [(81, s_eqRecord)]) (clos := []) (fun x => [(4, .lv [0, 1, 5] <| fun _ => L_eqRecordS x.1 x.2.1)]) ⟨fo_eqRecord, trivial⟩ trivial Tryz.func51 rfl rfl ?_
  rintro ⟨xs, ys, ⟨⟩⟩ -
  refine vcOf (fits (lenL xs) → fits (lenL ys) → ((iOf (lenL xs) != iOf (lenL ys)) = true → (false, ()) = (eqL xs ys, ()) ∧ () = ()) ∧ ((iOf (lenL xs) != iOf (lenL ys)) = false → (∃ (i : Nat), (i ≤ List.length xs ∧ List.length xs = List.length ys ∧ List.take i xs = List.take i ys) ∧ (xs = xs ∧ ys = ys ∧ (0 : Int) = Int.ofNat i ∧ True) ∧ True ∧ True) ∧ ∀ (i : Nat), i ≤ List.length xs ∧ List.length xs = List.length ys ∧ List.take i xs = List.take i ys → fits (lenL xs) → (decide (Int.ofNat i < iOf (lenL xs)) = true → bnd (Int.ofNat i) (lenL xs) ∧ ∀ (x : Int × List UInt8 × List UInt8 × Int × Bool × Unit), nthI xs (Int.ofNat i) = some x → nat_lit 5 ≤ (Nat.succ (nat_lit 1)).succ.succ.succ ∧ bnd (Int.ofNat i) (lenL ys) ∧ ∀ (x_1 : Int × List UInt8 × List UInt8 × Int × Bool × Unit), nthI ys (Int.ofNat i) = some x_1 → nat_lit 5 ≤ (Nat.succ (nat_lit 1)).succ.succ.succ ∧ true = true ∧ True ∧ ((!eqRec (x.fst, x.snd.fst, x.snd.snd.fst, x.snd.snd.snd.fst, x.snd.snd.snd.snd.fst, ()) (x_1.fst, x_1.snd.fst, x_1.snd.snd.fst, x_1.snd.snd.snd.fst, x_1.snd.snd.snd.snd.fst, ())) = true → (false, ()) = (eqL xs ys, ()) ∧ () = ()) ∧ ((!eqRec (x.fst, x.snd.fst, x.snd.snd.fst, x.snd.snd.snd.fst, x.snd.snd.snd.snd.fst, ()) (x_1.fst, x_1.snd.fst, x_1.snd.snd.fst, x_1.snd.snd.snd.fst, x_1.snd.snd.snd.snd.fst, ())) = false → ∃ (j : Nat), (j ≤ List.length xs ∧ List.length xs = List.length ys ∧ List.take j xs = List.take j ys) ∧ (List.length xs).sub j < (List.length xs).sub i ∧ (xs = xs ∧ ys = ys ∧ wAdd IntKind.i64 (Int.ofNat i) (1 : Int) = Int.ofNat j ∧ True) ∧ True ∧ True)) ∧ (decide (Int.ofNat i < iOf (lenL xs)) = false → (true, ()) = (eqL xs ys, ()) ∧ () = ()))) (by kernel_rfl) ?_
  simp only [Nat.le_refl, Nat.succ_eq_add_one, Nat.reduceAdd, Nat.reduceLeDiff, Nat.zero_le, pair_unit, mk_eta, len_bne, eqD_bne, bne_iff_ne, bne_eq_false_iff_eq, beq_iff_eq, beq_eq_false_iff_ne, true_and, and_true, and_self, eq_self, lt_iff, nthI_nat, bnd_iff, decide_eq_true_eq, decide_eq_false_iff_not, Nat.sub_eq, nz, ne_eq, not_false_eq_true, Prod.mk.injEq, Int.reduceEq, Nat.reduceEqDiff, forall_const, implies_true, bne_self_eq_false, Bool.true_eq_false, Bool.false_eq_true, false_implies, reduceCtorEq, Bool.not_true, Bool.not_false, List.all_cons, List.all_nil, Bool.and_true, Bool.not_eq_true, Bool.not_eq_false, Bool.not_eq_true', Bool.not_eq_false', Decidable.not_not]; try simp only [lenL]
  exact fun hf1 hf2 => ⟨fun h => eqL_len h, fun h => ⟨⟨0, ⟨Nat.zero_le _, h, rfl⟩, rfl⟩, fun k ⟨hk, _, ht⟩ _ => ⟨fun hlt => ⟨hlt, fun x hx => ⟨h ▸ hlt, fun y hy => ⟨fun hne => eqL_ne hx hy (eqRec_ne hne), fun he => ⟨k + 1, ⟨hlt, h, take_eq_succ hx hy ht (eqRec_eq he)⟩, Nat.sub_lt_sub_left hlt (Nat.lt_succ_self k), inc_in hf1 hk⟩⟩⟩⟩, fun hge => eqL_end hge h ht⟩⟩⟩
end Go.Proofs.YtjkipndhdemnoaaGreatDoor
namespace Go.Proofs.YtjkipndhdemnoaaGreatDoor
open Go.Ab Go.Fn
def s_szRecordSS : FSpec := { ps := [.v (.slice (.slice tRec)), .v I], rs := [.v I], pre := fun x => 0 ≤ (x.2.1 : Int) ∧ (x.2.1 : Int) ≤ 1048576, fn := fun x => (szList Fn.szRecordS x.1 x.2.1, ()), upd := fun _ => () }
def L_szRecordSS (xs : List ((.slice tRec) : Ty).den) (l0 : Int) : LoopAnn := { ι := Nat × Int, inv := fun p => p.1 ≤ xs.length ∧ (0 ≤ p.2 ∧ p.2 ≤ 1048576) ∧ szGo Fn.szRecordS (xs.drop p.1) p.2 = szGo Fn.szRecordS xs (l0 - xs.length), slots := fun p => [(5, .d I (Int.ofNat p.1)), (1, .d I p.2)], objs := fun _ => [], μ := fun p => xs.length - p.1 }
theorem fo_szRecordSS : FO 23 s_szRecordSS := by
  refine fo (specs := [(54, s_szRecordS)]) (clos := []) (fun x => [(5, .lv [0, 1, 5] <| fun _ => L_szRecordSS x.1 x.2.1)]) ⟨fo_szRecordS, trivial⟩ trivial Tryz.func23 rfl rfl ?_
  rintro ⟨xs, n, ⟨⟩⟩ ⟨hp1, hp2⟩
  have hp1 : (0 : Int) ≤ n := hp1
  have hp2 : (n : Int) ≤ 1048576 := hp2
  refine vcOf (fits (lenL xs) → (decide (wSub IntKind.i64 n (iOf (lenL xs)) < (0 : Int)) = true → ((-1 : Int), ()) = (szList szRecordS xs n, ()) ∧ () = ()) ∧ (decide (wSub IntKind.i64 n (iOf (lenL xs)) < (0 : Int)) = false → (∃ (i : Nat × Int), (i.fst ≤ List.length xs ∧ ((0 : Int) ≤ i.snd ∧ i.snd ≤ (1048576 : Int)) ∧ szGo szRecordS (List.drop i.fst xs) i.snd = szGo szRecordS xs (n - Int.ofNat (List.length xs))) ∧ (xs = xs ∧ wSub IntKind.i64 n (iOf (lenL xs)) = i.snd ∧ (0 : Int) = Int.ofNat i.fst ∧ True) ∧ True ∧ True) ∧ ∀ (i : Nat × Int), i.fst ≤ List.length xs ∧ ((0 : Int) ≤ i.snd ∧ i.snd ≤ (1048576 : Int)) ∧ szGo szRecordS (List.drop i.fst xs) i.snd = szGo szRecordS xs (n - Int.ofNat (List.length xs)) → fits (lenL xs) → (decide (Int.ofNat i.fst < iOf (lenL xs)) = true → bnd (Int.ofNat i.fst) (lenL xs) ∧ ∀ (x : List (Int × List UInt8 × List UInt8 × Int × Bool × Unit)), nthI xs (Int.ofNat i.fst) = some x → nat_lit 1 ≤ nat_lit 1 ∧ true = true ∧ ((0 : (PTy.v I).den) ≤ i.snd ∧ i.snd ≤ (1048576 : (PTy.v I).den)) ∧ (decide (szRecordS x i.snd < (0 : Int)) = true → ((-1 : Int), ()) = (szList szRecordS xs n, ()) ∧ () = ()) ∧ (decide (szRecordS x i.snd < (0 : Int)) = false → ∃ (j : Nat × Int), (j.fst ≤ List.length xs ∧ ((0 : Int) ≤ j.snd ∧ j.snd ≤ (1048576 : Int)) ∧ szGo szRecordS (List.drop j.fst xs) j.snd = szGo szRecordS xs (n - Int.ofNat (List.length xs))) ∧ (List.length xs).sub j.fst < (List.length xs).sub i.fst ∧ (xs = xs ∧ szRecordS x i.snd = j.snd ∧ wAdd IntKind.i64 (Int.ofNat i.fst) (1 : Int) = Int.ofNat j.fst ∧ True) ∧ True ∧ True)) ∧ (decide (Int.ofNat i.fst < iOf (lenL xs)) = false → (i.snd, ()) = (szList szRecordS xs n, ()) ∧ () = ()))) (by kernel_rfl) ?_
  simp only [Nat.le_refl, Nat.succ_eq_add_one, Nat.reduceAdd, Nat.reduceLeDiff, Nat.zero_le, pair_unit, mk_eta, len_bne, eqD_bne, bne_iff_ne, bne_eq_false_iff_eq, beq_iff_eq, beq_eq_false_iff_ne, true_and, and_true, and_self, eq_self, lt_iff, nthI_nat, bnd_iff, decide_eq_true_eq, decide_eq_false_iff_not, Nat.sub_eq, nz, ne_eq, not_false_eq_true, Prod.mk.injEq, Int.reduceEq, Nat.reduceEqDiff, forall_const, implies_true, bne_self_eq_false, Bool.true_eq_false, Bool.false_eq_true, false_implies, reduceCtorEq, Bool.not_true, Bool.not_false, List.all_cons, List.all_nil, Bool.and_true, Bool.not_eq_true, Bool.not_eq_false, Bool.not_eq_true', Bool.not_eq_false', Decidable.not_not]; try simp only [lenL]
  intro hf
  rw [wSub_len hp1 hp2 hf]
  refine ⟨fun h => (if_pos h).symm, fun h => ⟨⟨(0, n - (xs.length : Int)), ⟨Nat.zero_le _, ⟨Int.not_lt.1 h, Int.le_trans (Int.sub_le_self _ (Int.natCast_nonneg _)) hp2⟩, rfl⟩, rfl, rfl⟩, ?_⟩⟩
  have e0 : szList Fn.szRecordS xs n = szGo Fn.szRecordS xs (n - (xs.length : Int)) := if_neg h
  rw [e0]
  rintro ⟨k, m⟩ ⟨hk, ⟨hm1, hm2⟩, he⟩ -
  have hm1 : (0 : Int) ≤ m := hm1
  have hm2 : (m : Int) ≤ 1048576 := hm2
  have he : szGo Fn.szRecordS (xs.drop k) m = szGo Fn.szRecordS xs (n - (xs.length : Int)) := he
  refine ⟨fun hlt => ⟨hlt, fun x hx => ⟨⟨hm1, hm2⟩, fun h1 => ?_, fun h1 => ?_⟩⟩, fun hge => ?_⟩
  · rw [← he, szGo_at hx]; exact (if_pos h1).symm
  · have h2 := szRecordS_le x m hm1
    rw [szGo_at hx] at he
    exact ⟨(k + 1, Fn.szRecordS x m), ⟨hlt, ⟨Int.not_lt.1 h1, Int.le_trans h2 hm2⟩, (if_neg h1).symm.trans he⟩, Nat.sub_lt_sub_left hlt (Nat.lt_succ_self k), rfl, inc_in hf hk⟩
  · rw [← he, szGo_end hge]
end Go.Proofs.YtjkipndhdemnoaaGreatDoor
namespace Go.Proofs.YtjkipndhdemnoaaGreatDoor
open Go.Ab Go.Fn
def s_toRecordSS : FSpec := { ps := [.v (.slice (.slice tRec))], rs := [.o (.slice (.slice tRec))], pre := fun _ => True, fn := fun x => (x.1, ()), upd := fun _ => () }
def L_toRecordSS (xs : List ((.slice tRec) : Ty).den) : LoopAnn := { ι := Nat, inv := fun k => k ≤ xs.length, slots := fun k => [(4, .d I (Int.ofNat k))], objs := fun k => [(1, .arr (.slice tRec) (fillTo xs k []) false)], μ := fun k => xs.length - k }
theorem fo_toRecordSS : FO 25 s_toRecordSS := by
  refine fo (specs := [(57, s_toRecordS)]) (clos := []) (fun x => [(3, .lv [0, 3, 4] <| fun _ => L_toRecordSS x.1)]) ⟨fo_toRecordS, trivial⟩ trivial Tryz.func25 rfl rfl ?_
  rintro ⟨xs, ⟨⟩⟩ -
  refine vcOf (fits (lenL xs) → mkOK (iOf (lenL xs)) (iOf (lenL xs)) ∧ (∃ (i : Nat), i ≤ List.length xs ∧ (xs = xs ∧ nat_lit 1 = nat_lit 1 ∧ (0 : Int) = Int.ofNat i ∧ True) ∧ ((([] : List (List (Int × List UInt8 × List UInt8 × Int × Bool × Unit))) = ([] : List (List (Int × List UInt8 × List UInt8 × Int × Bool × Unit))) ∧ false = false) ∧ (List.replicate (tN (iOf (lenL xs))) ([] : List (Int × List UInt8 × List UInt8 × Int × Bool × Unit)) = fillTo xs i ([] : List (Int × List UInt8 × List UInt8 × Int × Bool × Unit)) ∧ false = false) ∧ True) ∧ True) ∧ ∀ (i : Nat), i ≤ List.length xs → fits (lenL xs) → (decide (Int.ofNat i < iOf (lenL xs)) = true → bnd (Int.ofNat i) (lenL xs) ∧ ∀ (x : List (Int × List UInt8 × List UInt8 × Int × Bool × Unit)), nthI xs (Int.ofNat i) = some x → nat_lit 1 ≤ nat_lit 1 ∧ true = true ∧ True ∧ bnd (Int.ofNat i) (lenL (fillTo xs i ([] : List (Int × List UInt8 × List UInt8 × Int × Bool × Unit)))) ∧ ((0 : Nat) = (0 : Nat) ∧ tN (Int.ofNat i) < lenL (fillTo xs i ([] : List (Int × List UInt8 × List UInt8 × Int × Bool × Unit)))) ∧ ∃ (j : Nat), j ≤ List.length xs ∧ (List.length xs).sub j < (List.length xs).sub i ∧ (xs = xs ∧ nat_lit 1 = nat_lit 1 ∧ wAdd IntKind.i64 (Int.ofNat i) (1 : Int) = Int.ofNat j ∧ True) ∧ ((([] : List (List (Int × List UInt8 × List UInt8 × Int × Bool × Unit))) = ([] : List (List (Int × List UInt8 × List UInt8 × Int × Bool × Unit))) ∧ false = false) ∧ ((fillTo xs i ([] : List (Int × List UInt8 × List UInt8 × Int × Bool × Unit))).set (tN (Int.ofNat i)) x = fillTo xs j ([] : List (Int × List UInt8 × List UInt8 × Int × Bool × Unit)) ∧ false = false) ∧ True) ∧ True) ∧ (decide (Int.ofNat i < iOf (lenL xs)) = false → (fillTo xs i ([] : List (Int × List UInt8 × List UInt8 × Int × Bool × Unit)), ()) = (xs, ()) ∧ () = ())) (by kernel_rfl) ?_
  simp only [Nat.le_refl, Nat.succ_eq_add_one, Nat.reduceAdd, Nat.reduceLeDiff, Nat.zero_le, pair_unit, mk_eta, len_bne, eqD_bne, bne_iff_ne, bne_eq_false_iff_eq, beq_iff_eq, beq_eq_false_iff_ne, true_and, and_true, and_self, eq_self, lt_iff, nthI_nat, bnd_iff, decide_eq_true_eq, decide_eq_false_iff_not, Nat.sub_eq, nz, ne_eq, not_false_eq_true, Prod.mk.injEq, Int.reduceEq, Nat.reduceEqDiff, forall_const, implies_true, bne_self_eq_false, Bool.true_eq_false, Bool.false_eq_true, false_implies, reduceCtorEq, Bool.not_true, Bool.not_false, List.all_cons, List.all_nil, Bool.and_true, Bool.not_eq_true, Bool.not_eq_false, Bool.not_eq_true', Bool.not_eq_false', Decidable.not_not]; try simp only [lenL]
  exact fun hf => ⟨mkOK_len hf, ⟨0, Nat.zero_le _, rfl, rfl⟩, fun k hk _ => ⟨fun h => ⟨h, fun x hx => ⟨by rw [fill_len hk]; exact h, by rw [fill_len hk]; exact h, k + 1, h, Nat.sub_lt_sub_left h (Nat.lt_succ_self k), inc_in hf hk, fill_set hx⟩⟩, fun h => fill_end h⟩⟩
end Go.Proofs.YtjkipndhdemnoaaGreatDoor
namespace Go.Proofs.YtjkipndhdemnoaaGreatDoor
open Go.Ab Go.Fn
def s_eqRecordSS : FSpec := { ps := [.v (.slice (.slice tRec)), .v (.slice (.slice tRec))], rs := [.v .bool], pre := fun _ => True, fn := fun x => (eqL (α := List Rec) x.1 x.2.1, ()), upd := fun _ => () }
def L_eqRecordSS (xs ys : List (List Rec)) : LoopAnn := { ι := Nat, inv := fun k => k ≤ xs.length ∧ xs.length = ys.length ∧ xs.take k = ys.take k, slots := fun k => [(5, .d I (Int.ofNat k))], objs := fun _ => [], μ := fun k => xs.length - k }
theorem fo_eqRecordSS : FO 20 s_eqRecordSS := by
  refine fo (specs := [(51, s_eqRecordS)]) (clos := []) (fun x => [(4, .lv [0, 1, 5] <| fun _ => L_eqRecordSS x.1 x.2.1)]) ⟨fo_eqRecordS, trivial⟩ trivial Tryz.func20 rfl rfl ?_
  rintro ⟨xs, ys, ⟨⟩⟩ -
  refine vcOf (fits (lenL xs) → fits (lenL ys) → ((iOf (lenL xs) != iOf (lenL ys)) = true → (false, ()) = (eqL xs ys, ()) ∧ () = ()) ∧ ((iOf (lenL xs) != iOf (lenL ys)) = false → (∃ (i : Nat), (i ≤ List.length xs ∧ List.length xs = List.length ys ∧ List.take i xs = List.take i ys) ∧ (xs = xs ∧ ys = ys ∧ (0 : Int) = Int.ofNat i ∧ True) ∧ True ∧ True) ∧ ∀ (i : Nat), i ≤ List.length xs ∧ List.length xs = List.length ys ∧ List.take i xs = List.take i ys → fits (lenL xs) → (decide (Int.ofNat i < iOf (lenL xs)) = true → bnd (Int.ofNat i) (lenL xs) ∧ ∀ (x : List (Int × List UInt8 × List UInt8 × Int × Bool × Unit)), nthI xs (Int.ofNat i) = some x → nat_lit 1 ≤ nat_lit 1 ∧ bnd (Int.ofNat i) (lenL ys) ∧ ∀ (x_1 : List (Int × List UInt8 × List UInt8 × Int × Bool × Unit)), nthI ys (Int.ofNat i) = some x_1 → nat_lit 1 ≤ nat_lit 1 ∧ true = true ∧ True ∧ ((!eqL x x_1) = true → (false, ()) = (eqL xs ys, ()) ∧ () = ()) ∧ ((!eqL x x_1) = false → ∃ (j : Nat), (j ≤ List.length xs ∧ List.length xs = List.length ys ∧ List.take j xs = List.take j ys) ∧ (List.length xs).sub j < (List.length xs).sub i ∧ (xs = xs ∧ ys = ys ∧ wAdd IntKind.i64 (Int.ofNat i) (1 : Int) = Int.ofNat j ∧ True) ∧ True ∧ True)) ∧ (decide (Int.ofNat i < iOf (lenL xs)) = false → (true, ()) = (eqL xs ys, ()) ∧ () = ()))) (by kernel_rfl) ?_
  simp only [Nat.le_refl, Nat.succ_eq_add_one, Nat.reduceAdd, Nat.reduceLeDiff, Nat.zero_le, pair_unit, mk_eta, len_bne, eqD_bne, bne_iff_ne, bne_eq_false_iff_eq, beq_iff_eq, beq_eq_false_iff_ne, true_and, and_true, and_self, eq_self, lt_iff, nthI_nat, bnd_iff, decide_eq_true_eq, decide_eq_false_iff_not, Nat.sub_eq, nz, ne_eq, not_false_eq_true, Prod.mk.injEq, Int.reduceEq, Nat.reduceEqDiff, forall_const, implies_true, bne_self_eq_false, Bool.true_eq_false, Bool.false_eq_true, false_implies, reduceCtorEq, Bool.not_true, Bool.not_false, List.all_cons, List.all_nil, Bool.and_true, Bool.not_eq_true, Bool.not_eq_false, Bool.not_eq_true', Bool.not_eq_false', Decidable.not_not]; try simp only [lenL]
  exact fun hf1 hf2 => ⟨fun h => eqL_len h, fun h => ⟨⟨0, ⟨Nat.zero_le _, h, rfl⟩, rfl⟩, fun k ⟨hk, _, ht⟩ _ => ⟨fun hlt => ⟨hlt, fun x hx => ⟨h ▸ hlt, fun y hy => ⟨fun hne => eqL_ne hx hy (eqLR_ne hne), fun he => ⟨k + 1, ⟨hlt, h, take_eq_succ hx hy ht (eqLR_eq he)⟩, Nat.sub_lt_sub_left hlt (Nat.lt_succ_self k), inc_in hf1 hk⟩⟩⟩⟩, fun hge => eqL_end hge h ht⟩⟩⟩
end Go.Proofs.YtjkipndhdemnoaaGreatDoor
namespace Go.Proofs.YtjkipndhdemnoaaGreatDoor
open Go.Ab Go.Fn
theorem fo_law_FnExactReadFile : FO 7 (lawSpec [.slice (.slice tRec), .str, I, I] 1048576) := by
  refine fo (specs := [(23, s_szRecordSS), (25, s_toRecordSS), (20, s_eqRecordSS), (30, s_ReadFile), (31, s_ReadFile)]) (clos := []) (fun x => []) ⟨fo_szRecordSS, fo_toRecordSS, fo_eqRecordSS, fo_sReadFile, fo_ReadFile, trivial⟩ trivial Tryz.func7 rfl rfl ?_
  rintro ⟨ls, t, off, n, ⟨⟩⟩ hl
  refine vcOf (fits (lenL t) → (decide (iOf (lenL t) > (1048576 : Int)) = true → (true, ()) = (true, ()) ∧ () = ()) ∧ (decide (iOf (lenL t) > (1048576 : Int)) = false → true = true ∧ ((0 : (PTy.v I).den) ≤ (1048576 : Int) ∧ (1048576 : Int) ≤ (1048576 : (PTy.v I).den)) ∧ (decide (szList szRecordS ls (1048576 : Int) < (0 : Int)) = true → (true, ()) = (true, ()) ∧ () = ()) ∧ (decide (szList szRecordS ls (1048576 : Int) < (0 : Int)) = false → true = true ∧ True ∧ true = true ∧ (okLs ls ∧ List.length t ≤ (100000000 : Nat)) ∧ true = true ∧ True ∧ true = true ∧ (okLs ls ∧ List.length t ≤ (100000000 : Nat)) ∧ ((!rfS (askR ls t) off n == rfS (askR ls t) off n) = false → ((rfC (askR ls t) off n != rfC (askR ls t) off n) = true → (false, ()) = (true, ()) ∧ () = ()) ∧ ((rfC (askR ls t) off n != rfC (askR ls t) off n) = false → true = true ∧ True ∧ true = true ∧ True ∧ ((!eqL ls ls) = true → (false, ()) = (true, ()) ∧ () = ()) ∧ ((!eqL ls ls) = false → (true, ()) = (true, ()) ∧ () = ()))) ∧ ((!rfS (askR ls t) off n == rfS (askR ls t) off n) = true → (false, ()) = (true, ()) ∧ () = ())))) (by kernel_rfl) ?_
  simp only [Nat.le_refl, Nat.succ_eq_add_one, Nat.reduceAdd, Nat.reduceLeDiff, Nat.zero_le, pair_unit, mk_eta, len_bne, eqD_bne, bne_iff_ne, bne_eq_false_iff_eq, beq_iff_eq, beq_eq_false_iff_ne, true_and, and_true, and_self, eq_self, lt_iff, nthI_nat, bnd_iff, decide_eq_true_eq, decide_eq_false_iff_not, Nat.sub_eq, nz, ne_eq, not_false_eq_true, Prod.mk.injEq, Int.reduceEq, Nat.reduceEqDiff, forall_const, implies_true, bne_self_eq_false, Bool.true_eq_false, Bool.false_eq_true, false_implies, reduceCtorEq, Bool.not_true, Bool.not_false, List.all_cons, List.all_nil, Bool.and_true, Bool.not_eq_true, Bool.not_eq_false, Bool.not_eq_true', Bool.not_eq_false', Decidable.not_not]; try simp only [lenL]
  refine fun _ h1 => ⟨by constructor <;> decide, fun h => ?_⟩
  have ht : List.length t ≤ 100000000 := by have h1 : ¬ ((List.length t : Int) > 1048576) := h1; omega
  have ho := szSS_small h
  exact ⟨⟨ho, ht⟩, ⟨ho, ht⟩, fun e => (by rw [eqL_self] at e; cases e), fun e => e trivial⟩
end Go.Proofs.YtjkipndhdemnoaaGreatDoor
namespace Go.Proofs.YtjkipndhdemnoaaGreatDoor
open Go.Ab Go.Fn Go.ChangeShapes Go.WideShapes Go.ChangeAt Go.RowKit
theorem bulk {H : Type} : Bulk (Rows.uptoBulk (H := H)) Rows.uptoBulkAll := by
  constructor <;> intros <;> simp [Rows.uptoBulk, Rows.uptoBulkAll]
theorem own : ownKnob Tryz.prog.godebug = none := by kernel_rfl
def valsOf : Nat → DataW Unit → List Value
  | _, .lit (.int k v) => [.int k v]
  | n + 1, .agg l => l.flatMap (valsOf n)
  | _, _ => []
def layAt (h : Array _root_.Go.Obj) (b : Nat) (d : DataW Unit) : Array _root_.Go.Obj := h.modify b fun
  | .cells _ t frozen => .cells (valsOf 3 d).toArray t frozen
  | o => o
noncomputable def laidWorld (os : Os) : World :=
  { World.holding Tryz.prog os ⟨#[], #[], []⟩ with heap := layAt (layAt (World.holding Tryz.prog os ⟨#[], #[], []⟩).heap 5 Rows.laid_unicode_utf8_acceptRanges) 4 Rows.laid_unicode_utf8_first }
theorem laid_met (os : Os) : laidMet Tryz.prog Rows.fnExactReadFileUptoRow.laid ((laidWorld os).forCall (fun _ _ => 0) ⟨#[], #[.slice none 0 0, .string ⟨#[]⟩, .int .i64 0, .int .i64 0], []⟩).memory :=
  laidMet_of_run3 8 (by kernel_rfl) (by kernel_rfl) (by kernel_rfl)
theorem reads (os : Os) {H : Type} (enc : TypeId × Value → H) : ∃ places, DataW.whole enc Tryz.prog ((laidWorld os).forCall (fun _ _ => 0) ⟨#[], #[.slice none 0 0, .string ⟨#[]⟩, .int .i64 0, .int .i64 0], []⟩).memory Tryz.f7.params.toList Rows.fnExactReadFileSpec.vars false (#[.slice none 0 0, .string ⟨#[]⟩, .int .i64 0, .int .i64 0] : Array Value).toList 8 = some ([.nil, .lit (.string []), .lit (.int .i64 0), .lit (.int .i64 0)], [], places) :=
  ⟨[], by kernel_rfl⟩
set_option maxRecDepth 100000 in
theorem fnExactReadFile_lifted (os : Os) (started : os.Started) (H : Type) (enc : TypeId × Value → H) (F : Stop.Interp) :
    ReturnsInHanded {} Tryz.checked os 7 .any ((Rows.OpenSpec.upto Rows.fnExactReadFileSpec).preRow enc Tryz.prog Tryz.f7 Rows.fnExactReadFileUptoRow.domain false Rows.fnExactReadFileUptoRow.laid) (((Rows.OpenSpec.upto Rows.fnExactReadFileSpec).at F).post enc Tryz.prog Tryz.f7 false true false false) := by
  obtain ⟨places, hx⟩ := reads os enc
  refine returnsInHanded_of_row (C := Tryz.checked) (s := Rows.OpenSpec.upto Rows.fnExactReadFileSpec) own started (by kernel_rfl) Tryz.func7
    (witness_row_at (enc := enc) (C := Tryz.checked) false (laidWorld os) #[.slice none 0 0, .string ⟨#[]⟩, .int .i64 0, .int .i64 0] rfl (by kernel_rfl) (by kernel_rfl) (by kernel_rfl)
      (OpenSpec.preRow_of_cond 8 hx (by kernel_rfl) (fun k hk => by cases hk; kernel_rfl) (by kernel_rfl) (laid_met os))) ?_
  intro W base args ds gs before hval hW _ hk _ _ _ _
  refine law_contract bulk fo_law_FnExactReadFile (by kernel_rfl) rfl ?_ (tb := 4) rfl (by kernel_rfl) hval hW (of_decide_eq_true (hk _ rfl))
  intro ds hl
  match ds, hl with
  | [_, _, _, _], _ => rfl
theorem fnExactReadFile_said : Rows.FnExactReadFileUptoSaid :=
  OpenClaim.holds_of_cond 7 Tryz.f7 rfl rfl rfl rfl rfl rfl rfl ⟨rfl, rfl, rfl, rfl, rfl⟩ rfl rfl rfl rfl rfl (by kernel_rfl) Tryz.func7 (by kernel_rfl)
    (of_decide_eq_true (by kernel_rfl)) (by unfold Func.isWrapper; first | (rw [if_pos (by decide +kernel)]; kernel_rfl) | (rw [if_neg (by decide +kernel)]; exact ⟨rfl, rfl⟩))
    (fun os started H enc _ F => by rw [OpenClaim.pre_eq_preRow]; exact fnExactReadFile_lifted os started H enc F)
theorem noStandIn : (Tryz.f7.params.toList.all fun t => !(Tryz.pinned.checked.prog.wantsStandIn t)) = true := by kernel_rfl
theorem fnExactReadFile_plain (f : FuncId) (fn : Func) (hf : Tryz.pinned.checked.prog.funcNamed "loop.example/g00798/laws.FnExactReadFile" = some f) (hfn : Tryz.pinned.checked.prog.funcs[f]? = some fn) :
    true = Tryz.pinned.checked.prog.looks [] ∧ ∀ (j : Nat) t, fn.params[j]? = some t → Tryz.pinned.checked.prog.wantsStandIn t = false := by
  obtain rfl : f = 7 := Option.some.inj ((show Tryz.prog.funcNamed "loop.example/g00798/laws.FnExactReadFile" = some 7 by kernel_rfl).symm.trans hf) |>.symm
  obtain rfl : fn = Tryz.f7 := (Option.some.inj (Tryz.func7.symm.trans hfn)).symm
  refine ⟨by kernel_rfl, fun j t ht => ?_⟩
  have h := List.all_eq_true.1 noStandIn t (by simpa using Array.mem_of_getElem? ht)
  simpa using h
theorem fnExactReadFile_holds : Rows.FnExactReadFileUptoCardSaid :=
  Claim7.holds_tied_plain_at .later [] _ _ _ _ fnExactReadFile_said (fun _ h => by cases h) (by kernel_rfl) (fun _ h => by cases h) fnExactReadFileUpto_row_tie rfl ⟨rfl, rfl⟩ (by kernel_rfl) rfl fnExactReadFile_plain (by kernel_rfl)
end Go.Proofs.YtjkipndhdemnoaaGreatDoor
