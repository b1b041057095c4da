/- Every function that the law FnExactRecoverPlan reaches does what its specification (a function on plain data) says; the law answers true wherever what it reads is of bulk at most 1048576. Conditions: that bound. -/
import Derived.Test.YtjkipndhdemnoaaGreatDoorAb2
import Derived.Deep.DeepHandedRow
import Derived.Deep.DeepLaidRun
import Derived.Laws.BitsLemmas
import Derived.Lib.Bytealg
import Derived.Lib.ItoaLen
import Derived.Lib.ItoaMem
import Derived.Lib.Join
import Derived.Lib.LaidTab
import Derived.OpenShut
import Derived.ProofKit
import Derived.Shelf.GgSortFunc.RowK
import Derived.Shelf.LaysM
import Derived.Shelf.SlLaysF0
import Derived.Shelf.SlLaysM
import Derived.Shelf.SlLaysN
import Derived.Shelf.SlicesG.CompactS
import Derived.Shelf.SortM.Plain
import Derived.Shelf.SortM.SortNone
import Derived.Shelf.Strconv.Itoa3
import Derived.Shelf.Strings.OnBuilder
import Derived.Sort.Walk0
import Derived.Test.YtjkipndhdemnoaaGreatDoorCards
import Derived.Test.YtjkipndhdemnoaaGreatDoorRows
import Derived.Test.YtjkipndhdemnoaaGreatDoorTie
import Derived.WalkKit
import Derived.Test.YtjkipndhdemnoaaGreatDoorExactRecoverPlan2
set_option autoImplicit true
set_option relaxedAutoImplicit true
set_option maxHeartbeats 4000000
set_option maxRecDepth 4000
set_option linter.unusedVariables false
set_option linter.unusedSimpArgs false
namespace Go.Proofs.YtjkipndhdemnoaaGreatDoor
open Go.Ab Go.Fn
def s_markStepS : FSpec := { ps := [.mo tStep, .v I], rs := [.v I], pre := fun x => kOK x.2.1, fn := fun x => (atD 4 x.2.1 (List.length (α := Fn.StepV) x.1), ()), upd := fun x => (markL markSt 4 (List.length (α := Fn.StepV) x.1) x.2.1, ()) }
def L_markStepS (xs : List Fn.StepV) (k : Int) : LoopAnn := { ι := Nat, inv := fun j => j ≤ xs.length, slots := fun j => [(5, .d I (Int.ofNat j)), (1, .d I (atD 4 k j))], objs := fun j => [(0, .arr tStep (markTo markSt 4 xs k j) true)], μ := fun j => xs.length - j }
theorem fo_markStepS : FO 16 s_markStepS := by
  refine fo (specs := [(47, s_markText)]) (clos := []) (fun x => [(2, .lv [0, 1, 5] <| fun _ => L_markStepS x.1 x.2.1)]) ⟨fo_markText, trivial⟩ trivial Tryz.func16 rfl rfl ?_
  rintro ⟨xs, k, ⟨⟩⟩ hp
  have hp : kOK k := hp
  refine vcOf ((∃ (i : Nat), i ≤ List.length xs ∧ ((0 : Nat) = (0 : Nat) ∧ k = atD (4 : Int) k i ∧ (0 : Int) = Int.ofNat i ∧ True) ∧ ((xs = markTo markSt (4 : Int) xs k i ∧ true = true) ∧ True) ∧ True) ∧ ∀ (i : Nat), i ≤ List.length xs → fits (lenL (markTo markSt (4 : Int) xs k i)) → (decide (Int.ofNat i < iOf (lenL (markTo markSt (4 : Int) xs k i))) = true → bnd (Int.ofNat i) (lenL (markTo markSt (4 : Int) xs k i)) ∧ (nat_lit 1 ≤ nat_lit 4 ∧ tN (Int.ofNat i) < lenL (markTo markSt (4 : Int) xs k i)) ∧ ∀ (x : Int × List UInt8 × List UInt8 × List UInt8 × Unit), nth (markTo markSt (4 : Int) xs k i) (tN (Int.ofNat i)) = some x → true = true ∧ wAdd IntKind.i64 (atD (4 : Int) k i) (1 : Int) ≤ (9000000000000000 : (PTy.v I).den) ∧ bnd (Int.ofNat i) (lenL ((markTo markSt (4 : Int) xs k i).set (tN (Int.ofNat i)) (atD (4 : Int) k i, x.snd.fst, x.snd.snd.fst, x.snd.snd.snd.fst, ()))) ∧ (nat_lit 2 ≤ nat_lit 4 ∧ tN (Int.ofNat i) < lenL ((markTo markSt (4 : Int) xs k i).set (tN (Int.ofNat i)) (atD (4 : Int) k i, x.snd.fst, x.snd.snd.fst, x.snd.snd.snd.fst, ()))) ∧ ∀ (x_1 : Int × List UInt8 × List UInt8 × List UInt8 × Unit), nth ((markTo markSt (4 : Int) xs k i).set (tN (Int.ofNat i)) (atD (4 : Int) k i, x.snd.fst, x.snd.snd.fst, x.snd.snd.snd.fst, ())) (tN (Int.ofNat i)) = some x_1 → true = true ∧ wAdd IntKind.i64 (wAdd IntKind.i64 (atD (4 : Int) k i) (1 : Int)) (1 : Int) ≤ (9000000000000000 : (PTy.v I).den) ∧ bnd (Int.ofNat i) (lenL (((markTo markSt (4 : Int) xs k i).set (tN (Int.ofNat i)) (atD (4 : Int) k i, x.snd.fst, x.snd.snd.fst, x.snd.snd.snd.fst, ())).set (tN (Int.ofNat i)) (x_1.fst, markText (wAdd IntKind.i64 (atD (4 : Int) k i) (1 : Int)), x_1.snd.snd.fst, x_1.snd.snd.snd.fst, ()))) ∧ (nat_lit 3 ≤ nat_lit 4 ∧ tN (Int.ofNat i) < lenL (((markTo markSt (4 : Int) xs k i).set (tN (Int.ofNat i)) (atD (4 : Int) k i, x.snd.fst, x.snd.snd.fst, x.snd.snd.snd.fst, ())).set (tN (Int.ofNat i)) (x_1.fst, markText (wAdd IntKind.i64 (atD (4 : Int) k i) (1 : Int)), x_1.snd.snd.fst, x_1.snd.snd.snd.fst, ()))) ∧ ∀ (x_2 : Int × List UInt8 × List UInt8 × List UInt8 × Unit), nth (((markTo markSt (4 : Int) xs k i).set (tN (Int.ofNat i)) (atD (4 : Int) k i, x.snd.fst, x.snd.snd.fst, x.snd.snd.snd.fst, ())).set (tN (Int.ofNat i)) (x_1.fst, markText (wAdd IntKind.i64 (atD (4 : Int) k i) (1 : Int)), x_1.snd.snd.fst, x_1.snd.snd.snd.fst, ())) (tN (Int.ofNat i)) = some x_2 → true = true ∧ wAdd IntKind.i64 (wAdd IntKind.i64 (wAdd IntKind.i64 (atD (4 : Int) k i) (1 : Int)) (1 : Int)) (1 : Int) ≤ (9000000000000000 : (PTy.v I).den) ∧ bnd (Int.ofNat i) (lenL ((((markTo markSt (4 : Int) xs k i).set (tN (Int.ofNat i)) (atD (4 : Int) k i, x.snd.fst, x.snd.snd.fst, x.snd.snd.snd.fst, ())).set (tN (Int.ofNat i)) (x_1.fst, markText (wAdd IntKind.i64 (atD (4 : Int) k i) (1 : Int)), x_1.snd.snd.fst, x_1.snd.snd.snd.fst, ())).set (tN (Int.ofNat i)) (x_2.fst, x_2.snd.fst, markText (wAdd IntKind.i64 (wAdd IntKind.i64 (atD (4 : Int) k i) (1 : Int)) (1 : Int)), x_2.snd.snd.snd.fst, ()))) ∧ (nat_lit 4 ≤ nat_lit 4 ∧ tN (Int.ofNat i) < lenL ((((markTo markSt (4 : Int) xs k i).set (tN (Int.ofNat i)) (atD (4 : Int) k i, x.snd.fst, x.snd.snd.fst, x.snd.snd.snd.fst, ())).set (tN (Int.ofNat i)) (x_1.fst, markText (wAdd IntKind.i64 (atD (4 : Int) k i) (1 : Int)), x_1.snd.snd.fst, x_1.snd.snd.snd.fst, ())).set (tN (Int.ofNat i)) (x_2.fst, x_2.snd.fst, markText (wAdd IntKind.i64 (wAdd IntKind.i64 (atD (4 : Int) k i) (1 : Int)) (1 : Int)), x_2.snd.snd.snd.fst, ()))) ∧ ∀ (x_3 : Int × List UInt8 × List UInt8 × List UInt8 × Unit), nth ((((markTo markSt (4 : Int) xs k i).set (tN (Int.ofNat i)) (atD (4 : Int) k i, x.snd.fst, x.snd.snd.fst, x.snd.snd.snd.fst, ())).set (tN (Int.ofNat i)) (x_1.fst, markText (wAdd IntKind.i64 (atD (4 : Int) k i) (1 : Int)), x_1.snd.snd.fst, x_1.snd.snd.snd.fst, ())).set (tN (Int.ofNat i)) (x_2.fst, x_2.snd.fst, markText (wAdd IntKind.i64 (wAdd IntKind.i64 (atD (4 : Int) k i) (1 : Int)) (1 : Int)), x_2.snd.snd.snd.fst, ())) (tN (Int.ofNat i)) = some x_3 → ∃ (j : Nat), j ≤ List.length xs ∧ (List.length xs).sub j < (List.length xs).sub i ∧ ((0 : Nat) = (0 : Nat) ∧ wAdd IntKind.i64 (wAdd IntKind.i64 (wAdd IntKind.i64 (wAdd IntKind.i64 (atD (4 : Int) k i) (1 : Int)) (1 : Int)) (1 : Int)) (1 : Int) = atD (4 : Int) k j ∧ wAdd IntKind.i64 (Int.ofNat i) (1 : Int) = Int.ofNat j ∧ True) ∧ ((((((markTo markSt (4 : Int) xs k i).set (tN (Int.ofNat i)) (atD (4 : Int) k i, x.snd.fst, x.snd.snd.fst, x.snd.snd.snd.fst, ())).set (tN (Int.ofNat i)) (x_1.fst, markText (wAdd IntKind.i64 (atD (4 : Int) k i) (1 : Int)), x_1.snd.snd.fst, x_1.snd.snd.snd.fst, ())).set (tN (Int.ofNat i)) (x_2.fst, x_2.snd.fst, markText (wAdd IntKind.i64 (wAdd IntKind.i64 (atD (4 : Int) k i) (1 : Int)) (1 : Int)), x_2.snd.snd.snd.fst, ())).set (tN (Int.ofNat i)) (x_3.fst, x_3.snd.fst, x_3.snd.snd.fst, markText (wAdd IntKind.i64 (wAdd IntKind.i64 (wAdd IntKind.i64 (atD (4 : Int) k i) (1 : Int)) (1 : Int)) (1 : Int)), ()) = markTo markSt (4 : Int) xs k j ∧ true = true) ∧ True) ∧ True) ∧ (decide (Int.ofNat i < iOf (lenL (markTo markSt (4 : Int) xs k i))) = false → (atD (4 : Int) k i, ()) = (atD (4 : Int) k (List.length xs), ()) ∧ (markTo markSt (4 : Int) xs k i, ()) = (markL markSt (4 : Int) (List.length xs) k, ()))) (by kernel_rfl) ?_
  simp only [Nat.le_refl, Nat.succ_eq_add_one, Nat.reduceAdd, Nat.reduceLeDiff, Nat.zero_le, pair_unit, mk_eta, len_bne, eqD_bne, bne_iff_ne, bne_eq_false_iff_eq, beq_iff_eq, beq_eq_false_iff_ne, true_and, and_true, and_self, eq_self, lt_iff, nthI_nat, bnd_iff, decide_eq_true_eq, decide_eq_false_iff_not, Nat.sub_eq, nz, ne_eq, not_false_eq_true, Prod.mk.injEq, Int.reduceEq, Nat.reduceEqDiff, forall_const, implies_true, bne_self_eq_false, Bool.true_eq_false, Bool.false_eq_true, false_implies, reduceCtorEq, Bool.not_true, Bool.not_false, List.all_cons, List.all_nil, Bool.and_true, Bool.not_eq_true, Bool.not_eq_false, Bool.not_eq_true', Bool.not_eq_false', Decidable.not_not]; try simp only [lenL]
  refine ⟨⟨0, Nat.zero_le _, ⟨atD_zero .., rfl⟩, (markTo_zero ..).symm⟩, fun j hj hf => ⟨fun hlt => ?_, fun hge => ?_⟩⟩
  · have e0 : (markTo markSt 4 xs k j).length = List.length xs := markTo_len hj
    rw [e0] at hlt hf
    have hd : (0 : Int) ≤ 4 ∧ (4 : Int) ≤ 16 := by decide
    simp only [tN_nat, at_add0 hp hd hj hf, at_add1 hp hd hj hf, at_add2 hp hd hj hf, at_add3 hp hd hj hf]
    refine ⟨e0 ▸ hlt, e0 ▸ hlt, fun x hx => ⟨at_small hp hd hj hf, by simp only [List.length_set]; rw [e0]; exact hlt, by simp only [List.length_set]; rw [e0]; exact hlt, fun x1 h1 => ?_⟩⟩
    cases nth_set h1
    refine ⟨at_small2 hp hd hj hf, by simp only [List.length_set]; rw [e0]; exact hlt, by simp only [List.length_set]; rw [e0]; exact hlt, fun x2 h2 => ?_⟩
    cases nth_set h2
    refine ⟨at_small3 hp hd hj hf, by simp only [List.length_set]; rw [e0]; exact hlt, by simp only [List.length_set]; rw [e0]; exact hlt, fun x3 h3 => ?_⟩
    cases nth_set h3
    refine ⟨j + 1, hlt, Nat.sub_lt_sub_left hlt (Nat.lt_succ_self j), ⟨atD_succ 4 k j, inc_in hf hj⟩, ?_⟩
    rw [List.set_set, List.set_set, List.set_set]
    exact markTo_set hlt
  · have hge : ¬ j < List.length xs := by rw [← markTo_len (f := markSt) (d := 4) (k := k) hj]; exact hge
    have : j = List.length xs := by omega
    subst this
    exact ⟨rfl, markTo_end hj hge⟩
end Go.Proofs.YtjkipndhdemnoaaGreatDoor
namespace Go.Proofs.YtjkipndhdemnoaaGreatDoor
open Go.Ab Go.Fn
def s_heldStepS : FSpec := { ps := [.v (.slice tStep), .v I], rs := [.v I], pre := fun x => kOK x.2.1, fn := fun x => (heldSt x.1 x.2.1, ()), upd := fun x => () }
def L_heldStepS (xs : List Fn.StepV) (k : Int) : LoopAnn := { ι := Nat, inv := fun j => j ≤ xs.length ∧ xs.take j = markL markSt 4 j k, slots := fun j => [(5, .d I (Int.ofNat j)), (1, .d I (atD 4 k j))], objs := fun j => [], μ := fun j => xs.length - j }
theorem fo_heldStepS : FO 17 s_heldStepS := by
  refine fo (specs := [(47, s_markText)]) (clos := []) (fun x => [(2, .lv [0, 1, 5] <| fun _ => L_heldStepS x.1 x.2.1)]) ⟨fo_markText, trivial⟩ trivial Tryz.func17 rfl rfl ?_
  rintro ⟨xs, k, ⟨⟩⟩ hp
  have hp : kOK k := hp
  refine vcOf ((∃ (i : Nat), (i ≤ List.length xs ∧ List.take i xs = markL markSt (4 : Int) i k) ∧ (xs = xs ∧ k = atD (4 : Int) k i ∧ (0 : Int) = Int.ofNat i ∧ True) ∧ True ∧ True) ∧ ∀ (i : Nat), i ≤ List.length xs ∧ List.take i xs = markL markSt (4 : Int) i k → fits (lenL xs) → (decide (Int.ofNat i < iOf (lenL xs)) = true → bnd (Int.ofNat i) (lenL xs) ∧ ∀ (x : Int × List UInt8 × List UInt8 × List UInt8 × Unit), nthI xs (Int.ofNat i) = some x → nat_lit 1 ≤ (Nat.succ (nat_lit 1)).succ.succ ∧ ((x.fst != atD (4 : Int) k i) = true → ((-1 : Int), ()) = (heldSt xs k, ()) ∧ () = ()) ∧ ((x.fst != atD (4 : Int) k i) = false → bnd (Int.ofNat i) (lenL xs) ∧ ∀ (x : Int × List UInt8 × List UInt8 × List UInt8 × Unit), nthI xs (Int.ofNat i) = some x → nat_lit 1 ≤ (Nat.succ (nat_lit 1)).succ ∧ true = true ∧ wAdd IntKind.i64 (atD (4 : Int) k i) (1 : Int) ≤ (9000000000000000 : (PTy.v I).den) ∧ ((!x.snd.fst == markText (wAdd IntKind.i64 (atD (4 : Int) k i) (1 : Int))) = true → ((-1 : Int), ()) = (heldSt xs k, ()) ∧ () = ()) ∧ ((!x.snd.fst == markText (wAdd IntKind.i64 (atD (4 : Int) k i) (1 : Int))) = false → bnd (Int.ofNat i) (lenL xs) ∧ ∀ (x : Int × List UInt8 × List UInt8 × List UInt8 × Unit), nthI xs (Int.ofNat i) = some x → nat_lit 1 ≤ Nat.succ (nat_lit 1) ∧ true = true ∧ wAdd IntKind.i64 (wAdd IntKind.i64 (atD (4 : Int) k i) (1 : Int)) (1 : Int) ≤ (9000000000000000 : (PTy.v I).den) ∧ ((!x.snd.snd.fst == markText (wAdd IntKind.i64 (wAdd IntKind.i64 (atD (4 : Int) k i) (1 : Int)) (1 : Int))) = true → ((-1 : Int), ()) = (heldSt xs k, ()) ∧ () = ()) ∧ ((!x.snd.snd.fst == markText (wAdd IntKind.i64 (wAdd IntKind.i64 (atD (4 : Int) k i) (1 : Int)) (1 : Int))) = false → bnd (Int.ofNat i) (lenL xs) ∧ ∀ (x : Int × List UInt8 × List UInt8 × List UInt8 × Unit), nthI xs (Int.ofNat i) = some x → nat_lit 1 ≤ nat_lit 1 ∧ true = true ∧ wAdd IntKind.i64 (wAdd IntKind.i64 (wAdd IntKind.i64 (atD (4 : Int) k i) (1 : Int)) (1 : Int)) (1 : Int) ≤ (9000000000000000 : (PTy.v I).den) ∧ ((!x.snd.snd.snd.fst == markText (wAdd IntKind.i64 (wAdd IntKind.i64 (wAdd IntKind.i64 (atD (4 : Int) k i) (1 : Int)) (1 : Int)) (1 : Int))) = true → ((-1 : Int), ()) = (heldSt xs k, ()) ∧ () = ()) ∧ ((!x.snd.snd.snd.fst == markText (wAdd IntKind.i64 (wAdd IntKind.i64 (wAdd IntKind.i64 (atD (4 : Int) k i) (1 : Int)) (1 : Int)) (1 : Int))) = false → ∃ (j : Nat), (j ≤ List.length xs ∧ List.take j xs = markL markSt (4 : Int) j k) ∧ (List.length xs).sub j < (List.length xs).sub i ∧ (xs = xs ∧ wAdd IntKind.i64 (wAdd IntKind.i64 (wAdd IntKind.i64 (wAdd IntKind.i64 (atD (4 : Int) k i) (1 : Int)) (1 : Int)) (1 : Int)) (1 : Int) = atD (4 : Int) k j ∧ wAdd IntKind.i64 (Int.ofNat i) (1 : Int) = Int.ofNat j ∧ True) ∧ True ∧ True))))) ∧ (decide (Int.ofNat i < iOf (lenL xs)) = false → (atD (4 : Int) k i, ()) = (heldSt xs k, ()) ∧ () = ())) (by kernel_rfl) ?_
  simp only [Nat.le_refl, Nat.succ_eq_add_one, Nat.reduceAdd, Nat.reduceLeDiff, Nat.zero_le, pair_unit, mk_eta, len_bne, eqD_bne, bne_iff_ne, bne_eq_false_iff_eq, beq_iff_eq, beq_eq_false_iff_ne, true_and, and_true, and_self, eq_self, lt_iff, nthI_nat, bnd_iff, decide_eq_true_eq, decide_eq_false_iff_not, Nat.sub_eq, nz, ne_eq, not_false_eq_true, Prod.mk.injEq, Int.reduceEq, Nat.reduceEqDiff, forall_const, implies_true, bne_self_eq_false, Bool.true_eq_false, Bool.false_eq_true, false_implies, reduceCtorEq, Bool.not_true, Bool.not_false, List.all_cons, List.all_nil, Bool.and_true, Bool.not_eq_true, Bool.not_eq_false, Bool.not_eq_true', Bool.not_eq_false', Decidable.not_not]; try simp only [lenL]
  have hd : (0 : Int) ≤ 4 ∧ (4 : Int) ≤ 16 := by decide
  refine ⟨⟨0, ⟨Nat.zero_le _, rfl⟩, atD_zero .., rfl⟩, fun j ⟨hj, ht⟩ hf => ⟨fun hlt => ?_, fun hge => held_end hj hge ht⟩⟩
  simp only [at_add0 hp hd hj hf, at_add1 hp hd hj hf, at_add2 hp hd hj hf, at_add3 hp hd hj hf]
  refine ⟨hlt, fun x hx => ⟨fun h => held_bad hx (fun e => h (by rw [e]; rfl)), fun h1 => ⟨hlt, fun x2 hx2 => ?_⟩⟩⟩
  rw [hx] at hx2; cases hx2
  refine ⟨at_small hp hd hj hf, fun h => held_bad hx (fun e => h (by rw [e]; rfl)), fun h2 => ⟨hlt, fun x3 hx3 => ?_⟩⟩
  rw [hx] at hx3; cases hx3
  refine ⟨at_small2 hp hd hj hf, fun h => held_bad hx (fun e => h (by rw [e]; rfl)), fun h3 => ⟨hlt, fun x4 hx4 => ?_⟩⟩
  rw [hx] at hx4; cases hx4
  refine ⟨at_small3 hp hd hj hf, fun h => held_bad hx (fun e => h (by rw [e]; rfl)), fun h4 => ⟨j + 1, ⟨hlt, held_step ht hx ?_⟩, Nat.sub_lt_sub_left hlt (Nat.lt_succ_self j), atD_succ 4 k j, inc_in hf hj⟩⟩
  obtain ⟨x1, x2, x3, x4, ⟨⟩⟩ := x
  have h1 : x1 = atD 4 k j := h1
  have h2 : x2 = markText (atD 4 k j + 1) := h2
  have h3 : x3 = markText (atD 4 k j + 2) := h3
  have h4 : x4 = markText (atD 4 k j + 3) := h4
  rw [h1, h2, h3, h4]; rfl
end Go.Proofs.YtjkipndhdemnoaaGreatDoor
namespace Go.Proofs.YtjkipndhdemnoaaGreatDoor
open Go.Ab Go.Fn
theorem ft_law_FnExactRecoverPlan : FT 3 (lawSpec [tDisk] 1048576) := by
  refine foTI (specs := [(9, s_szDisk), (11, s_toDisk), (10, s_RP), (12, s_RP), (13, s_eqStepS), (14, s_eqDisk), (16, s_markStepS), (17, s_heldStepS)]) (clos := []) (inl := [(15, i_markDisk)]) (fun x => []) ⟨toT fo_szDisk, toT fo_toDisk, toT fo_sRecoverPlan, ft_RecoverPlan, toT fo_eqStepS, toT fo_eqDisk, toT fo_markStepS, toT fo_heldStepS, trivial⟩ trivial ⟨inT (fun _ _ => []) ⟨fo_markInodeS, fo_markSlotS, trivial⟩ trivial trivial Tryz.func15 rfl rfl, trivial⟩ Tryz.func3 rfl rfl ?_
  rintro ⟨⟨a, b, c, d, ⟨⟩⟩, ⟨⟩⟩ hl
  refine vcOf (nat_lit 4 ≤ (Nat.succ (nat_lit 1)).succ.succ ∧ true = true ∧ ((0 : (PTy.v I).den) ≤ (1048576 : Int) ∧ (1048576 : Int) ≤ (1048576 : (PTy.v I).den)) ∧ (decide (szDisk (a, b, c, d, ()) (1048576 : Int) < (0 : Int)) = true → (true, ()) = (true, ()) ∧ () = ()) ∧ (decide (szDisk (a, b, c, d, ()) (1048576 : Int) < (0 : Int)) = false → nat_lit 4 ≤ (Nat.succ (nat_lit 1)).succ.succ ∧ true = true ∧ True ∧ true = true ∧ True ∧ nat_lit 4 ≤ (Nat.succ (nat_lit 1)).succ.succ ∧ true = true ∧ True ∧ nat_lit 4 ≤ nat_lit 4 ∧ nat_lit 4 ≤ (Nat.succ (nat_lit 1)).succ.succ ∧ true = true ∧ True ∧ true = true ∧ True ∧ ((!eqL (rpS (a, b, c, d, ())) (rpS (a, b, c, d, ()))) = false → ((rpC (a, b, c, d, ()) != rpC (a, b, c, d, ())) = true → (false, ()) = (true, ()) ∧ () = ()) ∧ ((rpC (a, b, c, d, ()) != rpC (a, b, c, d, ())) = false → nat_lit 4 ≤ (Nat.succ (nat_lit 1)).succ.succ ∧ nat_lit 4 ≤ (Nat.succ (nat_lit 1)).succ.succ ∧ true = true ∧ True ∧ true = true ∧ True ∧ ((!eqDisk (a, b, c, d, ()) (a, b, c, d, ())) = true → (false, ()) = (true, ()) ∧ () = ()) ∧ ((!eqDisk (a, b, c, d, ()) (a, b, c, d, ())) = false → nat_lit 4 ≤ (Nat.succ (nat_lit 1)).succ.succ ∧ nat_lit 1 ≤ (Nat.succ (nat_lit 1)).succ.succ ∧ true = true ∧ kOK (1 : Int) ∧ nat_lit 2 ≤ (Nat.succ (nat_lit 1)).succ.succ ∧ true = true ∧ kOK (atD (3 : Int) (1 : Int) (List.length a)) ∧ nat_lit 3 ≤ (Nat.succ (nat_lit 1)).succ.succ ∧ true = true ∧ kOK (atD (2 : Int) (atD (3 : Int) (1 : Int) (List.length a)) (List.length b)) ∧ (decide (atD (2 : Int) (atD (2 : Int) (atD (3 : Int) (1 : Int) (List.length a)) (List.length b)) (List.length c) < (0 : Int)) = false → true = true ∧ True ∧ ((!eqL (rpS (a, b, c, d, ())) (rpS (a, b, c, d, ()))) = false → ((rpC (a, b, c, d, ()) != rpC (a, b, c, d, ())) = true → (false, ()) = (true, ()) ∧ () = ()) ∧ ((rpC (a, b, c, d, ()) != rpC (a, b, c, d, ())) = false → true = true ∧ kOK (1 : Int) ∧ true = true ∧ kOK (1 : Int) ∧ (decide (heldSt (markL markSt (4 : Int) (rpS (a, b, c, d, ())).length (1 : Int)) (1 : Int) < (0 : Int)) = true → (false, ()) = (true, ()) ∧ () = ()) ∧ (decide (heldSt (markL markSt (4 : Int) (rpS (a, b, c, d, ())).length (1 : Int)) (1 : Int) < (0 : Int)) = false → ((heldSt (markL markSt (4 : Int) (rpS (a, b, c, d, ())).length (1 : Int)) (1 : Int) != atD (4 : Int) (1 : Int) (rpS (a, b, c, d, ())).length) = true → (false, ()) = (true, ()) ∧ () = ()) ∧ ((heldSt (markL markSt (4 : Int) (rpS (a, b, c, d, ())).length (1 : Int)) (1 : Int) != atD (4 : Int) (1 : Int) (rpS (a, b, c, d, ())).length) = false → nat_lit 4 ≤ (Nat.succ (nat_lit 1)).succ.succ ∧ true = true ∧ True ∧ true = true ∧ True ∧ true = true ∧ True ∧ ((!eqL (rpS (a, b, c, d, ())) (rpS (a, b, c, d, ()))) = false → ((rpC (a, b, c, d, ()) != rpC (a, b, c, d, ())) = true → (false, ()) = (true, ()) ∧ () = ()) ∧ ((rpC (a, b, c, d, ()) != rpC (a, b, c, d, ())) = false → true = true ∧ kOK (1 : Int) ∧ (decide (heldSt (markL markSt (4 : Int) (rpS (a, b, c, d, ())).length (1 : Int)) (1 : Int) < (0 : Int)) = true → (false, ()) = (true, ()) ∧ () = ()) ∧ (decide (heldSt (markL markSt (4 : Int) (rpS (a, b, c, d, ())).length (1 : Int)) (1 : Int) < (0 : Int)) = false → ((heldSt (markL markSt (4 : Int) (rpS (a, b, c, d, ())).length (1 : Int)) (1 : Int) != atD (4 : Int) (1 : Int) (rpS (a, b, c, d, ())).length) = true → (false, ()) = (true, ()) ∧ () = ()) ∧ ((heldSt (markL markSt (4 : Int) (rpS (a, b, c, d, ())).length (1 : Int)) (1 : Int) != atD (4 : Int) (1 : Int) (rpS (a, b, c, d, ())).length) = false → (true, ()) = (true, ()) ∧ () = ())))) ∧ ((!eqL (rpS (a, b, c, d, ())) (rpS (a, b, c, d, ()))) = true → (false, ()) = (true, ()) ∧ () = ()))))) ∧ ((!eqL (rpS (a, b, c, d, ())) (rpS (a, b, c, d, ()))) = true → (false, ()) = (true, ()) ∧ () = ())) ∧ (decide (atD (2 : Int) (atD (2 : Int) (atD (3 : Int) (1 : Int) (List.length a)) (List.length b)) (List.length c) < (0 : Int)) = true → (false, ()) = (true, ()) ∧ () = ())))) ∧ ((!eqL (rpS (a, b, c, d, ())) (rpS (a, b, c, d, ()))) = true → (false, ()) = (true, ()) ∧ () = ()))) (by kernel_rfl) ?_
  simp only [Nat.le_refl, Nat.succ_eq_add_one, Nat.reduceAdd, Nat.reduceLeDiff, Nat.zero_le, pair_unit, mk_eta, len_bne, eqD_bne, bne_iff_ne, bne_eq_false_iff_eq, beq_iff_eq, beq_eq_false_iff_ne, true_and, and_true, and_self, eq_self, lt_iff, nthI_nat, bnd_iff, decide_eq_true_eq, decide_eq_false_iff_not, Nat.sub_eq, nz, ne_eq, not_false_eq_true, Prod.mk.injEq, Int.reduceEq, Nat.reduceEqDiff, forall_const, implies_true, bne_self_eq_false, Bool.true_eq_false, Bool.false_eq_true, false_implies, reduceCtorEq, Bool.not_true, Bool.not_false, List.all_cons, List.all_nil, Bool.and_true, Bool.not_eq_true, Bool.not_eq_false, Bool.not_eq_true', Bool.not_eq_false', Decidable.not_not]; try simp only [lenL]
  refine ⟨by constructor <;> decide, fun hs => ?_⟩
  have hS := sz_small hs
  have e1 : ∀ n, heldSt (markL markSt 4 n 1) 1 = atD 4 1 n := fun n => heldSt_mark
  have e2 : eqL (rpS (a, b, c, d, ())) (rpS (a, b, c, d, ())) = true := eqL_self _
  have e3 : eqDisk (a, b, c, d, ()) (a, b, c, d, ()) = true := eqDisk_self _
  have e4 := markN_pos hS
  simp only [e1, e2, e3]
  exact ⟨fun _ => ⟨fun h => Bool.noConfusion h, fun _ => ⟨kOK_one, atD_kOK1 hS.1, atD_kOK2 hS.1 hS.2.1, fun _ => ⟨fun _ => ⟨kOK_one, kOK_one, fun h => absurd h atD4_pos, fun _ => ⟨fun h => h trivial, fun _ => ⟨fun _ => ⟨kOK_one, fun h => absurd h atD4_pos, fun _ h => h trivial⟩, fun h => Bool.noConfusion h⟩⟩⟩, fun h => Bool.noConfusion h⟩, fun h => absurd h e4⟩⟩, fun h => Bool.noConfusion h⟩
end Go.Proofs.YtjkipndhdemnoaaGreatDoor
namespace Go.Proofs.YtjkipndhdemnoaaGreatDoor
open Go.Ab Go.Fn Go.ChangeShapes Go.WideShapes Go.ChangeAt Go.RowKit
theorem bulk {H : Type} : Bulk (Rows.uptoBulk (H := H)) Rows.uptoBulkAll := by
  constructor <;> intros <;> simp [Rows.uptoBulk, Rows.uptoBulkAll]
theorem own : ownKnob Tryz.prog.godebug = none := by kernel_rfl
def valsOf : Nat → DataW Unit → List Value
  | _, .lit (.int k v) => [.int k v]
  | n + 1, .agg l => l.flatMap (valsOf n)
  | _, _ => []
def layAt (h : Array _root_.Go.Obj) (b : Nat) (d : DataW Unit) : Array _root_.Go.Obj := h.modify b fun
  | .cells _ t frozen => .cells (valsOf 3 d).toArray t frozen
  | o => o
noncomputable def laidWorld (os : Os) : World :=
  { World.holding Tryz.prog os ⟨#[], #[], []⟩ with heap := layAt (layAt (layAt (layAt (layAt (World.holding Tryz.prog os ⟨#[], #[], []⟩).heap 2 Rows.laid_math_bits_deBruijn32tab) 3 Rows.laid_math_bits_deBruijn64tab) 1 Rows.laid_internal_strconv_uint64pow10) 5 Rows.laid_unicode_utf8_acceptRanges) 4 Rows.laid_unicode_utf8_first }
theorem laid_met (os : Os) : laidMet Tryz.prog Rows.fnExactRecoverPlanUptoRow.laid ((laidWorld os).forCall (fun _ _ => 0) ⟨#[], #[.agg #[.slice none 0 0, .slice none 0 0, .slice none 0 0, .int .i64 0]], []⟩).memory :=
  laidMet_of_run3 8 (by kernel_rfl) (by kernel_rfl) (by kernel_rfl)
theorem reads (os : Os) {H : Type} (enc : TypeId × Value → H) : ∃ places, DataW.whole enc Tryz.prog ((laidWorld os).forCall (fun _ _ => 0) ⟨#[], #[.agg #[.slice none 0 0, .slice none 0 0, .slice none 0 0, .int .i64 0]], []⟩).memory Tryz.f3.params.toList Rows.fnExactRecoverPlanSpec.vars false (#[.agg #[.slice none 0 0, .slice none 0 0, .slice none 0 0, .int .i64 0]] : Array Value).toList 8 = some ([.agg [.nil, .nil, .nil, .lit (.int .i64 0)]], [], places) :=
  ⟨[], by kernel_rfl⟩
set_option maxRecDepth 100000 in
theorem fnExactRecoverPlan_lifted (os : Os) (started : os.Started) (H : Type) (enc : TypeId × Value → H) (F : Stop.Interp) :
    ReturnsInHanded {} Tryz.checked os 3 .any ((Rows.OpenSpec.upto Rows.fnExactRecoverPlanSpec).preRow enc Tryz.prog Tryz.f3 Rows.fnExactRecoverPlanUptoRow.domain false Rows.fnExactRecoverPlanUptoRow.laid) (((Rows.OpenSpec.upto Rows.fnExactRecoverPlanSpec).at F).post enc Tryz.prog Tryz.f3 false true false false) := by
  obtain ⟨places, hx⟩ := reads os enc
  refine returnsInHanded_of_row (C := Tryz.checked) (s := Rows.OpenSpec.upto Rows.fnExactRecoverPlanSpec) own started (by kernel_rfl) Tryz.func3
    (witness_row_at (enc := enc) (C := Tryz.checked) false (laidWorld os) #[.agg #[.slice none 0 0, .slice none 0 0, .slice none 0 0, .int .i64 0]] rfl (by kernel_rfl) (by kernel_rfl) (by kernel_rfl)
      (OpenSpec.preRow_of_cond 8 hx (by kernel_rfl) (fun k hk => by cases hk; kernel_rfl) (by kernel_rfl) (laid_met os))) ?_
  intro W base args ds gs before hval hW _ hk _ hL _ _
  have hT : tabP W := tab_head (met_tail (met_tail hL))
  refine law_contractT bulk ft_law_FnExactRecoverPlan (by kernel_rfl) rfl ?_ (tb := 4) rfl (by kernel_rfl) hT (fun b hb => tab_lt hT (show b < 1 + 1 from hb)) (tabT [] []) hval hW (of_decide_eq_true (hk _ rfl))
  intro ds hl
  match ds, hl with
  | [_], _ => rfl
theorem fnExactRecoverPlan_said : Rows.FnExactRecoverPlanUptoSaid :=
  OpenClaim.holds_of_cond 3 Tryz.f3 rfl rfl rfl rfl rfl rfl rfl ⟨rfl, rfl, rfl, rfl, rfl⟩ rfl rfl rfl rfl rfl (by kernel_rfl) Tryz.func3 (by kernel_rfl)
    (of_decide_eq_true (by kernel_rfl)) (by unfold Func.isWrapper; first | (rw [if_pos (by decide +kernel)]; kernel_rfl) | (rw [if_neg (by decide +kernel)]; exact ⟨rfl, rfl⟩))
    (fun os started H enc _ F => by rw [OpenClaim.pre_eq_preRow]; exact fnExactRecoverPlan_lifted os started H enc F)
theorem noStandIn : (Tryz.f3.params.toList.all fun t => !(Tryz.pinned.checked.prog.wantsStandIn t)) = true := by kernel_rfl
theorem fnExactRecoverPlan_plain (f : FuncId) (fn : Func) (hf : Tryz.pinned.checked.prog.funcNamed "loop.example/g00798/laws.FnExactRecoverPlan" = some f) (hfn : Tryz.pinned.checked.prog.funcs[f]? = some fn) :
    true = Tryz.pinned.checked.prog.looks [] ∧ ∀ (j : Nat) t, fn.params[j]? = some t → Tryz.pinned.checked.prog.wantsStandIn t = false := by
  obtain rfl : f = 3 := Option.some.inj ((show Tryz.prog.funcNamed "loop.example/g00798/laws.FnExactRecoverPlan" = some 3 by kernel_rfl).symm.trans hf) |>.symm
  obtain rfl : fn = Tryz.f3 := (Option.some.inj (Tryz.func3.symm.trans hfn)).symm
  refine ⟨by kernel_rfl, fun j t ht => ?_⟩
  have h := List.all_eq_true.1 noStandIn t (by simpa using Array.mem_of_getElem? ht)
  simpa using h
theorem fnExactRecoverPlan_holds : Rows.FnExactRecoverPlanUptoCardSaid :=
  Claim7.holds_tied_plain_at .later [] _ _ _ _ fnExactRecoverPlan_said (fun _ h => by cases h) (by kernel_rfl) (fun _ h => by cases h) fnExactRecoverPlanUpto_row_tie rfl ⟨rfl, rfl⟩ (by kernel_rfl) rfl fnExactRecoverPlan_plain (by kernel_rfl)
end Go.Proofs.YtjkipndhdemnoaaGreatDoor
