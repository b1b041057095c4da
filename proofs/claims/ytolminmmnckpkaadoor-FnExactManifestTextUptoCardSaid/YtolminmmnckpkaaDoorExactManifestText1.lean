/- Every function that the law FnExactManifestText reaches does what its specification (a function on plain data) says; the law answers true wherever what it reads is of bulk at most 1048576. Conditions: that bound. -/
import Derived.Test.YtolminmmnckpkaaDoorAb2
import Derived.Deep.DeepHandedRow
import Derived.Deep.DeepLaidRun
import Derived.Laws.BitsLemmas
import Derived.Lib.Bytealg
import Derived.Lib.ItoaLen
import Derived.Lib.ItoaMem
import Derived.Lib.Join
import Derived.Lib.LaidTab
import Derived.OpenShut
import Derived.ProofKit
import Derived.Shelf.GgSortFunc.RowK
import Derived.Shelf.LaysM
import Derived.Shelf.SlLaysF0
import Derived.Shelf.SlLaysM
import Derived.Shelf.SlLaysN
import Derived.Shelf.SlicesG.CompactS
import Derived.Shelf.SortM.Plain
import Derived.Shelf.SortM.SortNone
import Derived.Shelf.Strconv.Itoa3
import Derived.Shelf.Strings.OnBuilder
import Derived.Sort.Walk0
import Derived.Test.YtolminmmnckpkaaDoorCards
import Derived.Test.YtolminmmnckpkaaDoorRows
import Derived.Test.YtolminmmnckpkaaDoorTie
import Derived.WalkKit
import Derived.Test.YtolminmmnckpkaaDoorExactManifestText0
set_option autoImplicit true
set_option relaxedAutoImplicit true
set_option maxHeartbeats 4000000
set_option maxRecDepth 4000
set_option linter.unusedVariables false
set_option linter.unusedSimpArgs false
namespace Go.Proofs.YtolminmmnckpkaaDoor
open Go.Ab Go.Fn
def s_man : FSpec := { ps := [.v (.slice .str)], rs := [.v .str], pre := fun x => Fn.namesOK x.1 = true, fn := fun x => (Fn.manT x.1, ()), upd := fun _ => () }
def L_man (i : Nat) (l : List (List UInt8)) : LoopAnn := { ι := Nat, inv := fun k => k ≤ l.length, slots := fun k => [(3, .d .str (Fn.manTo l k)), (i, .d I (Int.ofNat k))], objs := fun _ => [], μ := fun k => l.length - k }
theorem fo_l12Manifest : FO 19 s_man := by
  refine fo (specs := [(33, s_Digits), (34, s_l09Sum)]) (clos := []) (fun x => [(3, .lv [0, 3, 4] <| fun _ => L_man 4 x.1)]) ⟨fo_l00Digits, fo_l09Sum, trivial⟩ trivial Tryd.func19 rfl rfl ?_
  rintro ⟨l, ⟨⟩⟩ hl
  refine vcOf ((∃ (i : Nat), i ≤ List.length l ∧ (l = l ∧ ([] : List UInt8) = manTo l i ∧ (0 : Int) = Int.ofNat i ∧ True) ∧ True ∧ True) ∧ ∀ (i : Nat), i ≤ List.length l → fits (lenL l) → (decide (Int.ofNat i < iOf (lenL l)) = true → bnd (Int.ofNat i) (lenL l) ∧ ∀ (x : List UInt8), nthI l (Int.ofNat i) = some x → nat_lit 1 ≤ nat_lit 1 ∧ fits (lenL x + lenL ((10 : UInt8) :: ([] : List UInt8))) ∧ fits (lenL (manTo l i) + lenL (catS x ((10 : UInt8) :: ([] : List UInt8)))) ∧ ∃ (j : Nat), j ≤ List.length l ∧ (List.length l).sub j < (List.length l).sub i ∧ (l = l ∧ catS (manTo l i) (catS x ((10 : UInt8) :: ([] : List UInt8))) = manTo l j ∧ wAdd IntKind.i64 (Int.ofNat i) (1 : Int) = Int.ofNat j ∧ True) ∧ True ∧ True) ∧ (decide (Int.ofNat i < iOf (lenL l)) = false → fits (lenL (manTo l i) + lenL ((115 : UInt8) :: (117 : UInt8) :: (109 : UInt8) :: (32 : UInt8) :: ([] : List UInt8))) ∧ true = true ∧ True ∧ true = true ∧ inI (sum (manTo l i)) ∧ fits (lenL (catS (manTo l i) ((115 : UInt8) :: (117 : UInt8) :: (109 : UInt8) :: (32 : UInt8) :: ([] : List UInt8))) + lenL (itoaS (sum (manTo l i)))) ∧ fits (lenL (catS (catS (manTo l i) ((115 : UInt8) :: (117 : UInt8) :: (109 : UInt8) :: (32 : UInt8) :: ([] : List UInt8))) (itoaS (sum (manTo l i)))) + lenL ((10 : UInt8) :: ([] : List UInt8))) ∧ (catS (catS (catS (manTo l i) ((115 : UInt8) :: (117 : UInt8) :: (109 : UInt8) :: (32 : UInt8) :: ([] : List UInt8))) (itoaS (sum (manTo l i)))) ((10 : UInt8) :: ([] : List UInt8)), ()) = (manT l, ()) ∧ () = ())) (by kernel_rfl) ?_
  simp only [Nat.le_refl, Nat.succ_eq_add_one, Nat.reduceAdd, Nat.reduceLeDiff, Nat.zero_le, pair_unit, mk_eta, len_bne, eqD_bne, bne_iff_ne, bne_eq_false_iff_eq, beq_iff_eq, beq_eq_false_iff_ne, true_and, and_true, and_self, eq_self, lt_iff, nthI_nat, bnd_iff, decide_eq_true_eq, decide_eq_false_iff_not, Nat.sub_eq, nz, ne_eq, not_false_eq_true, Prod.mk.injEq, Int.reduceEq, Nat.reduceEqDiff, forall_const, implies_true, bne_self_eq_false, Bool.true_eq_false, Bool.false_eq_true, false_implies, reduceCtorEq, Bool.not_true, Bool.not_false, List.all_cons, List.all_nil, Bool.and_true, Bool.not_eq_true, Bool.not_eq_false, Bool.not_eq_true', Bool.not_eq_false', Decidable.not_not]; try simp only [lenL]
  have hl : namesOK l = true := hl
  exact ⟨⟨0, Nat.zero_le _, rfl, rfl⟩, fun i hi hf => ⟨fun h => ⟨h, fun x hx => ⟨(man_f1 hl hx).1, (man_f1 hl hx).2, i + 1, h, Nat.sub_lt_sub_left h (Nat.lt_succ_self i), man_succ hx, inc_in hf hi⟩⟩, fun h => ⟨(man_f2 hl hi).1, (man_f2 hl hi).2.1, (man_f2 hl hi).2.2.1, (man_f2 hl hi).2.2.2, man_end hi h⟩⟩⟩
theorem ft_manifest : FT 23 s_man := by
  refine foT (specs := [(41, s_Itoa), (42, s_l09Sum)]) (clos := []) (fun x => [(3, .lv [3, 6, 7, 8] <| fun _ => L_man 8 x.1)]) ⟨ft_Itoa, toT fo_layerSum, trivial⟩ trivial Tryd.func23 rfl rfl ?_
  rintro ⟨l, ⟨⟩⟩ hl
  refine vcOf (fits (lenL l) → (∃ (i : Nat), i ≤ List.length l ∧ (([] : List UInt8) = manTo l i ∧ l = l ∧ iOf (lenL l) = iOf (lenL l) ∧ (0 : Int) = Int.ofNat i ∧ True) ∧ True ∧ True) ∧ ∀ (i : Nat), i ≤ List.length l → (decide (Int.ofNat i < iOf (lenL l)) = true → bnd (Int.ofNat i) (lenL l) ∧ ∀ (x : List UInt8), nthI l (Int.ofNat i) = some x → nat_lit 1 ≤ nat_lit 1 ∧ fits (lenL x + lenL ((10 : UInt8) :: ([] : List UInt8))) ∧ fits (lenL (manTo l i) + lenL (catS x ((10 : UInt8) :: ([] : List UInt8)))) ∧ ∃ (j : Nat), j ≤ List.length l ∧ (List.length l).sub j < (List.length l).sub i ∧ (catS (manTo l i) (catS x ((10 : UInt8) :: ([] : List UInt8))) = manTo l j ∧ l = l ∧ iOf (lenL l) = iOf (lenL l) ∧ wAdd IntKind.i64 (Int.ofNat i) (1 : Int) = Int.ofNat j ∧ True) ∧ True ∧ True) ∧ (decide (Int.ofNat i < iOf (lenL l)) = false → fits (lenL (manTo l i) + lenL ((115 : UInt8) :: (117 : UInt8) :: (109 : UInt8) :: (32 : UInt8) :: ([] : List UInt8))) ∧ true = true ∧ True ∧ true = true ∧ inI (sum (manTo l i)) ∧ fits (lenL (catS (manTo l i) ((115 : UInt8) :: (117 : UInt8) :: (109 : UInt8) :: (32 : UInt8) :: ([] : List UInt8))) + lenL (itoaS (sum (manTo l i)))) ∧ fits (lenL (catS (catS (manTo l i) ((115 : UInt8) :: (117 : UInt8) :: (109 : UInt8) :: (32 : UInt8) :: ([] : List UInt8))) (itoaS (sum (manTo l i)))) + lenL ((10 : UInt8) :: ([] : List UInt8))) ∧ (catS (catS (catS (manTo l i) ((115 : UInt8) :: (117 : UInt8) :: (109 : UInt8) :: (32 : UInt8) :: ([] : List UInt8))) (itoaS (sum (manTo l i)))) ((10 : UInt8) :: ([] : List UInt8)), ()) = (manT l, ()) ∧ () = ())) (by kernel_rfl) ?_
  simp only [Nat.le_refl, Nat.succ_eq_add_one, Nat.reduceAdd, Nat.reduceLeDiff, Nat.zero_le, pair_unit, mk_eta, len_bne, eqD_bne, bne_iff_ne, bne_eq_false_iff_eq, beq_iff_eq, beq_eq_false_iff_ne, true_and, and_true, and_self, eq_self, lt_iff, nthI_nat, bnd_iff, decide_eq_true_eq, decide_eq_false_iff_not, Nat.sub_eq, nz, ne_eq, not_false_eq_true, Prod.mk.injEq, Int.reduceEq, Nat.reduceEqDiff, forall_const, implies_true, bne_self_eq_false, Bool.true_eq_false, Bool.false_eq_true, false_implies, reduceCtorEq, Bool.not_true, Bool.not_false, List.all_cons, List.all_nil, Bool.and_true, Bool.not_eq_true, Bool.not_eq_false, Bool.not_eq_true', Bool.not_eq_false', Decidable.not_not]; try simp only [lenL]
  have hl : namesOK l = true := hl
  exact fun hf => ⟨⟨0, Nat.zero_le _, rfl, rfl⟩, fun i hi => ⟨fun h => ⟨h, fun x hx => ⟨(man_f1 hl hx).1, (man_f1 hl hx).2, i + 1, h, Nat.sub_lt_sub_left h (Nat.lt_succ_self i), man_succ hx, inc_in hf hi⟩⟩, fun h => ⟨(man_f2 hl hi).1, (man_f2 hl hi).2.1, (man_f2 hl hi).2.2.1, (man_f2 hl hi).2.2.2, man_end hi h⟩⟩⟩
end Go.Proofs.YtolminmmnckpkaaDoor
namespace Go.Proofs.YtolminmmnckpkaaDoor
open Go.Ab Go.Fn
def s_isLongStr : FSpec := { ps := [.v (.slice .str)], rs := [.v .bool], pre := fun _ => True, fn := fun x => (decide (iOf (List.length (α := List UInt8) x.1) > 4096), ()), upd := fun _ => () }
theorem fo_isLongStr : FO 21 s_isLongStr := by
  refine fo (specs := []) (clos := []) (fun x => []) trivial trivial Tryd.func21 rfl rfl ?_
  rintro ⟨l, ⟨⟩⟩ -
  refine vcOf (fits (lenL l) → (decide (iOf (lenL l) > (4096 : Int)), ()) = (decide (iOf (List.length l) > (4096 : Int)), ()) ∧ () = ()) (by kernel_rfl) ?_
  simp only [Nat.le_refl, Nat.succ_eq_add_one, Nat.reduceAdd, Nat.reduceLeDiff, Nat.zero_le, pair_unit, mk_eta, len_bne, eqD_bne, bne_iff_ne, bne_eq_false_iff_eq, beq_iff_eq, beq_eq_false_iff_ne, true_and, and_true, and_self, eq_self, lt_iff, nthI_nat, bnd_iff, decide_eq_true_eq, decide_eq_false_iff_not, Nat.sub_eq, nz, ne_eq, not_false_eq_true, Prod.mk.injEq, Int.reduceEq, Nat.reduceEqDiff, forall_const, implies_true, bne_self_eq_false, Bool.true_eq_false, Bool.false_eq_true, false_implies, reduceCtorEq, Bool.not_true, Bool.not_false, List.all_cons, List.all_nil, Bool.and_true, Bool.not_eq_true, Bool.not_eq_false, Bool.not_eq_true', Bool.not_eq_false', Decidable.not_not]; try simp only [lenL]
  exact fun _ => rfl
def s_ManText : FSpec := { ps := [.v (.slice .str)], rs := [.v .str, .v I], pre := fun x => List.length (α := List UInt8) x.1 ≤ 10000000, fn := fun x => (Fn.manS x.1, Fn.manC x.1, ()), upd := fun _ => () }
theorem fo_sManText : FO 7 s_ManText := by
  refine fo (specs := [(18, s_namesOK), (19, s_man)]) (clos := []) (fun x => []) ⟨fo_l12NamesOK, fo_l12Manifest, trivial⟩ trivial Tryd.func7 rfl rfl ?_
  rintro ⟨l, ⟨⟩⟩ hl
  refine vcOf (fits (lenL l) → (decide (iOf (lenL l) > (4096 : Int)) = true → (([] : List UInt8), (2 : Int), ()) = (manS l, manC l, ()) ∧ () = ()) ∧ (decide (iOf (lenL l) > (4096 : Int)) = false → true = true ∧ List.length l ≤ (10000000 : Nat) ∧ ((!namesOK l) = true → (([] : List UInt8), (1 : Int), ()) = (manS l, manC l, ()) ∧ () = ()) ∧ ((!namesOK l) = false → true = true ∧ namesOK l = true ∧ (manT l, (0 : Int), ()) = (manS l, manC l, ()) ∧ () = ()))) (by kernel_rfl) ?_
  simp only [Nat.le_refl, Nat.succ_eq_add_one, Nat.reduceAdd, Nat.reduceLeDiff, Nat.zero_le, pair_unit, mk_eta, len_bne, eqD_bne, bne_iff_ne, bne_eq_false_iff_eq, beq_iff_eq, beq_eq_false_iff_ne, true_and, and_true, and_self, eq_self, lt_iff, nthI_nat, bnd_iff, decide_eq_true_eq, decide_eq_false_iff_not, Nat.sub_eq, nz, ne_eq, not_false_eq_true, Prod.mk.injEq, Int.reduceEq, Nat.reduceEqDiff, forall_const, implies_true, bne_self_eq_false, Bool.true_eq_false, Bool.false_eq_true, false_implies, reduceCtorEq, Bool.not_true, Bool.not_false, List.all_cons, List.all_nil, Bool.and_true, Bool.not_eq_true, Bool.not_eq_false, Bool.not_eq_true', Bool.not_eq_false', Decidable.not_not]; try simp only [lenL]
  exact fun _ => ⟨fun h => mc_long h, fun h => ⟨hl, fun hc => mc_bad h hc, fun hc => ⟨hc, mc_ok h hc⟩⟩⟩
theorem ft_ManText : FT 9 s_ManText := by
  refine foT (specs := [(21, s_isLongStr), (22, s_namesOK), (20, s_first), (23, s_man)]) (clos := []) (fun x => []) ⟨toT fo_isLongStr, toT fo_areLayers, toT fo_first, ft_manifest, trivial⟩ trivial Tryd.func9 rfl rfl ?_
  rintro ⟨l, ⟨⟩⟩ hl
  refine vcOf (true = true ∧ True ∧ true = true ∧ List.length l ≤ (10000000 : Nat) ∧ true = true ∧ True ∧ ((first (AnyV.b (decide (iOf (List.length l) > (4096 : Int))) :: AnyV.n (2 : Int) :: (AnyV.b !namesOK l) :: AnyV.n (1 : Int) :: ([] : List AnyV)) != (0 : Int)) = true → (([] : List UInt8), first (AnyV.b (decide (iOf (List.length l) > (4096 : Int))) :: AnyV.n (2 : Int) :: (AnyV.b !namesOK l) :: AnyV.n (1 : Int) :: ([] : List AnyV)), ()) = (manS l, manC l, ()) ∧ () = ()) ∧ ((first (AnyV.b (decide (iOf (List.length l) > (4096 : Int))) :: AnyV.n (2 : Int) :: (AnyV.b !namesOK l) :: AnyV.n (1 : Int) :: ([] : List AnyV)) != (0 : Int)) = false → true = true ∧ namesOK l = true ∧ (manT l, (0 : Int), ()) = (manS l, manC l, ()) ∧ () = ())) (by kernel_rfl) ?_
  simp only [Nat.le_refl, Nat.succ_eq_add_one, Nat.reduceAdd, Nat.reduceLeDiff, Nat.zero_le, pair_unit, mk_eta, len_bne, eqD_bne, bne_iff_ne, bne_eq_false_iff_eq, beq_iff_eq, beq_eq_false_iff_ne, true_and, and_true, and_self, eq_self, lt_iff, nthI_nat, bnd_iff, decide_eq_true_eq, decide_eq_false_iff_not, Nat.sub_eq, nz, ne_eq, not_false_eq_true, Prod.mk.injEq, Int.reduceEq, Nat.reduceEqDiff, forall_const, implies_true, bne_self_eq_false, Bool.true_eq_false, Bool.false_eq_true, false_implies, reduceCtorEq, Bool.not_true, Bool.not_false, List.all_cons, List.all_nil, Bool.and_true, Bool.not_eq_true, Bool.not_eq_false, Bool.not_eq_true', Bool.not_eq_false', Decidable.not_not]; try simp only [lenL]
  rw [mc_first]
  refine ⟨hl, fun h => ⟨by unfold manS; rw [if_neg h], rfl⟩, fun h => ?_⟩
  have hz := mc_zero h
  exact ⟨hz.2, mc_ok hz.1 hz.2⟩
end Go.Proofs.YtolminmmnckpkaaDoor
namespace Go.Proofs.YtolminmmnckpkaaDoor
open Go.Ab Go.Fn
def s_szStringS : FSpec := { ps := [.v (.slice .str), .v I], rs := [.v I], pre := fun x => 0 ≤ (x.2.1 : Int) ∧ (x.2.1 : Int) ≤ 1048576, fn := fun x => (szList Fn.szStr x.1 x.2.1, ()), upd := fun _ => () }
def L_szStringS (xs : List (List UInt8)) (l0 : Int) : LoopAnn := { ι := Nat × Int, inv := fun p => p.1 ≤ xs.length ∧ (0 ≤ p.2 ∧ p.2 ≤ 1048576) ∧ szGo Fn.szStr (xs.drop p.1) p.2 = szGo Fn.szStr xs (l0 - xs.length), slots := fun p => [(5, .d I (Int.ofNat p.1)), (1, .d I p.2)], objs := fun _ => [], μ := fun p => xs.length - p.1 }
theorem fo_szStringS : FO 6 s_szStringS := by
  refine fo (specs := []) (clos := []) (fun x => [(5, .lv [0, 1, 5] <| fun _ => L_szStringS x.1 x.2.1)]) trivial trivial Tryd.func6 rfl rfl ?_
  rintro ⟨xs, n, ⟨⟩⟩ ⟨hp1, hp2⟩
  have hp1 : (0 : Int) ≤ n := hp1
  have hp2 : (n : Int) ≤ 1048576 := hp2
  refine vcOf (fits (lenL xs) → (decide (wSub IntKind.i64 n (iOf (lenL xs)) < (0 : Int)) = true → ((-1 : Int), ()) = (szList szStr xs n, ()) ∧ () = ()) ∧ (decide (wSub IntKind.i64 n (iOf (lenL xs)) < (0 : Int)) = false → (∃ (i : Nat × Int), (i.fst ≤ List.length xs ∧ ((0 : Int) ≤ i.snd ∧ i.snd ≤ (1048576 : Int)) ∧ szGo szStr (List.drop i.fst xs) i.snd = szGo szStr xs (n - Int.ofNat (List.length xs))) ∧ (xs = xs ∧ wSub IntKind.i64 n (iOf (lenL xs)) = i.snd ∧ (0 : Int) = Int.ofNat i.fst ∧ True) ∧ True ∧ True) ∧ ∀ (i : Nat × Int), i.fst ≤ List.length xs ∧ ((0 : Int) ≤ i.snd ∧ i.snd ≤ (1048576 : Int)) ∧ szGo szStr (List.drop i.fst xs) i.snd = szGo szStr xs (n - Int.ofNat (List.length xs)) → fits (lenL xs) → (decide (Int.ofNat i.fst < iOf (lenL xs)) = true → bnd (Int.ofNat i.fst) (lenL xs) ∧ ∀ (x : List UInt8), nthI xs (Int.ofNat i.fst) = some x → nat_lit 1 ≤ nat_lit 1 ∧ (fits (lenL x) → (decide (wSub IntKind.i64 i.snd (iOf (lenL x)) < (0 : Int)) = true → ((-1 : Int), ()) = (szList szStr xs n, ()) ∧ () = ()) ∧ (decide (wSub IntKind.i64 i.snd (iOf (lenL x)) < (0 : Int)) = false → ∃ (j : Nat × Int), (j.fst ≤ List.length xs ∧ ((0 : Int) ≤ j.snd ∧ j.snd ≤ (1048576 : Int)) ∧ szGo szStr (List.drop j.fst xs) j.snd = szGo szStr xs (n - Int.ofNat (List.length xs))) ∧ (List.length xs).sub j.fst < (List.length xs).sub i.fst ∧ (xs = xs ∧ wSub IntKind.i64 i.snd (iOf (lenL x)) = j.snd ∧ wAdd IntKind.i64 (Int.ofNat i.fst) (1 : Int) = Int.ofNat j.fst ∧ True) ∧ True ∧ True))) ∧ (decide (Int.ofNat i.fst < iOf (lenL xs)) = false → (i.snd, ()) = (szList szStr xs n, ()) ∧ () = ()))) (by kernel_rfl) ?_
  simp only [Nat.le_refl, Nat.succ_eq_add_one, Nat.reduceAdd, Nat.reduceLeDiff, Nat.zero_le, pair_unit, mk_eta, len_bne, eqD_bne, bne_iff_ne, bne_eq_false_iff_eq, beq_iff_eq, beq_eq_false_iff_ne, true_and, and_true, and_self, eq_self, lt_iff, nthI_nat, bnd_iff, decide_eq_true_eq, decide_eq_false_iff_not, Nat.sub_eq, nz, ne_eq, not_false_eq_true, Prod.mk.injEq, Int.reduceEq, Nat.reduceEqDiff, forall_const, implies_true, bne_self_eq_false, Bool.true_eq_false, Bool.false_eq_true, false_implies, reduceCtorEq, Bool.not_true, Bool.not_false, List.all_cons, List.all_nil, Bool.and_true, Bool.not_eq_true, Bool.not_eq_false, Bool.not_eq_true', Bool.not_eq_false', Decidable.not_not]; try simp only [lenL]
  intro hf
  rw [wSub_len hp1 hp2 hf]
  refine ⟨fun h => (if_pos h).symm, fun h => ⟨⟨(0, n - (xs.length : Int)), ⟨Nat.zero_le _, ⟨Int.not_lt.1 h, Int.le_trans (Int.sub_le_self _ (Int.natCast_nonneg _)) hp2⟩, rfl⟩, rfl, rfl⟩, ?_⟩⟩
  have e0 : szList Fn.szStr xs n = szGo Fn.szStr xs (n - (xs.length : Int)) := if_neg h
  rw [e0]
  rintro ⟨k, m⟩ ⟨hk, ⟨hm1, hm2⟩, he⟩ -
  have hm1 : (0 : Int) ≤ m := hm1
  have hm2 : (m : Int) ≤ 1048576 := hm2
  have he : szGo Fn.szStr (xs.drop k) m = szGo Fn.szStr xs (n - (xs.length : Int)) := he
  refine ⟨fun hlt => ⟨hlt, fun x hx hfx => ⟨fun h1 => ?_, fun h1 => ?_⟩⟩, fun hge => ?_⟩
  · rw [← he, szGo_at hx]; exact (if_pos (szStr_neg ⟨hm1, hm2⟩ hfx h1)).symm
  · have h2 := szStr_pos ⟨hm1, hm2⟩ hfx h1
    rw [szGo_at hx] at he
    exact ⟨(k + 1, Fn.szStr x m), ⟨hlt, h2.2, (if_neg (Int.not_lt.2 h2.2.1)).symm.trans he⟩, Nat.sub_lt_sub_left hlt (Nat.lt_succ_self k), h2.1, inc_in hf hk⟩
  · rw [← he, szGo_end hge]
end Go.Proofs.YtolminmmnckpkaaDoor
namespace Go.Proofs.YtolminmmnckpkaaDoor
open Go.Ab Go.Fn
def s_eqStringS : FSpec := { ps := [.v (.slice .str), .v (.slice .str)], rs := [.v .bool], pre := fun _ => True, fn := fun x => (eqL x.1 x.2.1, ()), upd := fun _ => () }
def L_eqStringS (xs ys : List (.str : Ty).den) : LoopAnn := { ι := Nat, inv := fun k => k ≤ xs.length ∧ xs.length = ys.length ∧ xs.take k = ys.take k, slots := fun k => [(5, .d I (Int.ofNat k))], objs := fun _ => [], μ := fun k => xs.length - k }
theorem fo_eqStringS : FO 10 s_eqStringS := by
  refine fo (specs := []) (clos := []) (fun x => [(4, .lv [0, 1, 5] <| fun _ => L_eqStringS x.1 x.2.1)]) trivial trivial Tryd.func10 rfl rfl ?_
  rintro ⟨xs, ys, ⟨⟩⟩ -
  refine vcOf (fits (lenL xs) → fits (lenL ys) → ((iOf (lenL xs) != iOf (lenL ys)) = true → (false, ()) = (eqL xs ys, ()) ∧ () = ()) ∧ ((iOf (lenL xs) != iOf (lenL ys)) = false → (∃ (i : Nat), (i ≤ List.length xs ∧ List.length xs = List.length ys ∧ List.take i xs = List.take i ys) ∧ (xs = xs ∧ ys = ys ∧ (0 : Int) = Int.ofNat i ∧ True) ∧ True ∧ True) ∧ ∀ (i : Nat), i ≤ List.length xs ∧ List.length xs = List.length ys ∧ List.take i xs = List.take i ys → fits (lenL xs) → (decide (Int.ofNat i < iOf (lenL xs)) = true → bnd (Int.ofNat i) (lenL xs) ∧ ∀ (x : List UInt8), nthI xs (Int.ofNat i) = some x → nat_lit 1 ≤ nat_lit 1 ∧ bnd (Int.ofNat i) (lenL ys) ∧ ∀ (x_1 : List UInt8), nthI ys (Int.ofNat i) = some x_1 → nat_lit 1 ≤ nat_lit 1 ∧ ((!x == x_1) = true → (false, ()) = (eqL xs ys, ()) ∧ () = ()) ∧ ((!x == x_1) = false → ∃ (j : Nat), (j ≤ List.length xs ∧ List.length xs = List.length ys ∧ List.take j xs = List.take j ys) ∧ (List.length xs).sub j < (List.length xs).sub i ∧ (xs = xs ∧ ys = ys ∧ wAdd IntKind.i64 (Int.ofNat i) (1 : Int) = Int.ofNat j ∧ True) ∧ True ∧ True)) ∧ (decide (Int.ofNat i < iOf (lenL xs)) = false → (true, ()) = (eqL xs ys, ()) ∧ () = ()))) (by kernel_rfl) ?_
  simp only [Nat.le_refl, Nat.succ_eq_add_one, Nat.reduceAdd, Nat.reduceLeDiff, Nat.zero_le, pair_unit, mk_eta, len_bne, eqD_bne, bne_iff_ne, bne_eq_false_iff_eq, beq_iff_eq, beq_eq_false_iff_ne, true_and, and_true, and_self, eq_self, lt_iff, nthI_nat, bnd_iff, decide_eq_true_eq, decide_eq_false_iff_not, Nat.sub_eq, nz, ne_eq, not_false_eq_true, Prod.mk.injEq, Int.reduceEq, Nat.reduceEqDiff, forall_const, implies_true, bne_self_eq_false, Bool.true_eq_false, Bool.false_eq_true, false_implies, reduceCtorEq, Bool.not_true, Bool.not_false, List.all_cons, List.all_nil, Bool.and_true, Bool.not_eq_true, Bool.not_eq_false, Bool.not_eq_true', Bool.not_eq_false', Decidable.not_not]; try simp only [lenL]
  exact fun hf1 hf2 => ⟨fun h => eqL_len h, fun h => ⟨⟨0, ⟨Nat.zero_le _, h, rfl⟩, rfl⟩, fun k ⟨hk, _, ht⟩ _ => ⟨fun hlt => ⟨hlt, fun x hx => ⟨h ▸ hlt, fun y hy => ⟨fun hne => eqL_ne hx hy hne, fun he => ⟨k + 1, ⟨hlt, h, take_eq_succ hx hy ht he⟩, Nat.sub_lt_sub_left hlt (Nat.lt_succ_self k), inc_in hf1 hk⟩⟩⟩⟩, fun hge => eqL_end hge h ht⟩⟩⟩
end Go.Proofs.YtolminmmnckpkaaDoor
namespace Go.Proofs.YtolminmmnckpkaaDoor
open Go.Ab Go.Fn
def s_toStringS : FSpec := { ps := [.v (.slice .str)], rs := [.o (.slice .str)], pre := fun _ => True, fn := fun x => (x.1, ()), upd := fun _ => () }
def L_toStringS (xs : List (.str : Ty).den) : LoopAnn := { ι := Nat, inv := fun k => k ≤ xs.length, slots := fun k => [(4, .d I (Int.ofNat k))], objs := fun k => [(1, .arr .str (fillTo xs k []) false)], μ := fun k => xs.length - k }
theorem fo_toStringS : FO 8 s_toStringS := by
  refine fo (specs := []) (clos := []) (fun x => [(3, .lv [0, 3, 4] <| fun _ => L_toStringS x.1)]) trivial trivial Tryd.func8 rfl rfl ?_
  rintro ⟨xs, ⟨⟩⟩ -
  refine vcOf (fits (lenL xs) → mkOK (iOf (lenL xs)) (iOf (lenL xs)) ∧ (∃ (i : Nat), i ≤ List.length xs ∧ (xs = xs ∧ nat_lit 1 = nat_lit 1 ∧ (0 : Int) = Int.ofNat i ∧ True) ∧ ((([] : List (List UInt8)) = ([] : List (List UInt8)) ∧ false = false) ∧ (List.replicate (tN (iOf (lenL xs))) ([] : List UInt8) = fillTo xs i ([] : List UInt8) ∧ false = false) ∧ True) ∧ True) ∧ ∀ (i : Nat), i ≤ List.length xs → fits (lenL xs) → (decide (Int.ofNat i < iOf (lenL xs)) = true → bnd (Int.ofNat i) (lenL xs) ∧ ∀ (x : List UInt8), nthI xs (Int.ofNat i) = some x → nat_lit 1 ≤ nat_lit 1 ∧ bnd (Int.ofNat i) (lenL (fillTo xs i ([] : List UInt8))) ∧ ((0 : Nat) = (0 : Nat) ∧ tN (Int.ofNat i) < lenL (fillTo xs i ([] : List UInt8))) ∧ ∃ (j : Nat), j ≤ List.length xs ∧ (List.length xs).sub j < (List.length xs).sub i ∧ (xs = xs ∧ nat_lit 1 = nat_lit 1 ∧ wAdd IntKind.i64 (Int.ofNat i) (1 : Int) = Int.ofNat j ∧ True) ∧ ((([] : List (List UInt8)) = ([] : List (List UInt8)) ∧ false = false) ∧ ((fillTo xs i ([] : List UInt8)).set (tN (Int.ofNat i)) x = fillTo xs j ([] : List UInt8) ∧ false = false) ∧ True) ∧ True) ∧ (decide (Int.ofNat i < iOf (lenL xs)) = false → (fillTo xs i ([] : List UInt8), ()) = (xs, ()) ∧ () = ())) (by kernel_rfl) ?_
  simp only [Nat.le_refl, Nat.succ_eq_add_one, Nat.reduceAdd, Nat.reduceLeDiff, Nat.zero_le, pair_unit, mk_eta, len_bne, eqD_bne, bne_iff_ne, bne_eq_false_iff_eq, beq_iff_eq, beq_eq_false_iff_ne, true_and, and_true, and_self, eq_self, lt_iff, nthI_nat, bnd_iff, decide_eq_true_eq, decide_eq_false_iff_not, Nat.sub_eq, nz, ne_eq, not_false_eq_true, Prod.mk.injEq, Int.reduceEq, Nat.reduceEqDiff, forall_const, implies_true, bne_self_eq_false, Bool.true_eq_false, Bool.false_eq_true, false_implies, reduceCtorEq, Bool.not_true, Bool.not_false, List.all_cons, List.all_nil, Bool.and_true, Bool.not_eq_true, Bool.not_eq_false, Bool.not_eq_true', Bool.not_eq_false', Decidable.not_not]; try simp only [lenL]
  exact fun hf => ⟨mkOK_len hf, ⟨0, Nat.zero_le _, rfl, rfl⟩, fun k hk _ => ⟨fun h => ⟨h, fun x hx => ⟨by rw [fill_len hk]; exact h, by rw [fill_len hk]; exact h, k + 1, h, Nat.sub_lt_sub_left h (Nat.lt_succ_self k), inc_in hf hk, fill_set hx⟩⟩, fun h => fill_end h⟩⟩
end Go.Proofs.YtolminmmnckpkaaDoor
namespace Go.Proofs.YtolminmmnckpkaaDoor
open Go.Ab Go.Fn
theorem ft_law_FnExactManifestText : FT 3 (lawSpec [.slice .str] 1048576) := by
  refine foT (specs := [(6, s_szStringS), (8, s_toStringS), (10, s_eqStringS), (7, s_ManText), (9, s_ManText)]) (clos := []) (fun x => []) ⟨toT fo_szStringS, toT fo_toStringS, toT fo_eqStringS, toT fo_sManText, ft_ManText, trivial⟩ trivial Tryd.func3 rfl rfl ?_
  rintro ⟨l, ⟨⟩⟩ hl
  refine vcOf (true = true ∧ ((0 : (PTy.v I).den) ≤ (1048576 : Int) ∧ (1048576 : Int) ≤ (1048576 : (PTy.v I).den)) ∧ (decide (szList szStr l (1048576 : Int) < (0 : Int)) = true → (true, ()) = (true, ()) ∧ () = ()) ∧ (decide (szList szStr l (1048576 : Int) < (0 : Int)) = false → true = true ∧ True ∧ true = true ∧ List.length l ≤ (10000000 : Nat) ∧ true = true ∧ True ∧ true = true ∧ List.length l ≤ (10000000 : Nat) ∧ ((!manS l == manS l) = false → ((manC l != manC l) = true → (false, ()) = (true, ()) ∧ () = ()) ∧ ((manC l != manC l) = false → true = true ∧ True ∧ true = true ∧ True ∧ ((!eqL l l) = true → (false, ()) = (true, ()) ∧ () = ()) ∧ ((!eqL l l) = false → (true, ()) = (true, ()) ∧ () = ()))) ∧ ((!manS l == manS l) = true → (false, ()) = (true, ()) ∧ () = ()))) (by kernel_rfl) ?_
  simp only [Nat.le_refl, Nat.succ_eq_add_one, Nat.reduceAdd, Nat.reduceLeDiff, Nat.zero_le, pair_unit, mk_eta, len_bne, eqD_bne, bne_iff_ne, bne_eq_false_iff_eq, beq_iff_eq, beq_eq_false_iff_ne, true_and, and_true, and_self, eq_self, lt_iff, nthI_nat, bnd_iff, decide_eq_true_eq, decide_eq_false_iff_not, Nat.sub_eq, nz, ne_eq, not_false_eq_true, Prod.mk.injEq, Int.reduceEq, Nat.reduceEqDiff, forall_const, implies_true, bne_self_eq_false, Bool.true_eq_false, Bool.false_eq_true, false_implies, reduceCtorEq, Bool.not_true, Bool.not_false, List.all_cons, List.all_nil, Bool.and_true, Bool.not_eq_true, Bool.not_eq_false, Bool.not_eq_true', Bool.not_eq_false', Decidable.not_not]; try simp only [lenL]
  refine ⟨by constructor <;> decide, fun h => ?_⟩
  have hs := Nat.le_trans (szStr_small h) (by decide : 1048576 ≤ 10000000)
  have e3 : eqL l l = true := eqL_self _
  simp only [e3]
  exact ⟨hs, hs, fun h => Bool.noConfusion h, fun h => h trivial⟩
end Go.Proofs.YtolminmmnckpkaaDoor
namespace Go.Proofs.YtolminmmnckpkaaDoor
open Go.Ab Go.Fn Go.ChangeShapes Go.WideShapes Go.ChangeAt Go.RowKit
theorem bulk {H : Type} : Bulk (Rows.uptoBulk (H := H)) Rows.uptoBulkAll := by
  constructor <;> intros <;> simp [Rows.uptoBulk, Rows.uptoBulkAll]
theorem own : ownKnob Tryd.prog.godebug = none := by kernel_rfl
def valsOf : Nat → DataW Unit → List Value
  | _, .lit (.int k v) => [.int k v]
  | n + 1, .agg l => l.flatMap (valsOf n)
  | _, _ => []
def layAt (h : Array _root_.Go.Obj) (b : Nat) (d : DataW Unit) : Array _root_.Go.Obj := h.modify b fun
  | .cells _ t frozen => .cells (valsOf 3 d).toArray t frozen
  | o => o
noncomputable def laidWorld (os : Os) : World :=
  { World.holding Tryd.prog os ⟨#[], #[], []⟩ with heap := layAt (layAt (layAt (World.holding Tryd.prog os ⟨#[], #[], []⟩).heap 4 Rows.laid_math_bits_deBruijn32tab) 5 Rows.laid_math_bits_deBruijn64tab) 3 Rows.laid_internal_strconv_uint64pow10 }
theorem laid_met (os : Os) : laidMet Tryd.prog Rows.fnExactManifestTextUptoRow.laid ((laidWorld os).forCall (fun _ _ => 0) ⟨#[], #[.slice none 0 0], []⟩).memory :=
  laidMet_of_run3 8 (by kernel_rfl) (by kernel_rfl) (by kernel_rfl)
theorem reads (os : Os) {H : Type} (enc : TypeId × Value → H) : ∃ places, DataW.whole enc Tryd.prog ((laidWorld os).forCall (fun _ _ => 0) ⟨#[], #[.slice none 0 0], []⟩).memory Tryd.f3.params.toList Rows.fnExactManifestTextSpec.vars false (#[.slice none 0 0] : Array Value).toList 8 = some ([.nil], [], places) :=
  ⟨[], by kernel_rfl⟩
set_option maxRecDepth 100000 in
theorem fnExactManifestText_lifted (os : Os) (started : os.Started) (H : Type) (enc : TypeId × Value → H) (F : Stop.Interp) :
    ReturnsInHanded {} Tryd.checked os 3 .any ((Rows.OpenSpec.upto Rows.fnExactManifestTextSpec).preRow enc Tryd.prog Tryd.f3 Rows.fnExactManifestTextUptoRow.domain false Rows.fnExactManifestTextUptoRow.laid) (((Rows.OpenSpec.upto Rows.fnExactManifestTextSpec).at F).post enc Tryd.prog Tryd.f3 false true false false) := by
  obtain ⟨places, hx⟩ := reads os enc
  refine returnsInHanded_of_row (C := Tryd.checked) (s := Rows.OpenSpec.upto Rows.fnExactManifestTextSpec) own started (by kernel_rfl) Tryd.func3
    (witness_row_at (enc := enc) (C := Tryd.checked) false (laidWorld os) #[.slice none 0 0] rfl (by kernel_rfl) (by kernel_rfl) (by kernel_rfl)
      (OpenSpec.preRow_of_cond 8 hx (by kernel_rfl) (fun k hk => by cases hk; kernel_rfl) (by kernel_rfl) (laid_met os))) ?_
  intro W base args ds gs before hval hW _ hk _ hL _ _
  have hT : tabP W := tab_head (met_tail (met_tail hL))
  refine law_contractT bulk ft_law_FnExactManifestText (by kernel_rfl) rfl ?_ (tb := 4) rfl (by kernel_rfl) hT (fun b hb => tab_lt hT (show b < 3 + 1 from hb)) (tabT [] []) hval hW (of_decide_eq_true (hk _ rfl))
  intro ds hl
  match ds, hl with
  | [_], _ => rfl
theorem fnExactManifestText_said : Rows.FnExactManifestTextUptoSaid :=
  OpenClaim.holds_of_cond 3 Tryd.f3 rfl rfl rfl rfl rfl rfl rfl ⟨rfl, rfl, rfl, rfl, rfl⟩ rfl rfl rfl rfl rfl (by kernel_rfl) Tryd.func3 (by kernel_rfl)
    (of_decide_eq_true (by kernel_rfl)) (by unfold Func.isWrapper; first | (rw [if_pos (by decide +kernel)]; kernel_rfl) | (rw [if_neg (by decide +kernel)]; exact ⟨rfl, rfl⟩))
    (fun os started H enc _ F => by rw [OpenClaim.pre_eq_preRow]; exact fnExactManifestText_lifted os started H enc F)
theorem noStandIn : (Tryd.f3.params.toList.all fun t => !(Tryd.pinned.checked.prog.wantsStandIn t)) = true := by kernel_rfl
theorem fnExactManifestText_plain (f : FuncId) (fn : Func) (hf : Tryd.pinned.checked.prog.funcNamed "loop.example/g00798/laws.FnExactManifestText" = some f) (hfn : Tryd.pinned.checked.prog.funcs[f]? = some fn) :
    true = Tryd.pinned.checked.prog.looks [] ∧ ∀ (j : Nat) t, fn.params[j]? = some t → Tryd.pinned.checked.prog.wantsStandIn t = false := by
  obtain rfl : f = 3 := Option.some.inj ((show Tryd.prog.funcNamed "loop.example/g00798/laws.FnExactManifestText" = some 3 by kernel_rfl).symm.trans hf) |>.symm
  obtain rfl : fn = Tryd.f3 := (Option.some.inj (Tryd.func3.symm.trans hfn)).symm
  refine ⟨by kernel_rfl, fun j t ht => ?_⟩
  have h := List.all_eq_true.1 noStandIn t (by simpa using Array.mem_of_getElem? ht)
  simpa using h
theorem fnExactManifestText_holds : Rows.FnExactManifestTextUptoCardSaid :=
  Claim7.holds_tied_plain_at .later [] _ _ _ _ fnExactManifestText_said (fun _ h => by cases h) (by kernel_rfl) (fun _ h => by cases h) fnExactManifestTextUpto_row_tie rfl ⟨rfl, rfl⟩ (by kernel_rfl) rfl fnExactManifestText_plain (by kernel_rfl)
end Go.Proofs.YtolminmmnckpkaaDoor
