/- Every function that the law FnExactReadManifest reaches does what its specification (a function on plain data) says; the law answers true wherever what it reads is of bulk at most 1048576. Conditions: that bound. -/
import Derived.Test.YtolminmmnckpkaaDoorAb2
import Derived.Deep.DeepHandedRow
import Derived.Deep.DeepLaidRun
import Derived.Laws.BitsLemmas
import Derived.Lib.Bytealg
import Derived.Lib.ItoaLen
import Derived.Lib.ItoaMem
import Derived.Lib.Join
import Derived.Lib.LaidTab
import Derived.OpenShut
import Derived.ProofKit
import Derived.Shelf.GgSortFunc.RowK
import Derived.Shelf.LaysM
import Derived.Shelf.SlLaysF0
import Derived.Shelf.SlLaysM
import Derived.Shelf.SlLaysN
import Derived.Shelf.SlicesG.CompactS
import Derived.Shelf.SortM.Plain
import Derived.Shelf.SortM.SortNone
import Derived.Shelf.Strconv.Itoa3
import Derived.Shelf.Strings.OnBuilder
import Derived.Sort.Walk0
import Derived.Test.YtolminmmnckpkaaDoorCards
import Derived.Test.YtolminmmnckpkaaDoorRows
import Derived.Test.YtolminmmnckpkaaDoorTie
import Derived.WalkKit
import Derived.Test.YtolminmmnckpkaaDoorExactReadManifest0
set_option autoImplicit true
set_option relaxedAutoImplicit true
set_option maxHeartbeats 4000000
set_option maxRecDepth 4000
set_option linter.unusedVariables false
set_option linter.unusedSimpArgs false
namespace Go.Proofs.YtolminmmnckpkaaDoor
open Go.Ab Go.Fn
def c_layers : CSpec := { ats := [.str], b := .bool, cs := [], pre := fun _ _ => True, fn := fun _ a => !(Fn.badName a.1) }
theorem fo_layersc : FO 39 c_layers.fspec := by
  refine fo (specs := [(40, s_NameOK)]) (clos := []) (fun x => []) ⟨fo_NameOK, trivial⟩ trivial Tryd.func39 rfl rfl ?_
  rintro ⟨t, ⟨⟩⟩ -
  refine vcOf (true = true ∧ True ∧ (nameOK t = true → ((!t == (77 : UInt8) :: (65 : UInt8) :: (78 : UInt8) :: (73 : UInt8) :: (70 : UInt8) :: (69 : UInt8) :: (83 : UInt8) :: (84 : UInt8) :: ([] : List UInt8)) = true → ((!t == (116 : UInt8) :: (109 : UInt8) :: (112 : UInt8) :: ([] : List UInt8)) = true → (!t == (109 : UInt8) :: (116 : UInt8) :: (109 : UInt8) :: (112 : UInt8) :: ([] : List UInt8), ()) = (match badName t with | true => false | false => true, ()) ∧ () = ()) ∧ ((!t == (116 : UInt8) :: (109 : UInt8) :: (112 : UInt8) :: ([] : List UInt8)) = false → (false, ()) = (match badName t with | true => false | false => true, ()) ∧ () = ())) ∧ ((!t == (77 : UInt8) :: (65 : UInt8) :: (78 : UInt8) :: (73 : UInt8) :: (70 : UInt8) :: (69 : UInt8) :: (83 : UInt8) :: (84 : UInt8) :: ([] : List UInt8)) = false → (false, ()) = (match badName t with | true => false | false => true, ()) ∧ () = ())) ∧ (nameOK t = false → (false, ()) = (match badName t with | true => false | false => true, ()) ∧ () = ())) (by kernel_rfl) ?_
  simp only [Nat.le_refl, Nat.succ_eq_add_one, Nat.reduceAdd, Nat.reduceLeDiff, Nat.zero_le, pair_unit, mk_eta, len_bne, eqD_bne, bne_iff_ne, bne_eq_false_iff_eq, beq_iff_eq, beq_eq_false_iff_ne, true_and, and_true, and_self, eq_self, lt_iff, nthI_nat, bnd_iff, decide_eq_true_eq, decide_eq_false_iff_not, Nat.sub_eq, nz, ne_eq, not_false_eq_true, Prod.mk.injEq, Int.reduceEq, Nat.reduceEqDiff, forall_const, implies_true, bne_self_eq_false, Bool.true_eq_false, Bool.false_eq_true, false_implies, reduceCtorEq, Bool.not_true, Bool.not_false, List.all_cons, List.all_nil, Bool.and_true, Bool.not_eq_true, Bool.not_eq_false, Bool.not_eq_true', Bool.not_eq_false', Decidable.not_not]; try simp only [lenL]
  exact ⟨fun hn => ⟨fun h1 => ⟨fun h2 => bn_last hn h1 h2, fun h2 => by rw [bn_b h2]⟩, fun h1 => by rw [bn_a h1]⟩, fun hn => by rw [bn_no hn]⟩
def s_namesOK : FSpec := { ps := [.v (.slice .str)], rs := [.v .bool], pre := fun x => List.length (α := List UInt8) x.1 ≤ 10000000, fn := fun x => (Fn.namesOK x.1, ()), upd := fun _ => () }
theorem fo_areLayers : FO 22 s_namesOK := by
  refine foI (specs := [(35, s_Clone_Str), (38, s_all_str)]) (clos := [(39, c_layers)]) (inl := [(36, i_SortStr), (37, i_CompStr)]) (fun x => []) ⟨fo_Clone_Str, fo_all_str, trivial⟩ ⟨co fo_layersc rfl rfl, trivial⟩ ⟨in_SortStr, in_CompStr, trivial⟩ Tryd.func22 rfl rfl ?_
  rintro ⟨l, ⟨⟩⟩ hl
  refine vcOf (true = true ∧ True ∧ ([] : List AV) = ([] : List AV) ∧ ∀ (ys : List (List UInt8)), ys.Perm l → List.Pairwise (fun (a b : List UInt8) => ltT b a = false) ys → fits (lenL l) → (decide (iOf (lenL l) ≤ (5 : Int)) = true → fits (lenL (compactL ys)) → fits (lenL l) → ((iOf (lenL (compactL ys)) == iOf (lenL l)) = true → true = true ∧ (∀ (y : List UInt8), y ∈ l → True) ∧ (List.all l fun (y : List UInt8) => (fun (a : List UInt8 × Unit) => !badName a.fst, fun (x : List UInt8 × Unit) => True).fst (y, ()), ()) = (namesOK l, ()) ∧ () = ()) ∧ ((iOf (lenL (compactL ys)) == iOf (lenL l)) = false → (false, ()) = (namesOK l, ()) ∧ () = ())) ∧ (decide (iOf (lenL l) ≤ (5 : Int)) = false → (false, ()) = (namesOK l, ()) ∧ () = ())) (by kernel_rfl) ?_
  simp only [Nat.le_refl, Nat.succ_eq_add_one, Nat.reduceAdd, Nat.reduceLeDiff, Nat.zero_le, pair_unit, mk_eta, len_bne, eqD_bne, bne_iff_ne, bne_eq_false_iff_eq, beq_iff_eq, beq_eq_false_iff_ne, true_and, and_true, and_self, eq_self, lt_iff, nthI_nat, bnd_iff, decide_eq_true_eq, decide_eq_false_iff_not, Nat.sub_eq, nz, ne_eq, not_false_eq_true, Prod.mk.injEq, Int.reduceEq, Nat.reduceEqDiff, forall_const, implies_true, bne_self_eq_false, Bool.true_eq_false, Bool.false_eq_true, false_implies, reduceCtorEq, Bool.not_true, Bool.not_false, List.all_cons, List.all_nil, Bool.and_true, Bool.not_eq_true, Bool.not_eq_false, Bool.not_eq_true', Bool.not_eq_false', Decidable.not_not]; try simp only [lenL]
  exact fun ys hp hw _ => ⟨fun h5 _ _ => ⟨fun he => are_yes hp hw h5 he, fun he => are_no hp hw he⟩, fun h5 => are_5 h5⟩
end Go.Proofs.YtolminmmnckpkaaDoor
namespace Go.Proofs.YtolminmmnckpkaaDoor
open Go.Ab Go.Fn
def s_hasStr : FSpec := { ps := [.v (.slice .str), .v .str], rs := [.v .bool], pre := fun _ => True, fn := fun x => (List.any x.1 (fun y => decide (y = x.2.1)), ()), upd := fun _ => () }
def L_has (l : List (List UInt8)) (t : List UInt8) : LoopAnn := { ι := Nat, inv := fun k => k ≤ l.length ∧ ∀ (j : Nat) (y : List UInt8), j < k → l[j]? = some y → ¬ y = t, slots := fun k => [(5, .d I (Int.ofNat k))], objs := fun _ => [], μ := fun k => l.length - k }
theorem fo_l01Has : FO 32 s_hasStr := by
  refine fo (specs := []) (clos := []) (fun x => [(2, .lv [0, 1, 5] <| fun _ => L_has x.1 x.2.1)]) trivial trivial Tryd.func32 rfl rfl ?_
  rintro ⟨l, t, ⟨⟩⟩ -
  refine vcOf ((∃ (i : Nat), (i ≤ List.length l ∧ ∀ (j : Nat) (y : List UInt8), j < i → l[j]? = some y → ¬y = t) ∧ (l = l ∧ t = t ∧ (0 : Int) = Int.ofNat i ∧ True) ∧ True ∧ True) ∧ ∀ (i : Nat), (i ≤ List.length l ∧ ∀ (j : Nat) (y : List UInt8), j < i → l[j]? = some y → ¬y = t) → fits (lenL l) → (decide (Int.ofNat i < iOf (lenL l)) = true → bnd (Int.ofNat i) (lenL l) ∧ ∀ (x : List UInt8), nthI l (Int.ofNat i) = some x → nat_lit 1 ≤ nat_lit 1 ∧ ((x == t) = true → (true, ()) = (List.any l fun (y : List UInt8) => decide (y = t), ()) ∧ () = ()) ∧ ((x == t) = false → ∃ (j : Nat), (j ≤ List.length l ∧ ∀ (j_1 : Nat) (y : List UInt8), j_1 < j → l[j_1]? = some y → ¬y = t) ∧ (List.length l).sub j < (List.length l).sub i ∧ (l = l ∧ t = t ∧ wAdd IntKind.i64 (Int.ofNat i) (1 : Int) = Int.ofNat j ∧ True) ∧ True ∧ True)) ∧ (decide (Int.ofNat i < iOf (lenL l)) = false → (false, ()) = (List.any l fun (y : List UInt8) => decide (y = t), ()) ∧ () = ())) (by kernel_rfl) ?_
  simp only [Nat.le_refl, Nat.succ_eq_add_one, Nat.reduceAdd, Nat.reduceLeDiff, Nat.zero_le, pair_unit, mk_eta, len_bne, eqD_bne, bne_iff_ne, bne_eq_false_iff_eq, beq_iff_eq, beq_eq_false_iff_ne, true_and, and_true, and_self, eq_self, lt_iff, nthI_nat, bnd_iff, decide_eq_true_eq, decide_eq_false_iff_not, Nat.sub_eq, nz, ne_eq, not_false_eq_true, Prod.mk.injEq, Int.reduceEq, Nat.reduceEqDiff, forall_const, implies_true, bne_self_eq_false, Bool.true_eq_false, Bool.false_eq_true, false_implies, reduceCtorEq, Bool.not_true, Bool.not_false, List.all_cons, List.all_nil, Bool.and_true, Bool.not_eq_true, Bool.not_eq_false, Bool.not_eq_true', Bool.not_eq_false', Decidable.not_not]; try simp only [lenL]
  refine ⟨⟨0, ⟨Nat.zero_le _, fun j y hj => absurd hj (Nat.not_lt_zero _)⟩, rfl⟩, fun i ⟨hk, hi⟩ hf => ⟨fun h => ⟨h, fun x hx => ⟨fun he => (List.any_eq_true.2 ⟨x, List.mem_of_getElem? hx, decide_eq_true he⟩).symm, fun hn => ⟨i + 1, ⟨h, below_succ (P := fun y => ¬ y = t) hi hx hn⟩, Nat.sub_lt_sub_left h (Nat.lt_succ_self i), inc_in hf hk⟩⟩⟩, fun h => ?_⟩⟩
  symm
  rw [List.any_eq_false]
  intro y hy
  obtain ⟨j, hj⟩ := List.mem_iff_getElem?.1 hy
  have := (List.getElem?_eq_some_iff.1 hj).1
  simp [hi j y (by omega) hj]
def L_names (l : List (List UInt8)) : LoopAnn := { ι := Nat, inv := fun k => Fn.OKM l k, slots := fun k => [(3, .d I (Int.ofNat k))], objs := fun _ => [], μ := fun k => l.length - k }
theorem fo_l12NamesOK : FO 18 s_namesOK := by
  refine fo (specs := [(31, s_NameOK), (32, s_hasStr)]) (clos := []) (fun x => [(4, .lv [0, 3] <| fun _ => L_names x.1), (1000006, .lv [0, 3, 49] <| .ofCut fun s => [(49, .d .bool (Fn.nameBadI x.1 (s.tI 3)))])]) ⟨fo_l00Word, fo_l01Has, trivial⟩ trivial Tryd.func18 rfl rfl ?_
  rintro ⟨l, ⟨⟩⟩ hl
  refine vcOf (fits (lenL l) → (decide (iOf (lenL l) > (5 : Int)) = true → (false, ()) = (namesOK l, ()) ∧ () = ()) ∧ (decide (iOf (lenL l) > (5 : Int)) = false → (∃ (i : Nat), OKM l i ∧ (l = l ∧ (0 : Int) = Int.ofNat i ∧ True) ∧ True ∧ True) ∧ ∀ (i : Nat), OKM l i → fits (lenL l) → (decide (Int.ofNat i < iOf (lenL l)) = true → (bnd (Int.ofNat i) (lenL l) ∧ ∀ (x : List UInt8), nthI l (Int.ofNat i) = some x → nat_lit 1 ≤ nat_lit 1 ∧ true = true ∧ True ∧ ((!nameOK x) = false → bnd (Int.ofNat i) (lenL l) ∧ ∀ (x : List UInt8), nthI l (Int.ofNat i) = some x → nat_lit 1 ≤ nat_lit 1 ∧ ((x == (77 : UInt8) :: (65 : UInt8) :: (78 : UInt8) :: (73 : UInt8) :: (70 : UInt8) :: (69 : UInt8) :: (83 : UInt8) :: (84 : UInt8) :: ([] : List UInt8)) = false → bnd (Int.ofNat i) (lenL l) ∧ ∀ (x : List UInt8), nthI l (Int.ofNat i) = some x → nat_lit 1 ≤ nat_lit 1 ∧ ((x == (116 : UInt8) :: (109 : UInt8) :: (112 : UInt8) :: ([] : List UInt8)) = false → bnd (Int.ofNat i) (lenL l) ∧ ∀ (x : List UInt8), nthI l (Int.ofNat i) = some x → nat_lit 1 ≤ nat_lit 1 ∧ ((x == (109 : UInt8) :: (116 : UInt8) :: (109 : UInt8) :: (112 : UInt8) :: ([] : List UInt8)) = false → boundLo (Int.ofNat i) (lenL l) ∧ bnd (Int.ofNat i) (lenL l) ∧ ∀ (x : List UInt8), nthI l (Int.ofNat i) = some x → nat_lit 1 ≤ nat_lit 1 ∧ true = true ∧ True ∧ (l = l ∧ Int.ofNat i = Int.ofNat i ∧ ((subL l (0 : Nat) (tN (Int.ofNat i))).any fun (y : List UInt8) => decide (y = x)) = nameBadI l (Int.ofNat i) ∧ True) ∧ True ∧ True) ∧ ((x == (109 : UInt8) :: (116 : UInt8) :: (109 : UInt8) :: (112 : UInt8) :: ([] : List UInt8)) = true → (l = l ∧ Int.ofNat i = Int.ofNat i ∧ true = nameBadI l (Int.ofNat i) ∧ True) ∧ True ∧ True)) ∧ ((x == (116 : UInt8) :: (109 : UInt8) :: (112 : UInt8) :: ([] : List UInt8)) = true → (l = l ∧ Int.ofNat i = Int.ofNat i ∧ true = nameBadI l (Int.ofNat i) ∧ True) ∧ True ∧ True)) ∧ ((x == (77 : UInt8) :: (65 : UInt8) :: (78 : UInt8) :: (73 : UInt8) :: (70 : UInt8) :: (69 : UInt8) :: (83 : UInt8) :: (84 : UInt8) :: ([] : List UInt8)) = true → (l = l ∧ Int.ofNat i = Int.ofNat i ∧ true = nameBadI l (Int.ofNat i) ∧ True) ∧ True ∧ True)) ∧ ((!nameOK x) = true → (l = l ∧ Int.ofNat i = Int.ofNat i ∧ true = nameBadI l (Int.ofNat i) ∧ True) ∧ True ∧ True)) ∧ (nameBadI l (Int.ofNat i) = true → (false, ()) = (namesOK l, ()) ∧ () = ()) ∧ (nameBadI l (Int.ofNat i) = false → ∃ (j : Nat), OKM l j ∧ (List.length l).sub j < (List.length l).sub i ∧ (l = l ∧ wAdd IntKind.i64 (Int.ofNat i) (1 : Int) = Int.ofNat j ∧ True) ∧ True ∧ True)) ∧ (decide (Int.ofNat i < iOf (lenL l)) = false → (true, ()) = (namesOK l, ()) ∧ () = ()))) (by kernel_rfl) ?_
  simp only [Nat.le_refl, Nat.succ_eq_add_one, Nat.reduceAdd, Nat.reduceLeDiff, Nat.zero_le, pair_unit, mk_eta, len_bne, eqD_bne, bne_iff_ne, bne_eq_false_iff_eq, beq_iff_eq, beq_eq_false_iff_ne, true_and, and_true, and_self, eq_self, lt_iff, nthI_nat, bnd_iff, decide_eq_true_eq, decide_eq_false_iff_not, Nat.sub_eq, nz, ne_eq, not_false_eq_true, Prod.mk.injEq, Int.reduceEq, Nat.reduceEqDiff, forall_const, implies_true, bne_self_eq_false, Bool.true_eq_false, Bool.false_eq_true, false_implies, reduceCtorEq, Bool.not_true, Bool.not_false, List.all_cons, List.all_nil, Bool.and_true, Bool.not_eq_true, Bool.not_eq_false, Bool.not_eq_true', Bool.not_eq_false', Decidable.not_not]; try simp only [lenL]
  refine fun _ => ⟨fun h => okm_16 h, fun h5 => ⟨⟨0, okm0 l, rfl⟩, fun i h hf => ⟨fun hi => ⟨⟨hi, fun x hx => ⟨fun hn => ⟨hi, fun x2 hx2 => ?_⟩, fun hn => nb_bad hx (bn_no hn)⟩⟩, fun hb => okm_bad hi hb, fun hb => ⟨i + 1, okm_step h hi hb, Nat.sub_lt_sub_left hi (Nat.lt_succ_self i), inc_in hf h.1⟩⟩, fun he => okm_end h he h5⟩⟩⟩
  rw [hx] at hx2; cases hx2
  refine ⟨fun h1 => ⟨hi, fun x3 hx3 => ?_⟩, fun h1 => nb_bad hx (bn_a h1)⟩
  rw [hx] at hx3; cases hx3
  refine ⟨fun h2 => ⟨hi, fun x4 hx4 => ?_⟩, fun h2 => nb_bad hx (bn_b h2)⟩
  rw [hx] at hx4; cases hx4
  refine ⟨fun h3 => ⟨bound_lo h.1, hi, fun x5 hx5 => ?_⟩, fun h3 => nb_bad hx (bn_c h3)⟩
  rw [hx] at hx5; cases hx5
  exact nb_has hx (bn_ok hn h1 h2 h3)
end Go.Proofs.YtolminmmnckpkaaDoor
namespace Go.Proofs.YtolminmmnckpkaaDoor
open Go.Ab Go.Fn
def s_man : FSpec := { ps := [.v (.slice .str)], rs := [.v .str], pre := fun x => Fn.namesOK x.1 = true, fn := fun x => (Fn.manT x.1, ()), upd := fun _ => () }
def L_man (i : Nat) (l : List (List UInt8)) : LoopAnn := { ι := Nat, inv := fun k => k ≤ l.length, slots := fun k => [(3, .d .str (Fn.manTo l k)), (i, .d I (Int.ofNat k))], objs := fun _ => [], μ := fun k => l.length - k }
theorem fo_l12Manifest : FO 19 s_man := by
  refine fo (specs := [(33, s_Digits), (34, s_l09Sum)]) (clos := []) (fun x => [(3, .lv [0, 3, 4] <| fun _ => L_man 4 x.1)]) ⟨fo_l00Digits, fo_l09Sum, trivial⟩ trivial Tryd.func19 rfl rfl ?_
  rintro ⟨l, ⟨⟩⟩ hl
  refine vcOf ((∃ (i : Nat), i ≤ List.length l ∧ (l = l ∧ ([] : List UInt8) = manTo l i ∧ (0 : Int) = Int.ofNat i ∧ True) ∧ True ∧ True) ∧ ∀ (i : Nat), i ≤ List.length l → fits (lenL l) → (decide (Int.ofNat i < iOf (lenL l)) = true → bnd (Int.ofNat i) (lenL l) ∧ ∀ (x : List UInt8), nthI l (Int.ofNat i) = some x → nat_lit 1 ≤ nat_lit 1 ∧ fits (lenL x + lenL ((10 : UInt8) :: ([] : List UInt8))) ∧ fits (lenL (manTo l i) + lenL (catS x ((10 : UInt8) :: ([] : List UInt8)))) ∧ ∃ (j : Nat), j ≤ List.length l ∧ (List.length l).sub j < (List.length l).sub i ∧ (l = l ∧ catS (manTo l i) (catS x ((10 : UInt8) :: ([] : List UInt8))) = manTo l j ∧ wAdd IntKind.i64 (Int.ofNat i) (1 : Int) = Int.ofNat j ∧ True) ∧ True ∧ True) ∧ (decide (Int.ofNat i < iOf (lenL l)) = false → fits (lenL (manTo l i) + lenL ((115 : UInt8) :: (117 : UInt8) :: (109 : UInt8) :: (32 : UInt8) :: ([] : List UInt8))) ∧ true = true ∧ True ∧ true = true ∧ inI (sum (manTo l i)) ∧ fits (lenL (catS (manTo l i) ((115 : UInt8) :: (117 : UInt8) :: (109 : UInt8) :: (32 : UInt8) :: ([] : List UInt8))) + lenL (itoaS (sum (manTo l i)))) ∧ fits (lenL (catS (catS (manTo l i) ((115 : UInt8) :: (117 : UInt8) :: (109 : UInt8) :: (32 : UInt8) :: ([] : List UInt8))) (itoaS (sum (manTo l i)))) + lenL ((10 : UInt8) :: ([] : List UInt8))) ∧ (catS (catS (catS (manTo l i) ((115 : UInt8) :: (117 : UInt8) :: (109 : UInt8) :: (32 : UInt8) :: ([] : List UInt8))) (itoaS (sum (manTo l i)))) ((10 : UInt8) :: ([] : List UInt8)), ()) = (manT l, ()) ∧ () = ())) (by kernel_rfl) ?_
  simp only [Nat.le_refl, Nat.succ_eq_add_one, Nat.reduceAdd, Nat.reduceLeDiff, Nat.zero_le, pair_unit, mk_eta, len_bne, eqD_bne, bne_iff_ne, bne_eq_false_iff_eq, beq_iff_eq, beq_eq_false_iff_ne, true_and, and_true, and_self, eq_self, lt_iff, nthI_nat, bnd_iff, decide_eq_true_eq, decide_eq_false_iff_not, Nat.sub_eq, nz, ne_eq, not_false_eq_true, Prod.mk.injEq, Int.reduceEq, Nat.reduceEqDiff, forall_const, implies_true, bne_self_eq_false, Bool.true_eq_false, Bool.false_eq_true, false_implies, reduceCtorEq, Bool.not_true, Bool.not_false, List.all_cons, List.all_nil, Bool.and_true, Bool.not_eq_true, Bool.not_eq_false, Bool.not_eq_true', Bool.not_eq_false', Decidable.not_not]; try simp only [lenL]
  have hl : namesOK l = true := hl
  exact ⟨⟨0, Nat.zero_le _, rfl, rfl⟩, fun i hi hf => ⟨fun h => ⟨h, fun x hx => ⟨(man_f1 hl hx).1, (man_f1 hl hx).2, i + 1, h, Nat.sub_lt_sub_left h (Nat.lt_succ_self i), man_succ hx, inc_in hf hi⟩⟩, fun h => ⟨(man_f2 hl hi).1, (man_f2 hl hi).2.1, (man_f2 hl hi).2.2.1, (man_f2 hl hi).2.2.2, man_end hi h⟩⟩⟩
theorem ft_manifest : FT 23 s_man := by
  refine foT (specs := [(41, s_Itoa), (42, s_l09Sum)]) (clos := []) (fun x => [(3, .lv [3, 6, 7, 8] <| fun _ => L_man 8 x.1)]) ⟨ft_Itoa, toT fo_layerSum, trivial⟩ trivial Tryd.func23 rfl rfl ?_
  rintro ⟨l, ⟨⟩⟩ hl
  refine vcOf (fits (lenL l) → (∃ (i : Nat), i ≤ List.length l ∧ (([] : List UInt8) = manTo l i ∧ l = l ∧ iOf (lenL l) = iOf (lenL l) ∧ (0 : Int) = Int.ofNat i ∧ True) ∧ True ∧ True) ∧ ∀ (i : Nat), i ≤ List.length l → (decide (Int.ofNat i < iOf (lenL l)) = true → bnd (Int.ofNat i) (lenL l) ∧ ∀ (x : List UInt8), nthI l (Int.ofNat i) = some x → nat_lit 1 ≤ nat_lit 1 ∧ fits (lenL x + lenL ((10 : UInt8) :: ([] : List UInt8))) ∧ fits (lenL (manTo l i) + lenL (catS x ((10 : UInt8) :: ([] : List UInt8)))) ∧ ∃ (j : Nat), j ≤ List.length l ∧ (List.length l).sub j < (List.length l).sub i ∧ (catS (manTo l i) (catS x ((10 : UInt8) :: ([] : List UInt8))) = manTo l j ∧ l = l ∧ iOf (lenL l) = iOf (lenL l) ∧ wAdd IntKind.i64 (Int.ofNat i) (1 : Int) = Int.ofNat j ∧ True) ∧ True ∧ True) ∧ (decide (Int.ofNat i < iOf (lenL l)) = false → fits (lenL (manTo l i) + lenL ((115 : UInt8) :: (117 : UInt8) :: (109 : UInt8) :: (32 : UInt8) :: ([] : List UInt8))) ∧ true = true ∧ True ∧ true = true ∧ inI (sum (manTo l i)) ∧ fits (lenL (catS (manTo l i) ((115 : UInt8) :: (117 : UInt8) :: (109 : UInt8) :: (32 : UInt8) :: ([] : List UInt8))) + lenL (itoaS (sum (manTo l i)))) ∧ fits (lenL (catS (catS (manTo l i) ((115 : UInt8) :: (117 : UInt8) :: (109 : UInt8) :: (32 : UInt8) :: ([] : List UInt8))) (itoaS (sum (manTo l i)))) + lenL ((10 : UInt8) :: ([] : List UInt8))) ∧ (catS (catS (catS (manTo l i) ((115 : UInt8) :: (117 : UInt8) :: (109 : UInt8) :: (32 : UInt8) :: ([] : List UInt8))) (itoaS (sum (manTo l i)))) ((10 : UInt8) :: ([] : List UInt8)), ()) = (manT l, ()) ∧ () = ())) (by kernel_rfl) ?_
  simp only [Nat.le_refl, Nat.succ_eq_add_one, Nat.reduceAdd, Nat.reduceLeDiff, Nat.zero_le, pair_unit, mk_eta, len_bne, eqD_bne, bne_iff_ne, bne_eq_false_iff_eq, beq_iff_eq, beq_eq_false_iff_ne, true_and, and_true, and_self, eq_self, lt_iff, nthI_nat, bnd_iff, decide_eq_true_eq, decide_eq_false_iff_not, Nat.sub_eq, nz, ne_eq, not_false_eq_true, Prod.mk.injEq, Int.reduceEq, Nat.reduceEqDiff, forall_const, implies_true, bne_self_eq_false, Bool.true_eq_false, Bool.false_eq_true, false_implies, reduceCtorEq, Bool.not_true, Bool.not_false, List.all_cons, List.all_nil, Bool.and_true, Bool.not_eq_true, Bool.not_eq_false, Bool.not_eq_true', Bool.not_eq_false', Decidable.not_not]; try simp only [lenL]
  have hl : namesOK l = true := hl
  exact fun hf => ⟨⟨0, Nat.zero_le _, rfl, rfl⟩, fun i hi => ⟨fun h => ⟨h, fun x hx => ⟨(man_f1 hl hx).1, (man_f1 hl hx).2, i + 1, h, Nat.sub_lt_sub_left h (Nat.lt_succ_self i), man_succ hx, inc_in hf hi⟩⟩, fun h => ⟨(man_f2 hl hi).1, (man_f2 hl hi).2.1, (man_f2 hl hi).2.2.1, (man_f2 hl hi).2.2.2, man_end hi h⟩⟩⟩
end Go.Proofs.YtolminmmnckpkaaDoor
namespace Go.Proofs.YtolminmmnckpkaaDoor
open Go.Ab Go.Fn
def n_IndexByteString : Inl := natT [.str, .int .u8] I (fun _ => True) (fun x => Fn.indexB x.1 x.2.1)
theorem in_IndexByteString : InO 97 n_IndexByteString := fun s c i => natOK rfl (by
  rintro ⟨t, c, ⟨⟩⟩ vs w ⟨_, _, rfl, ⟨rfl, h⟩, _, _, rfl, rfl, rfl⟩ -
  refine ⟨_, w, ?_, rfl, Keep.refl _ _⟩
  exact Fn.index_run Tryd.func97 (by kernel_rfl) (by kernel_rfl) (by kernel_rfl) (by kernel_rfl) t c w)
end Go.Proofs.YtolminmmnckpkaaDoor
namespace Go.Proofs.YtolminmmnckpkaaDoor
open Go.Ab Go.Fn
def s_IndexByte : FSpec := { ps := [.v .str, .v (.int .u8)], rs := [.v I], pre := fun _ => True, fn := fun x => (Fn.indexB x.1 x.2.1, ()), upd := fun _ => () }
theorem fo_IndexByte : FO 68 s_IndexByte := by
  refine foI (specs := []) (clos := []) (inl := [(97, n_IndexByteString)]) (fun x => []) trivial trivial ⟨in_IndexByteString, trivial⟩ Tryd.func68 rfl rfl ?_
  rintro ⟨t, c, ⟨⟩⟩ -
  refine vcOf (True ∧ (indexB t c, ()) = (indexB t c, ()) ∧ () = ()) (by kernel_rfl) ?_
  simp only [Nat.le_refl, Nat.succ_eq_add_one, Nat.reduceAdd, Nat.reduceLeDiff, Nat.zero_le, pair_unit, mk_eta, len_bne, eqD_bne, bne_iff_ne, bne_eq_false_iff_eq, beq_iff_eq, beq_eq_false_iff_ne, true_and, and_true, and_self, eq_self, lt_iff, nthI_nat, bnd_iff, decide_eq_true_eq, decide_eq_false_iff_not, Nat.sub_eq, nz, ne_eq, not_false_eq_true, Prod.mk.injEq, Int.reduceEq, Nat.reduceEqDiff, forall_const, implies_true, bne_self_eq_false, Bool.true_eq_false, Bool.false_eq_true, false_implies, reduceCtorEq, Bool.not_true, Bool.not_false, List.all_cons, List.all_nil, Bool.and_true, Bool.not_eq_true, Bool.not_eq_false, Bool.not_eq_true', Bool.not_eq_false', Decidable.not_not]; try simp only [lenL]
end Go.Proofs.YtolminmmnckpkaaDoor
namespace Go.Proofs.YtolminmmnckpkaaDoor
open Go.Ab Go.Fn
def s_Index1 : FSpec := { ps := [.v .str, .v .str], rs := [.v I], pre := fun x => ∃ c : UInt8, x.2.1 = [c], fn := fun x => (Fn.indexS x.1 x.2.1, ()), upd := fun _ => () }
theorem fo_sIndex : FO 96 s_Index1 := by
  refine fo (specs := [(68, s_IndexByte)]) (clos := []) (fun x => []) ⟨fo_IndexByte, trivial⟩ trivial Tryd.func96 rfl rfl ?_
  rintro ⟨t, u, ⟨⟩⟩ ⟨c, rfl⟩
  refine vcOf (fits (lenL (c :: ([] : List UInt8))) → ((iOf (lenL (c :: ([] : List UInt8))) == (0 : Int)) = false → ((c :: ([] : List UInt8) == t) = true → ((0 : Int), ()) = (indexS t (c :: ([] : List UInt8)), ()) ∧ () = ()) ∧ ((c :: ([] : List UInt8) == t) = false → ((iOf (lenL (c :: ([] : List UInt8))) == (1 : Int)) = true → bnd (0 : Int) (lenL (c :: ([] : List UInt8))) ∧ ∀ (c_1 : UInt8), nthI (c :: ([] : List UInt8)) (0 : Int) = some c_1 → true = true ∧ True ∧ (indexB t (Int.ofNat c_1.toNat), ()) = (indexS t (c :: ([] : List UInt8)), ()) ∧ () = ()) ∧ ((iOf (lenL (c :: ([] : List UInt8))) == (1 : Int)) = false → fits (lenL t) → (decide (iOf (lenL (c :: ([] : List UInt8))) ≥ iOf (lenL t)) = true → ((-1 : Int), ()) = (indexS t (c :: ([] : List UInt8)), ()) ∧ () = ()) ∧ (decide (iOf (lenL (c :: ([] : List UInt8))) ≥ iOf (lenL t)) = false → False)))) ∧ ((iOf (lenL (c :: ([] : List UInt8))) == (0 : Int)) = true → ((0 : Int), ()) = (indexS t (c :: ([] : List UInt8)), ()) ∧ () = ())) (by kernel_rfl) ?_
  simp only [Nat.le_refl, Nat.succ_eq_add_one, Nat.reduceAdd, Nat.reduceLeDiff, Nat.zero_le, pair_unit, mk_eta, len_bne, eqD_bne, bne_iff_ne, bne_eq_false_iff_eq, beq_iff_eq, beq_eq_false_iff_ne, true_and, and_true, and_self, eq_self, lt_iff, nthI_nat, bnd_iff, decide_eq_true_eq, decide_eq_false_iff_not, Nat.sub_eq, nz, ne_eq, not_false_eq_true, Prod.mk.injEq, Int.reduceEq, Nat.reduceEqDiff, forall_const, implies_true, bne_self_eq_false, Bool.true_eq_false, Bool.false_eq_true, false_implies, reduceCtorEq, Bool.not_true, Bool.not_false, List.all_cons, List.all_nil, Bool.and_true, Bool.not_eq_true, Bool.not_eq_false, Bool.not_eq_true', Bool.not_eq_false', Decidable.not_not]; try simp only [lenL]
  have h1 : iOf [c].length = 1 := rfl
  refine fun _ => ⟨fun _ => ⟨fun e => ?_, fun _ => ⟨fun _ => ⟨bnd_one c, fun x hx => ?_⟩, fun h => absurd h1 h⟩⟩, fun h => absurd (h1.symm.trans h) (by decide)⟩
  · subst e; simp [indexS, Go.Lib.indexByte]
  · cases hx
    unfold indexB indexS
    rw [bOf_nat]
end Go.Proofs.YtolminmmnckpkaaDoor
namespace Go.Fn
open Go.Ab
def cutHas (s u : List UInt8) : Bool := decide (¬ indexS s u < 0)
def cutBef (s u : List UInt8) : List UInt8 := if indexS s u < 0 then s else s.take (indexS s u).toNat
def cutAft (s u : List UInt8) : List UInt8 := if indexS s u < 0 then [] else s.drop ((indexS s u).toNat + 1)
end Go.Fn
namespace Go.Fn
open Go.Ab
def sumM : List UInt8 := [115, 117, 109, 32]
def lastN (t : List UInt8) : Nat := (split 10 t).length - 2
def namesOf (t : List UInt8) : List (List UInt8) := (split 10 t).take (lastN t)
def formOK (t : List UInt8) : Bool := decide (2 ≤ (split 10 t).length) && (decide (nameS (split 10 t) (lastN t + 1) = []) && (namesOK (namesOf t) && (decide (5 ≤ (nameS (split 10 t) (lastN t)).length) && hasPre (nameS (split 10 t) (lastN t)) sumM)))
theorem two_last {l : List (List UInt8)} (h : 2 ≤ l.length) : l = l.take (l.length - 2) ++ [nameS l (l.length - 2), nameS l (l.length - 2 + 1)] := by
  have h1 : l.length - 2 < l.length := by omega
  have h2 : l.length - 2 + 1 < l.length := by omega
  have e1 : l.drop (l.length - 2) = l[l.length - 2] :: l.drop (l.length - 2 + 1) := List.drop_eq_getElem_cons h1
  have e2 : l.drop (l.length - 2 + 1) = l[l.length - 2 + 1] :: l.drop (l.length - 2 + 1 + 1) := List.drop_eq_getElem_cons h2
  have e3 : l.drop (l.length - 2 + 1 + 1) = [] := List.drop_eq_nil_of_le (by omega)
  rw [e3] at e2
  rw [e2] at e1
  rw [nameS_at (List.getElem?_eq_getElem h1), nameS_at (List.getElem?_eq_getElem h2), ← e1, List.take_append_drop]
theorem form_iff {t : List UInt8} : formOK t = true ↔ ∃ ns line, split 10 t = ns ++ [line, []] ∧ namesOK ns = true ∧ 5 ≤ line.length ∧ hasPre line sumM = true := by
  unfold formOK
  simp only [Bool.and_eq_true, decide_eq_true_eq]
  constructor
  · rintro ⟨h1, h2, h3, h4, h5⟩
    refine ⟨namesOf t, nameS (split 10 t) (lastN t), ?_, h3, h4, h5⟩
    have := two_last h1
    rw [← h2]
    exact this
  · rintro ⟨ns, line, e, h3, h4, h5⟩
    have hl : (split 10 t).length = ns.length + 2 := by rw [e]; simp
    have hn : lastN t = ns.length := by unfold lastN; omega
    have a1 : nameS (split 10 t) (lastN t) = line := nameS_at (by rw [hn, e]; simp)
    have a2 : nameS (split 10 t) (lastN t + 1) = [] := nameS_at (by rw [hn, e]; simp)
    have a3 : namesOf t = ns := by unfold namesOf; rw [hn, e]; simp
    rw [a1, a2, a3]
    exact ⟨by omega, rfl, h3, h4, h5⟩
theorem form_names {t : List UInt8} {ns : List (List UInt8)} {line : List UInt8} (e : split 10 t = ns ++ [line, []]) : namesOf t = ns := by
  have hl : (split 10 t).length = ns.length + 2 := by rw [e]; simp
  unfold namesOf lastN
  rw [hl, e]; simp
theorem pre_sum {x : List UInt8} : hasPre x sumM = true ↔ ∃ r, x = sumM ++ r := by
  unfold hasPre
  simp only [Bool.and_eq_true, decide_eq_true_eq]
  constructor
  · rintro ⟨_, h⟩
    exact ⟨x.drop sumM.length, by conv => lhs; rw [← List.take_append_drop sumM.length x, h]⟩
  · rintro ⟨r, rfl⟩
    exact ⟨by simp, by simp⟩
theorem name_nosum {x : List UInt8} (h : badName x = false) : hasPre x sumM = false := by
  cases hp : hasPre x sumM with
  | false => rfl
  | true =>
    obtain ⟨r, rfl⟩ := pre_sum.1 hp
    unfold badName nameOK at h
    simp only [Bool.or_eq_false_iff, Bool.not_eq_false', Bool.and_eq_true] at h
    have := allI_iff.1 h.1.2 3 32 rfl
    exact absurd this (by decide)
theorem names_nosum {ns : List (List UInt8)} (h : namesOK ns = true) {x : List UInt8} (hx : x ∈ ns) : hasPre x sumM = false := by
  rw [namesOK_iff] at h
  simp only [Bool.and_eq_true] at h
  have := List.all_eq_true.1 h.2.2 x hx
  exact name_nosum (by simpa using this)
theorem split2_of {c : UInt8} {s a : List UInt8} (h : split c s = [a, []]) : Go.Lib.indexByte s c = Int.ofNat (s.length - 1) ∧ a.length + 1 = s.length := by
  by_cases hneg : Go.Lib.indexByte s c < 0
  · rw [index_none c s hneg] at h
    cases h
  · obtain ⟨k, h1, h2, h3⟩ := index_some c s hneg
    rw [h3] at h
    simp only [List.cons.injEq] at h
    have := split_total c (s.drop (k + 1))
    rw [show split c (s.drop (k + 1)) = [[]] from h.2] at this
    simp only [total, List.length_nil, List.length_drop] at this
    have e : k = s.length - 1 := by omega
    refine ⟨by rw [h1, e], ?_⟩
    rw [← h.1, List.length_take]; omega
theorem split2_to {c : UInt8} {s : List UInt8} (h : Go.Lib.indexByte s c = Int.ofNat (s.length - 1)) (hp : 0 < s.length) : split c s = [s.take (s.length - 1), []] := by
  have hneg : ¬ Go.Lib.indexByte s c < 0 := by rw [h]; exact Int.not_lt.2 (Int.natCast_nonneg _)
  obtain ⟨k, h1, h2, h3⟩ := index_some c s hneg
  rw [h1] at h
  have e : k = s.length - 1 := Int.ofNat.inj h
  rw [h3, e, List.drop_eq_nil_of_le (by omega)]
  rfl
theorem split_sum (r : List UInt8) : ∃ y ys, split 10 r = y :: ys ∧ split 10 (sumM ++ r) = (sumM ++ y) :: ys := by
  have hp := split_pos 10 r
  cases h : split 10 r with
  | nil => rw [h] at hp; cases hp
  | cons y ys =>
    refine ⟨y, ys, rfl, ?_⟩
    show split 10 (115 :: 117 :: 109 :: 32 :: r) = _
    rw [split_cons, if_neg (by decide), split_cons, if_neg (by decide), split_cons, if_neg (by decide), split_cons, if_neg (by decide), h]
    rfl
def ManAt (t : List UInt8) (ns : List (List UInt8)) (rest : List UInt8) : Prop := ns ++ split 10 rest = split 10 t ∧ ns.length ≤ 6 ∧ (∀ x ∈ ns, hasPre x sumM = false) ∧ rest.length ≤ t.length
theorem mat_start (t : List UInt8) : ManAt t [] t := ⟨rfl, by simp, fun x hx => (by cases hx), Nat.le_refl _⟩
theorem pre_take {s p : List UInt8} {k : Nat} (h : hasPre s p = false) : hasPre (s.take k) p = false := by
  cases hp : hasPre (s.take k) p with
  | false => rfl
  | true =>
    exfalso
    unfold hasPre at hp h
    simp only [Bool.and_eq_true, decide_eq_true_eq, List.length_take, List.take_take] at hp
    have e : min p.length k = p.length := by omega
    rw [e] at hp
    simp only [Bool.and_eq_false_iff, decide_eq_false_iff_not] at h
    rcases h with h | h
    · omega
    · exact h hp.2
theorem mat_step {t : List UInt8} {ns : List (List UInt8)} {rest : List UInt8} (h : ManAt t ns rest) (hp : hasPre rest sumM = false) (h5 : ¬ ns.length > 5) {k : Nat} (hk : k < rest.length) (hs : split 10 rest = rest.take k :: split 10 (rest.drop (k + 1))) : ManAt t (ns ++ [rest.take k]) (rest.drop (k + 1)) := by
  obtain ⟨h1, h2, h3, h4⟩ := h
  refine ⟨by rw [← h1, hs]; simp, by simp; omega, fun x hx => ?_, by rw [List.length_drop]; omega⟩
  simp only [List.mem_append, List.mem_singleton] at hx
  rcases hx with hx | rfl
  · exact h3 x hx
  · exact pre_take hp
theorem mat_short {t : List UInt8} {ns : List (List UInt8)} {rest : List UInt8} (h : ManAt t ns rest) (hi : Go.Lib.indexByte rest 10 < 0) : formOK t = false := by
  obtain ⟨h1, h2, h3, h4⟩ := h
  cases hf : formOK t with
  | false => rfl
  | true =>
    exfalso
    obtain ⟨ms, line, e, _, _, h5⟩ := form_iff.1 hf
    rw [index_none 10 rest hi, e] at h1
    have : ns = ms ++ [line] := by
      have e2 : ms ++ [line, []] = (ms ++ [line]) ++ [[]] := by simp
      rw [e2] at h1
      exact (List.append_inj' h1 rfl).1
    rw [h3 line (by rw [this]; simp)] at h5
    cases h5
theorem mat_many {t : List UInt8} {ns : List (List UInt8)} {rest : List UInt8} (h : ManAt t ns rest) (h5 : ns.length > 5) : formOK t = false := by
  obtain ⟨h1, h2, h3, h4⟩ := h
  cases hf : formOK t with
  | false => rfl
  | true =>
    exfalso
    obtain ⟨ms, line, e, hn, _, h6⟩ := form_iff.1 hf
    have hm := (names_ok hn).1
    rw [e] at h1
    have e1 : ns[ms.length]? = some line := by
      have : (ns ++ split 10 rest)[ms.length]? = some line := by rw [h1]; simp
      rwa [List.getElem?_append_left (by omega)] at this
    rw [h3 line (List.mem_of_getElem? e1)] at h6
    cases h6
theorem mat_end {t : List UInt8} {ns : List (List UInt8)} {rest : List UInt8} (h : ManAt t ns rest) (hp : hasPre rest sumM = true) : (formOK t = true ↔ namesOK ns = true ∧ 6 ≤ rest.length ∧ Go.Lib.indexByte rest 10 = Int.ofNat (rest.length - 1)) ∧ (formOK t = true → namesOf t = ns) := by
  obtain ⟨h1, h2, h3, h4⟩ := h
  obtain ⟨r, rfl⟩ := pre_sum.1 hp
  obtain ⟨y, ys, hy, hs⟩ := split_sum r
  have key : formOK t = true → split 10 (sumM ++ r) = [sumM ++ y, []] ∧ namesOK ns = true ∧ 5 ≤ (sumM ++ y).length ∧ namesOf t = ns := fun hf => by
    obtain ⟨ms, line, e, hn, h5, h6⟩ := form_iff.1 hf
    rw [e, hs] at h1
    have hl : ns.length = ms.length := by
      rcases Nat.lt_trichotomy ns.length ms.length with hlt | heq | hgt
      · exfalso
        have e1 : ms[ns.length]? = some (sumM ++ y) := by
          have : (ms ++ [line, []])[ns.length]? = some (sumM ++ y) := by rw [← h1]; simp
          rwa [List.getElem?_append_left hlt] at this
        have := names_nosum hn (List.mem_of_getElem? e1)
        rw [pre_sum.2 ⟨y, rfl⟩] at this
        cases this
      · exact heq
      · exfalso
        have e1 : ns[ms.length]? = some line := by
          have : (ns ++ (sumM ++ y) :: ys)[ms.length]? = some line := by rw [h1]; simp
          rwa [List.getElem?_append_left hgt] at this
        rw [h3 line (List.mem_of_getElem? e1)] at h6
        cases h6
    obtain ⟨e1, e2⟩ := List.append_inj h1 hl
    simp only [List.cons.injEq] at e2
    subst e1
    rw [hs, e2.2, e2.1]
    exact ⟨rfl, hn, h5, form_names e⟩
  refine ⟨⟨fun hf => ?_, fun hf => ?_⟩, fun hf => (key hf).2.2.2⟩
  · obtain ⟨k1, k2, k3, _⟩ := key hf
    have := split2_of k1
    exact ⟨k2, by omega, this.1⟩
  · obtain ⟨g1, g2, g3⟩ := hf
    have hsp := split2_to g3 (by omega)
    rw [hs] at hsp
    simp only [List.cons.injEq] at hsp
    refine form_iff.2 ⟨ns, sumM ++ y, ?_, g1, ?_, pre_sum.2 ⟨y, rfl⟩⟩
    · rw [← h1, hs, hsp.2]
    · rw [hsp.1, List.length_take]; omega
def rmC (t : List UInt8) : Int := if formOK t = false then 3 else if t = manT (namesOf t) then 0 else 15
def rmS (t : List UInt8) : List (List UInt8) := if rmC t = 0 then namesOf t else []
def readMC (t : List UInt8) : Int := if short t = false then 2 else rmC t
def readML (t : List UInt8) : List (List UInt8) := if short t = false then [] else rmS t
end Go.Fn
namespace Go.Fn
open Go.Ab
theorem rm_bad {t : List UInt8} (h : formOK t = false) : [] = rmS t ∧ 3 = rmC t := by
  have e : rmC t = 3 := by unfold rmC; rw [if_pos h]
  unfold rmS
  rw [e]; exact ⟨rfl, rfl⟩
theorem rm_sum {t : List UInt8} (h : formOK t = true) (hn : ¬ t = manT (namesOf t)) : [] = rmS t ∧ 15 = rmC t := by
  have e : rmC t = 15 := by unfold rmC; rw [if_neg (by rw [h]; exact fun e => Bool.noConfusion e), if_neg hn]
  unfold rmS
  rw [e]; exact ⟨rfl, rfl⟩
theorem rm_ok {t : List UInt8} (h : formOK t = true) (hn : t = manT (namesOf t)) : namesOf t = rmS t ∧ 0 = rmC t := by
  have e : rmC t = 0 := by unfold rmC; rw [if_neg (by rw [h]; exact fun e => Bool.noConfusion e), if_pos hn]
  unfold rmS
  rw [e]; exact ⟨rfl, rfl⟩
theorem form_short {t : List UInt8} (h : (split 10 t).length < 2) : formOK t = false := by
  unfold formOK; rw [decide_eq_false (by omega)]; rfl
theorem form_x {t : List UInt8} (h : 2 ≤ (split 10 t).length) : formOK t = (decide (nameS (split 10 t) (lastN t + 1) = []) && (namesOK ((split 10 t).take (lastN t)) && (decide (5 ≤ (nameS (split 10 t) (lastN t)).length) && hasPre (nameS (split 10 t) (lastN t)) sumM))) := by
  unfold formOK; rw [decide_eq_true h]; rfl
theorem form_a {t x : List UInt8} (h : 2 ≤ (split 10 t).length) (hx : (split 10 t)[lastN t + 1]? = some x) (h0 : ¬ x = []) : true = !(formOK t) := by
  rw [form_x h, nameS_at hx, decide_eq_false h0]; rfl
theorem form_b {t : List UInt8} (h : 2 ≤ (split 10 t).length) (hn : namesOK ((split 10 t).take (lastN t)) = false) : true = !(formOK t) := by
  rw [form_x h, hn]; simp
theorem form_c {t x : List UInt8} (h : 2 ≤ (split 10 t).length) (hx : (split 10 t)[lastN t]? = some x) (h5 : iOf x.length < 5) : true = !(formOK t) := by
  have h5 : (x.length : Int) < 5 := h5
  rw [form_x h, nameS_at hx, decide_eq_false (p := 5 ≤ x.length) (by omega)]; simp
theorem form_d {t x y : List UInt8} (h : 2 ≤ (split 10 t).length) (hx : (split 10 t)[lastN t + 1]? = some x) (h0 : x = []) (hn : namesOK ((split 10 t).take (lastN t)) = true) (hy : (split 10 t)[lastN t]? = some y) (h5 : ¬ iOf y.length < 5) : boundLo 4 y.length ∧ (!(subL y 0 (tN 4) == [115, 117, 109, 32])) = !(formOK t) := by
  have h5 : ¬ (y.length : Int) < 5 := h5
  have hp := hp_yes (s := y) (p := sumM) (show (y.length : Int) ≥ 4 by omega)
  refine ⟨⟨by decide, by omega⟩, ?_⟩
  rw [form_x h, nameS_at hx, decide_eq_true h0, hn, nameS_at hy, decide_eq_true (p := 5 ≤ y.length) (by omega), Bool.true_and, Bool.true_and, Bool.true_and, ← hp.2]
  rfl
theorem form_names_ok {t : List UInt8} (h : formOK t = true) : 2 ≤ (split 10 t).length ∧ namesOK ((split 10 t).take (lastN t)) = true := by
  unfold formOK at h
  simp only [Bool.and_eq_true, decide_eq_true_eq] at h
  exact ⟨h.1, h.2.2.1⟩
theorem rd_long {t : List UInt8} (h : short t = false) : [] = readML t ∧ 2 = readMC t := by
  unfold readML readMC; rw [if_pos h, if_pos h]; exact ⟨rfl, rfl⟩
theorem rd_ok {t : List UInt8} (h : short t = true) : rmS t = readML t ∧ rmC t = readMC t := by
  unfold readML readMC; rw [h]; exact ⟨rfl, rfl⟩
end Go.Fn
namespace Go.Proofs.YtolminmmnckpkaaDoor
open Go.Ab Go.Fn
def s_hasPre : FSpec := { ps := [.v .str, .v .str], rs := [.v .bool], pre := fun _ => True, fn := fun x => (Fn.hasPre x.1 x.2.1, ()), upd := fun _ => () }
theorem fo_hasPre0 : FO 66 s_hasPre := by
  refine fo (specs := []) (clos := []) (fun x => []) trivial trivial Tryd.func66 rfl rfl ?_
  rintro ⟨s, p, ⟨⟩⟩ -
  refine vcOf (fits (lenL s) → fits (lenL p) → (decide (iOf (lenL s) ≥ iOf (lenL p)) = true → fits (lenL p) → boundLo (iOf (lenL p)) (lenL s) ∧ (subL s (0 : Nat) (tN (iOf (lenL p))) == p, ()) = (hasPre s p, ()) ∧ () = ()) ∧ (decide (iOf (lenL s) ≥ iOf (lenL p)) = false → (false, ()) = (hasPre s p, ()) ∧ () = ())) (by kernel_rfl) ?_
  simp only [Nat.le_refl, Nat.succ_eq_add_one, Nat.reduceAdd, Nat.reduceLeDiff, Nat.zero_le, pair_unit, mk_eta, len_bne, eqD_bne, bne_iff_ne, bne_eq_false_iff_eq, beq_iff_eq, beq_eq_false_iff_ne, true_and, and_true, and_self, eq_self, lt_iff, nthI_nat, bnd_iff, decide_eq_true_eq, decide_eq_false_iff_not, Nat.sub_eq, nz, ne_eq, not_false_eq_true, Prod.mk.injEq, Int.reduceEq, Nat.reduceEqDiff, forall_const, implies_true, bne_self_eq_false, Bool.true_eq_false, Bool.false_eq_true, false_implies, reduceCtorEq, Bool.not_true, Bool.not_false, List.all_cons, List.all_nil, Bool.and_true, Bool.not_eq_true, Bool.not_eq_false, Bool.not_eq_true', Bool.not_eq_false', Decidable.not_not]; try simp only [lenL]
  exact fun _ _ => ⟨fun h _ => hp_yes h, fun h => hp_no h⟩
theorem fo_hasPre : FO 45 s_hasPre := by
  refine fo (specs := [(66, s_hasPre)]) (clos := []) (fun x => []) ⟨fo_hasPre0, trivial⟩ trivial Tryd.func45 rfl rfl ?_
  rintro ⟨s, p, ⟨⟩⟩ -
  refine vcOf (true = true ∧ True ∧ (hasPre s p, ()) = (hasPre s p, ()) ∧ () = ()) (by kernel_rfl) ?_
  simp only [Nat.le_refl, Nat.succ_eq_add_one, Nat.reduceAdd, Nat.reduceLeDiff, Nat.zero_le, pair_unit, mk_eta, len_bne, eqD_bne, bne_iff_ne, bne_eq_false_iff_eq, beq_iff_eq, beq_eq_false_iff_ne, true_and, and_true, and_self, eq_self, lt_iff, nthI_nat, bnd_iff, decide_eq_true_eq, decide_eq_false_iff_not, Nat.sub_eq, nz, ne_eq, not_false_eq_true, Prod.mk.injEq, Int.reduceEq, Nat.reduceEqDiff, forall_const, implies_true, bne_self_eq_false, Bool.true_eq_false, Bool.false_eq_true, false_implies, reduceCtorEq, Bool.not_true, Bool.not_false, List.all_cons, List.all_nil, Bool.and_true, Bool.not_eq_true, Bool.not_eq_false, Bool.not_eq_true', Bool.not_eq_false', Decidable.not_not]; try simp only [lenL]
end Go.Proofs.YtolminmmnckpkaaDoor
namespace Go.Proofs.YtolminmmnckpkaaDoor
open Go.Ab Go.Fn
def s_Cut : FSpec := { ps := [.v .str, .v .str], rs := [.v .str, .v .str, .v .bool], pre := fun x => (∃ c : UInt8, x.2.1 = [c]) ∧ List.length (α := UInt8) x.1 ≤ 100000000, fn := fun x => (Fn.cutBef x.1 x.2.1, Fn.cutAft x.1 x.2.1, Fn.cutHas x.1 x.2.1, ()), upd := fun _ => () }
theorem fo_Cut0 : FO 67 s_Cut := by
  refine fo (specs := [(96, s_Index1)]) (clos := []) (fun x => []) ⟨fo_sIndex, trivial⟩ trivial Tryd.func67 rfl rfl ?_
  rintro ⟨s, u, ⟨⟩⟩ ⟨⟨c, hu⟩, hl⟩
  have hu : u = [c] := hu
  subst hu
  refine vcOf (true = true ∧ (∃ (c_1 : UInt8), c :: ([] : List UInt8) = c_1 :: ([] : List UInt8)) ∧ (decide (indexS s (c :: ([] : List UInt8)) ≥ (0 : Int)) = true → boundLo (indexS s (c :: ([] : List UInt8))) (lenL s) ∧ (fits (lenL (c :: ([] : List UInt8))) → boundLo (wAdd IntKind.i64 (indexS s (c :: ([] : List UInt8))) (iOf (lenL (c :: ([] : List UInt8))))) (lenL s) ∧ (subL s (0 : Nat) (tN (indexS s (c :: ([] : List UInt8)))), subL s (tN (wAdd IntKind.i64 (indexS s (c :: ([] : List UInt8))) (iOf (lenL (c :: ([] : List UInt8)))))) (lenL s), true, ()) = (cutBef s (c :: ([] : List UInt8)), cutAft s (c :: ([] : List UInt8)), cutHas s (c :: ([] : List UInt8)), ()) ∧ () = ())) ∧ (decide (indexS s (c :: ([] : List UInt8)) ≥ (0 : Int)) = false → (s, ([] : List UInt8), false, ()) = (cutBef s (c :: ([] : List UInt8)), cutAft s (c :: ([] : List UInt8)), cutHas s (c :: ([] : List UInt8)), ()) ∧ () = ())) (by kernel_rfl) ?_
  simp only [Nat.le_refl, Nat.succ_eq_add_one, Nat.reduceAdd, Nat.reduceLeDiff, Nat.zero_le, pair_unit, mk_eta, len_bne, eqD_bne, bne_iff_ne, bne_eq_false_iff_eq, beq_iff_eq, beq_eq_false_iff_ne, true_and, and_true, and_self, eq_self, lt_iff, nthI_nat, bnd_iff, decide_eq_true_eq, decide_eq_false_iff_not, Nat.sub_eq, nz, ne_eq, not_false_eq_true, Prod.mk.injEq, Int.reduceEq, Nat.reduceEqDiff, forall_const, implies_true, bne_self_eq_false, Bool.true_eq_false, Bool.false_eq_true, false_implies, reduceCtorEq, Bool.not_true, Bool.not_false, List.all_cons, List.all_nil, Bool.and_true, Bool.not_eq_true, Bool.not_eq_false, Bool.not_eq_true', Bool.not_eq_false', Decidable.not_not]; try simp only [lenL]
  have hl : List.length s ≤ 100000000 := hl
  refine ⟨⟨c, rfl⟩, fun h => ?_, fun h => ?_⟩
  · obtain ⟨k, h1, h2, _⟩ := index_some c s (Int.not_lt.2 h)
    have e1 : indexS s [c] = Int.ofNat k := h1
    have e2 : wAdd .i64 (Int.ofNat k) (iOf [c].length) = Int.ofNat (k + 1) := by
      have : iOf [c].length = 1 := rfl
      rw [this, wAdd_in (by simp only [Int.ofNat_eq_natCast]; omega)]; rfl
    have hn : ¬ Int.ofNat k < 0 := Int.not_lt.2 (Int.natCast_nonneg _)
    unfold cutBef cutAft cutHas
    rw [e1, e2, if_neg hn, if_neg hn, decide_eq_true hn]
    exact ⟨⟨Int.natCast_nonneg _, Int.ofNat_le.2 (Nat.le_of_lt h2)⟩, fun _ => ⟨⟨Int.natCast_nonneg _, Int.ofNat_le.2 h2⟩, sub_take s k, sub_drop s (k + 1), rfl⟩⟩
  · have h := Int.not_le.1 h
    unfold cutBef cutAft cutHas
    rw [if_pos h, if_pos h, decide_eq_false (fun hn => hn h)]
    exact ⟨rfl, rfl, rfl⟩
theorem fo_Cut : FO 46 s_Cut := by
  refine fo (specs := [(67, s_Cut)]) (clos := []) (fun x => []) ⟨fo_Cut0, trivial⟩ trivial Tryd.func46 rfl rfl ?_
  rintro ⟨s, u, ⟨⟩⟩ hp
  refine vcOf (true = true ∧ ((∃ (c : UInt8), u = c :: ([] : List UInt8)) ∧ List.length s ≤ (100000000 : Nat)) ∧ (cutBef s u, cutAft s u, cutHas s u, ()) = (cutBef s u, cutAft s u, cutHas s u, ()) ∧ () = ()) (by kernel_rfl) ?_
  simp only [Nat.le_refl, Nat.succ_eq_add_one, Nat.reduceAdd, Nat.reduceLeDiff, Nat.zero_le, pair_unit, mk_eta, len_bne, eqD_bne, bne_iff_ne, bne_eq_false_iff_eq, beq_iff_eq, beq_eq_false_iff_ne, true_and, and_true, and_self, eq_self, lt_iff, nthI_nat, bnd_iff, decide_eq_true_eq, decide_eq_false_iff_not, Nat.sub_eq, nz, ne_eq, not_false_eq_true, Prod.mk.injEq, Int.reduceEq, Nat.reduceEqDiff, forall_const, implies_true, bne_self_eq_false, Bool.true_eq_false, Bool.false_eq_true, false_implies, reduceCtorEq, Bool.not_true, Bool.not_false, List.all_cons, List.all_nil, Bool.and_true, Bool.not_eq_true, Bool.not_eq_false, Bool.not_eq_true', Bool.not_eq_false', Decidable.not_not]; try simp only [lenL]
  exact hp
end Go.Proofs.YtolminmmnckpkaaDoor
namespace Go.Proofs.YtolminmmnckpkaaDoor
open Go.Ab Go.Fn
theorem fo_sIndexByte : FO 47 s_IndexByte := by
  refine fo (specs := [(68, s_IndexByte)]) (clos := []) (fun x => []) ⟨fo_IndexByte, trivial⟩ trivial Tryd.func47 rfl rfl ?_
  rintro ⟨s, u, ⟨⟩⟩ hp
  refine vcOf (true = true ∧ True ∧ (indexB s u, ()) = (indexB s u, ()) ∧ () = ()) (by kernel_rfl) ?_
  simp only [Nat.le_refl, Nat.succ_eq_add_one, Nat.reduceAdd, Nat.reduceLeDiff, Nat.zero_le, pair_unit, mk_eta, len_bne, eqD_bne, bne_iff_ne, bne_eq_false_iff_eq, beq_iff_eq, beq_eq_false_iff_ne, true_and, and_true, and_self, eq_self, lt_iff, nthI_nat, bnd_iff, decide_eq_true_eq, decide_eq_false_iff_not, Nat.sub_eq, nz, ne_eq, not_false_eq_true, Prod.mk.injEq, Int.reduceEq, Nat.reduceEqDiff, forall_const, implies_true, bne_self_eq_false, Bool.true_eq_false, Bool.false_eq_true, false_implies, reduceCtorEq, Bool.not_true, Bool.not_false, List.all_cons, List.all_nil, Bool.and_true, Bool.not_eq_true, Bool.not_eq_false, Bool.not_eq_true', Bool.not_eq_false', Decidable.not_not]; try simp only [lenL]
end Go.Proofs.YtolminmmnckpkaaDoor
namespace Go.Ab

def lendT (E1 : Env) (ats : List Ty) (b : Ty) (pre : dens ats → Prop) (fn : dens ats → b.den) : Inl := fun s args K =>
  match callFp.go E1 s.heap ats args with
  | some x => pre x ∧ K s [.d b (fn x)]
  | none => False
theorem lendOK {P : Program} {E E1 : Env} {f : Nat} {ats : List Ty} {b : Ty} {pre : dens ats → Prop} {fn : dens ats → b.den} (hq : AnyEq E E1) (ht : TabLe E E1) (hb : b.leafB = true) (hs : b.shares = false)
    (h : FOK P E1 f (CSpec.fspec { ats := ats, b := b, cs := [], pre := fun _ x => pre x, fn := fun _ x => fn x })) : InlOK P E f (lendT E1 ats b pre fn) := by
  refine .inl ⟨h.1, fun {G s a w m args vals K} hP hEq hh hv hk => ?_⟩
  unfold lendT at hk
  split at hk
  · rename_i x hx
    subst hP hEq
    have hargs : ArgsD E1 (fun _ => True) w ats x vals := goD_ok (c := { G.rc s.objs m w with E := E1 }) (h := s.heap) (fun i o hi => ⟨(hh.heap i o hi).1, orel_env (c := G.rc s.objs m w) hq (hh.heap i o hi).2⟩) hx (VRelL.env (c := G.rc s.objs m w) hq hv)
    have hta : E1.tab w := ht.tab w (G.tabS _ _ G.tab (fun b hb => hh.o.keep.block b (G.tabO b hb).2 (G.tabO b hb).1))
    have hto : ∀ b, b < E1.gl → ¬ False ∧ b < w.heap.size := fun b hb => ⟨fun h => h, Nat.lt_of_lt_of_le (G.tabO b (Nat.lt_of_lt_of_le hb ht.gl)).2 hh.o.keep.size⟩
    let G1 : Ctx := { P := G.P, E := E1, w0 := w, O0 := fun _ => False, X0 := fun _ => True, m0 := fun _ => undef, n0 := 0, sub := fun _ h => h.elim, tab := hta, tabO := hto, tabS := ht.st }
    have hno : ∀ m b, ¬ Own [] m b := by rintro m b ⟨i, o, hi, _⟩; simp at hi
    obtain ⟨g1, g2⟩ := args_entry (P := G.P) (E := E1) (S := fun _ => True) (w := w) (G1.rc [] G1.m0 w) rfl rfl rfl (fun b => hno _ b) (fun b => ⟨.inl trivial, hno _ b⟩) 0 hargs (show CapsD G.P E1 (fun _ => True) w [] () [] from rfl)
    have hO : HoldsO G1 (entry (vps ats []) (joinP ats [] x ()) 0).2 G1.m0 G1.w0 := by
      rw [show (entry (vps ats []) (joinP ats [] x ()) 0).2 = [] from g1]
      exact { rel := fun i o hi => by simp at hi, disj := fun i j o o' b hi => by simp at hi, keep := Keep.refl _ _, new := fun b hb => absurd hb (hno _ b), len := Nat.le_refl _, fix := fun i o hi => by simp at hi }
    have hV : VRelL (G1.rc (entry (vps ats []) (joinP ats [] x ()) 0).2 G1.m0 G1.w0) (entry (vps ats []) (joinP ats [] x ()) 0).1 (vals ++ []) := by
      rw [show (entry (vps ats []) (joinP ats [] x ()) 0).2 = [] from g1]
      exact g2
    have := h.2 G1 (joinP ats [] x ()) (vals ++ []) rfl rfl (by rw [show (entry (CSpec.fspec { ats := ats, b := b, cs := [], pre := fun _ x => pre x, fn := fun _ x => fn x }).ps (joinP ats [] x ()) 0).2 = [] from g1]; rfl) (by
      show pre (splitA ats [] (joinP ats [] x ()))
      rw [splitA_join]; exact hk.1) hO hV
    rw [List.append_nil] at this
    refine Calls.mono this fun en w' he => ?_
    obtain ⟨m', vls, rfl, q1, q2⟩ := he
    simp only [CSpec.fspec, ressV, resV, VRelL] at q2
    obtain ⟨v, q, rfl, r1, rfl⟩ := q2
    rw [leaf_val hb] at r1
    have r2 := r1.2
    rw [splitA_join] at r2
    have hk1 : Keep (fun _ => False) w w' := q1.keep
    have hg := hh.o.grow hk1
    exact ⟨s, m, _, [v], rfl, hk.2, { o := hg.1, tmps := hh.tmps.mono hg.2, defers := hh.defers, kp := hh.kp.mono hg.2 }, v, [], rfl, ⟨hb, rep_scalar hs (rep_env hq.symm r2)⟩, rfl⟩
  · cases hk
end Go.Ab
namespace Go.Proofs.YtolminmmnckpkaaDoor
open Go.Ab Go.Fn
def mkTI (specs : List (Nat × FSpec)) (clos : List (Nat × CSpec)) (inl : List (Nat × Inl)) : Env := { tys := tys, specs := specs, clos := clos, anyB := 4, anyN := 3, anyS := 9, inl := inl, gl := 3 + 1, tab := tabP }
theorem tabTI (specs clos inl) : TabS (mkTI specs clos inl) := tabT specs clos
theorem envTI (specs clos inl) : EnvOK Tryd.prog (mkTI specs clos inl) :=
  { tys := (envOK specs clos []).tys, distinct := (envOK specs clos []).distinct, anyTys := (envOK specs clos []).anyTys, anyZ := (envOK specs clos []).anyZ }
def InT (f : Nat) (T : Inl) : Prop := ∀ s c i, InlOK Tryd.prog (mkTI s c i) f T
def AllIT : List (Nat × Inl) → Prop
  | [] => True
  | (f, T) :: r => InT f T ∧ AllIT r
theorem AllIT.get : ∀ {l : List (Nat × Inl)}, AllIT l → ∀ {f T} , Go.Ab.look l f = some T → InT f T
  | [], _, f, T, h => by cases h
  | (k, x) :: r, ⟨h1, h2⟩, f, T, h => by
    simp only [Go.Ab.look] at h
    cases hk : Nat.beq k f with
    | true => rw [hk] at h; cases h; rw [← Nat.eq_of_beq_eq_true hk]; exact h1
    | false => rw [hk] at h; exact AllIT.get h2 h
theorem progTI {specs clos inl} (h1 : AllT specs) (h2 : AllC clos) (h3 : AllIT inl) : ProgOK Tryd.prog (mkTI specs clos inl) :=
  { env := envTI specs clos inl, specs := fun f sp h => fok_env (E := mkT [] []) (E' := mkTI specs clos inl) ⟨rfl, rfl, rfl⟩ ⟨fun _ h => h, Nat.le_refl _, tabT [] []⟩ (h1.get h), clos := fun f cl h => cok_env (E := E0) (E' := mkTI specs clos inl) ⟨rfl, rfl, rfl⟩ (h2.get h), inl := fun f T h => h3.get h _ _ _, mixed := by kernel_rfl }
theorem foTI {specs clos inl f fn sp} (A : pdens sp.ps → List (Nat × (St → LoopAnn))) (h1 : AllT specs) (h2 : AllC clos) (h3 : AllIT inl) (hf : Tryd.prog.funcs[f]? = some fn) (hn : (fn.name == "runtime.NumGoroutine") = false) (hb : fn.body.isSome = true) (hv : ∀ x, sp.pre x → vc (mkTI specs clos inl) (A x) fn sp x) : FT f sp :=
  fok_env (E := mkTI specs clos inl) (E' := mkT [] []) ⟨rfl, rfl, rfl⟩ ⟨fun _ h => h, Nat.le_refl _, tabTI specs clos inl⟩ (fok_of_vc (progTI h1 h2 h3) hf hn A hv hb)
theorem inT {specs clos inl f fn} (A : St → List AV → List (Nat × (St → LoopAnn))) (h1 : AllF specs) (h2 : AllC clos) (h3 : AllI inl) (hf : Tryd.prog.funcs[f]? = some fn) (hn : (fn.name == "runtime.NumGoroutine") = false) (hb : fn.body.isSome = true) : InT f (inlT (mkE specs clos inl) A fn) :=
  fun s c i => inlOK_of (E := mkTI s c i) (progOK h1 h2 h3) ⟨rfl, rfl, rfl⟩ ⟨fun _ _ => trivial, Nat.zero_le _, fun _ _ _ _ => trivial⟩ hf hn hb A
end Go.Proofs.YtolminmmnckpkaaDoor
namespace Go.Proofs.YtolminmmnckpkaaDoor
open Go.Ab Go.Fn
def i_areLayers : Inl := lendT (mkE [] []) [.slice .str] .bool (fun x => List.length (α := List UInt8) x.1 ≤ 10000000) (fun x => Fn.namesOK x.1)
def i_manifest : Inl := lendT (mkT [] []) [.slice .str] .str (fun x => Fn.namesOK x.1 = true) (fun x => Fn.manT x.1)
theorem in_areLayers : InT 22 i_areLayers := fun s c i => lendOK (E := mkTI s c i) (E1 := mkE [] []) ⟨rfl, rfl, rfl⟩ ⟨fun _ _ => trivial, Nat.zero_le _, fun _ _ _ _ => trivial⟩ rfl rfl fo_areLayers
theorem in_manifest : InT 23 i_manifest := fun s c i => lendOK (E := mkTI s c i) (E1 := mkT [] []) ⟨rfl, rfl, rfl⟩ ⟨fun _ h => h, Nat.le_refl _, tabT [] []⟩ rfl rfl ft_manifest
theorem in_namesOK : InO 18 i_areLayers := fun s c i => lendOK (E := mkE s c i) (E1 := mkE [] []) (eqE ..) (eqT ..) rfl rfl fo_l12NamesOK
def i_lManifest : Inl := lendT (mkE [] []) [.slice .str] .str (fun x => Fn.namesOK x.1 = true) (fun x => Fn.manT x.1)
theorem in_lManifest : InO 19 i_lManifest := fun s c i => lendOK (E := mkE s c i) (E1 := mkE [] []) (eqE ..) (eqT ..) rfl rfl fo_l12Manifest
end Go.Proofs.YtolminmmnckpkaaDoor
namespace Go.Proofs.YtolminmmnckpkaaDoor
open Go.Ab Go.Fn
def s_l00Cut : FSpec := { ps := [.v .str, .v (.int .u8)], rs := [.o (.slice .str)], pre := fun x => (∃ c : UInt8, x.2.1 = (Int.ofNat c.toNat)) ∧ List.length (α := UInt8) x.1 ≤ 100000000, fn := fun x => (Fn.split (bOf x.2.1) x.1, ()), upd := fun _ => () }
def L_l00Cut (t : List UInt8) (c : Int) : LoopAnn := { ι := List (List UInt8) × Nat × Nat, inv := fun q => CutAt (bOf c) t q.1 q.2.1 q.2.2, slots := fun q => [(5, .os 1), (6, .d I (Int.ofNat q.2.1)), (7, .d I (Int.ofNat q.2.2))], objs := fun q => [(1, .arr .str q.1 false)], μ := fun q => t.length - q.2.2 }
theorem fo_l00Cut : FO 43 s_l00Cut := by
  refine fo (specs := []) (clos := []) (fun x => [(4, .lv [0, 1, 5, 6, 7] <| fun _ => L_l00Cut x.1 x.2.1)]) trivial trivial Tryd.func43 rfl rfl ?_
  rintro ⟨t, c, ⟨⟩⟩ ⟨⟨b, hb⟩, hl⟩
  have hl : List.length t ≤ 100000000 := hl
  have hb : c = Int.ofNat b.toNat := hb
  subst hb
  refine vcOf ((∃ (i : List (List UInt8) × Nat × Nat), CutAt (bOf (Int.ofNat b.toNat)) t i.fst i.snd.fst i.snd.snd ∧ (t = t ∧ Int.ofNat b.toNat = Int.ofNat b.toNat ∧ nat_lit 1 = (1 : Nat) ∧ (0 : Int) = Int.ofNat i.snd.fst ∧ (0 : Int) = Int.ofNat i.snd.snd ∧ True) ∧ ((([] : List (List UInt8)) = ([] : List (List UInt8)) ∧ false = false) ∧ (([] : List (List UInt8)) = i.fst ∧ false = false) ∧ True) ∧ True) ∧ ∀ (i : List (List UInt8) × Nat × Nat), CutAt (bOf (Int.ofNat b.toNat)) t i.fst i.snd.fst i.snd.snd → fits (lenL t) → (decide (Int.ofNat i.snd.snd < iOf (lenL t)) = true → bnd (Int.ofNat i.snd.snd) (lenL t) ∧ ∀ (c : UInt8), nthI t (Int.ofNat i.snd.snd) = some c → ((Int.ofNat c.toNat == Int.ofNat b.toNat) = true → boundLH (Int.ofNat i.snd.fst) (Int.ofNat i.snd.snd) (lenL t) ∧ fits (lenL i.fst + lenL (subL t (tN (Int.ofNat i.snd.fst)) (tN (Int.ofNat i.snd.snd)) :: ([] : List (List UInt8)))) ∧ ∃ (j : List (List UInt8) × Nat × Nat), CutAt (bOf (Int.ofNat b.toNat)) t j.fst j.snd.fst j.snd.snd ∧ (List.length t).sub j.snd.snd < (List.length t).sub i.snd.snd ∧ (t = t ∧ Int.ofNat b.toNat = Int.ofNat b.toNat ∧ (1 : Nat) = (1 : Nat) ∧ wAdd IntKind.i64 (Int.ofNat i.snd.snd) (1 : Int) = Int.ofNat j.snd.fst ∧ wAdd IntKind.i64 (Int.ofNat i.snd.snd) (1 : Int) = Int.ofNat j.snd.snd ∧ True) ∧ ((([] : List (List UInt8)) = ([] : List (List UInt8)) ∧ false = false) ∧ (i.fst ++ subL t (tN (Int.ofNat i.snd.fst)) (tN (Int.ofNat i.snd.snd)) :: ([] : List (List UInt8)) = j.fst ∧ false = false) ∧ True) ∧ True) ∧ ((Int.ofNat c.toNat == Int.ofNat b.toNat) = false → ∃ (j : List (List UInt8) × Nat × Nat), CutAt (bOf (Int.ofNat b.toNat)) t j.fst j.snd.fst j.snd.snd ∧ (List.length t).sub j.snd.snd < (List.length t).sub i.snd.snd ∧ (t = t ∧ Int.ofNat b.toNat = Int.ofNat b.toNat ∧ (1 : Nat) = (1 : Nat) ∧ Int.ofNat i.snd.fst = Int.ofNat j.snd.fst ∧ wAdd IntKind.i64 (Int.ofNat i.snd.snd) (1 : Int) = Int.ofNat j.snd.snd ∧ True) ∧ ((([] : List (List UInt8)) = ([] : List (List UInt8)) ∧ false = false) ∧ (i.fst = j.fst ∧ false = false) ∧ True) ∧ True)) ∧ (decide (Int.ofNat i.snd.snd < iOf (lenL t)) = false → boundLo (Int.ofNat i.snd.fst) (lenL t) ∧ fits (lenL i.fst + lenL (subL t (tN (Int.ofNat i.snd.fst)) (lenL t) :: ([] : List (List UInt8)))) ∧ (i.fst ++ subL t (tN (Int.ofNat i.snd.fst)) (lenL t) :: ([] : List (List UInt8)), ()) = (split (bOf (Int.ofNat b.toNat)) t, ()) ∧ () = ())) (by kernel_rfl) ?_
  simp only [Nat.le_refl, Nat.succ_eq_add_one, Nat.reduceAdd, Nat.reduceLeDiff, Nat.zero_le, pair_unit, mk_eta, len_bne, eqD_bne, bne_iff_ne, bne_eq_false_iff_eq, beq_iff_eq, beq_eq_false_iff_ne, true_and, and_true, and_self, eq_self, lt_iff, nthI_nat, bnd_iff, decide_eq_true_eq, decide_eq_false_iff_not, Nat.sub_eq, nz, ne_eq, not_false_eq_true, Prod.mk.injEq, Int.reduceEq, Nat.reduceEqDiff, forall_const, implies_true, bne_self_eq_false, Bool.true_eq_false, Bool.false_eq_true, false_implies, reduceCtorEq, Bool.not_true, Bool.not_false, List.all_cons, List.all_nil, Bool.and_true, Bool.not_eq_true, Bool.not_eq_false, Bool.not_eq_true', Bool.not_eq_false', Decidable.not_not]; try simp only [lenL]
  simp only [bOf_nat, tN_nat, byte_iff]
  refine ⟨⟨([], 0, 0), cut_start b t, ⟨rfl, rfl⟩, rfl⟩, ?_⟩
  rintro ⟨out, k, i⟩ hc hf
  have hc : CutAt b t out k i := hc
  obtain ⟨h1, h2, h3, h4⟩ := id hc
  refine ⟨fun hlt => ⟨hlt, fun x hx => ⟨fun he => ⟨⟨Int.natCast_nonneg _, Int.ofNat_le.2 h1, Int.ofNat_le.2 h2⟩, ?_, (out ++ [subL t k i], i + 1, i + 1), cut_take hc hx he, Nat.sub_lt_sub_left hlt (Nat.lt_succ_self i), ⟨inc_in hf h2, inc_in hf h2⟩, rfl⟩, fun hn => ⟨(out, k, i + 1), cut_skip hc hx hn, Nat.sub_lt_sub_left hlt (Nat.lt_succ_self i), ⟨rfl, inc_in hf h2⟩, rfl⟩⟩⟩, fun hge => ⟨⟨Int.natCast_nonneg _, Int.ofNat_le.2 (Nat.le_trans h1 h2)⟩, ?_, cut_end hc hge⟩⟩
  · show out.length + 1 < 1099511627776; omega
  · show out.length + 1 < 1099511627776; omega
end Go.Proofs.YtolminmmnckpkaaDoor
namespace Go.Proofs.YtolminmmnckpkaaDoor
open Go.Ab Go.Fn
def s_readM : FSpec := { ps := [.v .str], rs := [.o (.slice .str), .v I], pre := fun x => List.length (α := UInt8) x.1 ≤ 65536, fn := fun x => (Fn.rmS x.1, Fn.rmC x.1, ()), upd := fun _ => () }
def L_readM (t : List UInt8) : LoopAnn := { ι := List (List UInt8) × List UInt8, inv := fun q => ManAt t q.1 q.2, slots := fun q => [(4, .os 1), (5, .d .str q.2)], objs := fun q => [(1, .arr .str q.1 false)], μ := fun q => q.2.length }
end Go.Proofs.YtolminmmnckpkaaDoor
namespace Go.Proofs.YtolminmmnckpkaaDoor
open Go.Ab Go.Fn
theorem fo_l12ReadManifest : FO 24 s_readM := by
  refine foI (specs := [(43, s_l00Cut)]) (clos := []) (inl := [(18, i_areLayers), (19, i_lManifest)]) (fun x => [(1000003, .lv [0, 4, 5, 43] <| .ofCut fun _ => [(43, .d .bool (!(Fn.formOK x.1)))])]) ⟨fo_l00Cut, trivial⟩ trivial ⟨in_namesOK, in_lManifest, trivial⟩ Tryd.func24 rfl rfl ?_
  rintro ⟨t, ⟨⟩⟩ hl
  refine vcOf (true = true ∧ ((∃ (c : UInt8), (10 : Int) = Int.ofNat c.toNat) ∧ List.length t ≤ (100000000 : Nat)) ∧ (fits (lenL (split (bOf (10 : Int)) t)) → ((decide (wSub IntKind.i64 (iOf (lenL (split (bOf (10 : Int)) t))) (2 : Int) < (0 : Int)) = false → bnd (wAdd IntKind.i64 (wSub IntKind.i64 (iOf (lenL (split (bOf (10 : Int)) t))) (2 : Int)) (1 : Int)) (lenL (split (bOf (10 : Int)) t)) ∧ nat_lit 1 = nat_lit 1 ∧ nat_lit 1 ≤ nat_lit 1 ∧ tN (wAdd IntKind.i64 (wSub IntKind.i64 (iOf (lenL (split (bOf (10 : Int)) t))) (2 : Int)) (1 : Int)) < lenL (split (bOf (10 : Int)) t) ∧ ∀ (x : List UInt8), nth (split (bOf (10 : Int)) t) (tN (wAdd IntKind.i64 (wSub IntKind.i64 (iOf (lenL (split (bOf (10 : Int)) t))) (2 : Int)) (1 : Int))) = some x → ((!x == ([] : List UInt8)) = false → boundLo (wSub IntKind.i64 (iOf (lenL (split (bOf (10 : Int)) t))) (2 : Int)) (lenL (split (bOf (10 : Int)) t)) ∧ (List.drop (0 : Nat) (List.take (tN (wSub IntKind.i64 (iOf (lenL (split (bOf (10 : Int)) t))) (2 : Int))) (split (bOf (10 : Int)) t))).length ≤ (10000000 : Nat) ∧ ((!namesOK (List.drop (0 : Nat) (List.take (tN (wSub IntKind.i64 (iOf (lenL (split (bOf (10 : Int)) t))) (2 : Int))) (split (bOf (10 : Int)) t)))) = false → bnd (wSub IntKind.i64 (iOf (lenL (split (bOf (10 : Int)) t))) (2 : Int)) (lenL (split (bOf (10 : Int)) t)) ∧ nat_lit 1 = nat_lit 1 ∧ nat_lit 1 ≤ nat_lit 1 ∧ tN (wSub IntKind.i64 (iOf (lenL (split (bOf (10 : Int)) t))) (2 : Int)) < lenL (split (bOf (10 : Int)) t) ∧ ∀ (x : List UInt8), nth (split (bOf (10 : Int)) t) (tN (wSub IntKind.i64 (iOf (lenL (split (bOf (10 : Int)) t))) (2 : Int))) = some x → fits (lenL x) → (decide (iOf (lenL x) < (5 : Int)) = false → bnd (wSub IntKind.i64 (iOf (lenL (split (bOf (10 : Int)) t))) (2 : Int)) (lenL (split (bOf (10 : Int)) t)) ∧ nat_lit 1 = nat_lit 1 ∧ nat_lit 1 ≤ nat_lit 1 ∧ tN (wSub IntKind.i64 (iOf (lenL (split (bOf (10 : Int)) t))) (2 : Int)) < lenL (split (bOf (10 : Int)) t) ∧ ∀ (x : List UInt8), nth (split (bOf (10 : Int)) t) (tN (wSub IntKind.i64 (iOf (lenL (split (bOf (10 : Int)) t))) (2 : Int))) = some x → boundLo (4 : Int) (lenL x) ∧ (t = t ∧ nat_lit 1 = nat_lit 1 ∧ wSub IntKind.i64 (iOf (lenL (split (bOf (10 : Int)) t))) (2 : Int) = wSub IntKind.i64 (iOf (lenL (split (bOf (10 : Int)) t))) (2 : Int) ∧ (!subL x (0 : Nat) (tN (4 : Int)) == (115 : UInt8) :: (117 : UInt8) :: (109 : UInt8) :: (32 : UInt8) :: ([] : List UInt8)) = !formOK t ∧ True) ∧ ((([] : List (List UInt8)) = ([] : List (List UInt8)) ∧ false = false) ∧ (split (bOf (10 : Int)) t = split (bOf (10 : Int)) t ∧ false = false) ∧ True) ∧ True) ∧ (decide (iOf (lenL x) < (5 : Int)) = true → (t = t ∧ nat_lit 1 = nat_lit 1 ∧ wSub IntKind.i64 (iOf (lenL (split (bOf (10 : Int)) t))) (2 : Int) = wSub IntKind.i64 (iOf (lenL (split (bOf (10 : Int)) t))) (2 : Int) ∧ true = !formOK t ∧ True) ∧ ((([] : List (List UInt8)) = ([] : List (List UInt8)) ∧ false = false) ∧ (split (bOf (10 : Int)) t = split (bOf (10 : Int)) t ∧ false = false) ∧ True) ∧ True)) ∧ ((!namesOK (List.drop (0 : Nat) (List.take (tN (wSub IntKind.i64 (iOf (lenL (split (bOf (10 : Int)) t))) (2 : Int))) (split (bOf (10 : Int)) t)))) = true → (t = t ∧ nat_lit 1 = nat_lit 1 ∧ wSub IntKind.i64 (iOf (lenL (split (bOf (10 : Int)) t))) (2 : Int) = wSub IntKind.i64 (iOf (lenL (split (bOf (10 : Int)) t))) (2 : Int) ∧ true = !formOK t ∧ True) ∧ ((([] : List (List UInt8)) = ([] : List (List UInt8)) ∧ false = false) ∧ (split (bOf (10 : Int)) t = split (bOf (10 : Int)) t ∧ false = false) ∧ True) ∧ True)) ∧ ((!x == ([] : List UInt8)) = true → (t = t ∧ nat_lit 1 = nat_lit 1 ∧ wSub IntKind.i64 (iOf (lenL (split (bOf (10 : Int)) t))) (2 : Int) = wSub IntKind.i64 (iOf (lenL (split (bOf (10 : Int)) t))) (2 : Int) ∧ true = !formOK t ∧ True) ∧ ((([] : List (List UInt8)) = ([] : List (List UInt8)) ∧ false = false) ∧ (split (bOf (10 : Int)) t = split (bOf (10 : Int)) t ∧ false = false) ∧ True) ∧ True)) ∧ (decide (wSub IntKind.i64 (iOf (lenL (split (bOf (10 : Int)) t))) (2 : Int) < (0 : Int)) = true → (t = t ∧ nat_lit 1 = nat_lit 1 ∧ wSub IntKind.i64 (iOf (lenL (split (bOf (10 : Int)) t))) (2 : Int) = wSub IntKind.i64 (iOf (lenL (split (bOf (10 : Int)) t))) (2 : Int) ∧ true = !formOK t ∧ True) ∧ ((([] : List (List UInt8)) = ([] : List (List UInt8)) ∧ false = false) ∧ (split (bOf (10 : Int)) t = split (bOf (10 : Int)) t ∧ false = false) ∧ True) ∧ True)) ∧ ((!formOK t) = true → (([] : List (List UInt8)), (3 : Int), ()) = (rmS t, rmC t, ()) ∧ () = ()) ∧ ((!formOK t) = false → boundLo (wSub IntKind.i64 (iOf (lenL (split (bOf (10 : Int)) t))) (2 : Int)) (lenL (split (bOf (10 : Int)) t)) ∧ namesOK (List.drop (0 : Nat) (List.take (tN (wSub IntKind.i64 (iOf (lenL (split (bOf (10 : Int)) t))) (2 : Int))) (split (bOf (10 : Int)) t))) = true ∧ ((!t == manT (List.drop (0 : Nat) (List.take (tN (wSub IntKind.i64 (iOf (lenL (split (bOf (10 : Int)) t))) (2 : Int))) (split (bOf (10 : Int)) t)))) = true → (([] : List (List UInt8)), (15 : Int), ()) = (rmS t, rmC t, ()) ∧ () = ()) ∧ ((!t == manT (List.drop (0 : Nat) (List.take (tN (wSub IntKind.i64 (iOf (lenL (split (bOf (10 : Int)) t))) (2 : Int))) (split (bOf (10 : Int)) t)))) = false → boundLo (wSub IntKind.i64 (iOf (lenL (split (bOf (10 : Int)) t))) (2 : Int)) (lenL (split (bOf (10 : Int)) t)) ∧ tN (wSub IntKind.i64 (iOf (lenL (split (bOf (10 : Int)) t))) (2 : Int)) ≤ lenL (split (bOf (10 : Int)) t) ∧ (subL (split (bOf (10 : Int)) t) (0 : Nat) (tN (wSub IntKind.i64 (iOf (lenL (split (bOf (10 : Int)) t))) (2 : Int))), (0 : Int), ()) = (rmS t, rmC t, ()) ∧ () = ())))) (by kernel_rfl) ?_
  simp only [Nat.le_refl, Nat.succ_eq_add_one, Nat.reduceAdd, Nat.reduceLeDiff, Nat.zero_le, pair_unit, mk_eta, len_bne, eqD_bne, bne_iff_ne, bne_eq_false_iff_eq, beq_iff_eq, beq_eq_false_iff_ne, true_and, and_true, and_self, eq_self, lt_iff, nthI_nat, bnd_iff, decide_eq_true_eq, decide_eq_false_iff_not, Nat.sub_eq, nz, ne_eq, not_false_eq_true, Prod.mk.injEq, Int.reduceEq, Nat.reduceEqDiff, forall_const, implies_true, bne_self_eq_false, Bool.true_eq_false, Bool.false_eq_true, false_implies, reduceCtorEq, Bool.not_true, Bool.not_false, List.all_cons, List.all_nil, Bool.and_true, Bool.not_eq_true, Bool.not_eq_false, Bool.not_eq_true', Bool.not_eq_false', Decidable.not_not]; try simp only [lenL]
  have hl : List.length t ≤ 65536 := hl
  have eb : bOf 10 = 10 := rfl
  rw [eb]
  have hW := split_le 10 t
  have ew : wSub .i64 (iOf (split 10 t).length) 2 = iOf (split 10 t).length - 2 := wSub_in (by unfold iOf; omega)
  refine ⟨⟨⟨10, rfl⟩, by omega⟩, fun _ => ?_⟩
  rw [ew]
  rcases Nat.lt_or_ge (split 10 t).length 2 with h2 | h2
  · have hneg : iOf (split 10 t).length - 2 < 0 := by unfold iOf; omega
    have hf := form_short h2
    exact ⟨⟨fun h => absurd hneg h, fun _ => by rw [hf]; rfl⟩, fun _ => rm_bad hf, fun h => by rw [hf] at h; cases h⟩
  · have en : iOf (split 10 t).length - 2 = Int.ofNat (lastN t) := by unfold iOf lastN; simp only [Int.ofNat_eq_natCast]; omega
    have e1 : wAdd .i64 (Int.ofNat (lastN t)) 1 = Int.ofNat (lastN t + 1) := by rw [wAdd_in (by unfold lastN; simp only [Int.ofNat_eq_natCast]; omega)]; rfl
    have hn1 : lastN t + 1 < (split 10 t).length := by unfold lastN; omega
    rw [en, e1]
    simp only [tN_nat, List.drop_zero]
    have h0 : ¬ Int.ofNat (lastN t) < 0 := Int.not_lt.2 (Int.natCast_nonneg _)
    refine ⟨⟨fun _ => ⟨bnd_nat hn1, hn1, fun x hx => ⟨fun hx0 => ⟨bound_lo (by omega), by rw [List.length_take]; omega, fun hn => ⟨bnd_nat (by omega), by omega, fun y hy _ => ⟨fun h5 => ⟨bnd_nat (by omega), by omega, fun z hz => ?_⟩, fun h5 => form_c h2 hy h5⟩⟩, fun hn => form_b h2 hn⟩, fun hx0 => form_a h2 hx hx0⟩⟩, fun h => absurd h h0⟩, fun h => rm_bad h, fun h => ⟨bound_lo (by omega), (form_names_ok h).2, fun hn => rm_sum h hn, fun hn => ⟨bound_lo (by omega), by omega, ?_⟩⟩⟩
    · cases hy.symm.trans hz
      exact form_d h2 hx hx0 hn hy h5
    · have q := rm_ok h hn
      exact ⟨(sub_take (split 10 t) (lastN t)).trans q.1, q.2⟩
end Go.Proofs.YtolminmmnckpkaaDoor
namespace Go.Proofs.YtolminmmnckpkaaDoor
open Go.Ab Go.Fn
theorem ft_readManifest : FT 26 s_readM := by
  refine foTI (specs := [(45, s_hasPre), (46, s_Cut), (47, s_IndexByte)]) (clos := []) (inl := [(22, i_areLayers), (23, i_manifest)]) (fun x => [(2, .lv [0, 4, 5] <| fun _ => L_readM x.1), (1000007, .lv [0, 4, 47] <| .ofCut fun _ => [(47, .d .bool (!(Fn.formOK x.1)))])]) ⟨toT fo_hasPre, toT fo_Cut, toT fo_sIndexByte, trivial⟩ trivial ⟨in_areLayers, in_manifest, trivial⟩ Tryd.func26 rfl rfl ?_
  rintro ⟨t, ⟨⟩⟩ hl
  refine vcOf ((∃ (i : List (List UInt8) × List UInt8), ManAt t i.fst i.snd ∧ (t = t ∧ nat_lit 1 = (1 : Nat) ∧ t = i.snd ∧ True) ∧ ((([] : List (List UInt8)) = ([] : List (List UInt8)) ∧ false = false) ∧ (([] : List (List UInt8)) = i.fst ∧ false = false) ∧ True) ∧ True) ∧ ∀ (i : List (List UInt8) × List UInt8), ManAt t i.fst i.snd → true = true ∧ True ∧ ((!hasPre i.snd ((115 : UInt8) :: (117 : UInt8) :: (109 : UInt8) :: (32 : UInt8) :: ([] : List UInt8))) = true → true = true ∧ ((∃ (c : UInt8), (10 : UInt8) :: ([] : List UInt8) = c :: ([] : List UInt8)) ∧ i.snd.length ≤ (100000000 : Nat)) ∧ ((!cutHas i.snd ((10 : UInt8) :: ([] : List UInt8))) = false → fits (lenL i.fst) → (decide (iOf (lenL i.fst) > (5 : Int)) = true → (([] : List (List UInt8)), (3 : Int), ()) = (rmS t, rmC t, ()) ∧ () = ()) ∧ (decide (iOf (lenL i.fst) > (5 : Int)) = false → fits (lenL i.fst + lenL (cutBef i.snd ((10 : UInt8) :: ([] : List UInt8)) :: ([] : List (List UInt8)))) ∧ ∃ (j : List (List UInt8) × List UInt8), ManAt t j.fst j.snd ∧ j.snd.length < i.snd.length ∧ (t = t ∧ (1 : Nat) = (1 : Nat) ∧ cutAft i.snd ((10 : UInt8) :: ([] : List UInt8)) = j.snd ∧ True) ∧ ((([] : List (List UInt8)) = ([] : List (List UInt8)) ∧ false = false) ∧ (i.fst ++ cutBef i.snd ((10 : UInt8) :: ([] : List UInt8)) :: ([] : List (List UInt8)) = j.fst ∧ false = false) ∧ True) ∧ True)) ∧ ((!cutHas i.snd ((10 : UInt8) :: ([] : List UInt8))) = true → (([] : List (List UInt8)), (3 : Int), ()) = (rmS t, rmC t, ()) ∧ () = ())) ∧ ((!hasPre i.snd ((115 : UInt8) :: (117 : UInt8) :: (109 : UInt8) :: (32 : UInt8) :: ([] : List UInt8))) = false → (i.fst.length ≤ (10000000 : Nat) ∧ ((!namesOK i.fst) = false → fits (lenL i.snd) → (decide (iOf (lenL i.snd) < (6 : Int)) = false → true = true ∧ True ∧ (fits (lenL i.snd) → (t = t ∧ (1 : Nat) = (1 : Nat) ∧ (indexB i.snd (10 : Int) != wSub IntKind.i64 (iOf (lenL i.snd)) (1 : Int)) = !formOK t ∧ True) ∧ ((([] : List (List UInt8)) = ([] : List (List UInt8)) ∧ false = false) ∧ (i.fst = i.fst ∧ false = false) ∧ True) ∧ True)) ∧ (decide (iOf (lenL i.snd) < (6 : Int)) = true → (t = t ∧ (1 : Nat) = (1 : Nat) ∧ true = !formOK t ∧ True) ∧ ((([] : List (List UInt8)) = ([] : List (List UInt8)) ∧ false = false) ∧ (i.fst = i.fst ∧ false = false) ∧ True) ∧ True)) ∧ ((!namesOK i.fst) = true → (t = t ∧ (1 : Nat) = (1 : Nat) ∧ true = !formOK t ∧ True) ∧ ((([] : List (List UInt8)) = ([] : List (List UInt8)) ∧ false = false) ∧ (i.fst = i.fst ∧ false = false) ∧ True) ∧ True)) ∧ ((!formOK t) = true → (([] : List (List UInt8)), (3 : Int), ()) = (rmS t, rmC t, ()) ∧ () = ()) ∧ ((!formOK t) = false → namesOK i.fst = true ∧ ((!manT i.fst == t) = true → (([] : List (List UInt8)), (15 : Int), ()) = (rmS t, rmC t, ()) ∧ () = ()) ∧ ((!manT i.fst == t) = false → (i.fst, (0 : Int), ()) = (rmS t, rmC t, ()) ∧ () = ())))) (by kernel_rfl) ?_
  simp only [Nat.le_refl, Nat.succ_eq_add_one, Nat.reduceAdd, Nat.reduceLeDiff, Nat.zero_le, pair_unit, mk_eta, len_bne, eqD_bne, bne_iff_ne, bne_eq_false_iff_eq, beq_iff_eq, beq_eq_false_iff_ne, true_and, and_true, and_self, eq_self, lt_iff, nthI_nat, bnd_iff, decide_eq_true_eq, decide_eq_false_iff_not, Nat.sub_eq, nz, ne_eq, not_false_eq_true, Prod.mk.injEq, Int.reduceEq, Nat.reduceEqDiff, forall_const, implies_true, bne_self_eq_false, Bool.true_eq_false, Bool.false_eq_true, false_implies, reduceCtorEq, Bool.not_true, Bool.not_false, List.all_cons, List.all_nil, Bool.and_true, Bool.not_eq_true, Bool.not_eq_false, Bool.not_eq_true', Bool.not_eq_false', Decidable.not_not]; try simp only [lenL]
  have hl : List.length t ≤ 65536 := hl
  refine ⟨⟨([], t), mat_start t, rfl, rfl⟩, ?_⟩
  rintro ⟨ns, rest⟩ hm
  have hm : ManAt t ns rest := hm
  have q2 : ns.length ≤ 6 := hm.2.1
  have q4 : rest.length ≤ List.length t := hm.2.2.2
  refine ⟨fun hp => ⟨⟨⟨10, rfl⟩, Nat.le_trans q4 (by omega)⟩, fun hc hf => ⟨fun h5 => rm_bad (mat_many hm (Int.ofNat_lt.1 h5)), fun h5 => ?_⟩, fun hc => rm_bad (mat_short hm (Classical.not_not.1 (of_decide_eq_false hc)))⟩, fun hp => ?_⟩
  · have hi : ¬ indexS rest [10] < 0 := of_decide_eq_true hc
    obtain ⟨k, h1, h2, h3⟩ := index_some 10 rest hi
    have e1 : indexS rest [10] = Int.ofNat k := h1
    have ea : cutAft rest [10] = rest.drop (k + 1) := by unfold cutAft; rw [if_neg hi, e1]; rfl
    have eb : cutBef rest [10] = rest.take k := by unfold cutBef; rw [if_neg hi, e1]; rfl
    refine ⟨?_, (ns ++ [rest.take k], rest.drop (k + 1)), mat_step hm hp (fun h => h5 (Int.ofNat_lt.2 h)) h2 h3, ?_, ea, by rw [eb]⟩
    · show ns.length + 1 < 1099511627776; omega
    · show (rest.drop (k + 1)).length < rest.length
      rw [List.length_drop]; omega
  · obtain ⟨f1, f2⟩ := mat_end hm hp
    refine ⟨⟨show ns.length ≤ 10000000 by omega, fun hn _ => ⟨fun h6 _ => ?_, fun h6 => ?_⟩, fun hn => ?_⟩, fun h => rm_bad h, fun h => ⟨(f1.1 h).1, fun hx => rm_sum h (by rw [f2 h]; exact fun e => hx e.symm), fun hx => ?_⟩⟩
    · have h6 : ¬ (rest.length : Int) < 6 := h6
      have ew : wSub .i64 (iOf rest.length) 1 = Int.ofNat (rest.length - 1) := by unfold iOf; rw [wSub_in (by omega)]; simp only [Int.ofNat_eq_natCast]; omega
      show (indexB rest 10 != wSub .i64 (iOf rest.length) 1) = !(formOK t)
      rw [ew]
      by_cases he : Go.Lib.indexByte rest 10 = Int.ofNat (rest.length - 1)
      · rw [f1.2 ⟨hn, by omega, he⟩, show indexB rest 10 = Int.ofNat (rest.length - 1) from he]; simp
      · have hf : formOK t = false := by
          cases hf : formOK t with
          | false => rfl
          | true => exact absurd (f1.1 hf).2.2 he
        rw [hf]
        exact bne_iff_ne.2 he
    · have h6 : (rest.length : Int) < 6 := h6
      cases hf : formOK t with
      | false => rfl
      | true => have := (f1.1 hf).2.1; omega
    · cases hf : formOK t with
      | false => rfl
      | true => have := (f1.1 hf).1; rw [show namesOK ns = false from hn] at this; cases this
    · have q := rm_ok h (by rw [f2 h]; exact hx.symm)
      exact ⟨(f2 h).symm.trans q.1, q.2⟩
end Go.Proofs.YtolminmmnckpkaaDoor
namespace Go.Proofs.YtolminmmnckpkaaDoor
open Go.Ab Go.Fn
def s_ReadM : FSpec := { ps := [.v .str], rs := [.o (.slice .str), .v I], pre := fun _ => True, fn := fun x => (Fn.readML x.1, Fn.readMC x.1, ()), upd := fun _ => () }
theorem fo_sReadManifest : FO 11 s_ReadM := by
  refine fo (specs := [(24, s_readM)]) (clos := []) (fun x => []) ⟨fo_l12ReadManifest, trivial⟩ trivial Tryd.func11 rfl rfl ?_
  rintro ⟨t, ⟨⟩⟩ -
  refine vcOf (fits (lenL t) → (decide (iOf (lenL t) > (65536 : Int)) = true → (([] : List (List UInt8)), (2 : Int), ()) = (readML t, readMC t, ()) ∧ () = ()) ∧ (decide (iOf (lenL t) > (65536 : Int)) = false → true = true ∧ List.length t ≤ (65536 : Nat) ∧ (fits (lenL (rmS t)) → (rmS t, rmC t, ()) = (readML t, readMC t, ()) ∧ () = ()))) (by kernel_rfl) ?_
  simp only [Nat.le_refl, Nat.succ_eq_add_one, Nat.reduceAdd, Nat.reduceLeDiff, Nat.zero_le, pair_unit, mk_eta, len_bne, eqD_bne, bne_iff_ne, bne_eq_false_iff_eq, beq_iff_eq, beq_eq_false_iff_ne, true_and, and_true, and_self, eq_self, lt_iff, nthI_nat, bnd_iff, decide_eq_true_eq, decide_eq_false_iff_not, Nat.sub_eq, nz, ne_eq, not_false_eq_true, Prod.mk.injEq, Int.reduceEq, Nat.reduceEqDiff, forall_const, implies_true, bne_self_eq_false, Bool.true_eq_false, Bool.false_eq_true, false_implies, reduceCtorEq, Bool.not_true, Bool.not_false, List.all_cons, List.all_nil, Bool.and_true, Bool.not_eq_true, Bool.not_eq_false, Bool.not_eq_true', Bool.not_eq_false', Decidable.not_not]; try simp only [lenL]
  refine fun _ => ⟨fun h => rd_long (decide_eq_false (p := List.length t ≤ 65536) (fun hn => ?_)), fun h => ⟨Nat.not_lt.1 fun hn => h (Int.ofNat_lt.2 hn), fun _ => rd_ok (decide_eq_true (p := List.length t ≤ 65536) (Nat.not_lt.1 fun hn => h (Int.ofNat_lt.2 hn)))⟩⟩
  have h : (65536 : Int) < ((List.length t : Nat) : Int) := h
  omega
theorem ft_ReadManifest : FT 12 s_ReadM := by
  refine foT (specs := [(25, s_isLong), (26, s_readM)]) (clos := []) (fun x => []) ⟨toT fo_isLong, ft_readManifest, trivial⟩ trivial Tryd.func12 rfl rfl ?_
  rintro ⟨t, ⟨⟩⟩ -
  refine vcOf (true = true ∧ True ∧ ((!(t :: ([] : List (List UInt8))).all short) = true → (([] : List (List UInt8)), (2 : Int), ()) = (readML t, readMC t, ()) ∧ () = ()) ∧ ((!(t :: ([] : List (List UInt8))).all short) = false → true = true ∧ List.length t ≤ (65536 : Nat) ∧ (rmS t, rmC t, ()) = (readML t, readMC t, ()) ∧ () = ())) (by kernel_rfl) ?_
  simp only [Nat.le_refl, Nat.succ_eq_add_one, Nat.reduceAdd, Nat.reduceLeDiff, Nat.zero_le, pair_unit, mk_eta, len_bne, eqD_bne, bne_iff_ne, bne_eq_false_iff_eq, beq_iff_eq, beq_eq_false_iff_ne, true_and, and_true, and_self, eq_self, lt_iff, nthI_nat, bnd_iff, decide_eq_true_eq, decide_eq_false_iff_not, Nat.sub_eq, nz, ne_eq, not_false_eq_true, Prod.mk.injEq, Int.reduceEq, Nat.reduceEqDiff, forall_const, implies_true, bne_self_eq_false, Bool.true_eq_false, Bool.false_eq_true, false_implies, reduceCtorEq, Bool.not_true, Bool.not_false, List.all_cons, List.all_nil, Bool.and_true, Bool.not_eq_true, Bool.not_eq_false, Bool.not_eq_true', Bool.not_eq_false', Decidable.not_not]; try simp only [lenL]
  exact ⟨fun h => rd_long h, fun h => ⟨of_decide_eq_true h, rd_ok h⟩⟩
end Go.Proofs.YtolminmmnckpkaaDoor
namespace Go.Proofs.YtolminmmnckpkaaDoor
open Go.Ab Go.Fn
theorem ft_law_FnExactReadManifest : FT 4 (lawSpec [.str] 1048576) := by
  refine foT (specs := [(11, s_ReadM), (12, s_ReadM), (10, s_eqStringS), (13, s_markStringS), (14, s_heldStringS)]) (clos := []) (fun x => []) ⟨toT fo_sReadManifest, ft_ReadManifest, toT fo_eqStringS, toT fo_markStringS, toT fo_heldStringS, trivial⟩ trivial Tryd.func4 rfl rfl ?_
  rintro ⟨t, ⟨⟩⟩ hl
  refine vcOf (fits (lenL t) → (decide (iOf (lenL t) > (1048576 : Int)) = true → (true, ()) = (true, ()) ∧ () = ()) ∧ (decide (iOf (lenL t) > (1048576 : Int)) = false → true = true ∧ True ∧ true = true ∧ True ∧ true = true ∧ True ∧ ((!eqL (readML t) (readML t)) = false → ((readMC t != readMC t) = true → (false, ()) = (true, ()) ∧ () = ()) ∧ ((readMC t != readMC t) = false → true = true ∧ kOK (1 : Int) ∧ true = true ∧ kOK (1 : Int) ∧ (decide (heldT (markL markText (1 : Int) (readML t).length (1 : Int)) (1 : Int) < (0 : Int)) = true → (false, ()) = (true, ()) ∧ () = ()) ∧ (decide (heldT (markL markText (1 : Int) (readML t).length (1 : Int)) (1 : Int) < (0 : Int)) = false → ((heldT (markL markText (1 : Int) (readML t).length (1 : Int)) (1 : Int) != atD (1 : Int) (1 : Int) (readML t).length) = true → (false, ()) = (true, ()) ∧ () = ()) ∧ ((heldT (markL markText (1 : Int) (readML t).length (1 : Int)) (1 : Int) != atD (1 : Int) (1 : Int) (readML t).length) = false → true = true ∧ True ∧ true = true ∧ True ∧ ((!eqL (readML t) (readML t)) = false → ((readMC t != readMC t) = true → (false, ()) = (true, ()) ∧ () = ()) ∧ ((readMC t != readMC t) = false → true = true ∧ kOK (1 : Int) ∧ (decide (heldT (markL markText (1 : Int) (readML t).length (1 : Int)) (1 : Int) < (0 : Int)) = true → (false, ()) = (true, ()) ∧ () = ()) ∧ (decide (heldT (markL markText (1 : Int) (readML t).length (1 : Int)) (1 : Int) < (0 : Int)) = false → ((heldT (markL markText (1 : Int) (readML t).length (1 : Int)) (1 : Int) != atD (1 : Int) (1 : Int) (readML t).length) = true → (false, ()) = (true, ()) ∧ () = ()) ∧ ((heldT (markL markText (1 : Int) (readML t).length (1 : Int)) (1 : Int) != atD (1 : Int) (1 : Int) (readML t).length) = false → (true, ()) = (true, ()) ∧ () = ())))) ∧ ((!eqL (readML t) (readML t)) = true → (false, ()) = (true, ()) ∧ () = ()))))) ∧ ((!eqL (readML t) (readML t)) = true → (false, ()) = (true, ()) ∧ () = ()))) (by kernel_rfl) ?_
  simp only [Nat.le_refl, Nat.succ_eq_add_one, Nat.reduceAdd, Nat.reduceLeDiff, Nat.zero_le, pair_unit, mk_eta, len_bne, eqD_bne, bne_iff_ne, bne_eq_false_iff_eq, beq_iff_eq, beq_eq_false_iff_ne, true_and, and_true, and_self, eq_self, lt_iff, nthI_nat, bnd_iff, decide_eq_true_eq, decide_eq_false_iff_not, Nat.sub_eq, nz, ne_eq, not_false_eq_true, Prod.mk.injEq, Int.reduceEq, Nat.reduceEqDiff, forall_const, implies_true, bne_self_eq_false, Bool.true_eq_false, Bool.false_eq_true, false_implies, reduceCtorEq, Bool.not_true, Bool.not_false, List.all_cons, List.all_nil, Bool.and_true, Bool.not_eq_true, Bool.not_eq_false, Bool.not_eq_true', Bool.not_eq_false', Decidable.not_not]; try simp only [lenL]
  refine fun _ _ => ?_
  have e1 : ∀ n, heldT (markL markText 1 n 1) 1 = atD 1 1 n := fun n => heldT_mark
  have e2 : eqL (readML t) (readML t) = true := eqL_self _
  simp only [e1, e2]
  exact ⟨fun _ => ⟨kOK_one, kOK_one, fun h => absurd h atD1_pos, fun _ => ⟨fun h => h trivial, fun _ => ⟨fun _ => ⟨kOK_one, fun h => absurd h atD1_pos, fun _ h => h trivial⟩, fun h => Bool.noConfusion h⟩⟩⟩, fun h => Bool.noConfusion h⟩
end Go.Proofs.YtolminmmnckpkaaDoor
namespace Go.Proofs.YtolminmmnckpkaaDoor
open Go.Ab Go.Fn Go.ChangeShapes Go.WideShapes Go.ChangeAt Go.RowKit
theorem bulk {H : Type} : Bulk (Rows.uptoBulk (H := H)) Rows.uptoBulkAll := by
  constructor <;> intros <;> simp [Rows.uptoBulk, Rows.uptoBulkAll]
theorem own : ownKnob Tryd.prog.godebug = none := by kernel_rfl
def valsOf : Nat → DataW Unit → List Value
  | _, .lit (.int k v) => [.int k v]
  | n + 1, .agg l => l.flatMap (valsOf n)
  | _, _ => []
def layAt (h : Array _root_.Go.Obj) (b : Nat) (d : DataW Unit) : Array _root_.Go.Obj := h.modify b fun
  | .cells _ t frozen => .cells (valsOf 3 d).toArray t frozen
  | o => o
noncomputable def laidWorld (os : Os) : World :=
  { World.holding Tryd.prog os ⟨#[], #[], []⟩ with heap := layAt (layAt (layAt (World.holding Tryd.prog os ⟨#[], #[], []⟩).heap 4 Rows.laid_math_bits_deBruijn32tab) 5 Rows.laid_math_bits_deBruijn64tab) 3 Rows.laid_internal_strconv_uint64pow10 }
theorem laid_met (os : Os) : laidMet Tryd.prog Rows.fnExactReadManifestUptoRow.laid ((laidWorld os).forCall (fun _ _ => 0) ⟨#[], #[.string ⟨#[]⟩], []⟩).memory :=
  laidMet_of_run3 8 (by kernel_rfl) (by kernel_rfl) (by kernel_rfl)
theorem reads (os : Os) {H : Type} (enc : TypeId × Value → H) : ∃ places, DataW.whole enc Tryd.prog ((laidWorld os).forCall (fun _ _ => 0) ⟨#[], #[.string ⟨#[]⟩], []⟩).memory Tryd.f4.params.toList Rows.fnExactReadManifestSpec.vars false (#[.string ⟨#[]⟩] : Array Value).toList 8 = some ([.lit (.string [])], [], places) :=
  ⟨[], by kernel_rfl⟩
set_option maxRecDepth 100000 in
theorem fnExactReadManifest_lifted (os : Os) (started : os.Started) (H : Type) (enc : TypeId × Value → H) (F : Stop.Interp) :
    ReturnsInHanded {} Tryd.checked os 4 .any ((Rows.OpenSpec.upto Rows.fnExactReadManifestSpec).preRow enc Tryd.prog Tryd.f4 Rows.fnExactReadManifestUptoRow.domain false Rows.fnExactReadManifestUptoRow.laid) (((Rows.OpenSpec.upto Rows.fnExactReadManifestSpec).at F).post enc Tryd.prog Tryd.f4 false true false false) := by
  obtain ⟨places, hx⟩ := reads os enc
  refine returnsInHanded_of_row (C := Tryd.checked) (s := Rows.OpenSpec.upto Rows.fnExactReadManifestSpec) own started (by kernel_rfl) Tryd.func4
    (witness_row_at (enc := enc) (C := Tryd.checked) false (laidWorld os) #[.string ⟨#[]⟩] rfl (by kernel_rfl) (by kernel_rfl) (by kernel_rfl)
      (OpenSpec.preRow_of_cond 8 hx (by kernel_rfl) (fun k hk => by cases hk; kernel_rfl) (by kernel_rfl) (laid_met os))) ?_
  intro W base args ds gs before hval hW _ hk _ hL _ _
  have hT : tabP W := tab_head (met_tail (met_tail hL))
  refine law_contractT bulk ft_law_FnExactReadManifest (by kernel_rfl) rfl ?_ (tb := 4) rfl (by kernel_rfl) hT (fun b hb => tab_lt hT (show b < 3 + 1 from hb)) (tabT [] []) hval hW (of_decide_eq_true (hk _ rfl))
  intro ds hl
  match ds, hl with
  | [_], _ => rfl
theorem fnExactReadManifest_said : Rows.FnExactReadManifestUptoSaid :=
  OpenClaim.holds_of_cond 4 Tryd.f4 rfl rfl rfl rfl rfl rfl rfl ⟨rfl, rfl, rfl, rfl, rfl⟩ rfl rfl rfl rfl rfl (by kernel_rfl) Tryd.func4 (by kernel_rfl)
    (of_decide_eq_true (by kernel_rfl)) (by unfold Func.isWrapper; first | (rw [if_pos (by decide +kernel)]; kernel_rfl) | (rw [if_neg (by decide +kernel)]; exact ⟨rfl, rfl⟩))
    (fun os started H enc _ F => by rw [OpenClaim.pre_eq_preRow]; exact fnExactReadManifest_lifted os started H enc F)
theorem noStandIn : (Tryd.f4.params.toList.all fun t => !(Tryd.pinned.checked.prog.wantsStandIn t)) = true := by kernel_rfl
theorem fnExactReadManifest_plain (f : FuncId) (fn : Func) (hf : Tryd.pinned.checked.prog.funcNamed "loop.example/g00798/laws.FnExactReadManifest" = some f) (hfn : Tryd.pinned.checked.prog.funcs[f]? = some fn) :
    true = Tryd.pinned.checked.prog.looks [] ∧ ∀ (j : Nat) t, fn.params[j]? = some t → Tryd.pinned.checked.prog.wantsStandIn t = false := by
  obtain rfl : f = 4 := Option.some.inj ((show Tryd.prog.funcNamed "loop.example/g00798/laws.FnExactReadManifest" = some 4 by kernel_rfl).symm.trans hf) |>.symm
  obtain rfl : fn = Tryd.f4 := (Option.some.inj (Tryd.func4.symm.trans hfn)).symm
  refine ⟨by kernel_rfl, fun j t ht => ?_⟩
  have h := List.all_eq_true.1 noStandIn t (by simpa using Array.mem_of_getElem? ht)
  simpa using h
theorem fnExactReadManifest_holds : Rows.FnExactReadManifestUptoCardSaid :=
  Claim7.holds_tied_plain_at .later [] _ _ _ _ fnExactReadManifest_said (fun _ h => by cases h) (by kernel_rfl) (fun _ h => by cases h) fnExactReadManifestUpto_row_tie rfl ⟨rfl, rfl⟩ (by kernel_rfl) rfl fnExactReadManifest_plain (by kernel_rfl)
end Go.Proofs.YtolminmmnckpkaaDoor
