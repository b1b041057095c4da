/- Every function that the law FnExactRecoverPlan reaches does what its specification (a function on plain data) says; the law answers true wherever what it reads is of bulk at most 1048576. Conditions: that bound. -/
import Derived.Test.YtjkipndhdemnoaaGreatDoorAb2
import Derived.Deep.DeepHandedRow
import Derived.Deep.DeepLaidRun
import Derived.Laws.BitsLemmas
import Derived.Lib.Bytealg
import Derived.Lib.ItoaLen
import Derived.Lib.ItoaMem
import Derived.Lib.Join
import Derived.Lib.LaidTab
import Derived.OpenShut
import Derived.ProofKit
import Derived.Shelf.GgSortFunc.RowK
import Derived.Shelf.LaysM
import Derived.Shelf.SlLaysF0
import Derived.Shelf.SlLaysM
import Derived.Shelf.SlLaysN
import Derived.Shelf.SlicesG.CompactS
import Derived.Shelf.SortM.Plain
import Derived.Shelf.SortM.SortNone
import Derived.Shelf.Strconv.Itoa3
import Derived.Shelf.Strings.OnBuilder
import Derived.Sort.Walk0
import Derived.Test.YtjkipndhdemnoaaGreatDoorCards
import Derived.Test.YtjkipndhdemnoaaGreatDoorRows
import Derived.Test.YtjkipndhdemnoaaGreatDoorTie
import Derived.WalkKit
import Derived.Test.YtjkipndhdemnoaaGreatDoorExactRecoverPlan1
set_option autoImplicit true
set_option relaxedAutoImplicit true
set_option maxHeartbeats 4000000
set_option maxRecDepth 4000
set_option linter.unusedVariables false
set_option linter.unusedSimpArgs false
namespace Go.Fn
open Go.Ab
theorem bn_no {t : List UInt8} (h : nameOK t = false) : badName t = true := by unfold badName; rw [h]; rfl
theorem bn_a {t : List UInt8} (h : t = [77, 65, 78, 73, 70, 69, 83, 84]) : badName t = true := by unfold badName; rw [decide_eq_true h]; simp
theorem bn_b {t : List UInt8} (h : t = [116, 109, 112]) : badName t = true := by unfold badName; rw [decide_eq_true h]; simp
theorem bn_c {t : List UInt8} (h : t = [109, 116, 109, 112]) : badName t = true := by unfold badName; rw [decide_eq_true h]; simp
theorem bn_ok {t : List UInt8} (hn : nameOK t = true) (h1 : ¬ t = [77, 65, 78, 73, 70, 69, 83, 84]) (h2 : ¬ t = [116, 109, 112]) (h3 : ¬ t = [109, 116, 109, 112]) : badName t = false := by
  unfold badName
  rw [hn, decide_eq_false h1, decide_eq_false h2, decide_eq_false h3]; rfl
theorem bn_last {t : List UInt8} (hn : nameOK t = true) (h1 : ¬ t = [77, 65, 78, 73, 70, 69, 83, 84]) (h2 : ¬ t = [116, 109, 112]) : (!(t == [109, 116, 109, 112])) = !(badName t) := by
  by_cases h3 : t = [109, 116, 109, 112]
  · rw [bn_c h3, h3]; rfl
  · rw [bn_ok hn h1 h2 h3]
    simp [h3]
theorem nb_eq {l : List (List UInt8)} {i : Nat} {x : List UInt8} (hx : l[i]? = some x) : nameBadI l (Int.ofNat i) = (badName x || (l.take i).any (fun y => decide (y = x))) := by
  show nameBad l i = _
  unfold nameBad
  rw [nameS_at hx]
theorem nb_bad {l : List (List UInt8)} {i : Nat} {x : List UInt8} (hx : l[i]? = some x) (h : badName x = true) : true = nameBadI l (Int.ofNat i) := by rw [nb_eq hx, h]; rfl
theorem nb_has {l : List (List UInt8)} {i : Nat} {x : List UInt8} (hx : l[i]? = some x) (h : badName x = false) : ((subL l 0 (tN (Int.ofNat i))).any fun y => decide (y = x)) = nameBadI l (Int.ofNat i) := by
  rw [nb_eq hx, h, Bool.false_or, sub_take]
theorem are_l {ys l : List (List UInt8)} (hp : ys.Perm l) (hw : WeakT ys) : iOf (compactL ys).length = iOf l.length ↔ l.Nodup := by
  rw [← hp.nodup_iff, ← compact_nodup hw, hp.length_eq]
  unfold iOf
  omega
theorem are_yes {ys l : List (List UInt8)} (hp : ys.Perm l) (hw : WeakT ys) (h5 : iOf l.length ≤ 5) (h : iOf (compactL ys).length = iOf l.length) : (l.all fun y => !(badName y)) = namesOK l := by
  rw [namesOK_iff, decide_eq_true (p := l.length ≤ 5) (by unfold iOf at h5; omega), decide_eq_true (p := l.Nodup) ((are_l hp hw).1 h)]; rfl
theorem are_no {ys l : List (List UInt8)} (hp : ys.Perm l) (hw : WeakT ys) (h : ¬ iOf (compactL ys).length = iOf l.length) : false = namesOK l := by
  rw [namesOK_iff, decide_eq_false (p := l.Nodup) (fun hn => h ((are_l hp hw).2 hn))]; simp
theorem are_5 {l : List (List UInt8)} (h : ¬ iOf l.length ≤ 5) : false = namesOK l := okm_16 (by omega)
theorem man_65 {l : List (List UInt8)} (h : namesOK l = true) {k : Nat} (hk : k ≤ l.length) : (manTo l k).length ≤ 65 := by
  have h2 := names_ok h
  have := man_len h2.2 k hk
  omega
theorem man_f1 {l : List (List UInt8)} (h : namesOK l = true) {k : Nat} {x : List UInt8} (hx : l[k]? = some x) : fits (x.length + [(10 : UInt8)].length) ∧ fits ((manTo l k).length + (catS x [10]).length) := by
  have h2 := (names_ok h).2 x (List.mem_of_getElem? hx)
  have h3 := man_65 h (Nat.le_of_lt (List.getElem?_eq_some_iff.1 hx).1)
  unfold fits
  simp only [catS, List.length_append, List.length_cons, List.length_nil]
  omega
theorem man_f2 {l : List (List UInt8)} (h : namesOK l = true) {k : Nat} (hk : k ≤ l.length) : fits ((manTo l k).length + [(115 : UInt8), 117, 109, 32].length) ∧ inI (sum (manTo l k)) ∧ fits ((catS (manTo l k) [115, 117, 109, 32]).length + (itoaS (sum (manTo l k))).length) ∧ fits ((catS (catS (manTo l k) [115, 117, 109, 32]) (itoaS (sum (manTo l k)))).length + [(10 : UInt8)].length) := by
  have h3 := man_65 h hk
  have h4 := sum_inI (manTo l k)
  have h5 := itoa_len h4
  unfold fits
  simp only [catS, List.length_append, List.length_cons, List.length_nil]
  exact ⟨by omega, h4, by omega, by omega⟩
theorem man_end {l : List (List UInt8)} {k : Nat} (hk : k ≤ l.length) (h : ¬ k < l.length) : catS (catS (catS (manTo l k) [115, 117, 109, 32]) (itoaS (sum (manTo l k)))) [10] = manT l := by
  have : k = l.length := by omega
  subst this; rfl
end Go.Fn
namespace Go.Proofs.YtjkipndhdemnoaaGreatDoor
open Go.Ab Go.Fn
theorem met_tail {P : Program} {x : String × DataW Unit} {r : List (String × DataW Unit)} {W : World} (h : laidMet P (x :: r) W) : laidMet P r W := by
  obtain ⟨ps, ⟨g, t, cs, fuel, p, q, h1, h2, h3, h4, h5, h6⟩, hn, hc⟩ := h
  subst h6
  exact ⟨q, h5, (List.nodup_append.1 hn).2.1, fun b off hb => hc b off (List.mem_append_right _ hb)⟩
theorem tab_head {rest : List (String × DataW Unit)} {W : World} (h : laidMet Tryz.prog (("internal/strconv.uint64pow10", Rows.laid_internal_strconv_uint64pow10) :: rest) W) : tabP W :=
  Lib.tabIs_of_head (t := 213) (e := 190) (n := 20) gPow (by kernel_rfl) Tryz.underlying213 Tryz.underlying190 (by kernel_rfl) (by kernel_rfl) h
theorem tab_lt {W : World} (h : tabP W) {b : Nat} (hb : b < 1 + 1) : b < W.heap.size := by
  have h : W.var? Tryz.prog "internal/strconv.uint64pow10" = _ := h
  unfold World.var? at h
  rw [gPow] at h
  simp only [Option.bind_some] at h
  split at h
  · rename_i hh
    exact Nat.lt_of_lt_of_le hb (Array.getElem?_eq_some_iff.1 hh).1
  · cases h
end Go.Proofs.YtjkipndhdemnoaaGreatDoor
namespace Go.Proofs.YtjkipndhdemnoaaGreatDoor
open Go.Ab Go.Fn
def s_markText : FSpec := { ps := [.v I], rs := [.v .str], pre := fun x => (x.1 : Int) ≤ 9000000000000000, fn := fun x => (markText x.1, ()), upd := fun _ => () }
def L_markText (k : Int) : LoopAnn := { ι := Nat × List UInt8, inv := fun p => p.1 ≤ 9000000000000000 ∧ digs p.1 ++ p.2 = digs k.toNat, slots := fun p => [(0, .d I (Int.ofNat p.1)), (3, .d .str p.2)], objs := fun _ => [], μ := fun p => p.1 }
theorem fo_markText : FO 47 s_markText := by
  refine fo (specs := []) (clos := []) (fun x => [(4, .lv [0, 3] <| fun _ => L_markText x.1)]) trivial trivial Tryz.func47 rfl rfl ?_
  rintro ⟨(k : Int), ⟨⟩⟩ (hp : k ≤ 9000000000000000)
  refine vcOf ((decide (k ≤ (0 : Int)) = true → ((109 : UInt8) :: (48 : UInt8) :: ([] : List UInt8), ()) = (markText k, ()) ∧ () = ()) ∧ (decide (k ≤ (0 : Int)) = false → (∃ (i : Nat × List UInt8), (i.fst ≤ (9000000000000000 : Nat) ∧ digs i.fst ++ i.snd = digs k.toNat) ∧ (k = Int.ofNat i.fst ∧ ([] : List UInt8) = i.snd ∧ True) ∧ True ∧ True) ∧ ∀ (i : Nat × List UInt8), i.fst ≤ (9000000000000000 : Nat) ∧ digs i.fst ++ i.snd = digs k.toNat → (decide (Int.ofNat i.fst > (0 : Int)) = true → nz (10 : Int) ∧ fits (lenL (UInt8.ofNat (IntKind.u8.wrap (wAdd IntKind.i64 (48 : Int) (wRem (Int.ofNat i.fst) (10 : Int)))).toNat :: ([] : List UInt8)) + lenL i.snd) ∧ nz (10 : Int) ∧ ∃ (j : Nat × List UInt8), (j.fst ≤ (9000000000000000 : Nat) ∧ digs j.fst ++ j.snd = digs k.toNat) ∧ j.fst < i.fst ∧ (wQuo IntKind.i64 (Int.ofNat i.fst) (10 : Int) = Int.ofNat j.fst ∧ catS (UInt8.ofNat (IntKind.u8.wrap (wAdd IntKind.i64 (48 : Int) (wRem (Int.ofNat i.fst) (10 : Int)))).toNat :: ([] : List UInt8)) i.snd = j.snd ∧ True) ∧ True ∧ True) ∧ (decide (Int.ofNat i.fst > (0 : Int)) = false → fits (lenL ((109 : UInt8) :: ([] : List UInt8)) + lenL i.snd) ∧ (catS ((109 : UInt8) :: ([] : List UInt8)) i.snd, ()) = (markText k, ()) ∧ () = ()))) (by kernel_rfl) ?_
  simp only [Nat.le_refl, Nat.succ_eq_add_one, Nat.reduceAdd, Nat.reduceLeDiff, Nat.zero_le, pair_unit, mk_eta, len_bne, eqD_bne, bne_iff_ne, bne_eq_false_iff_eq, beq_iff_eq, beq_eq_false_iff_ne, true_and, and_true, and_self, eq_self, lt_iff, nthI_nat, bnd_iff, decide_eq_true_eq, decide_eq_false_iff_not, Nat.sub_eq, nz, ne_eq, not_false_eq_true, Prod.mk.injEq, Int.reduceEq, Nat.reduceEqDiff, forall_const, implies_true, bne_self_eq_false, Bool.true_eq_false, Bool.false_eq_true, false_implies, reduceCtorEq, Bool.not_true, Bool.not_false, List.all_cons, List.all_nil, Bool.and_true, Bool.not_eq_true, Bool.not_eq_false, Bool.not_eq_true', Bool.not_eq_false', Decidable.not_not]; try simp only [lenL]
  refine ⟨fun h => (markText_neg h).symm, fun h => ⟨⟨(Int.toNat k, []), ⟨by omega, by simp⟩, mark_start h, rfl⟩, ?_⟩⟩
  rintro ⟨n, out⟩ ⟨hn, he⟩
  have hkn : Int.toNat k ≤ 9000000000000000 := by omega
  refine ⟨fun hpos => ?_, fun hz => ?_⟩
  · have hpos : 0 < n := by simpa using hpos
    rw [digit_eq, quo_eq hn]
    refine ⟨digs_bound hkn he _, (n / 10, UInt8.ofNat (48 + n % 10) :: out), ⟨by omega, ?_⟩, by omega, rfl, rfl⟩
    rw [← he, digs_pos hpos]; simp
  · have hz : n = 0 := by simpa using hz
    subst hz
    have he : out = digs (Int.toNat k) := by simpa [digs_zero] using he
    refine ⟨digs_bound (n := 0) hkn (by simpa [digs_zero] using he) _, ?_⟩
    rw [markText_pos h, ← he]; rfl
end Go.Proofs.YtjkipndhdemnoaaGreatDoor
namespace Go.Fn
open Go.Ab
theorem at_add3 {d k : Int} {j n : Nat} (hk : kOK k) (hd : 0 ≤ d ∧ d ≤ 16) (hj : j ≤ n) (hf : fits n) : wAdd .i64 (atD d k j + 3) 1 = atD d k j + 4 := by
  simpa using (at_add (e := 3) hk hd hj hf (by omega)).1
theorem at_add4 {d k : Int} {j n : Nat} (hk : kOK k) (hd : 0 ≤ d ∧ d ≤ 16) (hj : j ≤ n) (hf : fits n) : wAdd .i64 (atD d k j + 4) 1 = atD d k j + 5 := by
  simpa using (at_add (e := 4) hk hd hj hf (by omega)).1
theorem at_small2 {d k : Int} {j n : Nat} (hk : kOK k) (hd : 0 ≤ d ∧ d ≤ 16) (hj : j ≤ n) (hf : fits n) : atD d k j + 2 ≤ 9000000000000000 := by
  have := (at_add (e := 2) hk hd hj hf (by omega)).2
  omega
end Go.Fn
namespace Go.Proofs.YtjkipndhdemnoaaGreatDoor
open Go.Ab Go.Fn
def s_Clone_Str : FSpec := { ps := [.v (.slice .str)], rs := [.o (.slice .str)], pre := fun _ => True, fn := fun x => (x.1, ()), upd := fun _ => () }
theorem fo_Clone_Str : FO 137 s_Clone_Str := by
  refine fo (specs := []) (clos := []) (fun x => []) trivial trivial Tryz.func137 rfl rfl ?_
  rintro ⟨xs, ⟨⟩⟩ -
  refine vcOf (∀ (b : Bool), (b = true → xs = ([] : List (List UInt8))) → (b = true → (([] : List (List UInt8)), ()) = (xs, ()) ∧ () = ()) ∧ (b = false → fits (lenL xs) → (xs, ()) = (xs, ()) ∧ () = ())) (by kernel_rfl) ?_
  simp only [Nat.le_refl, Nat.succ_eq_add_one, Nat.reduceAdd, Nat.reduceLeDiff, Nat.zero_le, pair_unit, mk_eta, len_bne, eqD_bne, bne_iff_ne, bne_eq_false_iff_eq, beq_iff_eq, beq_eq_false_iff_ne, true_and, and_true, and_self, eq_self, lt_iff, nthI_nat, bnd_iff, decide_eq_true_eq, decide_eq_false_iff_not, Nat.sub_eq, nz, ne_eq, not_false_eq_true, Prod.mk.injEq, Int.reduceEq, Nat.reduceEqDiff, forall_const, implies_true, bne_self_eq_false, Bool.true_eq_false, Bool.false_eq_true, false_implies, reduceCtorEq, Bool.not_true, Bool.not_false, List.all_cons, List.all_nil, Bool.and_true, Bool.not_eq_true, Bool.not_eq_false, Bool.not_eq_true', Bool.not_eq_false', Decidable.not_not]; try simp only [lenL]
  exact fun b h hb => (h hb).symm
end Go.Proofs.YtjkipndhdemnoaaGreatDoor
namespace Go.Proofs.YtjkipndhdemnoaaGreatDoor
open Go.Ab Go.Fn
def c_layers : CSpec := { ats := [.str], b := .bool, cs := [], pre := fun _ _ => True, fn := fun _ a => !(Fn.badName a.1) }
theorem fo_layersc : FO 140 c_layers.fspec := by
  refine fo (specs := [(108, s_NameOK)]) (clos := []) (fun x => []) ⟨fo_NameOK, trivial⟩ trivial Tryz.func140 rfl rfl ?_
  rintro ⟨t, ⟨⟩⟩ -
  refine vcOf (true = true ∧ True ∧ (nameOK t = true → ((!t == (77 : UInt8) :: (65 : UInt8) :: (78 : UInt8) :: (73 : UInt8) :: (70 : UInt8) :: (69 : UInt8) :: (83 : UInt8) :: (84 : UInt8) :: ([] : List UInt8)) = true → ((!t == (116 : UInt8) :: (109 : UInt8) :: (112 : UInt8) :: ([] : List UInt8)) = true → (!t == (109 : UInt8) :: (116 : UInt8) :: (109 : UInt8) :: (112 : UInt8) :: ([] : List UInt8), ()) = (match badName t with | true => false | false => true, ()) ∧ () = ()) ∧ ((!t == (116 : UInt8) :: (109 : UInt8) :: (112 : UInt8) :: ([] : List UInt8)) = false → (false, ()) = (match badName t with | true => false | false => true, ()) ∧ () = ())) ∧ ((!t == (77 : UInt8) :: (65 : UInt8) :: (78 : UInt8) :: (73 : UInt8) :: (70 : UInt8) :: (69 : UInt8) :: (83 : UInt8) :: (84 : UInt8) :: ([] : List UInt8)) = false → (false, ()) = (match badName t with | true => false | false => true, ()) ∧ () = ())) ∧ (nameOK t = false → (false, ()) = (match badName t with | true => false | false => true, ()) ∧ () = ())) (by kernel_rfl) ?_
  simp only [Nat.le_refl, Nat.succ_eq_add_one, Nat.reduceAdd, Nat.reduceLeDiff, Nat.zero_le, pair_unit, mk_eta, len_bne, eqD_bne, bne_iff_ne, bne_eq_false_iff_eq, beq_iff_eq, beq_eq_false_iff_ne, true_and, and_true, and_self, eq_self, lt_iff, nthI_nat, bnd_iff, decide_eq_true_eq, decide_eq_false_iff_not, Nat.sub_eq, nz, ne_eq, not_false_eq_true, Prod.mk.injEq, Int.reduceEq, Nat.reduceEqDiff, forall_const, implies_true, bne_self_eq_false, Bool.true_eq_false, Bool.false_eq_true, false_implies, reduceCtorEq, Bool.not_true, Bool.not_false, List.all_cons, List.all_nil, Bool.and_true, Bool.not_eq_true, Bool.not_eq_false, Bool.not_eq_true', Bool.not_eq_false', Decidable.not_not]; try simp only [lenL]
  exact ⟨fun hn => ⟨fun h1 => ⟨fun h2 => bn_last hn h1 h2, fun h2 => by rw [bn_b h2]⟩, fun h1 => by rw [bn_a h1]⟩, fun hn => by rw [bn_no hn]⟩
def s_namesOK : FSpec := { ps := [.v (.slice .str)], rs := [.v .bool], pre := fun x => List.length (α := List UInt8) x.1 ≤ 10000000, fn := fun x => (Fn.namesOK x.1, ()), upd := fun _ => () }
theorem fo_areLayers : FO 98 s_namesOK := by
  refine foI (specs := [(137, s_Clone_Str), (119, s_all_str)]) (clos := [(140, c_layers)]) (inl := [(138, i_SortStr), (139, i_CompStr)]) (fun x => []) ⟨fo_Clone_Str, fo_all_str, trivial⟩ ⟨co fo_layersc rfl rfl, trivial⟩ ⟨in_SortStr, in_CompStr, trivial⟩ Tryz.func98 rfl rfl ?_
  rintro ⟨l, ⟨⟩⟩ hl
  refine vcOf (true = true ∧ True ∧ ([] : List AV) = ([] : List AV) ∧ ∀ (ys : List (List UInt8)), ys.Perm l → List.Pairwise (fun (a b : List UInt8) => ltT b a = false) ys → fits (lenL l) → (decide (iOf (lenL l) ≤ (5 : Int)) = true → fits (lenL (compactL ys)) → fits (lenL l) → ((iOf (lenL (compactL ys)) == iOf (lenL l)) = true → true = true ∧ (∀ (y : List UInt8), y ∈ l → True) ∧ (List.all l fun (y : List UInt8) => (fun (a : List UInt8 × Unit) => !badName a.fst, fun (x : List UInt8 × Unit) => True).fst (y, ()), ()) = (namesOK l, ()) ∧ () = ()) ∧ ((iOf (lenL (compactL ys)) == iOf (lenL l)) = false → (false, ()) = (namesOK l, ()) ∧ () = ())) ∧ (decide (iOf (lenL l) ≤ (5 : Int)) = false → (false, ()) = (namesOK l, ()) ∧ () = ())) (by kernel_rfl) ?_
  simp only [Nat.le_refl, Nat.succ_eq_add_one, Nat.reduceAdd, Nat.reduceLeDiff, Nat.zero_le, pair_unit, mk_eta, len_bne, eqD_bne, bne_iff_ne, bne_eq_false_iff_eq, beq_iff_eq, beq_eq_false_iff_ne, true_and, and_true, and_self, eq_self, lt_iff, nthI_nat, bnd_iff, decide_eq_true_eq, decide_eq_false_iff_not, Nat.sub_eq, nz, ne_eq, not_false_eq_true, Prod.mk.injEq, Int.reduceEq, Nat.reduceEqDiff, forall_const, implies_true, bne_self_eq_false, Bool.true_eq_false, Bool.false_eq_true, false_implies, reduceCtorEq, Bool.not_true, Bool.not_false, List.all_cons, List.all_nil, Bool.and_true, Bool.not_eq_true, Bool.not_eq_false, Bool.not_eq_true', Bool.not_eq_false', Decidable.not_not]; try simp only [lenL]
  exact fun ys hp hw _ => ⟨fun h5 _ _ => ⟨fun he => are_yes hp hw h5 he, fun he => are_no hp hw he⟩, fun h5 => are_5 h5⟩
end Go.Proofs.YtjkipndhdemnoaaGreatDoor
namespace Go.Proofs.YtjkipndhdemnoaaGreatDoor
open Go.Ab Go.Fn
def s_hasStr : FSpec := { ps := [.v (.slice .str), .v .str], rs := [.v .bool], pre := fun _ => True, fn := fun x => (List.any x.1 (fun y => decide (y = x.2.1)), ()), upd := fun _ => () }
def L_has (l : List (List UInt8)) (t : List UInt8) : LoopAnn := { ι := Nat, inv := fun k => k ≤ l.length ∧ ∀ (j : Nat) (y : List UInt8), j < k → l[j]? = some y → ¬ y = t, slots := fun k => [(5, .d I (Int.ofNat k))], objs := fun _ => [], μ := fun k => l.length - k }
theorem fo_l01Has : FO 67 s_hasStr := by
  refine fo (specs := []) (clos := []) (fun x => [(2, .lv [0, 1, 5] <| fun _ => L_has x.1 x.2.1)]) trivial trivial Tryz.func67 rfl rfl ?_
  rintro ⟨l, t, ⟨⟩⟩ -
  refine vcOf ((∃ (i : Nat), (i ≤ List.length l ∧ ∀ (j : Nat) (y : List UInt8), j < i → l[j]? = some y → ¬y = t) ∧ (l = l ∧ t = t ∧ (0 : Int) = Int.ofNat i ∧ True) ∧ True ∧ True) ∧ ∀ (i : Nat), (i ≤ List.length l ∧ ∀ (j : Nat) (y : List UInt8), j < i → l[j]? = some y → ¬y = t) → fits (lenL l) → (decide (Int.ofNat i < iOf (lenL l)) = true → bnd (Int.ofNat i) (lenL l) ∧ ∀ (x : List UInt8), nthI l (Int.ofNat i) = some x → nat_lit 1 ≤ nat_lit 1 ∧ ((x == t) = true → (true, ()) = (List.any l fun (y : List UInt8) => decide (y = t), ()) ∧ () = ()) ∧ ((x == t) = false → ∃ (j : Nat), (j ≤ List.length l ∧ ∀ (j_1 : Nat) (y : List UInt8), j_1 < j → l[j_1]? = some y → ¬y = t) ∧ (List.length l).sub j < (List.length l).sub i ∧ (l = l ∧ t = t ∧ wAdd IntKind.i64 (Int.ofNat i) (1 : Int) = Int.ofNat j ∧ True) ∧ True ∧ True)) ∧ (decide (Int.ofNat i < iOf (lenL l)) = false → (false, ()) = (List.any l fun (y : List UInt8) => decide (y = t), ()) ∧ () = ())) (by kernel_rfl) ?_
  simp only [Nat.le_refl, Nat.succ_eq_add_one, Nat.reduceAdd, Nat.reduceLeDiff, Nat.zero_le, pair_unit, mk_eta, len_bne, eqD_bne, bne_iff_ne, bne_eq_false_iff_eq, beq_iff_eq, beq_eq_false_iff_ne, true_and, and_true, and_self, eq_self, lt_iff, nthI_nat, bnd_iff, decide_eq_true_eq, decide_eq_false_iff_not, Nat.sub_eq, nz, ne_eq, not_false_eq_true, Prod.mk.injEq, Int.reduceEq, Nat.reduceEqDiff, forall_const, implies_true, bne_self_eq_false, Bool.true_eq_false, Bool.false_eq_true, false_implies, reduceCtorEq, Bool.not_true, Bool.not_false, List.all_cons, List.all_nil, Bool.and_true, Bool.not_eq_true, Bool.not_eq_false, Bool.not_eq_true', Bool.not_eq_false', Decidable.not_not]; try simp only [lenL]
  refine ⟨⟨0, ⟨Nat.zero_le _, fun j y hj => absurd hj (Nat.not_lt_zero _)⟩, rfl⟩, fun i ⟨hk, hi⟩ hf => ⟨fun h => ⟨h, fun x hx => ⟨fun he => (List.any_eq_true.2 ⟨x, List.mem_of_getElem? hx, decide_eq_true he⟩).symm, fun hn => ⟨i + 1, ⟨h, below_succ (P := fun y => ¬ y = t) hi hx hn⟩, Nat.sub_lt_sub_left h (Nat.lt_succ_self i), inc_in hf hk⟩⟩⟩, fun h => ?_⟩⟩
  symm
  rw [List.any_eq_false]
  intro y hy
  obtain ⟨j, hj⟩ := List.mem_iff_getElem?.1 hy
  have := (List.getElem?_eq_some_iff.1 hj).1
  simp [hi j y (by omega) hj]
def L_names (l : List (List UInt8)) : LoopAnn := { ι := Nat, inv := fun k => Fn.OKM l k, slots := fun k => [(3, .d I (Int.ofNat k))], objs := fun _ => [], μ := fun k => l.length - k }
theorem fo_l12NamesOK : FO 129 s_namesOK := by
  refine fo (specs := [(91, s_NameOK), (67, s_hasStr)]) (clos := []) (fun x => [(4, .lv [0, 3] <| fun _ => L_names x.1), (1000006, .lv [0, 3, 49] <| .ofCut fun s => [(49, .d .bool (Fn.nameBadI x.1 (s.tI 3)))])]) ⟨fo_l00Word, fo_l01Has, trivial⟩ trivial Tryz.func129 rfl rfl ?_
  rintro ⟨l, ⟨⟩⟩ hl
  refine vcOf (fits (lenL l) → (decide (iOf (lenL l) > (5 : Int)) = true → (false, ()) = (namesOK l, ()) ∧ () = ()) ∧ (decide (iOf (lenL l) > (5 : Int)) = false → (∃ (i : Nat), OKM l i ∧ (l = l ∧ (0 : Int) = Int.ofNat i ∧ True) ∧ True ∧ True) ∧ ∀ (i : Nat), OKM l i → fits (lenL l) → (decide (Int.ofNat i < iOf (lenL l)) = true → (bnd (Int.ofNat i) (lenL l) ∧ ∀ (x : List UInt8), nthI l (Int.ofNat i) = some x → nat_lit 1 ≤ nat_lit 1 ∧ true = true ∧ True ∧ ((!nameOK x) = false → bnd (Int.ofNat i) (lenL l) ∧ ∀ (x : List UInt8), nthI l (Int.ofNat i) = some x → nat_lit 1 ≤ nat_lit 1 ∧ ((x == (77 : UInt8) :: (65 : UInt8) :: (78 : UInt8) :: (73 : UInt8) :: (70 : UInt8) :: (69 : UInt8) :: (83 : UInt8) :: (84 : UInt8) :: ([] : List UInt8)) = false → bnd (Int.ofNat i) (lenL l) ∧ ∀ (x : List UInt8), nthI l (Int.ofNat i) = some x → nat_lit 1 ≤ nat_lit 1 ∧ ((x == (116 : UInt8) :: (109 : UInt8) :: (112 : UInt8) :: ([] : List UInt8)) = false → bnd (Int.ofNat i) (lenL l) ∧ ∀ (x : List UInt8), nthI l (Int.ofNat i) = some x → nat_lit 1 ≤ nat_lit 1 ∧ ((x == (109 : UInt8) :: (116 : UInt8) :: (109 : UInt8) :: (112 : UInt8) :: ([] : List UInt8)) = false → boundLo (Int.ofNat i) (lenL l) ∧ bnd (Int.ofNat i) (lenL l) ∧ ∀ (x : List UInt8), nthI l (Int.ofNat i) = some x → nat_lit 1 ≤ nat_lit 1 ∧ true = true ∧ True ∧ (l = l ∧ Int.ofNat i = Int.ofNat i ∧ ((subL l (0 : Nat) (tN (Int.ofNat i))).any fun (y : List UInt8) => decide (y = x)) = nameBadI l (Int.ofNat i) ∧ True) ∧ True ∧ True) ∧ ((x == (109 : UInt8) :: (116 : UInt8) :: (109 : UInt8) :: (112 : UInt8) :: ([] : List UInt8)) = true → (l = l ∧ Int.ofNat i = Int.ofNat i ∧ true = nameBadI l (Int.ofNat i) ∧ True) ∧ True ∧ True)) ∧ ((x == (116 : UInt8) :: (109 : UInt8) :: (112 : UInt8) :: ([] : List UInt8)) = true → (l = l ∧ Int.ofNat i = Int.ofNat i ∧ true = nameBadI l (Int.ofNat i) ∧ True) ∧ True ∧ True)) ∧ ((x == (77 : UInt8) :: (65 : UInt8) :: (78 : UInt8) :: (73 : UInt8) :: (70 : UInt8) :: (69 : UInt8) :: (83 : UInt8) :: (84 : UInt8) :: ([] : List UInt8)) = true → (l = l ∧ Int.ofNat i = Int.ofNat i ∧ true = nameBadI l (Int.ofNat i) ∧ True) ∧ True ∧ True)) ∧ ((!nameOK x) = true → (l = l ∧ Int.ofNat i = Int.ofNat i ∧ true = nameBadI l (Int.ofNat i) ∧ True) ∧ True ∧ True)) ∧ (nameBadI l (Int.ofNat i) = true → (false, ()) = (namesOK l, ()) ∧ () = ()) ∧ (nameBadI l (Int.ofNat i) = false → ∃ (j : Nat), OKM l j ∧ (List.length l).sub j < (List.length l).sub i ∧ (l = l ∧ wAdd IntKind.i64 (Int.ofNat i) (1 : Int) = Int.ofNat j ∧ True) ∧ True ∧ True)) ∧ (decide (Int.ofNat i < iOf (lenL l)) = false → (true, ()) = (namesOK l, ()) ∧ () = ()))) (by kernel_rfl) ?_
  simp only [Nat.le_refl, Nat.succ_eq_add_one, Nat.reduceAdd, Nat.reduceLeDiff, Nat.zero_le, pair_unit, mk_eta, len_bne, eqD_bne, bne_iff_ne, bne_eq_false_iff_eq, beq_iff_eq, beq_eq_false_iff_ne, true_and, and_true, and_self, eq_self, lt_iff, nthI_nat, bnd_iff, decide_eq_true_eq, decide_eq_false_iff_not, Nat.sub_eq, nz, ne_eq, not_false_eq_true, Prod.mk.injEq, Int.reduceEq, Nat.reduceEqDiff, forall_const, implies_true, bne_self_eq_false, Bool.true_eq_false, Bool.false_eq_true, false_implies, reduceCtorEq, Bool.not_true, Bool.not_false, List.all_cons, List.all_nil, Bool.and_true, Bool.not_eq_true, Bool.not_eq_false, Bool.not_eq_true', Bool.not_eq_false', Decidable.not_not]; try simp only [lenL]
  refine fun _ => ⟨fun h => okm_16 h, fun h5 => ⟨⟨0, okm0 l, rfl⟩, fun i h hf => ⟨fun hi => ⟨⟨hi, fun x hx => ⟨fun hn => ⟨hi, fun x2 hx2 => ?_⟩, fun hn => nb_bad hx (bn_no hn)⟩⟩, fun hb => okm_bad hi hb, fun hb => ⟨i + 1, okm_step h hi hb, Nat.sub_lt_sub_left hi (Nat.lt_succ_self i), inc_in hf h.1⟩⟩, fun he => okm_end h he h5⟩⟩⟩
  rw [hx] at hx2; cases hx2
  refine ⟨fun h1 => ⟨hi, fun x3 hx3 => ?_⟩, fun h1 => nb_bad hx (bn_a h1)⟩
  rw [hx] at hx3; cases hx3
  refine ⟨fun h2 => ⟨hi, fun x4 hx4 => ?_⟩, fun h2 => nb_bad hx (bn_b h2)⟩
  rw [hx] at hx4; cases hx4
  refine ⟨fun h3 => ⟨bound_lo h.1, hi, fun x5 hx5 => ?_⟩, fun h3 => nb_bad hx (bn_c h3)⟩
  rw [hx] at hx5; cases hx5
  exact nb_has hx (bn_ok hn h1 h2 h3)
end Go.Proofs.YtjkipndhdemnoaaGreatDoor
namespace Go.Proofs.YtjkipndhdemnoaaGreatDoor
open Go.Ab Go.Fn
def s_man : FSpec := { ps := [.v (.slice .str)], rs := [.v .str], pre := fun x => Fn.namesOK x.1 = true, fn := fun x => (Fn.manT x.1, ()), upd := fun _ => () }
def L_man (i : Nat) (l : List (List UInt8)) : LoopAnn := { ι := Nat, inv := fun k => k ≤ l.length, slots := fun k => [(3, .d .str (Fn.manTo l k)), (i, .d I (Int.ofNat k))], objs := fun _ => [], μ := fun k => l.length - k }
theorem fo_l12Manifest : FO 130 s_man := by
  refine fo (specs := [(163, s_Digits), (104, s_l09Sum)]) (clos := []) (fun x => [(3, .lv [0, 3, 4] <| fun _ => L_man 4 x.1)]) ⟨fo_l00Digits, fo_l09Sum, trivial⟩ trivial Tryz.func130 rfl rfl ?_
  rintro ⟨l, ⟨⟩⟩ hl
  refine vcOf ((∃ (i : Nat), i ≤ List.length l ∧ (l = l ∧ ([] : List UInt8) = manTo l i ∧ (0 : Int) = Int.ofNat i ∧ True) ∧ True ∧ True) ∧ ∀ (i : Nat), i ≤ List.length l → fits (lenL l) → (decide (Int.ofNat i < iOf (lenL l)) = true → bnd (Int.ofNat i) (lenL l) ∧ ∀ (x : List UInt8), nthI l (Int.ofNat i) = some x → nat_lit 1 ≤ nat_lit 1 ∧ fits (lenL x + lenL ((10 : UInt8) :: ([] : List UInt8))) ∧ fits (lenL (manTo l i) + lenL (catS x ((10 : UInt8) :: ([] : List UInt8)))) ∧ ∃ (j : Nat), j ≤ List.length l ∧ (List.length l).sub j < (List.length l).sub i ∧ (l = l ∧ catS (manTo l i) (catS x ((10 : UInt8) :: ([] : List UInt8))) = manTo l j ∧ wAdd IntKind.i64 (Int.ofNat i) (1 : Int) = Int.ofNat j ∧ True) ∧ True ∧ True) ∧ (decide (Int.ofNat i < iOf (lenL l)) = false → fits (lenL (manTo l i) + lenL ((115 : UInt8) :: (117 : UInt8) :: (109 : UInt8) :: (32 : UInt8) :: ([] : List UInt8))) ∧ true = true ∧ True ∧ true = true ∧ inI (sum (manTo l i)) ∧ fits (lenL (catS (manTo l i) ((115 : UInt8) :: (117 : UInt8) :: (109 : UInt8) :: (32 : UInt8) :: ([] : List UInt8))) + lenL (itoaS (sum (manTo l i)))) ∧ fits (lenL (catS (catS (manTo l i) ((115 : UInt8) :: (117 : UInt8) :: (109 : UInt8) :: (32 : UInt8) :: ([] : List UInt8))) (itoaS (sum (manTo l i)))) + lenL ((10 : UInt8) :: ([] : List UInt8))) ∧ (catS (catS (catS (manTo l i) ((115 : UInt8) :: (117 : UInt8) :: (109 : UInt8) :: (32 : UInt8) :: ([] : List UInt8))) (itoaS (sum (manTo l i)))) ((10 : UInt8) :: ([] : List UInt8)), ()) = (manT l, ()) ∧ () = ())) (by kernel_rfl) ?_
  simp only [Nat.le_refl, Nat.succ_eq_add_one, Nat.reduceAdd, Nat.reduceLeDiff, Nat.zero_le, pair_unit, mk_eta, len_bne, eqD_bne, bne_iff_ne, bne_eq_false_iff_eq, beq_iff_eq, beq_eq_false_iff_ne, true_and, and_true, and_self, eq_self, lt_iff, nthI_nat, bnd_iff, decide_eq_true_eq, decide_eq_false_iff_not, Nat.sub_eq, nz, ne_eq, not_false_eq_true, Prod.mk.injEq, Int.reduceEq, Nat.reduceEqDiff, forall_const, implies_true, bne_self_eq_false, Bool.true_eq_false, Bool.false_eq_true, false_implies, reduceCtorEq, Bool.not_true, Bool.not_false, List.all_cons, List.all_nil, Bool.and_true, Bool.not_eq_true, Bool.not_eq_false, Bool.not_eq_true', Bool.not_eq_false', Decidable.not_not]; try simp only [lenL]
  have hl : namesOK l = true := hl
  exact ⟨⟨0, Nat.zero_le _, rfl, rfl⟩, fun i hi hf => ⟨fun h => ⟨h, fun x hx => ⟨(man_f1 hl hx).1, (man_f1 hl hx).2, i + 1, h, Nat.sub_lt_sub_left h (Nat.lt_succ_self i), man_succ hx, inc_in hf hi⟩⟩, fun h => ⟨(man_f2 hl hi).1, (man_f2 hl hi).2.1, (man_f2 hl hi).2.2.1, (man_f2 hl hi).2.2.2, man_end hi h⟩⟩⟩
theorem ft_manifest : FT 100 s_man := by
  refine foT (specs := [(142, s_Itoa), (111, s_l09Sum)]) (clos := []) (fun x => [(3, .lv [3, 6, 7, 8] <| fun _ => L_man 8 x.1)]) ⟨ft_Itoa, toT fo_layerSum, trivial⟩ trivial Tryz.func100 rfl rfl ?_
  rintro ⟨l, ⟨⟩⟩ hl
  refine vcOf (fits (lenL l) → (∃ (i : Nat), i ≤ List.length l ∧ (([] : List UInt8) = manTo l i ∧ l = l ∧ iOf (lenL l) = iOf (lenL l) ∧ (0 : Int) = Int.ofNat i ∧ True) ∧ True ∧ True) ∧ ∀ (i : Nat), i ≤ List.length l → (decide (Int.ofNat i < iOf (lenL l)) = true → bnd (Int.ofNat i) (lenL l) ∧ ∀ (x : List UInt8), nthI l (Int.ofNat i) = some x → nat_lit 1 ≤ nat_lit 1 ∧ fits (lenL x + lenL ((10 : UInt8) :: ([] : List UInt8))) ∧ fits (lenL (manTo l i) + lenL (catS x ((10 : UInt8) :: ([] : List UInt8)))) ∧ ∃ (j : Nat), j ≤ List.length l ∧ (List.length l).sub j < (List.length l).sub i ∧ (catS (manTo l i) (catS x ((10 : UInt8) :: ([] : List UInt8))) = manTo l j ∧ l = l ∧ iOf (lenL l) = iOf (lenL l) ∧ wAdd IntKind.i64 (Int.ofNat i) (1 : Int) = Int.ofNat j ∧ True) ∧ True ∧ True) ∧ (decide (Int.ofNat i < iOf (lenL l)) = false → fits (lenL (manTo l i) + lenL ((115 : UInt8) :: (117 : UInt8) :: (109 : UInt8) :: (32 : UInt8) :: ([] : List UInt8))) ∧ true = true ∧ True ∧ true = true ∧ inI (sum (manTo l i)) ∧ fits (lenL (catS (manTo l i) ((115 : UInt8) :: (117 : UInt8) :: (109 : UInt8) :: (32 : UInt8) :: ([] : List UInt8))) + lenL (itoaS (sum (manTo l i)))) ∧ fits (lenL (catS (catS (manTo l i) ((115 : UInt8) :: (117 : UInt8) :: (109 : UInt8) :: (32 : UInt8) :: ([] : List UInt8))) (itoaS (sum (manTo l i)))) + lenL ((10 : UInt8) :: ([] : List UInt8))) ∧ (catS (catS (catS (manTo l i) ((115 : UInt8) :: (117 : UInt8) :: (109 : UInt8) :: (32 : UInt8) :: ([] : List UInt8))) (itoaS (sum (manTo l i)))) ((10 : UInt8) :: ([] : List UInt8)), ()) = (manT l, ()) ∧ () = ())) (by kernel_rfl) ?_
  simp only [Nat.le_refl, Nat.succ_eq_add_one, Nat.reduceAdd, Nat.reduceLeDiff, Nat.zero_le, pair_unit, mk_eta, len_bne, eqD_bne, bne_iff_ne, bne_eq_false_iff_eq, beq_iff_eq, beq_eq_false_iff_ne, true_and, and_true, and_self, eq_self, lt_iff, nthI_nat, bnd_iff, decide_eq_true_eq, decide_eq_false_iff_not, Nat.sub_eq, nz, ne_eq, not_false_eq_true, Prod.mk.injEq, Int.reduceEq, Nat.reduceEqDiff, forall_const, implies_true, bne_self_eq_false, Bool.true_eq_false, Bool.false_eq_true, false_implies, reduceCtorEq, Bool.not_true, Bool.not_false, List.all_cons, List.all_nil, Bool.and_true, Bool.not_eq_true, Bool.not_eq_false, Bool.not_eq_true', Bool.not_eq_false', Decidable.not_not]; try simp only [lenL]
  have hl : namesOK l = true := hl
  exact fun hf => ⟨⟨0, Nat.zero_le _, rfl, rfl⟩, fun i hi => ⟨fun h => ⟨h, fun x hx => ⟨(man_f1 hl hx).1, (man_f1 hl hx).2, i + 1, h, Nat.sub_lt_sub_left h (Nat.lt_succ_self i), man_succ hx, inc_in hf hi⟩⟩, fun h => ⟨(man_f2 hl hi).1, (man_f2 hl hi).2.1, (man_f2 hl hi).2.2.1, (man_f2 hl hi).2.2.2, man_end hi h⟩⟩⟩
end Go.Proofs.YtjkipndhdemnoaaGreatDoor
namespace Go.Fn
open Go.Ab
def cutHas (s u : List UInt8) : Bool := decide (¬ indexS s u < 0)
def cutBef (s u : List UInt8) : List UInt8 := if indexS s u < 0 then s else s.take (indexS s u).toNat
def cutAft (s u : List UInt8) : List UInt8 := if indexS s u < 0 then [] else s.drop ((indexS s u).toNat + 1)
end Go.Fn
namespace Go.Fn
open Go.Ab
def sumM : List UInt8 := [115, 117, 109, 32]
def lastN (t : List UInt8) : Nat := (split 10 t).length - 2
def namesOf (t : List UInt8) : List (List UInt8) := (split 10 t).take (lastN t)
def formOK (t : List UInt8) : Bool := decide (2 ≤ (split 10 t).length) && (decide (nameS (split 10 t) (lastN t + 1) = []) && (namesOK (namesOf t) && (decide (5 ≤ (nameS (split 10 t) (lastN t)).length) && hasPre (nameS (split 10 t) (lastN t)) sumM)))
theorem two_last {l : List (List UInt8)} (h : 2 ≤ l.length) : l = l.take (l.length - 2) ++ [nameS l (l.length - 2), nameS l (l.length - 2 + 1)] := by
  have h1 : l.length - 2 < l.length := by omega
  have h2 : l.length - 2 + 1 < l.length := by omega
  have e1 : l.drop (l.length - 2) = l[l.length - 2] :: l.drop (l.length - 2 + 1) := List.drop_eq_getElem_cons h1
  have e2 : l.drop (l.length - 2 + 1) = l[l.length - 2 + 1] :: l.drop (l.length - 2 + 1 + 1) := List.drop_eq_getElem_cons h2
  have e3 : l.drop (l.length - 2 + 1 + 1) = [] := List.drop_eq_nil_of_le (by omega)
  rw [e3] at e2
  rw [e2] at e1
  rw [nameS_at (List.getElem?_eq_getElem h1), nameS_at (List.getElem?_eq_getElem h2), ← e1, List.take_append_drop]
theorem form_iff {t : List UInt8} : formOK t = true ↔ ∃ ns line, split 10 t = ns ++ [line, []] ∧ namesOK ns = true ∧ 5 ≤ line.length ∧ hasPre line sumM = true := by
  unfold formOK
  simp only [Bool.and_eq_true, decide_eq_true_eq]
  constructor
  · rintro ⟨h1, h2, h3, h4, h5⟩
    refine ⟨namesOf t, nameS (split 10 t) (lastN t), ?_, h3, h4, h5⟩
    have := two_last h1
    rw [← h2]
    exact this
  · rintro ⟨ns, line, e, h3, h4, h5⟩
    have hl : (split 10 t).length = ns.length + 2 := by rw [e]; simp
    have hn : lastN t = ns.length := by unfold lastN; omega
    have a1 : nameS (split 10 t) (lastN t) = line := nameS_at (by rw [hn, e]; simp)
    have a2 : nameS (split 10 t) (lastN t + 1) = [] := nameS_at (by rw [hn, e]; simp)
    have a3 : namesOf t = ns := by unfold namesOf; rw [hn, e]; simp
    rw [a1, a2, a3]
    exact ⟨by omega, rfl, h3, h4, h5⟩
theorem form_names {t : List UInt8} {ns : List (List UInt8)} {line : List UInt8} (e : split 10 t = ns ++ [line, []]) : namesOf t = ns := by
  have hl : (split 10 t).length = ns.length + 2 := by rw [e]; simp
  unfold namesOf lastN
  rw [hl, e]; simp
theorem pre_sum {x : List UInt8} : hasPre x sumM = true ↔ ∃ r, x = sumM ++ r := by
  unfold hasPre
  simp only [Bool.and_eq_true, decide_eq_true_eq]
  constructor
  · rintro ⟨_, h⟩
    exact ⟨x.drop sumM.length, by conv => lhs; rw [← List.take_append_drop sumM.length x, h]⟩
  · rintro ⟨r, rfl⟩
    exact ⟨by simp, by simp⟩
theorem name_nosum {x : List UInt8} (h : badName x = false) : hasPre x sumM = false := by
  cases hp : hasPre x sumM with
  | false => rfl
  | true =>
    obtain ⟨r, rfl⟩ := pre_sum.1 hp
    unfold badName nameOK at h
    simp only [Bool.or_eq_false_iff, Bool.not_eq_false', Bool.and_eq_true] at h
    have := allI_iff.1 h.1.2 3 32 rfl
    exact absurd this (by decide)
theorem names_nosum {ns : List (List UInt8)} (h : namesOK ns = true) {x : List UInt8} (hx : x ∈ ns) : hasPre x sumM = false := by
  rw [namesOK_iff] at h
  simp only [Bool.and_eq_true] at h
  have := List.all_eq_true.1 h.2.2 x hx
  exact name_nosum (by simpa using this)
theorem split2_of {c : UInt8} {s a : List UInt8} (h : split c s = [a, []]) : Go.Lib.indexByte s c = Int.ofNat (s.length - 1) ∧ a.length + 1 = s.length := by
  by_cases hneg : Go.Lib.indexByte s c < 0
  · rw [index_none c s hneg] at h
    cases h
  · obtain ⟨k, h1, h2, h3⟩ := index_some c s hneg
    rw [h3] at h
    simp only [List.cons.injEq] at h
    have := split_total c (s.drop (k + 1))
    rw [show split c (s.drop (k + 1)) = [[]] from h.2] at this
    simp only [total, List.length_nil, List.length_drop] at this
    have e : k = s.length - 1 := by omega
    refine ⟨by rw [h1, e], ?_⟩
    rw [← h.1, List.length_take]; omega
theorem split2_to {c : UInt8} {s : List UInt8} (h : Go.Lib.indexByte s c = Int.ofNat (s.length - 1)) (hp : 0 < s.length) : split c s = [s.take (s.length - 1), []] := by
  have hneg : ¬ Go.Lib.indexByte s c < 0 := by rw [h]; exact Int.not_lt.2 (Int.natCast_nonneg _)
  obtain ⟨k, h1, h2, h3⟩ := index_some c s hneg
  rw [h1] at h
  have e : k = s.length - 1 := Int.ofNat.inj h
  rw [h3, e, List.drop_eq_nil_of_le (by omega)]
  rfl
theorem split_sum (r : List UInt8) : ∃ y ys, split 10 r = y :: ys ∧ split 10 (sumM ++ r) = (sumM ++ y) :: ys := by
  have hp := split_pos 10 r
  cases h : split 10 r with
  | nil => rw [h] at hp; cases hp
  | cons y ys =>
    refine ⟨y, ys, rfl, ?_⟩
    show split 10 (115 :: 117 :: 109 :: 32 :: r) = _
    rw [split_cons, if_neg (by decide), split_cons, if_neg (by decide), split_cons, if_neg (by decide), split_cons, if_neg (by decide), h]
    rfl
def ManAt (t : List UInt8) (ns : List (List UInt8)) (rest : List UInt8) : Prop := ns ++ split 10 rest = split 10 t ∧ ns.length ≤ 6 ∧ (∀ x ∈ ns, hasPre x sumM = false) ∧ rest.length ≤ t.length
theorem mat_start (t : List UInt8) : ManAt t [] t := ⟨rfl, by simp, fun x hx => (by cases hx), Nat.le_refl _⟩
theorem pre_take {s p : List UInt8} {k : Nat} (h : hasPre s p = false) : hasPre (s.take k) p = false := by
  cases hp : hasPre (s.take k) p with
  | false => rfl
  | true =>
    exfalso
    unfold hasPre at hp h
    simp only [Bool.and_eq_true, decide_eq_true_eq, List.length_take, List.take_take] at hp
    have e : min p.length k = p.length := by omega
    rw [e] at hp
    simp only [Bool.and_eq_false_iff, decide_eq_false_iff_not] at h
    rcases h with h | h
    · omega
    · exact h hp.2
theorem mat_step {t : List UInt8} {ns : List (List UInt8)} {rest : List UInt8} (h : ManAt t ns rest) (hp : hasPre rest sumM = false) (h5 : ¬ ns.length > 5) {k : Nat} (hk : k < rest.length) (hs : split 10 rest = rest.take k :: split 10 (rest.drop (k + 1))) : ManAt t (ns ++ [rest.take k]) (rest.drop (k + 1)) := by
  obtain ⟨h1, h2, h3, h4⟩ := h
  refine ⟨by rw [← h1, hs]; simp, by simp; omega, fun x hx => ?_, by rw [List.length_drop]; omega⟩
  simp only [List.mem_append, List.mem_singleton] at hx
  rcases hx with hx | rfl
  · exact h3 x hx
  · exact pre_take hp
theorem mat_short {t : List UInt8} {ns : List (List UInt8)} {rest : List UInt8} (h : ManAt t ns rest) (hi : Go.Lib.indexByte rest 10 < 0) : formOK t = false := by
  obtain ⟨h1, h2, h3, h4⟩ := h
  cases hf : formOK t with
  | false => rfl
  | true =>
    exfalso
    obtain ⟨ms, line, e, _, _, h5⟩ := form_iff.1 hf
    rw [index_none 10 rest hi, e] at h1
    have : ns = ms ++ [line] := by
      have e2 : ms ++ [line, []] = (ms ++ [line]) ++ [[]] := by simp
      rw [e2] at h1
      exact (List.append_inj' h1 rfl).1
    rw [h3 line (by rw [this]; simp)] at h5
    cases h5
theorem mat_many {t : List UInt8} {ns : List (List UInt8)} {rest : List UInt8} (h : ManAt t ns rest) (h5 : ns.length > 5) : formOK t = false := by
  obtain ⟨h1, h2, h3, h4⟩ := h
  cases hf : formOK t with
  | false => rfl
  | true =>
    exfalso
    obtain ⟨ms, line, e, hn, _, h6⟩ := form_iff.1 hf
    have hm := (names_ok hn).1
    rw [e] at h1
    have e1 : ns[ms.length]? = some line := by
      have : (ns ++ split 10 rest)[ms.length]? = some line := by rw [h1]; simp
      rwa [List.getElem?_append_left (by omega)] at this
    rw [h3 line (List.mem_of_getElem? e1)] at h6
    cases h6
theorem mat_end {t : List UInt8} {ns : List (List UInt8)} {rest : List UInt8} (h : ManAt t ns rest) (hp : hasPre rest sumM = true) : (formOK t = true ↔ namesOK ns = true ∧ 6 ≤ rest.length ∧ Go.Lib.indexByte rest 10 = Int.ofNat (rest.length - 1)) ∧ (formOK t = true → namesOf t = ns) := by
  obtain ⟨h1, h2, h3, h4⟩ := h
  obtain ⟨r, rfl⟩ := pre_sum.1 hp
  obtain ⟨y, ys, hy, hs⟩ := split_sum r
  have key : formOK t = true → split 10 (sumM ++ r) = [sumM ++ y, []] ∧ namesOK ns = true ∧ 5 ≤ (sumM ++ y).length ∧ namesOf t = ns := fun hf => by
    obtain ⟨ms, line, e, hn, h5, h6⟩ := form_iff.1 hf
    rw [e, hs] at h1
    have hl : ns.length = ms.length := by
      rcases Nat.lt_trichotomy ns.length ms.length with hlt | heq | hgt
      · exfalso
        have e1 : ms[ns.length]? = some (sumM ++ y) := by
          have : (ms ++ [line, []])[ns.length]? = some (sumM ++ y) := by rw [← h1]; simp
          rwa [List.getElem?_append_left hlt] at this
        have := names_nosum hn (List.mem_of_getElem? e1)
        rw [pre_sum.2 ⟨y, rfl⟩] at this
        cases this
      · exact heq
      · exfalso
        have e1 : ns[ms.length]? = some line := by
          have : (ns ++ (sumM ++ y) :: ys)[ms.length]? = some line := by rw [h1]; simp
          rwa [List.getElem?_append_left hgt] at this
        rw [h3 line (List.mem_of_getElem? e1)] at h6
        cases h6
    obtain ⟨e1, e2⟩ := List.append_inj h1 hl
    simp only [List.cons.injEq] at e2
    subst e1
    rw [hs, e2.2, e2.1]
    exact ⟨rfl, hn, h5, form_names e⟩
  refine ⟨⟨fun hf => ?_, fun hf => ?_⟩, fun hf => (key hf).2.2.2⟩
  · obtain ⟨k1, k2, k3, _⟩ := key hf
    have := split2_of k1
    exact ⟨k2, by omega, this.1⟩
  · obtain ⟨g1, g2, g3⟩ := hf
    have hsp := split2_to g3 (by omega)
    rw [hs] at hsp
    simp only [List.cons.injEq] at hsp
    refine form_iff.2 ⟨ns, sumM ++ y, ?_, g1, ?_, pre_sum.2 ⟨y, rfl⟩⟩
    · rw [← h1, hs, hsp.2]
    · rw [hsp.1, List.length_take]; omega
def rmC (t : List UInt8) : Int := if formOK t = false then 3 else if t = manT (namesOf t) then 0 else 15
def rmS (t : List UInt8) : List (List UInt8) := if rmC t = 0 then namesOf t else []
def readMC (t : List UInt8) : Int := if short t = false then 2 else rmC t
def readML (t : List UInt8) : List (List UInt8) := if short t = false then [] else rmS t
end Go.Fn
namespace Go.Fn
open Go.Ab
theorem rm_bad {t : List UInt8} (h : formOK t = false) : [] = rmS t ∧ 3 = rmC t := by
  have e : rmC t = 3 := by unfold rmC; rw [if_pos h]
  unfold rmS
  rw [e]; exact ⟨rfl, rfl⟩
theorem rm_sum {t : List UInt8} (h : formOK t = true) (hn : ¬ t = manT (namesOf t)) : [] = rmS t ∧ 15 = rmC t := by
  have e : rmC t = 15 := by unfold rmC; rw [if_neg (by rw [h]; exact fun e => Bool.noConfusion e), if_neg hn]
  unfold rmS
  rw [e]; exact ⟨rfl, rfl⟩
theorem rm_ok {t : List UInt8} (h : formOK t = true) (hn : t = manT (namesOf t)) : namesOf t = rmS t ∧ 0 = rmC t := by
  have e : rmC t = 0 := by unfold rmC; rw [if_neg (by rw [h]; exact fun e => Bool.noConfusion e), if_pos hn]
  unfold rmS
  rw [e]; exact ⟨rfl, rfl⟩
theorem form_short {t : List UInt8} (h : (split 10 t).length < 2) : formOK t = false := by
  unfold formOK; rw [decide_eq_false (by omega)]; rfl
theorem form_x {t : List UInt8} (h : 2 ≤ (split 10 t).length) : formOK t = (decide (nameS (split 10 t) (lastN t + 1) = []) && (namesOK ((split 10 t).take (lastN t)) && (decide (5 ≤ (nameS (split 10 t) (lastN t)).length) && hasPre (nameS (split 10 t) (lastN t)) sumM))) := by
  unfold formOK; rw [decide_eq_true h]; rfl
theorem form_a {t x : List UInt8} (h : 2 ≤ (split 10 t).length) (hx : (split 10 t)[lastN t + 1]? = some x) (h0 : ¬ x = []) : true = !(formOK t) := by
  rw [form_x h, nameS_at hx, decide_eq_false h0]; rfl
theorem form_b {t : List UInt8} (h : 2 ≤ (split 10 t).length) (hn : namesOK ((split 10 t).take (lastN t)) = false) : true = !(formOK t) := by
  rw [form_x h, hn]; simp
theorem form_c {t x : List UInt8} (h : 2 ≤ (split 10 t).length) (hx : (split 10 t)[lastN t]? = some x) (h5 : iOf x.length < 5) : true = !(formOK t) := by
  have h5 : (x.length : Int) < 5 := h5
  rw [form_x h, nameS_at hx, decide_eq_false (p := 5 ≤ x.length) (by omega)]; simp
theorem form_d {t x y : List UInt8} (h : 2 ≤ (split 10 t).length) (hx : (split 10 t)[lastN t + 1]? = some x) (h0 : x = []) (hn : namesOK ((split 10 t).take (lastN t)) = true) (hy : (split 10 t)[lastN t]? = some y) (h5 : ¬ iOf y.length < 5) : boundLo 4 y.length ∧ (!(subL y 0 (tN 4) == [115, 117, 109, 32])) = !(formOK t) := by
  have h5 : ¬ (y.length : Int) < 5 := h5
  have hp := hp_yes (s := y) (p := sumM) (show (y.length : Int) ≥ 4 by omega)
  refine ⟨⟨by decide, by omega⟩, ?_⟩
  rw [form_x h, nameS_at hx, decide_eq_true h0, hn, nameS_at hy, decide_eq_true (p := 5 ≤ y.length) (by omega), Bool.true_and, Bool.true_and, Bool.true_and, ← hp.2]
  rfl
theorem form_names_ok {t : List UInt8} (h : formOK t = true) : 2 ≤ (split 10 t).length ∧ namesOK ((split 10 t).take (lastN t)) = true := by
  unfold formOK at h
  simp only [Bool.and_eq_true, decide_eq_true_eq] at h
  exact ⟨h.1, h.2.2.1⟩
theorem rd_long {t : List UInt8} (h : short t = false) : [] = readML t ∧ 2 = readMC t := by
  unfold readML readMC; rw [if_pos h, if_pos h]; exact ⟨rfl, rfl⟩
theorem rd_ok {t : List UInt8} (h : short t = true) : rmS t = readML t ∧ rmC t = readMC t := by
  unfold readML readMC; rw [h]; exact ⟨rfl, rfl⟩
end Go.Fn
namespace Go.Proofs.YtjkipndhdemnoaaGreatDoor
open Go.Ab Go.Fn
def s_Cut : FSpec := { ps := [.v .str, .v .str], rs := [.v .str, .v .str, .v .bool], pre := fun x => (∃ c : UInt8, x.2.1 = [c]) ∧ List.length (α := UInt8) x.1 ≤ 100000000, fn := fun x => (Fn.cutBef x.1 x.2.1, Fn.cutAft x.1 x.2.1, Fn.cutHas x.1 x.2.1, ()), upd := fun _ => () }
theorem fo_Cut0 : FO 136 s_Cut := by
  refine fo (specs := [(164, s_Index1)]) (clos := []) (fun x => []) ⟨fo_sIndex, trivial⟩ trivial Tryz.func136 rfl rfl ?_
  rintro ⟨s, u, ⟨⟩⟩ ⟨⟨c, hu⟩, hl⟩
  have hu : u = [c] := hu
  subst hu
  refine vcOf (true = true ∧ (∃ (c_1 : UInt8), c :: ([] : List UInt8) = c_1 :: ([] : List UInt8)) ∧ (decide (indexS s (c :: ([] : List UInt8)) ≥ (0 : Int)) = true → boundLo (indexS s (c :: ([] : List UInt8))) (lenL s) ∧ (fits (lenL (c :: ([] : List UInt8))) → boundLo (wAdd IntKind.i64 (indexS s (c :: ([] : List UInt8))) (iOf (lenL (c :: ([] : List UInt8))))) (lenL s) ∧ (subL s (0 : Nat) (tN (indexS s (c :: ([] : List UInt8)))), subL s (tN (wAdd IntKind.i64 (indexS s (c :: ([] : List UInt8))) (iOf (lenL (c :: ([] : List UInt8)))))) (lenL s), true, ()) = (cutBef s (c :: ([] : List UInt8)), cutAft s (c :: ([] : List UInt8)), cutHas s (c :: ([] : List UInt8)), ()) ∧ () = ())) ∧ (decide (indexS s (c :: ([] : List UInt8)) ≥ (0 : Int)) = false → (s, ([] : List UInt8), false, ()) = (cutBef s (c :: ([] : List UInt8)), cutAft s (c :: ([] : List UInt8)), cutHas s (c :: ([] : List UInt8)), ()) ∧ () = ())) (by kernel_rfl) ?_
  simp only [Nat.le_refl, Nat.succ_eq_add_one, Nat.reduceAdd, Nat.reduceLeDiff, Nat.zero_le, pair_unit, mk_eta, len_bne, eqD_bne, bne_iff_ne, bne_eq_false_iff_eq, beq_iff_eq, beq_eq_false_iff_ne, true_and, and_true, and_self, eq_self, lt_iff, nthI_nat, bnd_iff, decide_eq_true_eq, decide_eq_false_iff_not, Nat.sub_eq, nz, ne_eq, not_false_eq_true, Prod.mk.injEq, Int.reduceEq, Nat.reduceEqDiff, forall_const, implies_true, bne_self_eq_false, Bool.true_eq_false, Bool.false_eq_true, false_implies, reduceCtorEq, Bool.not_true, Bool.not_false, List.all_cons, List.all_nil, Bool.and_true, Bool.not_eq_true, Bool.not_eq_false, Bool.not_eq_true', Bool.not_eq_false', Decidable.not_not]; try simp only [lenL]
  have hl : List.length s ≤ 100000000 := hl
  refine ⟨⟨c, rfl⟩, fun h => ?_, fun h => ?_⟩
  · obtain ⟨k, h1, h2, _⟩ := index_some c s (Int.not_lt.2 h)
    have e1 : indexS s [c] = Int.ofNat k := h1
    have e2 : wAdd .i64 (Int.ofNat k) (iOf [c].length) = Int.ofNat (k + 1) := by
      have : iOf [c].length = 1 := rfl
      rw [this, wAdd_in (by simp only [Int.ofNat_eq_natCast]; omega)]; rfl
    have hn : ¬ Int.ofNat k < 0 := Int.not_lt.2 (Int.natCast_nonneg _)
    unfold cutBef cutAft cutHas
    rw [e1, e2, if_neg hn, if_neg hn, decide_eq_true hn]
    exact ⟨⟨Int.natCast_nonneg _, Int.ofNat_le.2 (Nat.le_of_lt h2)⟩, fun _ => ⟨⟨Int.natCast_nonneg _, Int.ofNat_le.2 h2⟩, sub_take s k, sub_drop s (k + 1), rfl⟩⟩
  · have h := Int.not_le.1 h
    unfold cutBef cutAft cutHas
    rw [if_pos h, if_pos h, decide_eq_false (fun hn => hn h)]
    exact ⟨rfl, rfl, rfl⟩
theorem fo_Cut : FO 97 s_Cut := by
  refine fo (specs := [(136, s_Cut)]) (clos := []) (fun x => []) ⟨fo_Cut0, trivial⟩ trivial Tryz.func97 rfl rfl ?_
  rintro ⟨s, u, ⟨⟩⟩ hp
  refine vcOf (true = true ∧ ((∃ (c : UInt8), u = c :: ([] : List UInt8)) ∧ List.length s ≤ (100000000 : Nat)) ∧ (cutBef s u, cutAft s u, cutHas s u, ()) = (cutBef s u, cutAft s u, cutHas s u, ()) ∧ () = ()) (by kernel_rfl) ?_
  simp only [Nat.le_refl, Nat.succ_eq_add_one, Nat.reduceAdd, Nat.reduceLeDiff, Nat.zero_le, pair_unit, mk_eta, len_bne, eqD_bne, bne_iff_ne, bne_eq_false_iff_eq, beq_iff_eq, beq_eq_false_iff_ne, true_and, and_true, and_self, eq_self, lt_iff, nthI_nat, bnd_iff, decide_eq_true_eq, decide_eq_false_iff_not, Nat.sub_eq, nz, ne_eq, not_false_eq_true, Prod.mk.injEq, Int.reduceEq, Nat.reduceEqDiff, forall_const, implies_true, bne_self_eq_false, Bool.true_eq_false, Bool.false_eq_true, false_implies, reduceCtorEq, Bool.not_true, Bool.not_false, List.all_cons, List.all_nil, Bool.and_true, Bool.not_eq_true, Bool.not_eq_false, Bool.not_eq_true', Bool.not_eq_false', Decidable.not_not]; try simp only [lenL]
  exact hp
end Go.Proofs.YtjkipndhdemnoaaGreatDoor
namespace Go.Proofs.YtjkipndhdemnoaaGreatDoor
open Go.Ab Go.Fn
theorem fo_sIndexByte : FO 99 s_IndexByte := by
  refine fo (specs := [(141, s_IndexByte)]) (clos := []) (fun x => []) ⟨fo_IndexByte, trivial⟩ trivial Tryz.func99 rfl rfl ?_
  rintro ⟨s, u, ⟨⟩⟩ hp
  refine vcOf (true = true ∧ True ∧ (indexB s u, ()) = (indexB s u, ()) ∧ () = ()) (by kernel_rfl) ?_
  simp only [Nat.le_refl, Nat.succ_eq_add_one, Nat.reduceAdd, Nat.reduceLeDiff, Nat.zero_le, pair_unit, mk_eta, len_bne, eqD_bne, bne_iff_ne, bne_eq_false_iff_eq, beq_iff_eq, beq_eq_false_iff_ne, true_and, and_true, and_self, eq_self, lt_iff, nthI_nat, bnd_iff, decide_eq_true_eq, decide_eq_false_iff_not, Nat.sub_eq, nz, ne_eq, not_false_eq_true, Prod.mk.injEq, Int.reduceEq, Nat.reduceEqDiff, forall_const, implies_true, bne_self_eq_false, Bool.true_eq_false, Bool.false_eq_true, false_implies, reduceCtorEq, Bool.not_true, Bool.not_false, List.all_cons, List.all_nil, Bool.and_true, Bool.not_eq_true, Bool.not_eq_false, Bool.not_eq_true', Bool.not_eq_false', Decidable.not_not]; try simp only [lenL]
end Go.Proofs.YtjkipndhdemnoaaGreatDoor
namespace Go.Ab

def lendT (E1 : Env) (ats : List Ty) (b : Ty) (pre : dens ats → Prop) (fn : dens ats → b.den) : Inl := fun s args K =>
  match callFp.go E1 s.heap ats args with
  | some x => pre x ∧ K s [.d b (fn x)]
  | none => False
theorem lendOK {P : Program} {E E1 : Env} {f : Nat} {ats : List Ty} {b : Ty} {pre : dens ats → Prop} {fn : dens ats → b.den} (hq : AnyEq E E1) (ht : TabLe E E1) (hb : b.leafB = true) (hs : b.shares = false)
    (h : FOK P E1 f (CSpec.fspec { ats := ats, b := b, cs := [], pre := fun _ x => pre x, fn := fun _ x => fn x })) : InlOK P E f (lendT E1 ats b pre fn) := by
  refine .inl ⟨h.1, fun {G s a w m args vals K} hP hEq hh hv hk => ?_⟩
  unfold lendT at hk
  split at hk
  · rename_i x hx
    subst hP hEq
    have hargs : ArgsD E1 (fun _ => True) w ats x vals := goD_ok (c := { G.rc s.objs m w with E := E1 }) (h := s.heap) (fun i o hi => ⟨(hh.heap i o hi).1, orel_env (c := G.rc s.objs m w) hq (hh.heap i o hi).2⟩) hx (VRelL.env (c := G.rc s.objs m w) hq hv)
    have hta : E1.tab w := ht.tab w (G.tabS _ _ G.tab (fun b hb => hh.o.keep.block b (G.tabO b hb).2 (G.tabO b hb).1))
    have hto : ∀ b, b < E1.gl → ¬ False ∧ b < w.heap.size := fun b hb => ⟨fun h => h, Nat.lt_of_lt_of_le (G.tabO b (Nat.lt_of_lt_of_le hb ht.gl)).2 hh.o.keep.size⟩
    let G1 : Ctx := { P := G.P, E := E1, w0 := w, O0 := fun _ => False, X0 := fun _ => True, m0 := fun _ => undef, n0 := 0, sub := fun _ h => h.elim, tab := hta, tabO := hto, tabS := ht.st }
    have hno : ∀ m b, ¬ Own [] m b := by rintro m b ⟨i, o, hi, _⟩; simp at hi
    obtain ⟨g1, g2⟩ := args_entry (P := G.P) (E := E1) (S := fun _ => True) (w := w) (G1.rc [] G1.m0 w) rfl rfl rfl (fun b => hno _ b) (fun b => ⟨.inl trivial, hno _ b⟩) 0 hargs (show CapsD G.P E1 (fun _ => True) w [] () [] from rfl)
    have hO : HoldsO G1 (entry (vps ats []) (joinP ats [] x ()) 0).2 G1.m0 G1.w0 := by
      rw [show (entry (vps ats []) (joinP ats [] x ()) 0).2 = [] from g1]
      exact { rel := fun i o hi => by simp at hi, disj := fun i j o o' b hi => by simp at hi, keep := Keep.refl _ _, new := fun b hb => absurd hb (hno _ b), len := Nat.le_refl _, fix := fun i o hi => by simp at hi }
    have hV : VRelL (G1.rc (entry (vps ats []) (joinP ats [] x ()) 0).2 G1.m0 G1.w0) (entry (vps ats []) (joinP ats [] x ()) 0).1 (vals ++ []) := by
      rw [show (entry (vps ats []) (joinP ats [] x ()) 0).2 = [] from g1]
      exact g2
    have := h.2 G1 (joinP ats [] x ()) (vals ++ []) rfl rfl (by rw [show (entry (CSpec.fspec { ats := ats, b := b, cs := [], pre := fun _ x => pre x, fn := fun _ x => fn x }).ps (joinP ats [] x ()) 0).2 = [] from g1]; rfl) (by
      show pre (splitA ats [] (joinP ats [] x ()))
      rw [splitA_join]; exact hk.1) hO hV
    rw [List.append_nil] at this
    refine Calls.mono this fun en w' he => ?_
    obtain ⟨m', vls, rfl, q1, q2⟩ := he
    simp only [CSpec.fspec, ressV, resV, VRelL] at q2
    obtain ⟨v, q, rfl, r1, rfl⟩ := q2
    rw [leaf_val hb] at r1
    have r2 := r1.2
    rw [splitA_join] at r2
    have hk1 : Keep (fun _ => False) w w' := q1.keep
    have hg := hh.o.grow hk1
    exact ⟨s, m, _, [v], rfl, hk.2, { o := hg.1, tmps := hh.tmps.mono hg.2, defers := hh.defers, kp := hh.kp.mono hg.2 }, v, [], rfl, ⟨hb, rep_scalar hs (rep_env hq.symm r2)⟩, rfl⟩
  · cases hk
end Go.Ab
namespace Go.Proofs.YtjkipndhdemnoaaGreatDoor
open Go.Ab Go.Fn
def mkTI (specs : List (Nat × FSpec)) (clos : List (Nat × CSpec)) (inl : List (Nat × Inl)) : Env := { tys := tys, specs := specs, clos := clos, anyB := 4, anyN := 3, anyS := 9, inl := inl, gl := 1 + 1, tab := tabP }
theorem tabTI (specs clos inl) : TabS (mkTI specs clos inl) := tabT specs clos
theorem envTI (specs clos inl) : EnvOK Tryz.prog (mkTI specs clos inl) :=
  { tys := (envOK specs clos []).tys, distinct := (envOK specs clos []).distinct, anyTys := (envOK specs clos []).anyTys, anyZ := (envOK specs clos []).anyZ }
def InT (f : Nat) (T : Inl) : Prop := ∀ s c i, InlOK Tryz.prog (mkTI s c i) f T
def AllIT : List (Nat × Inl) → Prop
  | [] => True
  | (f, T) :: r => InT f T ∧ AllIT r
theorem AllIT.get : ∀ {l : List (Nat × Inl)}, AllIT l → ∀ {f T} , Go.Ab.look l f = some T → InT f T
  | [], _, f, T, h => by cases h
  | (k, x) :: r, ⟨h1, h2⟩, f, T, h => by
    simp only [Go.Ab.look] at h
    cases hk : Nat.beq k f with
    | true => rw [hk] at h; cases h; rw [← Nat.eq_of_beq_eq_true hk]; exact h1
    | false => rw [hk] at h; exact AllIT.get h2 h
theorem progTI {specs clos inl} (h1 : AllT specs) (h2 : AllC clos) (h3 : AllIT inl) : ProgOK Tryz.prog (mkTI specs clos inl) :=
  { env := envTI specs clos inl, specs := fun f sp h => fok_env (E := mkT [] []) (E' := mkTI specs clos inl) ⟨rfl, rfl, rfl⟩ ⟨fun _ h => h, Nat.le_refl _, tabT [] []⟩ (h1.get h), clos := fun f cl h => cok_env (E := E0) (E' := mkTI specs clos inl) ⟨rfl, rfl, rfl⟩ (h2.get h), inl := fun f T h => h3.get h _ _ _, mixed := by kernel_rfl }
theorem foTI {specs clos inl f fn sp} (A : pdens sp.ps → List (Nat × (St → LoopAnn))) (h1 : AllT specs) (h2 : AllC clos) (h3 : AllIT inl) (hf : Tryz.prog.funcs[f]? = some fn) (hn : (fn.name == "runtime.NumGoroutine") = false) (hb : fn.body.isSome = true) (hv : ∀ x, sp.pre x → vc (mkTI specs clos inl) (A x) fn sp x) : FT f sp :=
  fok_env (E := mkTI specs clos inl) (E' := mkT [] []) ⟨rfl, rfl, rfl⟩ ⟨fun _ h => h, Nat.le_refl _, tabTI specs clos inl⟩ (fok_of_vc (progTI h1 h2 h3) hf hn A hv hb)
theorem inT {specs clos inl f fn} (A : St → List AV → List (Nat × (St → LoopAnn))) (h1 : AllF specs) (h2 : AllC clos) (h3 : AllI inl) (hf : Tryz.prog.funcs[f]? = some fn) (hn : (fn.name == "runtime.NumGoroutine") = false) (hb : fn.body.isSome = true) : InT f (inlT (mkE specs clos inl) A fn) :=
  fun s c i => inlOK_of (E := mkTI s c i) (progOK h1 h2 h3) ⟨rfl, rfl, rfl⟩ ⟨fun _ _ => trivial, Nat.zero_le _, fun _ _ _ _ => trivial⟩ hf hn hb A
end Go.Proofs.YtjkipndhdemnoaaGreatDoor
namespace Go.Proofs.YtjkipndhdemnoaaGreatDoor
open Go.Ab Go.Fn
def i_areLayers : Inl := lendT (mkE [] []) [.slice .str] .bool (fun x => List.length (α := List UInt8) x.1 ≤ 10000000) (fun x => Fn.namesOK x.1)
def i_manifest : Inl := lendT (mkT [] []) [.slice .str] .str (fun x => Fn.namesOK x.1 = true) (fun x => Fn.manT x.1)
theorem in_areLayers : InT 98 i_areLayers := fun s c i => lendOK (E := mkTI s c i) (E1 := mkE [] []) ⟨rfl, rfl, rfl⟩ ⟨fun _ _ => trivial, Nat.zero_le _, fun _ _ _ _ => trivial⟩ rfl rfl fo_areLayers
theorem in_manifest : InT 100 i_manifest := fun s c i => lendOK (E := mkTI s c i) (E1 := mkT [] []) ⟨rfl, rfl, rfl⟩ ⟨fun _ h => h, Nat.le_refl _, tabT [] []⟩ rfl rfl ft_manifest
theorem in_namesOK : InO 129 i_areLayers := fun s c i => lendOK (E := mkE s c i) (E1 := mkE [] []) (eqE ..) (eqT ..) rfl rfl fo_l12NamesOK
def i_lManifest : Inl := lendT (mkE [] []) [.slice .str] .str (fun x => Fn.namesOK x.1 = true) (fun x => Fn.manT x.1)
theorem in_lManifest : InO 130 i_lManifest := fun s c i => lendOK (E := mkE s c i) (E1 := mkE [] []) (eqE ..) (eqT ..) rfl rfl fo_l12Manifest
end Go.Proofs.YtjkipndhdemnoaaGreatDoor
namespace Go.Proofs.YtjkipndhdemnoaaGreatDoor
open Go.Ab Go.Fn
def s_readM : FSpec := { ps := [.v .str], rs := [.o (.slice .str), .v I], pre := fun x => List.length (α := UInt8) x.1 ≤ 65536, fn := fun x => (Fn.rmS x.1, Fn.rmC x.1, ()), upd := fun _ => () }
def L_readM (t : List UInt8) : LoopAnn := { ι := List (List UInt8) × List UInt8, inv := fun q => ManAt t q.1 q.2, slots := fun q => [(4, .os 1), (5, .d .str q.2)], objs := fun q => [(1, .arr .str q.1 false)], μ := fun q => q.2.length }
end Go.Proofs.YtjkipndhdemnoaaGreatDoor
namespace Go.Proofs.YtjkipndhdemnoaaGreatDoor
open Go.Ab Go.Fn
theorem fo_l12ReadManifest : FO 93 s_readM := by
  refine foI (specs := [(114, s_l00Cut)]) (clos := []) (inl := [(129, i_areLayers), (130, i_lManifest)]) (fun x => [(1000003, .lv [0, 4, 5, 43] <| .ofCut fun _ => [(43, .d .bool (!(Fn.formOK x.1)))])]) ⟨fo_l00Cut, trivial⟩ trivial ⟨in_namesOK, in_lManifest, trivial⟩ Tryz.func93 rfl rfl ?_
  rintro ⟨t, ⟨⟩⟩ hl
  refine vcOf (true = true ∧ ((∃ (c : UInt8), (10 : Int) = Int.ofNat c.toNat) ∧ List.length t ≤ (100000000 : Nat)) ∧ (fits (lenL (split (bOf (10 : Int)) t)) → ((decide (wSub IntKind.i64 (iOf (lenL (split (bOf (10 : Int)) t))) (2 : Int) < (0 : Int)) = false → bnd (wAdd IntKind.i64 (wSub IntKind.i64 (iOf (lenL (split (bOf (10 : Int)) t))) (2 : Int)) (1 : Int)) (lenL (split (bOf (10 : Int)) t)) ∧ nat_lit 1 = nat_lit 1 ∧ nat_lit 1 ≤ nat_lit 1 ∧ tN (wAdd IntKind.i64 (wSub IntKind.i64 (iOf (lenL (split (bOf (10 : Int)) t))) (2 : Int)) (1 : Int)) < lenL (split (bOf (10 : Int)) t) ∧ ∀ (x : List UInt8), nth (split (bOf (10 : Int)) t) (tN (wAdd IntKind.i64 (wSub IntKind.i64 (iOf (lenL (split (bOf (10 : Int)) t))) (2 : Int)) (1 : Int))) = some x → ((!x == ([] : List UInt8)) = false → boundLo (wSub IntKind.i64 (iOf (lenL (split (bOf (10 : Int)) t))) (2 : Int)) (lenL (split (bOf (10 : Int)) t)) ∧ (List.drop (0 : Nat) (List.take (tN (wSub IntKind.i64 (iOf (lenL (split (bOf (10 : Int)) t))) (2 : Int))) (split (bOf (10 : Int)) t))).length ≤ (10000000 : Nat) ∧ ((!namesOK (List.drop (0 : Nat) (List.take (tN (wSub IntKind.i64 (iOf (lenL (split (bOf (10 : Int)) t))) (2 : Int))) (split (bOf (10 : Int)) t)))) = false → bnd (wSub IntKind.i64 (iOf (lenL (split (bOf (10 : Int)) t))) (2 : Int)) (lenL (split (bOf (10 : Int)) t)) ∧ nat_lit 1 = nat_lit 1 ∧ nat_lit 1 ≤ nat_lit 1 ∧ tN (wSub IntKind.i64 (iOf (lenL (split (bOf (10 : Int)) t))) (2 : Int)) < lenL (split (bOf (10 : Int)) t) ∧ ∀ (x : List UInt8), nth (split (bOf (10 : Int)) t) (tN (wSub IntKind.i64 (iOf (lenL (split (bOf (10 : Int)) t))) (2 : Int))) = some x → fits (lenL x) → (decide (iOf (lenL x) < (5 : Int)) = false → bnd (wSub IntKind.i64 (iOf (lenL (split (bOf (10 : Int)) t))) (2 : Int)) (lenL (split (bOf (10 : Int)) t)) ∧ nat_lit 1 = nat_lit 1 ∧ nat_lit 1 ≤ nat_lit 1 ∧ tN (wSub IntKind.i64 (iOf (lenL (split (bOf (10 : Int)) t))) (2 : Int)) < lenL (split (bOf (10 : Int)) t) ∧ ∀ (x : List UInt8), nth (split (bOf (10 : Int)) t) (tN (wSub IntKind.i64 (iOf (lenL (split (bOf (10 : Int)) t))) (2 : Int))) = some x → boundLo (4 : Int) (lenL x) ∧ (t = t ∧ nat_lit 1 = nat_lit 1 ∧ wSub IntKind.i64 (iOf (lenL (split (bOf (10 : Int)) t))) (2 : Int) = wSub IntKind.i64 (iOf (lenL (split (bOf (10 : Int)) t))) (2 : Int) ∧ (!subL x (0 : Nat) (tN (4 : Int)) == (115 : UInt8) :: (117 : UInt8) :: (109 : UInt8) :: (32 : UInt8) :: ([] : List UInt8)) = !formOK t ∧ True) ∧ ((([] : List (List UInt8)) = ([] : List (List UInt8)) ∧ false = false) ∧ (split (bOf (10 : Int)) t = split (bOf (10 : Int)) t ∧ false = false) ∧ True) ∧ True) ∧ (decide (iOf (lenL x) < (5 : Int)) = true → (t = t ∧ nat_lit 1 = nat_lit 1 ∧ wSub IntKind.i64 (iOf (lenL (split (bOf (10 : Int)) t))) (2 : Int) = wSub IntKind.i64 (iOf (lenL (split (bOf (10 : Int)) t))) (2 : Int) ∧ true = !formOK t ∧ True) ∧ ((([] : List (List UInt8)) = ([] : List (List UInt8)) ∧ false = false) ∧ (split (bOf (10 : Int)) t = split (bOf (10 : Int)) t ∧ false = false) ∧ True) ∧ True)) ∧ ((!namesOK (List.drop (0 : Nat) (List.take (tN (wSub IntKind.i64 (iOf (lenL (split (bOf (10 : Int)) t))) (2 : Int))) (split (bOf (10 : Int)) t)))) = true → (t = t ∧ nat_lit 1 = nat_lit 1 ∧ wSub IntKind.i64 (iOf (lenL (split (bOf (10 : Int)) t))) (2 : Int) = wSub IntKind.i64 (iOf (lenL (split (bOf (10 : Int)) t))) (2 : Int) ∧ true = !formOK t ∧ True) ∧ ((([] : List (List UInt8)) = ([] : List (List UInt8)) ∧ false = false) ∧ (split (bOf (10 : Int)) t = split (bOf (10 : Int)) t ∧ false = false) ∧ True) ∧ True)) ∧ ((!x == ([] : List UInt8)) = true → (t = t ∧ nat_lit 1 = nat_lit 1 ∧ wSub IntKind.i64 (iOf (lenL (split (bOf (10 : Int)) t))) (2 : Int) = wSub IntKind.i64 (iOf (lenL (split (bOf (10 : Int)) t))) (2 : Int) ∧ true = !formOK t ∧ True) ∧ ((([] : List (List UInt8)) = ([] : List (List UInt8)) ∧ false = false) ∧ (split (bOf (10 : Int)) t = split (bOf (10 : Int)) t ∧ false = false) ∧ True) ∧ True)) ∧ (decide (wSub IntKind.i64 (iOf (lenL (split (bOf (10 : Int)) t))) (2 : Int) < (0 : Int)) = true → (t = t ∧ nat_lit 1 = nat_lit 1 ∧ wSub IntKind.i64 (iOf (lenL (split (bOf (10 : Int)) t))) (2 : Int) = wSub IntKind.i64 (iOf (lenL (split (bOf (10 : Int)) t))) (2 : Int) ∧ true = !formOK t ∧ True) ∧ ((([] : List (List UInt8)) = ([] : List (List UInt8)) ∧ false = false) ∧ (split (bOf (10 : Int)) t = split (bOf (10 : Int)) t ∧ false = false) ∧ True) ∧ True)) ∧ ((!formOK t) = true → (([] : List (List UInt8)), (3 : Int), ()) = (rmS t, rmC t, ()) ∧ () = ()) ∧ ((!formOK t) = false → boundLo (wSub IntKind.i64 (iOf (lenL (split (bOf (10 : Int)) t))) (2 : Int)) (lenL (split (bOf (10 : Int)) t)) ∧ namesOK (List.drop (0 : Nat) (List.take (tN (wSub IntKind.i64 (iOf (lenL (split (bOf (10 : Int)) t))) (2 : Int))) (split (bOf (10 : Int)) t))) = true ∧ ((!t == manT (List.drop (0 : Nat) (List.take (tN (wSub IntKind.i64 (iOf (lenL (split (bOf (10 : Int)) t))) (2 : Int))) (split (bOf (10 : Int)) t)))) = true → (([] : List (List UInt8)), (15 : Int), ()) = (rmS t, rmC t, ()) ∧ () = ()) ∧ ((!t == manT (List.drop (0 : Nat) (List.take (tN (wSub IntKind.i64 (iOf (lenL (split (bOf (10 : Int)) t))) (2 : Int))) (split (bOf (10 : Int)) t)))) = false → boundLo (wSub IntKind.i64 (iOf (lenL (split (bOf (10 : Int)) t))) (2 : Int)) (lenL (split (bOf (10 : Int)) t)) ∧ tN (wSub IntKind.i64 (iOf (lenL (split (bOf (10 : Int)) t))) (2 : Int)) ≤ lenL (split (bOf (10 : Int)) t) ∧ (subL (split (bOf (10 : Int)) t) (0 : Nat) (tN (wSub IntKind.i64 (iOf (lenL (split (bOf (10 : Int)) t))) (2 : Int))), (0 : Int), ()) = (rmS t, rmC t, ()) ∧ () = ())))) (by kernel_rfl) ?_
  simp only [Nat.le_refl, Nat.succ_eq_add_one, Nat.reduceAdd, Nat.reduceLeDiff, Nat.zero_le, pair_unit, mk_eta, len_bne, eqD_bne, bne_iff_ne, bne_eq_false_iff_eq, beq_iff_eq, beq_eq_false_iff_ne, true_and, and_true, and_self, eq_self, lt_iff, nthI_nat, bnd_iff, decide_eq_true_eq, decide_eq_false_iff_not, Nat.sub_eq, nz, ne_eq, not_false_eq_true, Prod.mk.injEq, Int.reduceEq, Nat.reduceEqDiff, forall_const, implies_true, bne_self_eq_false, Bool.true_eq_false, Bool.false_eq_true, false_implies, reduceCtorEq, Bool.not_true, Bool.not_false, List.all_cons, List.all_nil, Bool.and_true, Bool.not_eq_true, Bool.not_eq_false, Bool.not_eq_true', Bool.not_eq_false', Decidable.not_not]; try simp only [lenL]
  have hl : List.length t ≤ 65536 := hl
  have eb : bOf 10 = 10 := rfl
  rw [eb]
  have hW := split_le 10 t
  have ew : wSub .i64 (iOf (split 10 t).length) 2 = iOf (split 10 t).length - 2 := wSub_in (by unfold iOf; omega)
  refine ⟨⟨⟨10, rfl⟩, by omega⟩, fun _ => ?_⟩
  rw [ew]
  rcases Nat.lt_or_ge (split 10 t).length 2 with h2 | h2
  · have hneg : iOf (split 10 t).length - 2 < 0 := by unfold iOf; omega
    have hf := form_short h2
    exact ⟨⟨fun h => absurd hneg h, fun _ => by rw [hf]; rfl⟩, fun _ => rm_bad hf, fun h => by rw [hf] at h; cases h⟩
  · have en : iOf (split 10 t).length - 2 = Int.ofNat (lastN t) := by unfold iOf lastN; simp only [Int.ofNat_eq_natCast]; omega
    have e1 : wAdd .i64 (Int.ofNat (lastN t)) 1 = Int.ofNat (lastN t + 1) := by rw [wAdd_in (by unfold lastN; simp only [Int.ofNat_eq_natCast]; omega)]; rfl
    have hn1 : lastN t + 1 < (split 10 t).length := by unfold lastN; omega
    rw [en, e1]
    simp only [tN_nat, List.drop_zero]
    have h0 : ¬ Int.ofNat (lastN t) < 0 := Int.not_lt.2 (Int.natCast_nonneg _)
    refine ⟨⟨fun _ => ⟨bnd_nat hn1, hn1, fun x hx => ⟨fun hx0 => ⟨bound_lo (by omega), by rw [List.length_take]; omega, fun hn => ⟨bnd_nat (by omega), by omega, fun y hy _ => ⟨fun h5 => ⟨bnd_nat (by omega), by omega, fun z hz => ?_⟩, fun h5 => form_c h2 hy h5⟩⟩, fun hn => form_b h2 hn⟩, fun hx0 => form_a h2 hx hx0⟩⟩, fun h => absurd h h0⟩, fun h => rm_bad h, fun h => ⟨bound_lo (by omega), (form_names_ok h).2, fun hn => rm_sum h hn, fun hn => ⟨bound_lo (by omega), by omega, ?_⟩⟩⟩
    · cases hy.symm.trans hz
      exact form_d h2 hx hx0 hn hy h5
    · have q := rm_ok h hn
      exact ⟨(sub_take (split 10 t) (lastN t)).trans q.1, q.2⟩
end Go.Proofs.YtjkipndhdemnoaaGreatDoor
namespace Go.Proofs.YtjkipndhdemnoaaGreatDoor
open Go.Ab Go.Fn
theorem ft_readManifest : FT 71 s_readM := by
  refine foTI (specs := [(96, s_hasPre), (97, s_Cut), (99, s_IndexByte)]) (clos := []) (inl := [(98, i_areLayers), (100, i_manifest)]) (fun x => [(2, .lv [0, 4, 5] <| fun _ => L_readM x.1), (1000007, .lv [0, 4, 47] <| .ofCut fun _ => [(47, .d .bool (!(Fn.formOK x.1)))])]) ⟨toT fo_hasPre, toT fo_Cut, toT fo_sIndexByte, trivial⟩ trivial ⟨in_areLayers, in_manifest, trivial⟩ Tryz.func71 rfl rfl ?_
  rintro ⟨t, ⟨⟩⟩ hl
  refine vcOf ((∃ (i : List (List UInt8) × List UInt8), ManAt t i.fst i.snd ∧ (t = t ∧ nat_lit 1 = (1 : Nat) ∧ t = i.snd ∧ True) ∧ ((([] : List (List UInt8)) = ([] : List (List UInt8)) ∧ false = false) ∧ (([] : List (List UInt8)) = i.fst ∧ false = false) ∧ True) ∧ True) ∧ ∀ (i : List (List UInt8) × List UInt8), ManAt t i.fst i.snd → true = true ∧ True ∧ ((!hasPre i.snd ((115 : UInt8) :: (117 : UInt8) :: (109 : UInt8) :: (32 : UInt8) :: ([] : List UInt8))) = true → true = true ∧ ((∃ (c : UInt8), (10 : UInt8) :: ([] : List UInt8) = c :: ([] : List UInt8)) ∧ i.snd.length ≤ (100000000 : Nat)) ∧ ((!cutHas i.snd ((10 : UInt8) :: ([] : List UInt8))) = false → fits (lenL i.fst) → (decide (iOf (lenL i.fst) > (5 : Int)) = true → (([] : List (List UInt8)), (3 : Int), ()) = (rmS t, rmC t, ()) ∧ () = ()) ∧ (decide (iOf (lenL i.fst) > (5 : Int)) = false → fits (lenL i.fst + lenL (cutBef i.snd ((10 : UInt8) :: ([] : List UInt8)) :: ([] : List (List UInt8)))) ∧ ∃ (j : List (List UInt8) × List UInt8), ManAt t j.fst j.snd ∧ j.snd.length < i.snd.length ∧ (t = t ∧ (1 : Nat) = (1 : Nat) ∧ cutAft i.snd ((10 : UInt8) :: ([] : List UInt8)) = j.snd ∧ True) ∧ ((([] : List (List UInt8)) = ([] : List (List UInt8)) ∧ false = false) ∧ (i.fst ++ cutBef i.snd ((10 : UInt8) :: ([] : List UInt8)) :: ([] : List (List UInt8)) = j.fst ∧ false = false) ∧ True) ∧ True)) ∧ ((!cutHas i.snd ((10 : UInt8) :: ([] : List UInt8))) = true → (([] : List (List UInt8)), (3 : Int), ()) = (rmS t, rmC t, ()) ∧ () = ())) ∧ ((!hasPre i.snd ((115 : UInt8) :: (117 : UInt8) :: (109 : UInt8) :: (32 : UInt8) :: ([] : List UInt8))) = false → (i.fst.length ≤ (10000000 : Nat) ∧ ((!namesOK i.fst) = false → fits (lenL i.snd) → (decide (iOf (lenL i.snd) < (6 : Int)) = false → true = true ∧ True ∧ (fits (lenL i.snd) → (t = t ∧ (1 : Nat) = (1 : Nat) ∧ (indexB i.snd (10 : Int) != wSub IntKind.i64 (iOf (lenL i.snd)) (1 : Int)) = !formOK t ∧ True) ∧ ((([] : List (List UInt8)) = ([] : List (List UInt8)) ∧ false = false) ∧ (i.fst = i.fst ∧ false = false) ∧ True) ∧ True)) ∧ (decide (iOf (lenL i.snd) < (6 : Int)) = true → (t = t ∧ (1 : Nat) = (1 : Nat) ∧ true = !formOK t ∧ True) ∧ ((([] : List (List UInt8)) = ([] : List (List UInt8)) ∧ false = false) ∧ (i.fst = i.fst ∧ false = false) ∧ True) ∧ True)) ∧ ((!namesOK i.fst) = true → (t = t ∧ (1 : Nat) = (1 : Nat) ∧ true = !formOK t ∧ True) ∧ ((([] : List (List UInt8)) = ([] : List (List UInt8)) ∧ false = false) ∧ (i.fst = i.fst ∧ false = false) ∧ True) ∧ True)) ∧ ((!formOK t) = true → (([] : List (List UInt8)), (3 : Int), ()) = (rmS t, rmC t, ()) ∧ () = ()) ∧ ((!formOK t) = false → namesOK i.fst = true ∧ ((!manT i.fst == t) = true → (([] : List (List UInt8)), (15 : Int), ()) = (rmS t, rmC t, ()) ∧ () = ()) ∧ ((!manT i.fst == t) = false → (i.fst, (0 : Int), ()) = (rmS t, rmC t, ()) ∧ () = ())))) (by kernel_rfl) ?_
  simp only [Nat.le_refl, Nat.succ_eq_add_one, Nat.reduceAdd, Nat.reduceLeDiff, Nat.zero_le, pair_unit, mk_eta, len_bne, eqD_bne, bne_iff_ne, bne_eq_false_iff_eq, beq_iff_eq, beq_eq_false_iff_ne, true_and, and_true, and_self, eq_self, lt_iff, nthI_nat, bnd_iff, decide_eq_true_eq, decide_eq_false_iff_not, Nat.sub_eq, nz, ne_eq, not_false_eq_true, Prod.mk.injEq, Int.reduceEq, Nat.reduceEqDiff, forall_const, implies_true, bne_self_eq_false, Bool.true_eq_false, Bool.false_eq_true, false_implies, reduceCtorEq, Bool.not_true, Bool.not_false, List.all_cons, List.all_nil, Bool.and_true, Bool.not_eq_true, Bool.not_eq_false, Bool.not_eq_true', Bool.not_eq_false', Decidable.not_not]; try simp only [lenL]
  have hl : List.length t ≤ 65536 := hl
  refine ⟨⟨([], t), mat_start t, rfl, rfl⟩, ?_⟩
  rintro ⟨ns, rest⟩ hm
  have hm : ManAt t ns rest := hm
  have q2 : ns.length ≤ 6 := hm.2.1
  have q4 : rest.length ≤ List.length t := hm.2.2.2
  refine ⟨fun hp => ⟨⟨⟨10, rfl⟩, Nat.le_trans q4 (by omega)⟩, fun hc hf => ⟨fun h5 => rm_bad (mat_many hm (Int.ofNat_lt.1 h5)), fun h5 => ?_⟩, fun hc => rm_bad (mat_short hm (Classical.not_not.1 (of_decide_eq_false hc)))⟩, fun hp => ?_⟩
  · have hi : ¬ indexS rest [10] < 0 := of_decide_eq_true hc
    obtain ⟨k, h1, h2, h3⟩ := index_some 10 rest hi
    have e1 : indexS rest [10] = Int.ofNat k := h1
    have ea : cutAft rest [10] = rest.drop (k + 1) := by unfold cutAft; rw [if_neg hi, e1]; rfl
    have eb : cutBef rest [10] = rest.take k := by unfold cutBef; rw [if_neg hi, e1]; rfl
    refine ⟨?_, (ns ++ [rest.take k], rest.drop (k + 1)), mat_step hm hp (fun h => h5 (Int.ofNat_lt.2 h)) h2 h3, ?_, ea, by rw [eb]⟩
    · show ns.length + 1 < 1099511627776; omega
    · show (rest.drop (k + 1)).length < rest.length
      rw [List.length_drop]; omega
  · obtain ⟨f1, f2⟩ := mat_end hm hp
    refine ⟨⟨show ns.length ≤ 10000000 by omega, fun hn _ => ⟨fun h6 _ => ?_, fun h6 => ?_⟩, fun hn => ?_⟩, fun h => rm_bad h, fun h => ⟨(f1.1 h).1, fun hx => rm_sum h (by rw [f2 h]; exact fun e => hx e.symm), fun hx => ?_⟩⟩
    · have h6 : ¬ (rest.length : Int) < 6 := h6
      have ew : wSub .i64 (iOf rest.length) 1 = Int.ofNat (rest.length - 1) := by unfold iOf; rw [wSub_in (by omega)]; simp only [Int.ofNat_eq_natCast]; omega
      show (indexB rest 10 != wSub .i64 (iOf rest.length) 1) = !(formOK t)
      rw [ew]
      by_cases he : Go.Lib.indexByte rest 10 = Int.ofNat (rest.length - 1)
      · rw [f1.2 ⟨hn, by omega, he⟩, show indexB rest 10 = Int.ofNat (rest.length - 1) from he]; simp
      · have hf : formOK t = false := by
          cases hf : formOK t with
          | false => rfl
          | true => exact absurd (f1.1 hf).2.2 he
        rw [hf]
        exact bne_iff_ne.2 he
    · have h6 : (rest.length : Int) < 6 := h6
      cases hf : formOK t with
      | false => rfl
      | true => have := (f1.1 hf).2.1; omega
    · cases hf : formOK t with
      | false => rfl
      | true => have := (f1.1 hf).1; rw [show namesOK ns = false from hn] at this; cases this
    · have q := rm_ok h (by rw [f2 h]; exact hx.symm)
      exact ⟨(f2 h).symm.trans q.1, q.2⟩
end Go.Proofs.YtjkipndhdemnoaaGreatDoor
namespace Go.Proofs.YtjkipndhdemnoaaGreatDoor
open Go.Ab Go.Fn
def s_slotsOK : FSpec := { ps := [.v tDisk, .v (.slice tSlot)], rs := [.v .bool], pre := fun x => True, fn := fun x => (Fn.slotsOK x.1.1 x.2.1, ()), upd := fun _ => () }
def L_slotsOK (ino : List Fn.Inode) (l : List Fn.Slot) (t : Nat) : LoopAnn := { ι := Nat, inv := fun k => k ≤ l.length ∧ ∀ (j : Nat) (s : Fn.Slot), j < k → l[j]? = some s → (!(Fn.badSlot ino l (Int.ofNat j) s.1 s.2.1)) = true, slots := fun k => [(t, .d I (Int.ofNat k))], objs := fun _ => [], μ := fun k => l.length - k }
theorem fo_slotsOK : FO 79 s_slotsOK := by
  refine fo (specs := [(108, s_NameOK), (95, s_inode)]) (clos := []) (fun x => [(2, .lv [1, 2, 7, 8, 9] <| fun _ => L_slotsOK x.1.1 x.2.1 9), (1000004, .lv [1, 2, 7, 8, 9, 39] <| .ofCut fun s => [(39, .d .bool (Fn.badSlot x.1.1 x.2.1 (s.tI 5) (s.cellOf 6 0).getS (s.cellOf 6 1).getI))])]) ⟨fo_NameOK, fo_inode, trivial⟩ trivial Tryz.func79 rfl rfl ?_
  rintro ⟨⟨a, b, c, d, ⟨⟩⟩, l, ⟨⟩⟩ -
  refine vcOf (fits (lenL l) → (∃ (i : Nat), (i ≤ List.length l ∧ ∀ (j : Nat) (s : Slot), j < i → l[j]? = some s → (!badSlot a l (Int.ofNat j) s.fst s.snd.fst) = true) ∧ (l = l ∧ (nat_lit 0 = nat_lit 0 ∧ (0 : Nat) = (0 : Nat)) ∧ l = l ∧ iOf (lenL l) = iOf (lenL l) ∧ (0 : Int) = Int.ofNat i ∧ True) ∧ ((a = a ∧ b = b ∧ c = c ∧ d = d ∧ True) ∧ True) ∧ True) ∧ ∀ (i : Nat), (i ≤ List.length l ∧ ∀ (j : Nat) (s : Slot), j < i → l[j]? = some s → (!badSlot a l (Int.ofNat j) s.fst s.snd.fst) = true) → (decide (Int.ofNat i < iOf (lenL l)) = true → bnd (Int.ofNat i) (lenL l) ∧ ∀ (x : List UInt8 × Int × Unit), nthI l (Int.ofNat i) = some x → nat_lit 2 ≤ Nat.succ (nat_lit 1) ∧ nat_lit 2 ≤ nat_lit 2 ∧ (nat_lit 1 ≤ Nat.succ (nat_lit 1) ∧ true = true ∧ True ∧ ((!nameOK x.fst) = false → (decide (Int.ofNat i > (0 : Int)) = true → nat_lit 1 ≤ Nat.succ (nat_lit 1) ∧ bnd (wSub IntKind.i64 (Int.ofNat i) (1 : Int)) (lenL l) ∧ ∀ (x_1 : List UInt8 × Int × Unit), nthI l (wSub IntKind.i64 (Int.ofNat i) (1 : Int)) = some x_1 → nat_lit 1 ≤ Nat.succ (nat_lit 1) ∧ ((Op.bytesLess x.fst x_1.fst || x.fst == x_1.fst) = false → nat_lit 4 ≤ (Nat.succ (nat_lit 1)).succ.succ ∧ nat_lit 2 ≤ Nat.succ (nat_lit 1) ∧ true = true ∧ True ∧ (l = l ∧ (nat_lit 0 = nat_lit 0 ∧ (0 : Nat) = (0 : Nat)) ∧ l = l ∧ iOf (lenL l) = iOf (lenL l) ∧ Int.ofNat i = Int.ofNat i ∧ decide (inodeAt a x.snd.fst < (0 : Int)) = badSlot a l (Int.ofNat i) x.fst x.snd.fst ∧ True) ∧ ((a = a ∧ b = b ∧ c = c ∧ d = d ∧ True) ∧ (x.fst = x.fst ∧ x.snd.fst = x.snd.fst ∧ True) ∧ True) ∧ True) ∧ ((Op.bytesLess x.fst x_1.fst || x.fst == x_1.fst) = true → (l = l ∧ (nat_lit 0 = nat_lit 0 ∧ (0 : Nat) = (0 : Nat)) ∧ l = l ∧ iOf (lenL l) = iOf (lenL l) ∧ Int.ofNat i = Int.ofNat i ∧ true = badSlot a l (Int.ofNat i) x.fst x.snd.fst ∧ True) ∧ ((a = a ∧ b = b ∧ c = c ∧ d = d ∧ True) ∧ (x.fst = x.fst ∧ x.snd.fst = x.snd.fst ∧ True) ∧ True) ∧ True)) ∧ (decide (Int.ofNat i > (0 : Int)) = false → nat_lit 4 ≤ (Nat.succ (nat_lit 1)).succ.succ ∧ nat_lit 2 ≤ Nat.succ (nat_lit 1) ∧ true = true ∧ True ∧ (l = l ∧ (nat_lit 0 = nat_lit 0 ∧ (0 : Nat) = (0 : Nat)) ∧ l = l ∧ iOf (lenL l) = iOf (lenL l) ∧ Int.ofNat i = Int.ofNat i ∧ decide (inodeAt a x.snd.fst < (0 : Int)) = badSlot a l (Int.ofNat i) x.fst x.snd.fst ∧ True) ∧ ((a = a ∧ b = b ∧ c = c ∧ d = d ∧ True) ∧ (x.fst = x.fst ∧ x.snd.fst = x.snd.fst ∧ True) ∧ True) ∧ True)) ∧ ((!nameOK x.fst) = true → (l = l ∧ (nat_lit 0 = nat_lit 0 ∧ (0 : Nat) = (0 : Nat)) ∧ l = l ∧ iOf (lenL l) = iOf (lenL l) ∧ Int.ofNat i = Int.ofNat i ∧ true = badSlot a l (Int.ofNat i) x.fst x.snd.fst ∧ True) ∧ ((a = a ∧ b = b ∧ c = c ∧ d = d ∧ True) ∧ (x.fst = x.fst ∧ x.snd.fst = x.snd.fst ∧ True) ∧ True) ∧ True)) ∧ (badSlot a l (Int.ofNat i) x.fst x.snd.fst = true → (false, ()) = (slotsOK a l, ()) ∧ () = ()) ∧ (badSlot a l (Int.ofNat i) x.fst x.snd.fst = false → ∃ (j : Nat), (j ≤ List.length l ∧ ∀ (j_1 : Nat) (s : Slot), j_1 < j → l[j_1]? = some s → (!badSlot a l (Int.ofNat j_1) s.fst s.snd.fst) = true) ∧ (List.length l).sub j < (List.length l).sub i ∧ (l = l ∧ (nat_lit 0 = nat_lit 0 ∧ (0 : Nat) = (0 : Nat)) ∧ l = l ∧ iOf (lenL l) = iOf (lenL l) ∧ wAdd IntKind.i64 (Int.ofNat i) (1 : Int) = Int.ofNat j ∧ True) ∧ ((a = a ∧ b = b ∧ c = c ∧ d = d ∧ True) ∧ True) ∧ True)) ∧ (decide (Int.ofNat i < iOf (lenL l)) = false → (true, ()) = (slotsOK a l, ()) ∧ () = ())) (by kernel_rfl) ?_
  simp only [Nat.le_refl, Nat.succ_eq_add_one, Nat.reduceAdd, Nat.reduceLeDiff, Nat.zero_le, pair_unit, mk_eta, len_bne, eqD_bne, bne_iff_ne, bne_eq_false_iff_eq, beq_iff_eq, beq_eq_false_iff_ne, true_and, and_true, and_self, eq_self, lt_iff, nthI_nat, bnd_iff, decide_eq_true_eq, decide_eq_false_iff_not, Nat.sub_eq, nz, ne_eq, not_false_eq_true, Prod.mk.injEq, Int.reduceEq, Nat.reduceEqDiff, forall_const, implies_true, bne_self_eq_false, Bool.true_eq_false, Bool.false_eq_true, false_implies, reduceCtorEq, Bool.not_true, Bool.not_false, List.all_cons, List.all_nil, Bool.and_true, Bool.not_eq_true, Bool.not_eq_false, Bool.not_eq_true', Bool.not_eq_false', Decidable.not_not]; try simp only [lenL]
  refine fun hf => ⟨⟨0, ⟨Nat.zero_le _, fun j c hj => absurd hj (Nat.not_lt_zero _)⟩, rfl⟩, fun k ⟨hk, hi⟩ => ⟨fun hlt => ⟨hlt, fun x hx => ⟨?_, fun h => slotsOK_bad hx h, fun h => ⟨k + 1, ⟨hlt, below_succ2 (P := fun j (s : Fn.Slot) => badSlot a l (Int.ofNat j) s.1 s.2.1 = false) hi hx h⟩, by omega, inc_in hf hk⟩⟩⟩, fun hge => slotsOK_end hi hge⟩⟩
  have hf' : l.length < 1099511627776 := hf
  refine ⟨fun h1 => ⟨fun h2 => ?_, fun h2 => ?_⟩, fun h1 => ?_⟩
  · have hk0 : 0 < k := by simpa using h2
    rw [dec_in hk0 (by omega)]
    refine ⟨bnd_pred hk0 hk, fun y hy => ?_⟩
    have e : prevSlot l (Int.ofNat k) x.1 = leS x.1 y.1 := by unfold prevSlot; rw [hy]
    unfold badSlot
    rw [h1, e, decide_eq_true h2]
    unfold leS
    exact ⟨fun h => by rw [h]; simp, fun h => by rw [h]; simp⟩
  · unfold badSlot; rw [h1, decide_eq_false h2]; simp
  · unfold badSlot; rw [h1]; simp
end Go.Proofs.YtjkipndhdemnoaaGreatDoor
namespace Go.Proofs.YtjkipndhdemnoaaGreatDoor
open Go.Ab Go.Fn
def s_DiskOK : FSpec := { ps := [.v tDisk], rs := [.v .bool], pre := fun x => True, fn := fun x => (Fn.diskOK x.1, ()), upd := fun _ => () }
def L_DiskOK (d : Fn.Disk) : LoopAnn := { ι := Nat, inv := fun k => k ≤ d.1.length ∧ ∀ (j : Nat) (x : Fn.Inode), j < k → d.1[j]? = some x → (!(Fn.badInode d (Int.ofNat j) x || !(Fn.used d x.1))) = true, slots := fun k => [(30, .d I (Int.ofNat k))], objs := fun _ => [], μ := fun k => d.1.length - k }
theorem fo_DiskOK : FO 49 s_DiskOK := by
  refine fo (specs := [(77, s_within), (78, s_has), (79, s_slotsOK)]) (clos := []) (fun x => [(4, .lv [1, 28, 29, 30] <| fun _ => L_DiskOK x.1), (1000001, .lv [1, 26] <| .ofCut fun s => [(26, .d .bool (Fn.badHead x.1))]), (1000006, .lv [1, 28, 29, 30, 79] <| .ofCut fun s => [(79, .d .bool (Fn.badInode x.1 (s.tI 3) ((s.cellOf 4 0).getI, (s.cellOf 4 1).getS, (s.cellOf 4 2).getB, ()) || !(Fn.used x.1 (s.cellOf 4 0).getI)))])]) ⟨fo_within, fo_has, fo_slotsOK, trivial⟩ trivial Tryz.func49 rfl rfl ?_
  rintro ⟨⟨a, b, c, d, ⟨⟩⟩, ⟨⟩⟩ -
  refine vcOf ((nat_lit 4 ≤ (Nat.succ (nat_lit 1)).succ.succ ∧ true = true ∧ True ∧ ((!within d (1 : Int) (1000000 : Int)) = false → nat_lit 2 ≤ (Nat.succ (nat_lit 1)).succ.succ ∧ (fits (lenL b) → (decide (iOf (lenL b) > (24 : Int)) = false → nat_lit 3 ≤ (Nat.succ (nat_lit 1)).succ.succ ∧ (fits (lenL c) → (decide (iOf (lenL c) > (24 : Int)) = false → nat_lit 1 ≤ (Nat.succ (nat_lit 1)).succ.succ ∧ (fits (lenL a) → ((nat_lit 0 = nat_lit 0 ∧ (0 : Nat) = (0 : Nat)) ∧ decide (iOf (lenL a) > (48 : Int)) = badHead (a, b, c, d, ()) ∧ True) ∧ ((a = a ∧ b = b ∧ c = c ∧ d = d ∧ True) ∧ True) ∧ True)) ∧ (decide (iOf (lenL c) > (24 : Int)) = true → ((nat_lit 0 = nat_lit 0 ∧ (0 : Nat) = (0 : Nat)) ∧ true = badHead (a, b, c, d, ()) ∧ True) ∧ ((a = a ∧ b = b ∧ c = c ∧ d = d ∧ True) ∧ True) ∧ True))) ∧ (decide (iOf (lenL b) > (24 : Int)) = true → ((nat_lit 0 = nat_lit 0 ∧ (0 : Nat) = (0 : Nat)) ∧ true = badHead (a, b, c, d, ()) ∧ True) ∧ ((a = a ∧ b = b ∧ c = c ∧ d = d ∧ True) ∧ True) ∧ True))) ∧ ((!within d (1 : Int) (1000000 : Int)) = true → ((nat_lit 0 = nat_lit 0 ∧ (0 : Nat) = (0 : Nat)) ∧ true = badHead (a, b, c, d, ()) ∧ True) ∧ ((a = a ∧ b = b ∧ c = c ∧ d = d ∧ True) ∧ True) ∧ True)) ∧ (badHead (a, b, c, d, ()) = true → (false, ()) = (diskOK (a, b, c, d, ()), ()) ∧ () = ()) ∧ (badHead (a, b, c, d, ()) = false → nat_lit 1 ≤ (Nat.succ (nat_lit 1)).succ.succ ∧ (fits (lenL a) → (∃ (i : Nat), (i ≤ List.length a ∧ ∀ (j : Nat) (x : Inode), j < i → a[j]? = some x → (!(badInode (a, b, c, d, ()) (Int.ofNat j) x || !used (a, b, c, d, ()) x.fst)) = true) ∧ ((nat_lit 0 = nat_lit 0 ∧ (0 : Nat) = (0 : Nat)) ∧ a = a ∧ iOf (lenL a) = iOf (lenL a) ∧ (0 : Int) = Int.ofNat i ∧ True) ∧ ((a = a ∧ b = b ∧ c = c ∧ d = d ∧ True) ∧ True) ∧ True) ∧ ∀ (i : Nat), (i ≤ List.length a ∧ ∀ (j : Nat) (x : Inode), j < i → a[j]? = some x → (!(badInode (a, b, c, d, ()) (Int.ofNat j) x || !used (a, b, c, d, ()) x.fst)) = true) → (decide (Int.ofNat i < iOf (lenL a)) = true → bnd (Int.ofNat i) (lenL a) ∧ ∀ (x : Int × List UInt8 × Bool × Unit), nthI a (Int.ofNat i) = some x → nat_lit 3 ≤ (Nat.succ (nat_lit 1)).succ ∧ nat_lit 3 ≤ nat_lit 3 ∧ (nat_lit 1 ≤ (Nat.succ (nat_lit 1)).succ ∧ nat_lit 4 ≤ (Nat.succ (nat_lit 1)).succ.succ ∧ true = true ∧ True ∧ ((!within x.fst (1 : Int) (wSub IntKind.i64 d (1 : Int))) = false → (decide (Int.ofNat i > (0 : Int)) = true → nat_lit 1 ≤ (Nat.succ (nat_lit 1)).succ ∧ nat_lit 1 ≤ (Nat.succ (nat_lit 1)).succ.succ ∧ bnd (wSub IntKind.i64 (Int.ofNat i) (1 : Int)) (lenL a) ∧ ∀ (x_1 : Int × List UInt8 × Bool × Unit), nthI a (wSub IntKind.i64 (Int.ofNat i) (1 : Int)) = some x_1 → nat_lit 1 ≤ (Nat.succ (nat_lit 1)).succ ∧ (decide (x.fst ≤ x_1.fst) = false → nat_lit 2 ≤ (Nat.succ (nat_lit 1)).succ ∧ (fits (lenL x.snd.fst) → (decide (iOf (lenL x.snd.fst) > (4096 : Int)) = false → nat_lit 2 ≤ (Nat.succ (nat_lit 1)).succ.succ ∧ nat_lit 1 ≤ (Nat.succ (nat_lit 1)).succ ∧ true = true ∧ True ∧ ((!has b x.fst) = true → nat_lit 3 ≤ (Nat.succ (nat_lit 1)).succ.succ ∧ nat_lit 1 ≤ (Nat.succ (nat_lit 1)).succ ∧ true = true ∧ True ∧ ((nat_lit 0 = nat_lit 0 ∧ (0 : Nat) = (0 : Nat)) ∧ a = a ∧ iOf (lenL a) = iOf (lenL a) ∧ Int.ofNat i = Int.ofNat i ∧ (!has c x.fst) = (badInode (a, b, c, d, ()) (Int.ofNat i) (x.fst, x.snd.fst, x.snd.snd.fst, ()) || !used (a, b, c, d, ()) x.fst) ∧ True) ∧ ((a = a ∧ b = b ∧ c = c ∧ d = d ∧ True) ∧ (x.fst = x.fst ∧ x.snd.fst = x.snd.fst ∧ x.snd.snd.fst = x.snd.snd.fst ∧ True) ∧ True) ∧ True) ∧ ((!has b x.fst) = false → ((nat_lit 0 = nat_lit 0 ∧ (0 : Nat) = (0 : Nat)) ∧ a = a ∧ iOf (lenL a) = iOf (lenL a) ∧ Int.ofNat i = Int.ofNat i ∧ false = (badInode (a, b, c, d, ()) (Int.ofNat i) (x.fst, x.snd.fst, x.snd.snd.fst, ()) || !used (a, b, c, d, ()) x.fst) ∧ True) ∧ ((a = a ∧ b = b ∧ c = c ∧ d = d ∧ True) ∧ (x.fst = x.fst ∧ x.snd.fst = x.snd.fst ∧ x.snd.snd.fst = x.snd.snd.fst ∧ True) ∧ True) ∧ True)) ∧ (decide (iOf (lenL x.snd.fst) > (4096 : Int)) = true → ((nat_lit 0 = nat_lit 0 ∧ (0 : Nat) = (0 : Nat)) ∧ a = a ∧ iOf (lenL a) = iOf (lenL a) ∧ Int.ofNat i = Int.ofNat i ∧ true = (badInode (a, b, c, d, ()) (Int.ofNat i) (x.fst, x.snd.fst, x.snd.snd.fst, ()) || !used (a, b, c, d, ()) x.fst) ∧ True) ∧ ((a = a ∧ b = b ∧ c = c ∧ d = d ∧ True) ∧ (x.fst = x.fst ∧ x.snd.fst = x.snd.fst ∧ x.snd.snd.fst = x.snd.snd.fst ∧ True) ∧ True) ∧ True))) ∧ (decide (x.fst ≤ x_1.fst) = true → ((nat_lit 0 = nat_lit 0 ∧ (0 : Nat) = (0 : Nat)) ∧ a = a ∧ iOf (lenL a) = iOf (lenL a) ∧ Int.ofNat i = Int.ofNat i ∧ true = (badInode (a, b, c, d, ()) (Int.ofNat i) (x.fst, x.snd.fst, x.snd.snd.fst, ()) || !used (a, b, c, d, ()) x.fst) ∧ True) ∧ ((a = a ∧ b = b ∧ c = c ∧ d = d ∧ True) ∧ (x.fst = x.fst ∧ x.snd.fst = x.snd.fst ∧ x.snd.snd.fst = x.snd.snd.fst ∧ True) ∧ True) ∧ True)) ∧ (decide (Int.ofNat i > (0 : Int)) = false → nat_lit 2 ≤ (Nat.succ (nat_lit 1)).succ ∧ (fits (lenL x.snd.fst) → (decide (iOf (lenL x.snd.fst) > (4096 : Int)) = false → nat_lit 2 ≤ (Nat.succ (nat_lit 1)).succ.succ ∧ nat_lit 1 ≤ (Nat.succ (nat_lit 1)).succ ∧ true = true ∧ True ∧ ((!has b x.fst) = true → nat_lit 3 ≤ (Nat.succ (nat_lit 1)).succ.succ ∧ nat_lit 1 ≤ (Nat.succ (nat_lit 1)).succ ∧ true = true ∧ True ∧ ((nat_lit 0 = nat_lit 0 ∧ (0 : Nat) = (0 : Nat)) ∧ a = a ∧ iOf (lenL a) = iOf (lenL a) ∧ Int.ofNat i = Int.ofNat i ∧ (!has c x.fst) = (badInode (a, b, c, d, ()) (Int.ofNat i) (x.fst, x.snd.fst, x.snd.snd.fst, ()) || !used (a, b, c, d, ()) x.fst) ∧ True) ∧ ((a = a ∧ b = b ∧ c = c ∧ d = d ∧ True) ∧ (x.fst = x.fst ∧ x.snd.fst = x.snd.fst ∧ x.snd.snd.fst = x.snd.snd.fst ∧ True) ∧ True) ∧ True) ∧ ((!has b x.fst) = false → ((nat_lit 0 = nat_lit 0 ∧ (0 : Nat) = (0 : Nat)) ∧ a = a ∧ iOf (lenL a) = iOf (lenL a) ∧ Int.ofNat i = Int.ofNat i ∧ false = (badInode (a, b, c, d, ()) (Int.ofNat i) (x.fst, x.snd.fst, x.snd.snd.fst, ()) || !used (a, b, c, d, ()) x.fst) ∧ True) ∧ ((a = a ∧ b = b ∧ c = c ∧ d = d ∧ True) ∧ (x.fst = x.fst ∧ x.snd.fst = x.snd.fst ∧ x.snd.snd.fst = x.snd.snd.fst ∧ True) ∧ True) ∧ True)) ∧ (decide (iOf (lenL x.snd.fst) > (4096 : Int)) = true → ((nat_lit 0 = nat_lit 0 ∧ (0 : Nat) = (0 : Nat)) ∧ a = a ∧ iOf (lenL a) = iOf (lenL a) ∧ Int.ofNat i = Int.ofNat i ∧ true = (badInode (a, b, c, d, ()) (Int.ofNat i) (x.fst, x.snd.fst, x.snd.snd.fst, ()) || !used (a, b, c, d, ()) x.fst) ∧ True) ∧ ((a = a ∧ b = b ∧ c = c ∧ d = d ∧ True) ∧ (x.fst = x.fst ∧ x.snd.fst = x.snd.fst ∧ x.snd.snd.fst = x.snd.snd.fst ∧ True) ∧ True) ∧ True)))) ∧ ((!within x.fst (1 : Int) (wSub IntKind.i64 d (1 : Int))) = true → ((nat_lit 0 = nat_lit 0 ∧ (0 : Nat) = (0 : Nat)) ∧ a = a ∧ iOf (lenL a) = iOf (lenL a) ∧ Int.ofNat i = Int.ofNat i ∧ true = (badInode (a, b, c, d, ()) (Int.ofNat i) (x.fst, x.snd.fst, x.snd.snd.fst, ()) || !used (a, b, c, d, ()) x.fst) ∧ True) ∧ ((a = a ∧ b = b ∧ c = c ∧ d = d ∧ True) ∧ (x.fst = x.fst ∧ x.snd.fst = x.snd.fst ∧ x.snd.snd.fst = x.snd.snd.fst ∧ True) ∧ True) ∧ True)) ∧ ((badInode (a, b, c, d, ()) (Int.ofNat i) (x.fst, x.snd.fst, x.snd.snd.fst, ()) || !used (a, b, c, d, ()) x.fst) = true → (false, ()) = (diskOK (a, b, c, d, ()), ()) ∧ () = ()) ∧ ((badInode (a, b, c, d, ()) (Int.ofNat i) (x.fst, x.snd.fst, x.snd.snd.fst, ()) || !used (a, b, c, d, ()) x.fst) = false → ∃ (j : Nat), (j ≤ List.length a ∧ ∀ (j_1 : Nat) (x : Inode), j_1 < j → a[j_1]? = some x → (!(badInode (a, b, c, d, ()) (Int.ofNat j_1) x || !used (a, b, c, d, ()) x.fst)) = true) ∧ (List.length a).sub j < (List.length a).sub i ∧ ((nat_lit 0 = nat_lit 0 ∧ (0 : Nat) = (0 : Nat)) ∧ a = a ∧ iOf (lenL a) = iOf (lenL a) ∧ wAdd IntKind.i64 (Int.ofNat i) (1 : Int) = Int.ofNat j ∧ True) ∧ ((a = a ∧ b = b ∧ c = c ∧ d = d ∧ True) ∧ True) ∧ True)) ∧ (decide (Int.ofNat i < iOf (lenL a)) = false → nat_lit 4 ≤ (Nat.succ (nat_lit 1)).succ.succ ∧ nat_lit 2 ≤ (Nat.succ (nat_lit 1)).succ.succ ∧ true = true ∧ True ∧ (slotsOK a b = true → nat_lit 4 ≤ (Nat.succ (nat_lit 1)).succ.succ ∧ nat_lit 3 ≤ (Nat.succ (nat_lit 1)).succ.succ ∧ true = true ∧ True ∧ (slotsOK a c, ()) = (diskOK (a, b, c, d, ()), ()) ∧ () = ()) ∧ (slotsOK a b = false → (false, ()) = (diskOK (a, b, c, d, ()), ()) ∧ () = ()))))) (by kernel_rfl) ?_
  simp only [Nat.le_refl, Nat.succ_eq_add_one, Nat.reduceAdd, Nat.reduceLeDiff, Nat.zero_le, pair_unit, mk_eta, len_bne, eqD_bne, bne_iff_ne, bne_eq_false_iff_eq, beq_iff_eq, beq_eq_false_iff_ne, true_and, and_true, and_self, eq_self, lt_iff, nthI_nat, bnd_iff, decide_eq_true_eq, decide_eq_false_iff_not, Nat.sub_eq, nz, ne_eq, not_false_eq_true, Prod.mk.injEq, Int.reduceEq, Nat.reduceEqDiff, forall_const, implies_true, bne_self_eq_false, Bool.true_eq_false, Bool.false_eq_true, false_implies, reduceCtorEq, Bool.not_true, Bool.not_false, List.all_cons, List.all_nil, Bool.and_true, Bool.not_eq_true, Bool.not_eq_false, Bool.not_eq_true', Bool.not_eq_false', Decidable.not_not]; try simp only [lenL]
  have hh : badHead (a, b, c, d, ()) = false → within d 1 1000000 = true := by
    intro h; unfold badHead at h; revert h; cases within d 1 1000000 <;> simp
  refine ⟨⟨fun h1 _ => ⟨fun h2 _ => ⟨fun h3 _ => ?_, fun h3 => ?_⟩, fun h2 => ?_⟩, fun h1 => ?_⟩, fun h => ?_, fun hhd hf => ⟨⟨0, ⟨Nat.zero_le _, fun j c hj => absurd hj (Nat.not_lt_zero _)⟩, rfl⟩, fun k ⟨hk, hi⟩ => ⟨fun hlt => ⟨hlt, fun x hx => ⟨?_, fun h => ?_, fun h => ⟨k + 1, ⟨hlt, below_succ2 (P := fun j (x : Fn.Inode) => (badInode (a, b, c, d, ()) (Int.ofNat j) x || !used (a, b, c, d, ()) x.1) = false) hi hx h⟩, by omega, inc_in hf hk⟩⟩⟩, fun hge => ?_⟩⟩⟩
  · exact (badHead_at h1 h2 h3).symm
  · exact (badHead_safe h3).symm
  · exact (badHead_now h2).symm
  · exact (badHead_next h1).symm
  · unfold diskOK; rw [h]; rfl
  · have hw := within_le (hh hhd)
    have hf' : a.length < 1099511627776 := hf
    rw [wSub_in (a := d) (b := 1) (by omega)]
    refine ⟨fun h1 => ⟨fun h2 => ?_, fun h2 _ => ?_⟩, fun h1 => ?_⟩
    · have hk0 : 0 < k := by simpa using h2
      rw [dec_in hk0 (by omega)]
      refine ⟨bnd_pred hk0 hk, fun y hy => ?_⟩
      have e : prevInode a (Int.ofNat k) x.1 = decide (x.1 ≤ y.1) := by unfold prevInode; rw [hy]
      unfold badInode used
      rw [h1, e, decide_eq_true h2]
      refine ⟨fun h3 _ => ⟨fun h4 => ?_, fun h4 => ?_⟩, fun h3 => ?_⟩
      · rw [decide_eq_false h3, decide_eq_false (p := (x.2.1.length : Int) > 4096) h4]
        exact ⟨fun h => by rw [h]; simp, fun h => by rw [h]; simp⟩
      · rw [decide_eq_true (p := (x.2.1.length : Int) > 4096) h4]; simp
      · rw [decide_eq_true h3]; simp
    · unfold badInode used
      rw [h1, decide_eq_false h2]
      refine ⟨fun h4 => ?_, fun h4 => ?_⟩
      · rw [decide_eq_false (p := (x.2.1.length : Int) > 4096) h4]
        exact ⟨fun h => by rw [h]; simp, fun h => by rw [h]; simp⟩
      · rw [decide_eq_true (p := (x.2.1.length : Int) > 4096) h4]; simp
    · unfold badInode; rw [h1]; simp
  · exact diskOK_bad hx h
  · rw [diskOK_end hhd hi hge]
    exact ⟨fun h => by rw [h]; simp, fun h => by rw [h]; simp⟩
end Go.Proofs.YtjkipndhdemnoaaGreatDoor
namespace Go.Proofs.YtjkipndhdemnoaaGreatDoor
open Go.Ab Go.Fn
def L_l11Inode (l : List Fn.Inode) (n : Int) : LoopAnn := { ι := Nat, inv := fun k => k ≤ l.length ∧ ∀ (j : Nat) (x : Fn.Inode), j < k → l[j]? = some x → Fn.inodeIs n x = false, slots := fun k => [(5, .d I (Int.ofNat k))], objs := fun _ => [], μ := fun k => l.length - k }
theorem fo_l11Inode : FO 92 s_inode := by
  refine fo (specs := []) (clos := []) (fun x => [(2, .lv [1, 2, 5] <| fun _ => L_l11Inode x.1.1 x.2.1)]) trivial trivial Tryz.func92 rfl rfl ?_
  rintro ⟨⟨a, b, c, d, ⟨⟩⟩, n, ⟨⟩⟩ -
  refine vcOf ((∃ (i : Nat), (i ≤ List.length a ∧ ∀ (j : Nat) (x : Inode), j < i → a[j]? = some x → inodeIs n x = false) ∧ (n = n ∧ (nat_lit 0 = nat_lit 0 ∧ (0 : Nat) = (0 : Nat)) ∧ (0 : Int) = Int.ofNat i ∧ True) ∧ ((a = a ∧ b = b ∧ c = c ∧ d = d ∧ True) ∧ True) ∧ True) ∧ ∀ (i : Nat), (i ≤ List.length a ∧ ∀ (j : Nat) (x : Inode), j < i → a[j]? = some x → inodeIs n x = false) → nat_lit 1 ≤ (Nat.succ (nat_lit 1)).succ.succ ∧ (fits (lenL a) → (decide (Int.ofNat i < iOf (lenL a)) = true → nat_lit 1 ≤ (Nat.succ (nat_lit 1)).succ.succ ∧ bnd (Int.ofNat i) (lenL a) ∧ ∀ (x : Int × List UInt8 × Bool × Unit), nthI a (Int.ofNat i) = some x → nat_lit 1 ≤ (Nat.succ (nat_lit 1)).succ ∧ ((x.fst == n) = true → (Int.ofNat i, ()) = (inodeAt a n, ()) ∧ () = ()) ∧ ((x.fst == n) = false → ∃ (j : Nat), (j ≤ List.length a ∧ ∀ (j_1 : Nat) (x : Inode), j_1 < j → a[j_1]? = some x → inodeIs n x = false) ∧ (List.length a).sub j < (List.length a).sub i ∧ (n = n ∧ (nat_lit 0 = nat_lit 0 ∧ (0 : Nat) = (0 : Nat)) ∧ wAdd IntKind.i64 (Int.ofNat i) (1 : Int) = Int.ofNat j ∧ True) ∧ ((a = a ∧ b = b ∧ c = c ∧ d = d ∧ True) ∧ True) ∧ True)) ∧ (decide (Int.ofNat i < iOf (lenL a)) = false → ((-1 : Int), ()) = (inodeAt a n, ()) ∧ () = ()))) (by kernel_rfl) ?_
  simp only [Nat.le_refl, Nat.succ_eq_add_one, Nat.reduceAdd, Nat.reduceLeDiff, Nat.zero_le, pair_unit, mk_eta, len_bne, eqD_bne, bne_iff_ne, bne_eq_false_iff_eq, beq_iff_eq, beq_eq_false_iff_ne, true_and, and_true, and_self, eq_self, lt_iff, nthI_nat, bnd_iff, decide_eq_true_eq, decide_eq_false_iff_not, Nat.sub_eq, nz, ne_eq, not_false_eq_true, Prod.mk.injEq, Int.reduceEq, Nat.reduceEqDiff, forall_const, implies_true, bne_self_eq_false, Bool.true_eq_false, Bool.false_eq_true, false_implies, reduceCtorEq, Bool.not_true, Bool.not_false, List.all_cons, List.all_nil, Bool.and_true, Bool.not_eq_true, Bool.not_eq_false, Bool.not_eq_true', Bool.not_eq_false', Decidable.not_not]; try simp only [lenL]
  exact ⟨⟨0, ⟨Nat.zero_le _, fun j c hj => absurd hj (Nat.not_lt_zero _)⟩, rfl⟩, fun k ⟨hk, hi⟩ hf => ⟨fun hlt => ⟨hlt, fun x hx => ⟨fun h => (idx_at hi hx (inodeIs_true h)).symm, fun h => ⟨k + 1, ⟨hlt, below_succ2 (P := fun _ x => inodeIs n x = false) hi hx (inodeIs_false h)⟩, by omega, inc_in hf hk⟩⟩⟩, fun hge => (idx_end hi hge).symm⟩⟩
end Go.Proofs.YtjkipndhdemnoaaGreatDoor
namespace Go.Proofs.YtjkipndhdemnoaaGreatDoor
open Go.Ab Go.Fn
def L_l11At (l : List Fn.Slot) (n : List UInt8) : LoopAnn := { ι := Nat, inv := fun k => k ≤ l.length ∧ ∀ (j : Nat) (x : Fn.Slot), j < k → l[j]? = some x → Fn.nameIs n x = false, slots := fun k => [(5, .d I (Int.ofNat k))], objs := fun _ => [], μ := fun k => l.length - k }
theorem fo_l11At : FO 101 s_slot := by
  refine fo (specs := []) (clos := []) (fun x => [(2, .lv [0, 1, 5] <| fun _ => L_l11At x.1 x.2.1)]) trivial trivial Tryz.func101 rfl rfl ?_
  rintro ⟨a, n, ⟨⟩⟩ -
  refine vcOf ((∃ (i : Nat), (i ≤ List.length a ∧ ∀ (j : Nat) (x : Slot), j < i → a[j]? = some x → nameIs n x = false) ∧ (a = a ∧ n = n ∧ (0 : Int) = Int.ofNat i ∧ True) ∧ True ∧ True) ∧ ∀ (i : Nat), (i ≤ List.length a ∧ ∀ (j : Nat) (x : Slot), j < i → a[j]? = some x → nameIs n x = false) → fits (lenL a) → (decide (Int.ofNat i < iOf (lenL a)) = true → bnd (Int.ofNat i) (lenL a) ∧ ∀ (x : List UInt8 × Int × Unit), nthI a (Int.ofNat i) = some x → nat_lit 1 ≤ Nat.succ (nat_lit 1) ∧ ((x.fst == n) = true → (Int.ofNat i, ()) = (slotAt a n, ()) ∧ () = ()) ∧ ((x.fst == n) = false → ∃ (j : Nat), (j ≤ List.length a ∧ ∀ (j_1 : Nat) (x : Slot), j_1 < j → a[j_1]? = some x → nameIs n x = false) ∧ (List.length a).sub j < (List.length a).sub i ∧ (a = a ∧ n = n ∧ wAdd IntKind.i64 (Int.ofNat i) (1 : Int) = Int.ofNat j ∧ True) ∧ True ∧ True)) ∧ (decide (Int.ofNat i < iOf (lenL a)) = false → ((-1 : Int), ()) = (slotAt a n, ()) ∧ () = ())) (by kernel_rfl) ?_
  simp only [Nat.le_refl, Nat.succ_eq_add_one, Nat.reduceAdd, Nat.reduceLeDiff, Nat.zero_le, pair_unit, mk_eta, len_bne, eqD_bne, bne_iff_ne, bne_eq_false_iff_eq, beq_iff_eq, beq_eq_false_iff_ne, true_and, and_true, and_self, eq_self, lt_iff, nthI_nat, bnd_iff, decide_eq_true_eq, decide_eq_false_iff_not, Nat.sub_eq, nz, ne_eq, not_false_eq_true, Prod.mk.injEq, Int.reduceEq, Nat.reduceEqDiff, forall_const, implies_true, bne_self_eq_false, Bool.true_eq_false, Bool.false_eq_true, false_implies, reduceCtorEq, Bool.not_true, Bool.not_false, List.all_cons, List.all_nil, Bool.and_true, Bool.not_eq_true, Bool.not_eq_false, Bool.not_eq_true', Bool.not_eq_false', Decidable.not_not]; try simp only [lenL]
  exact ⟨⟨0, ⟨Nat.zero_le _, fun j c hj => absurd hj (Nat.not_lt_zero _)⟩, rfl⟩, fun k ⟨hk, hi⟩ hf => ⟨fun hlt => ⟨hlt, fun x hx => ⟨fun h => (idx_at hi hx (nameIs_true h)).symm, fun h => ⟨k + 1, ⟨hlt, below_succ2 (P := fun _ x => nameIs n x = false) hi hx (nameIs_false h)⟩, by omega, inc_in hf hk⟩⟩⟩, fun hge => (idx_end hi hge).symm⟩⟩
end Go.Proofs.YtjkipndhdemnoaaGreatDoor
namespace Go.Proofs.YtjkipndhdemnoaaGreatDoor
open Go.Ab Go.Fn
def s_l11Slots : FSpec := { ps := [.v tDisk, .v (.slice tSlot)], rs := [.v .bool], pre := fun x => True, fn := fun x => (Fn.slotsOK24 x.1.1 x.2.1, ()), upd := fun _ => () }
theorem fo_l11Slots : FO 64 s_l11Slots := by
  refine fo (specs := [(91, s_NameOK), (92, s_inode)]) (clos := []) (fun x => [(4, .lv [1, 2, 5] <| fun _ => L_slotsOK x.1.1 x.2.1 5), (1000006, .lv [1, 2, 5, 49] <| .ofCut fun s => [(49, .d .bool (Fn.badSlotAt x.1.1 x.2.1 (s.tI 5)))])]) ⟨fo_l00Word, fo_l11Inode, trivial⟩ trivial Tryz.func64 rfl rfl ?_
  rintro ⟨⟨a, b, c, d, ⟨⟩⟩, l, ⟨⟩⟩ -
  refine vcOf (fits (lenL l) → (decide (iOf (lenL l) > (24 : Int)) = true → (false, ()) = (slotsOK24 a l, ()) ∧ () = ()) ∧ (decide (iOf (lenL l) > (24 : Int)) = false → (∃ (i : Nat), (i ≤ List.length l ∧ ∀ (j : Nat) (s : Slot), j < i → l[j]? = some s → (!badSlot a l (Int.ofNat j) s.fst s.snd.fst) = true) ∧ (l = l ∧ (nat_lit 0 = nat_lit 0 ∧ (0 : Nat) = (0 : Nat)) ∧ (0 : Int) = Int.ofNat i ∧ True) ∧ ((a = a ∧ b = b ∧ c = c ∧ d = d ∧ True) ∧ True) ∧ True) ∧ ∀ (i : Nat), (i ≤ List.length l ∧ ∀ (j : Nat) (s : Slot), j < i → l[j]? = some s → (!badSlot a l (Int.ofNat j) s.fst s.snd.fst) = true) → fits (lenL l) → (decide (Int.ofNat i < iOf (lenL l)) = true → (bnd (Int.ofNat i) (lenL l) ∧ ∀ (x : List UInt8 × Int × Unit), nthI l (Int.ofNat i) = some x → nat_lit 1 ≤ Nat.succ (nat_lit 1) ∧ true = true ∧ True ∧ ((!nameOK x.fst) = false → (decide (Int.ofNat i > (0 : Int)) = true → bnd (Int.ofNat i) (lenL l) ∧ ∀ (x : List UInt8 × Int × Unit), nthI l (Int.ofNat i) = some x → nat_lit 1 ≤ Nat.succ (nat_lit 1) ∧ bnd (wSub IntKind.i64 (Int.ofNat i) (1 : Int)) (lenL l) ∧ ∀ (x_1 : List UInt8 × Int × Unit), nthI l (wSub IntKind.i64 (Int.ofNat i) (1 : Int)) = some x_1 → nat_lit 1 ≤ Nat.succ (nat_lit 1) ∧ ((Op.bytesLess x.fst x_1.fst || x.fst == x_1.fst) = false → nat_lit 4 ≤ (Nat.succ (nat_lit 1)).succ.succ ∧ bnd (Int.ofNat i) (lenL l) ∧ ∀ (x : List UInt8 × Int × Unit), nthI l (Int.ofNat i) = some x → nat_lit 1 ≤ nat_lit 1 ∧ true = true ∧ True ∧ (l = l ∧ (nat_lit 0 = nat_lit 0 ∧ (0 : Nat) = (0 : Nat)) ∧ Int.ofNat i = Int.ofNat i ∧ decide (inodeAt a x.snd.fst < (0 : Int)) = badSlotAt a l (Int.ofNat i) ∧ True) ∧ ((a = a ∧ b = b ∧ c = c ∧ d = d ∧ True) ∧ True) ∧ True) ∧ ((Op.bytesLess x.fst x_1.fst || x.fst == x_1.fst) = true → (l = l ∧ (nat_lit 0 = nat_lit 0 ∧ (0 : Nat) = (0 : Nat)) ∧ Int.ofNat i = Int.ofNat i ∧ true = badSlotAt a l (Int.ofNat i) ∧ True) ∧ ((a = a ∧ b = b ∧ c = c ∧ d = d ∧ True) ∧ True) ∧ True)) ∧ (decide (Int.ofNat i > (0 : Int)) = false → nat_lit 4 ≤ (Nat.succ (nat_lit 1)).succ.succ ∧ bnd (Int.ofNat i) (lenL l) ∧ ∀ (x : List UInt8 × Int × Unit), nthI l (Int.ofNat i) = some x → nat_lit 1 ≤ nat_lit 1 ∧ true = true ∧ True ∧ (l = l ∧ (nat_lit 0 = nat_lit 0 ∧ (0 : Nat) = (0 : Nat)) ∧ Int.ofNat i = Int.ofNat i ∧ decide (inodeAt a x.snd.fst < (0 : Int)) = badSlotAt a l (Int.ofNat i) ∧ True) ∧ ((a = a ∧ b = b ∧ c = c ∧ d = d ∧ True) ∧ True) ∧ True)) ∧ ((!nameOK x.fst) = true → (l = l ∧ (nat_lit 0 = nat_lit 0 ∧ (0 : Nat) = (0 : Nat)) ∧ Int.ofNat i = Int.ofNat i ∧ true = badSlotAt a l (Int.ofNat i) ∧ True) ∧ ((a = a ∧ b = b ∧ c = c ∧ d = d ∧ True) ∧ True) ∧ True)) ∧ (badSlotAt a l (Int.ofNat i) = true → (false, ()) = (slotsOK24 a l, ()) ∧ () = ()) ∧ (badSlotAt a l (Int.ofNat i) = false → ∃ (j : Nat), (j ≤ List.length l ∧ ∀ (j_1 : Nat) (s : Slot), j_1 < j → l[j_1]? = some s → (!badSlot a l (Int.ofNat j_1) s.fst s.snd.fst) = true) ∧ (List.length l).sub j < (List.length l).sub i ∧ (l = l ∧ (nat_lit 0 = nat_lit 0 ∧ (0 : Nat) = (0 : Nat)) ∧ wAdd IntKind.i64 (Int.ofNat i) (1 : Int) = Int.ofNat j ∧ True) ∧ ((a = a ∧ b = b ∧ c = c ∧ d = d ∧ True) ∧ True) ∧ True)) ∧ (decide (Int.ofNat i < iOf (lenL l)) = false → (true, ()) = (slotsOK24 a l, ()) ∧ () = ()))) (by kernel_rfl) ?_
  simp only [Nat.le_refl, Nat.succ_eq_add_one, Nat.reduceAdd, Nat.reduceLeDiff, Nat.zero_le, pair_unit, mk_eta, len_bne, eqD_bne, bne_iff_ne, bne_eq_false_iff_eq, beq_iff_eq, beq_eq_false_iff_ne, true_and, and_true, and_self, eq_self, lt_iff, nthI_nat, bnd_iff, decide_eq_true_eq, decide_eq_false_iff_not, Nat.sub_eq, nz, ne_eq, not_false_eq_true, Prod.mk.injEq, Int.reduceEq, Nat.reduceEqDiff, forall_const, implies_true, bne_self_eq_false, Bool.true_eq_false, Bool.false_eq_true, false_implies, reduceCtorEq, Bool.not_true, Bool.not_false, List.all_cons, List.all_nil, Bool.and_true, Bool.not_eq_true, Bool.not_eq_false, Bool.not_eq_true', Bool.not_eq_false', Decidable.not_not]; try simp only [lenL]
  refine fun hf => ⟨fun h => slots24_long h, fun h24 => ⟨⟨0, ⟨Nat.zero_le _, fun j c hj => absurd hj (Nat.not_lt_zero _)⟩, rfl⟩, fun k ⟨hk, hi⟩ _ => ⟨fun hlt => ⟨⟨hlt, fun x hx => ?_⟩, fun h => ?_, fun h => ?_⟩, fun hge => ?_⟩⟩⟩
  · have hf' : l.length < 1099511627776 := hf
    have e0 : badSlotAt a l (Int.ofNat k) = badSlot a l (Int.ofNat k) x.1 x.2.1 := by unfold badSlotAt; rw [nthI_nat, hx]
    rw [e0]
    refine ⟨fun h1 => ⟨fun h2 => ⟨hlt, fun x' hx' => ?_⟩, fun h2 => ⟨hlt, fun x' hx' => ?_⟩⟩, fun h1 => ?_⟩
    · rw [hx] at hx'; cases hx'
      have hk0 : 0 < k := by simpa using h2
      rw [dec_in hk0 (by omega)]
      refine ⟨bnd_pred hk0 hk, fun y hy => ?_⟩
      have e : prevSlot l (Int.ofNat k) x.1 = leS x.1 y.1 := by unfold prevSlot; rw [hy]
      unfold badSlot
      rw [h1, e, decide_eq_true h2]
      unfold leS
      refine ⟨fun h => ⟨hlt, fun x' hx' => ?_⟩, fun h => by rw [h]; simp⟩
      rw [hx] at hx'; cases hx'
      rw [h]; simp
    · rw [hx] at hx'; cases hx'
      unfold badSlot; rw [h1, decide_eq_false h2]; simp
    · unfold badSlot; rw [h1]; simp
  · have hx := List.getElem?_eq_getElem hlt
    have e0 : badSlotAt a l (Int.ofNat k) = badSlot a l (Int.ofNat k) l[k].1 l[k].2.1 := by unfold badSlotAt; rw [nthI_nat, hx]
    unfold slotsOK24; rw [← slotsOK_bad hx (e0 ▸ h), Bool.and_false]
  · have hx := List.getElem?_eq_getElem hlt
    have e0 : badSlotAt a l (Int.ofNat k) = badSlot a l (Int.ofNat k) l[k].1 l[k].2.1 := by unfold badSlotAt; rw [nthI_nat, hx]
    exact ⟨k + 1, ⟨hlt, below_succ2 (P := fun j (s : Fn.Slot) => badSlot a l (Int.ofNat j) s.1 s.2.1 = false) hi hx (e0 ▸ h)⟩, by omega, inc_in hf hk⟩
  · unfold slotsOK24; rw [← slotsOK_end hi hge, decide_eq_true (p := (l.length : Int) ≤ 24) (Int.not_lt.1 h24)]; rfl
end Go.Proofs.YtjkipndhdemnoaaGreatDoor
namespace Go.Proofs.YtjkipndhdemnoaaGreatDoor
open Go.Ab Go.Fn
def s_l11Tidy : FSpec := { ps := [.v tDisk], rs := [.o tDisk], pre := fun x => True, fn := fun x => (Fn.tidy x.1, ()), upd := fun _ => () }
def L_tidy (d : Fn.Disk) : LoopAnn := { ι := Nat, inv := fun k => k ≤ d.1.length, slots := fun k => [(3, .os 2), (4, .d I (Int.ofNat k))], objs := fun k => [(2, .arr tInode (Fn.tidyTo d k) false)], μ := fun k => d.1.length - k }
def L_tidyNow (d : Fn.Disk) (i : Int) : LoopAnn := { ι := Nat, inv := fun k => k ≤ d.2.1.length, slots := fun k => [(6, .d I (Int.ofNat k)), (5, .d .bool (Fn.has (d.2.1.take k) (Fn.idAt d.1 i)))], objs := fun k => [], μ := fun k => d.2.1.length - k }
def L_tidySafe (d : Fn.Disk) (i : Int) : LoopAnn := { ι := Nat, inv := fun k => k ≤ d.2.2.1.length, slots := fun k => [(7, .d I (Int.ofNat k)), (5, .d .bool (Fn.orB (Fn.has d.2.1 (Fn.idAt d.1 i)) (Fn.has (d.2.2.1.take k) (Fn.idAt d.1 i))))], objs := fun k => [], μ := fun k => d.2.2.1.length - k }
theorem fo_l11Tidy : FO 65 s_l11Tidy := by
  refine fo (specs := []) (clos := []) (fun x => [(3, .lv [1, 2, 3, 4] <| fun _ => L_tidy x.1), (7, .lv [1, 2, 3, 4, 5, 6] <| fun s => L_tidyNow x.1 (s.tI 4)), (11, .lv [1, 2, 3, 4, 5, 7] <| fun s => L_tidySafe x.1 (s.tI 4))]) trivial trivial Tryz.func65 rfl rfl ?_
  rintro ⟨⟨a, b, c, d, ⟨⟩⟩, ⟨⟩⟩ -
  refine vcOf ((∃ (i : Nat), i ≤ List.length a ∧ ((nat_lit 0 = nat_lit 0 ∧ (0 : Nat) = (0 : Nat)) ∧ (nat_lit 1 = nat_lit 1 ∧ (0 : Nat) = (0 : Nat)) ∧ nat_lit 2 = (2 : Nat) ∧ (0 : Int) = Int.ofNat i ∧ True) ∧ ((a = a ∧ b = b ∧ c = c ∧ d = d ∧ True) ∧ (true = true ∧ true = true ∧ true = true ∧ (0 : (Ty.int IntKind.i64).den) = (0 : (Ty.int IntKind.i64).den) ∧ True) ∧ (([] : List (Int × List UInt8 × Bool × Unit)) = tidyTo (a, b, c, d, ()) i ∧ false = false) ∧ True) ∧ True) ∧ ∀ (i : Nat), i ≤ List.length a → nat_lit 1 ≤ (Nat.succ (nat_lit 1)).succ.succ ∧ (fits (lenL a) → (decide (Int.ofNat i < iOf (lenL a)) = true → (∃ (i_1 : Nat), i_1 ≤ List.length b ∧ ((nat_lit 0 = nat_lit 0 ∧ (0 : Nat) = (0 : Nat)) ∧ (nat_lit 1 = nat_lit 1 ∧ (0 : Nat) = (0 : Nat)) ∧ (2 : Nat) = (2 : Nat) ∧ Int.ofNat i = Int.ofNat i ∧ false = has (List.take i_1 b) (idAt a (Int.ofNat i)) ∧ (0 : Int) = Int.ofNat i_1 ∧ True) ∧ ((a = a ∧ b = b ∧ c = c ∧ d = d ∧ True) ∧ (true = true ∧ true = true ∧ true = true ∧ (0 : (Ty.int IntKind.i64).den) = (0 : (Ty.int IntKind.i64).den) ∧ True) ∧ (tidyTo (a, b, c, d, ()) i = tidyTo (a, b, c, d, ()) i ∧ false = false) ∧ True) ∧ True) ∧ ∀ (i_1 : Nat), i_1 ≤ List.length b → nat_lit 2 ≤ (Nat.succ (nat_lit 1)).succ.succ ∧ (fits (lenL b) → (decide (Int.ofNat i_1 < iOf (lenL b)) = true → (has (List.take i_1 b) (idAt a (Int.ofNat i)) = false → nat_lit 2 ≤ (Nat.succ (nat_lit 1)).succ.succ ∧ bnd (Int.ofNat i_1) (lenL b) ∧ ∀ (x : List UInt8 × Int × Unit), nthI b (Int.ofNat i_1) = some x → nat_lit 1 ≤ nat_lit 1 ∧ nat_lit 1 ≤ (Nat.succ (nat_lit 1)).succ.succ ∧ bnd (Int.ofNat i) (lenL a) ∧ ∀ (x_1 : Int × List UInt8 × Bool × Unit), nthI a (Int.ofNat i) = some x_1 → nat_lit 1 ≤ (Nat.succ (nat_lit 1)).succ ∧ ∃ (j : Nat), j ≤ List.length b ∧ (List.length b).sub j < (List.length b).sub i_1 ∧ ((nat_lit 0 = nat_lit 0 ∧ (0 : Nat) = (0 : Nat)) ∧ (nat_lit 1 = nat_lit 1 ∧ (0 : Nat) = (0 : Nat)) ∧ (2 : Nat) = (2 : Nat) ∧ Int.ofNat i = Int.ofNat i ∧ (x.snd.fst == x_1.fst) = has (List.take j b) (idAt a (Int.ofNat i)) ∧ wAdd IntKind.i64 (Int.ofNat i_1) (1 : Int) = Int.ofNat j ∧ True) ∧ ((a = a ∧ b = b ∧ c = c ∧ d = d ∧ True) ∧ (true = true ∧ true = true ∧ true = true ∧ (0 : (Ty.int IntKind.i64).den) = (0 : (Ty.int IntKind.i64).den) ∧ True) ∧ (tidyTo (a, b, c, d, ()) i = tidyTo (a, b, c, d, ()) i ∧ false = false) ∧ True) ∧ True) ∧ (has (List.take i_1 b) (idAt a (Int.ofNat i)) = true → ∃ (j : Nat), j ≤ List.length b ∧ (List.length b).sub j < (List.length b).sub i_1 ∧ ((nat_lit 0 = nat_lit 0 ∧ (0 : Nat) = (0 : Nat)) ∧ (nat_lit 1 = nat_lit 1 ∧ (0 : Nat) = (0 : Nat)) ∧ (2 : Nat) = (2 : Nat) ∧ Int.ofNat i = Int.ofNat i ∧ true = has (List.take j b) (idAt a (Int.ofNat i)) ∧ wAdd IntKind.i64 (Int.ofNat i_1) (1 : Int) = Int.ofNat j ∧ True) ∧ ((a = a ∧ b = b ∧ c = c ∧ d = d ∧ True) ∧ (true = true ∧ true = true ∧ true = true ∧ (0 : (Ty.int IntKind.i64).den) = (0 : (Ty.int IntKind.i64).den) ∧ True) ∧ (tidyTo (a, b, c, d, ()) i = tidyTo (a, b, c, d, ()) i ∧ false = false) ∧ True) ∧ True)) ∧ (decide (Int.ofNat i_1 < iOf (lenL b)) = false → (∃ (i_2 : Nat), i_2 ≤ List.length c ∧ ((nat_lit 0 = nat_lit 0 ∧ (0 : Nat) = (0 : Nat)) ∧ (nat_lit 1 = nat_lit 1 ∧ (0 : Nat) = (0 : Nat)) ∧ (2 : Nat) = (2 : Nat) ∧ Int.ofNat i = Int.ofNat i ∧ has (List.take i_1 b) (idAt a (Int.ofNat i)) = orB (has b (idAt a (Int.ofNat i))) (has (List.take i_2 c) (idAt a (Int.ofNat i))) ∧ (0 : Int) = Int.ofNat i_2 ∧ True) ∧ ((a = a ∧ b = b ∧ c = c ∧ d = d ∧ True) ∧ (true = true ∧ true = true ∧ true = true ∧ (0 : (Ty.int IntKind.i64).den) = (0 : (Ty.int IntKind.i64).den) ∧ True) ∧ (tidyTo (a, b, c, d, ()) i = tidyTo (a, b, c, d, ()) i ∧ false = false) ∧ True) ∧ True) ∧ ∀ (i_2 : Nat), i_2 ≤ List.length c → nat_lit 3 ≤ (Nat.succ (nat_lit 1)).succ.succ ∧ (fits (lenL c) → (decide (Int.ofNat i_2 < iOf (lenL c)) = true → (orB (has b (idAt a (Int.ofNat i))) (has (List.take i_2 c) (idAt a (Int.ofNat i))) = false → nat_lit 3 ≤ (Nat.succ (nat_lit 1)).succ.succ ∧ bnd (Int.ofNat i_2) (lenL c) ∧ ∀ (x : List UInt8 × Int × Unit), nthI c (Int.ofNat i_2) = some x → nat_lit 1 ≤ nat_lit 1 ∧ nat_lit 1 ≤ (Nat.succ (nat_lit 1)).succ.succ ∧ bnd (Int.ofNat i) (lenL a) ∧ ∀ (x_1 : Int × List UInt8 × Bool × Unit), nthI a (Int.ofNat i) = some x_1 → nat_lit 1 ≤ (Nat.succ (nat_lit 1)).succ ∧ ∃ (j : Nat), j ≤ List.length c ∧ (List.length c).sub j < (List.length c).sub i_2 ∧ ((nat_lit 0 = nat_lit 0 ∧ (0 : Nat) = (0 : Nat)) ∧ (nat_lit 1 = nat_lit 1 ∧ (0 : Nat) = (0 : Nat)) ∧ (2 : Nat) = (2 : Nat) ∧ Int.ofNat i = Int.ofNat i ∧ (x.snd.fst == x_1.fst) = orB (has b (idAt a (Int.ofNat i))) (has (List.take j c) (idAt a (Int.ofNat i))) ∧ wAdd IntKind.i64 (Int.ofNat i_2) (1 : Int) = Int.ofNat j ∧ True) ∧ ((a = a ∧ b = b ∧ c = c ∧ d = d ∧ True) ∧ (true = true ∧ true = true ∧ true = true ∧ (0 : (Ty.int IntKind.i64).den) = (0 : (Ty.int IntKind.i64).den) ∧ True) ∧ (tidyTo (a, b, c, d, ()) i = tidyTo (a, b, c, d, ()) i ∧ false = false) ∧ True) ∧ True) ∧ (orB (has b (idAt a (Int.ofNat i))) (has (List.take i_2 c) (idAt a (Int.ofNat i))) = true → ∃ (j : Nat), j ≤ List.length c ∧ (List.length c).sub j < (List.length c).sub i_2 ∧ ((nat_lit 0 = nat_lit 0 ∧ (0 : Nat) = (0 : Nat)) ∧ (nat_lit 1 = nat_lit 1 ∧ (0 : Nat) = (0 : Nat)) ∧ (2 : Nat) = (2 : Nat) ∧ Int.ofNat i = Int.ofNat i ∧ true = orB (has b (idAt a (Int.ofNat i))) (has (List.take j c) (idAt a (Int.ofNat i))) ∧ wAdd IntKind.i64 (Int.ofNat i_2) (1 : Int) = Int.ofNat j ∧ True) ∧ ((a = a ∧ b = b ∧ c = c ∧ d = d ∧ True) ∧ (true = true ∧ true = true ∧ true = true ∧ (0 : (Ty.int IntKind.i64).den) = (0 : (Ty.int IntKind.i64).den) ∧ True) ∧ (tidyTo (a, b, c, d, ()) i = tidyTo (a, b, c, d, ()) i ∧ false = false) ∧ True) ∧ True)) ∧ (decide (Int.ofNat i_2 < iOf (lenL c)) = false → (orB (has b (idAt a (Int.ofNat i))) (has (List.take i_2 c) (idAt a (Int.ofNat i))) = true → nat_lit 1 ≤ (Nat.succ (nat_lit 1)).succ.succ ∧ bnd (Int.ofNat i) (lenL a) ∧ ∀ (x : Int × List UInt8 × Bool × Unit), nthI a (Int.ofNat i) = some x → nat_lit 3 ≤ (Nat.succ (nat_lit 1)).succ ∧ fits (lenL (tidyTo (a, b, c, d, ()) i) + lenL ((x.fst, x.snd.fst, x.snd.snd.fst, ()) :: ([] : List (Int × List UInt8 × Bool × Unit)))) ∧ ∃ (j : Nat), j ≤ List.length a ∧ (List.length a).sub j < (List.length a).sub i ∧ ((nat_lit 0 = nat_lit 0 ∧ (0 : Nat) = (0 : Nat)) ∧ (nat_lit 1 = nat_lit 1 ∧ (0 : Nat) = (0 : Nat)) ∧ (2 : Nat) = (2 : Nat) ∧ wAdd IntKind.i64 (Int.ofNat i) (1 : Int) = Int.ofNat j ∧ True) ∧ ((a = a ∧ b = b ∧ c = c ∧ d = d ∧ True) ∧ (true = true ∧ true = true ∧ true = true ∧ (0 : (Ty.int IntKind.i64).den) = (0 : (Ty.int IntKind.i64).den) ∧ True) ∧ (tidyTo (a, b, c, d, ()) i ++ (x.fst, x.snd.fst, x.snd.snd.fst, ()) :: ([] : List (Int × List UInt8 × Bool × Unit)) = tidyTo (a, b, c, d, ()) j ∧ false = false) ∧ True) ∧ True) ∧ (orB (has b (idAt a (Int.ofNat i))) (has (List.take i_2 c) (idAt a (Int.ofNat i))) = false → ∃ (j : Nat), j ≤ List.length a ∧ (List.length a).sub j < (List.length a).sub i ∧ ((nat_lit 0 = nat_lit 0 ∧ (0 : Nat) = (0 : Nat)) ∧ (nat_lit 1 = nat_lit 1 ∧ (0 : Nat) = (0 : Nat)) ∧ (2 : Nat) = (2 : Nat) ∧ wAdd IntKind.i64 (Int.ofNat i) (1 : Int) = Int.ofNat j ∧ True) ∧ ((a = a ∧ b = b ∧ c = c ∧ d = d ∧ True) ∧ (true = true ∧ true = true ∧ true = true ∧ (0 : (Ty.int IntKind.i64).den) = (0 : (Ty.int IntKind.i64).den) ∧ True) ∧ (tidyTo (a, b, c, d, ()) i = tidyTo (a, b, c, d, ()) j ∧ false = false) ∧ True) ∧ True)))))) ∧ (decide (Int.ofNat i < iOf (lenL a)) = false → nat_lit 2 ≤ (Nat.succ (nat_lit 1)).succ.succ ∧ nat_lit 3 ≤ (Nat.succ (nat_lit 1)).succ.succ ∧ nat_lit 4 ≤ (Nat.succ (nat_lit 1)).succ.succ ∧ ((fits (lenL b) → fits (lenL c) → nat_lit 4 ≤ nat_lit 4 ∧ ((tidyTo (a, b, c, d, ()) i, b, c, d, ()), ()) = (tidy (a, b, c, d, ()), ()) ∧ () = ()) ∧ (fits (lenL b) → fits (lenL c) → nat_lit 4 ≤ nat_lit 4 ∧ ((tidyTo (a, b, c, d, ()) i, b, c, d, ()), ()) = (tidy (a, b, c, d, ()), ()) ∧ () = ())) ∧ (fits (lenL b) → fits (lenL c) → nat_lit 4 ≤ nat_lit 4 ∧ ((tidyTo (a, b, c, d, ()) i, b, c, d, ()), ()) = (tidy (a, b, c, d, ()), ()) ∧ () = ())))) (by kernel_rfl) ?_
  simp only [Nat.le_refl, Nat.succ_eq_add_one, Nat.reduceAdd, Nat.reduceLeDiff, Nat.zero_le, pair_unit, mk_eta, len_bne, eqD_bne, bne_iff_ne, bne_eq_false_iff_eq, beq_iff_eq, beq_eq_false_iff_ne, true_and, and_true, and_self, eq_self, lt_iff, nthI_nat, bnd_iff, decide_eq_true_eq, decide_eq_false_iff_not, Nat.sub_eq, nz, ne_eq, not_false_eq_true, Prod.mk.injEq, Int.reduceEq, Nat.reduceEqDiff, forall_const, implies_true, bne_self_eq_false, Bool.true_eq_false, Bool.false_eq_true, false_implies, reduceCtorEq, Bool.not_true, Bool.not_false, List.all_cons, List.all_nil, Bool.and_true, Bool.not_eq_true, Bool.not_eq_false, Bool.not_eq_true', Bool.not_eq_false', Decidable.not_not]; try simp only [lenL]
  refine ⟨⟨0, Nat.zero_le _, rfl, rfl⟩, fun i hi hf => ⟨fun hlt => ⟨⟨0, Nat.zero_le _, rfl, rfl⟩, fun j hj hfb => ⟨fun hjb => ⟨fun hn => ⟨hjb, fun y hy => ⟨hlt, fun x hx => ⟨j + 1, hjb, by omega, ?_, inc_in hfb hj⟩⟩⟩, fun hn => ⟨j + 1, hjb, by omega, ?_, inc_in hfb hj⟩⟩, fun hje => ⟨⟨0, Nat.zero_le _, ?_, rfl⟩, fun m hm hfc => ⟨fun hmc => ⟨fun hn => ⟨hmc, fun y hy => ⟨hlt, fun x hx => ⟨m + 1, hmc, by omega, ?_, inc_in hfc hm⟩⟩⟩, fun hn => ⟨m + 1, hmc, by omega, ?_, inc_in hfc hm⟩⟩, fun hme => ⟨fun hu => ⟨hlt, fun x hx => ⟨?_, i + 1, hlt, by omega, inc_in hf hi, ?_⟩⟩, fun hu => ⟨i + 1, hlt, by omega, inc_in hf hi, ?_⟩⟩⟩⟩⟩⟩, fun hie _ _ => ?_⟩⟩
  · rw [has_step hy, hn, idAt_eq hx, Bool.false_or, eqI_dec]
  · rw [has_more hjb, hn]; rfl
  · rw [has_end hje]; unfold orB; simp [has]
  · rw [has_step hy, ← orB_assoc, hn, idAt_eq hx, Bool.false_or, eqI_dec]
  · rw [has_more hmc, ← orB_assoc, hn]; rfl
  · exact tidy_fits hf hi hlt
  · rw [has_end hme, idAt_eq hx] at hu; exact (tidyTo_used (d := (a, b, c, d, ())) hx hu).symm
  · have hx := List.getElem?_eq_getElem hlt
    rw [has_end hme, idAt_eq hx] at hu; exact (tidyTo_not (d := (a, b, c, d, ())) hx hu).symm
  · exact tidyTo_end (d := (a, b, c, d, ())) hie
end Go.Proofs.YtjkipndhdemnoaaGreatDoor
namespace Go.Proofs.YtjkipndhdemnoaaGreatDoor
open Go.Ab Go.Fn
def L_l11OK (d : Fn.Disk) : LoopAnn := { ι := Nat, inv := fun k => k ≤ d.1.length ∧ ∀ (j : Nat) (x : Fn.Inode), j < k → d.1[j]? = some x → Fn.badInode d (Int.ofNat j) x = false, slots := fun k => [(3, .d I (Int.ofNat k))], objs := fun _ => [], μ := fun k => d.1.length - k }
theorem fo_l11OK : FO 36 s_DiskOK := by
  refine fo (specs := [(63, s_within), (64, s_l11Slots), (65, s_l11Tidy)]) (clos := []) (fun x => [(4, .lv [1, 3] <| fun _ => L_l11OK x.1), (1000001, .lv [1, 14] <| .ofCut fun s => [(14, .d .bool (Fn.badHead2 x.1))]), (1000007, .lv [1, 3, 55] <| .ofCut fun s => [(55, .d .bool (Fn.badInode x.1 (s.tI 3) ((s.cellOf 4 0).getI, (s.cellOf 4 1).getS, (s.cellOf 4 2).getB, ())))])]) ⟨fo_l01In, fo_l11Slots, fo_l11Tidy, trivial⟩ trivial Tryz.func36 rfl rfl ?_
  rintro ⟨⟨a, b, c, d, ⟨⟩⟩, ⟨⟩⟩ -
  refine vcOf ((nat_lit 1 ≤ (Nat.succ (nat_lit 1)).succ.succ ∧ (fits (lenL a) → (decide (iOf (lenL a) > (4096 : Int)) = false → nat_lit 4 ≤ (Nat.succ (nat_lit 1)).succ.succ ∧ true = true ∧ True ∧ ((nat_lit 0 = nat_lit 0 ∧ (0 : Nat) = (0 : Nat)) ∧ (!within d (1 : Int) (1000000 : Int)) = badHead2 (a, b, c, d, ()) ∧ True) ∧ ((a = a ∧ b = b ∧ c = c ∧ d = d ∧ True) ∧ True) ∧ True) ∧ (decide (iOf (lenL a) > (4096 : Int)) = true → ((nat_lit 0 = nat_lit 0 ∧ (0 : Nat) = (0 : Nat)) ∧ true = badHead2 (a, b, c, d, ()) ∧ True) ∧ ((a = a ∧ b = b ∧ c = c ∧ d = d ∧ True) ∧ True) ∧ True))) ∧ (badHead2 (a, b, c, d, ()) = true → (false, ()) = (diskOK (a, b, c, d, ()), ()) ∧ () = ()) ∧ (badHead2 (a, b, c, d, ()) = false → (∃ (i : Nat), (i ≤ List.length a ∧ ∀ (j : Nat) (x : Inode), j < i → a[j]? = some x → badInode (a, b, c, d, ()) (Int.ofNat j) x = false) ∧ ((nat_lit 0 = nat_lit 0 ∧ (0 : Nat) = (0 : Nat)) ∧ (0 : Int) = Int.ofNat i ∧ True) ∧ ((a = a ∧ b = b ∧ c = c ∧ d = d ∧ True) ∧ True) ∧ True) ∧ ∀ (i : Nat), (i ≤ List.length a ∧ ∀ (j : Nat) (x : Inode), j < i → a[j]? = some x → badInode (a, b, c, d, ()) (Int.ofNat j) x = false) → nat_lit 1 ≤ (Nat.succ (nat_lit 1)).succ.succ ∧ (fits (lenL a) → (decide (Int.ofNat i < iOf (lenL a)) = true → nat_lit 1 ≤ (Nat.succ (nat_lit 1)).succ.succ ∧ bnd (Int.ofNat i) (lenL a) ∧ ∀ (x : Int × List UInt8 × Bool × Unit), nthI a (Int.ofNat i) = some x → nat_lit 3 ≤ (Nat.succ (nat_lit 1)).succ ∧ nat_lit 3 ≤ nat_lit 3 ∧ (nat_lit 1 ≤ (Nat.succ (nat_lit 1)).succ ∧ nat_lit 4 ≤ (Nat.succ (nat_lit 1)).succ.succ ∧ true = true ∧ True ∧ ((!within x.fst (1 : Int) (wSub IntKind.i64 d (1 : Int))) = false → nat_lit 2 ≤ (Nat.succ (nat_lit 1)).succ ∧ (fits (lenL x.snd.fst) → (decide (iOf (lenL x.snd.fst) > (4096 : Int)) = false → (decide (Int.ofNat i > (0 : Int)) = true → nat_lit 1 ≤ (Nat.succ (nat_lit 1)).succ ∧ nat_lit 1 ≤ (Nat.succ (nat_lit 1)).succ.succ ∧ bnd (wSub IntKind.i64 (Int.ofNat i) (1 : Int)) (lenL a) ∧ ∀ (x_1 : Int × List UInt8 × Bool × Unit), nthI a (wSub IntKind.i64 (Int.ofNat i) (1 : Int)) = some x_1 → nat_lit 1 ≤ (Nat.succ (nat_lit 1)).succ ∧ ((nat_lit 0 = nat_lit 0 ∧ (0 : Nat) = (0 : Nat)) ∧ Int.ofNat i = Int.ofNat i ∧ decide (x.fst ≤ x_1.fst) = badInode (a, b, c, d, ()) (Int.ofNat i) (x.fst, x.snd.fst, x.snd.snd.fst, ()) ∧ True) ∧ ((a = a ∧ b = b ∧ c = c ∧ d = d ∧ True) ∧ (x.fst = x.fst ∧ x.snd.fst = x.snd.fst ∧ x.snd.snd.fst = x.snd.snd.fst ∧ True) ∧ True) ∧ True) ∧ (decide (Int.ofNat i > (0 : Int)) = false → ((nat_lit 0 = nat_lit 0 ∧ (0 : Nat) = (0 : Nat)) ∧ Int.ofNat i = Int.ofNat i ∧ false = badInode (a, b, c, d, ()) (Int.ofNat i) (x.fst, x.snd.fst, x.snd.snd.fst, ()) ∧ True) ∧ ((a = a ∧ b = b ∧ c = c ∧ d = d ∧ True) ∧ (x.fst = x.fst ∧ x.snd.fst = x.snd.fst ∧ x.snd.snd.fst = x.snd.snd.fst ∧ True) ∧ True) ∧ True)) ∧ (decide (iOf (lenL x.snd.fst) > (4096 : Int)) = true → ((nat_lit 0 = nat_lit 0 ∧ (0 : Nat) = (0 : Nat)) ∧ Int.ofNat i = Int.ofNat i ∧ true = badInode (a, b, c, d, ()) (Int.ofNat i) (x.fst, x.snd.fst, x.snd.snd.fst, ()) ∧ True) ∧ ((a = a ∧ b = b ∧ c = c ∧ d = d ∧ True) ∧ (x.fst = x.fst ∧ x.snd.fst = x.snd.fst ∧ x.snd.snd.fst = x.snd.snd.fst ∧ True) ∧ True) ∧ True))) ∧ ((!within x.fst (1 : Int) (wSub IntKind.i64 d (1 : Int))) = true → ((nat_lit 0 = nat_lit 0 ∧ (0 : Nat) = (0 : Nat)) ∧ Int.ofNat i = Int.ofNat i ∧ true = badInode (a, b, c, d, ()) (Int.ofNat i) (x.fst, x.snd.fst, x.snd.snd.fst, ()) ∧ True) ∧ ((a = a ∧ b = b ∧ c = c ∧ d = d ∧ True) ∧ (x.fst = x.fst ∧ x.snd.fst = x.snd.fst ∧ x.snd.snd.fst = x.snd.snd.fst ∧ True) ∧ True) ∧ True)) ∧ (badInode (a, b, c, d, ()) (Int.ofNat i) (x.fst, x.snd.fst, x.snd.snd.fst, ()) = true → (false, ()) = (diskOK (a, b, c, d, ()), ()) ∧ () = ()) ∧ (badInode (a, b, c, d, ()) (Int.ofNat i) (x.fst, x.snd.fst, x.snd.snd.fst, ()) = false → ∃ (j : Nat), (j ≤ List.length a ∧ ∀ (j_1 : Nat) (x : Inode), j_1 < j → a[j_1]? = some x → badInode (a, b, c, d, ()) (Int.ofNat j_1) x = false) ∧ (List.length a).sub j < (List.length a).sub i ∧ ((nat_lit 0 = nat_lit 0 ∧ (0 : Nat) = (0 : Nat)) ∧ wAdd IntKind.i64 (Int.ofNat i) (1 : Int) = Int.ofNat j ∧ True) ∧ ((a = a ∧ b = b ∧ c = c ∧ d = d ∧ True) ∧ True) ∧ True)) ∧ (decide (Int.ofNat i < iOf (lenL a)) = false → nat_lit 4 ≤ (Nat.succ (nat_lit 1)).succ.succ ∧ nat_lit 2 ≤ (Nat.succ (nat_lit 1)).succ.succ ∧ true = true ∧ True ∧ (slotsOK24 a b = true → nat_lit 4 ≤ (Nat.succ (nat_lit 1)).succ.succ ∧ nat_lit 3 ≤ (Nat.succ (nat_lit 1)).succ.succ ∧ true = true ∧ True ∧ (slotsOK24 a c = true → nat_lit 4 ≤ (Nat.succ (nat_lit 1)).succ.succ ∧ nat_lit 1 ≤ (Nat.succ (nat_lit 1)).succ.succ ∧ (fits (lenL a) → true = true ∧ True ∧ nat_lit 1 ≤ (Nat.succ (nat_lit 1)).succ.succ ∧ (fits (lenL (tidy (a, b, c, d, ())).fst) → (iOf (lenL (tidy (a, b, c, d, ())).fst) == iOf (lenL a), ()) = (diskOK (a, b, c, d, ()), ()) ∧ () = ()))) ∧ (slotsOK24 a c = false → (false, ()) = (diskOK (a, b, c, d, ()), ()) ∧ () = ())) ∧ (slotsOK24 a b = false → (false, ()) = (diskOK (a, b, c, d, ()), ()) ∧ () = ()))))) (by kernel_rfl) ?_
  simp only [Nat.le_refl, Nat.succ_eq_add_one, Nat.reduceAdd, Nat.reduceLeDiff, Nat.zero_le, pair_unit, mk_eta, len_bne, eqD_bne, bne_iff_ne, bne_eq_false_iff_eq, beq_iff_eq, beq_eq_false_iff_ne, true_and, and_true, and_self, eq_self, lt_iff, nthI_nat, bnd_iff, decide_eq_true_eq, decide_eq_false_iff_not, Nat.sub_eq, nz, ne_eq, not_false_eq_true, Prod.mk.injEq, Int.reduceEq, Nat.reduceEqDiff, forall_const, implies_true, bne_self_eq_false, Bool.true_eq_false, Bool.false_eq_true, false_implies, reduceCtorEq, Bool.not_true, Bool.not_false, List.all_cons, List.all_nil, Bool.and_true, Bool.not_eq_true, Bool.not_eq_false, Bool.not_eq_true', Bool.not_eq_false', Decidable.not_not]; try simp only [lenL]
  simp only [← diskOK2_eq]
  refine ⟨fun _ => ⟨fun h => badHead2_at h, fun h => badHead2_long h⟩, fun h => ?_, fun hhd => ⟨⟨0, ⟨Nat.zero_le _, fun j c hj => absurd hj (Nat.not_lt_zero _)⟩, rfl⟩, fun k ⟨hk, hi⟩ hf => ⟨fun hlt => ⟨hlt, fun x hx => ⟨?_, fun h => diskOK2_bad hx h, fun h => ⟨k + 1, ⟨hlt, below_succ2 (P := fun j (x : Fn.Inode) => badInode (a, b, c, d, ()) (Int.ofNat j) x = false) hi hx h⟩, by omega, inc_in hf hk⟩⟩⟩, fun hge => ?_⟩⟩⟩
  · unfold diskOK2; rw [h]; rfl
  · have hw := within_le (badHead2_in hhd)
    have hf' : a.length < 1099511627776 := hf
    rw [wSub_in (a := d) (b := 1) (by omega)]
    refine ⟨fun h1 _ => ⟨fun h4 => ⟨fun h2 => ?_, fun h2 => ?_⟩, fun h4 => ?_⟩, fun h1 => ?_⟩
    · have hk0 : 0 < k := by simpa using h2
      rw [dec_in hk0 (by omega)]
      refine ⟨bnd_pred hk0 hk, fun y hy => ?_⟩
      have e : prevInode a (Int.ofNat k) x.1 = decide (x.1 ≤ y.1) := by unfold prevInode; rw [hy]
      unfold badInode
      rw [h1, e, decide_eq_true h2, decide_eq_false (p := (x.2.1.length : Int) > 4096) h4]
      simp
    · unfold badInode
      rw [h1, decide_eq_false h2, decide_eq_false (p := (x.2.1.length : Int) > 4096) h4]
      rfl
    · unfold badInode
      rw [decide_eq_true (p := (x.2.1.length : Int) > 4096) h4]; simp
    · unfold badInode; rw [h1]; simp
  · rw [diskOK2_end hhd hi hge]
    refine ⟨fun h => ⟨fun h2 _ _ => ?_, fun h2 => by rw [h, h2]; rfl⟩, fun h => by rw [h]; rfl⟩
    rw [h, h2, iOf_beq]; rfl
end Go.Proofs.YtjkipndhdemnoaaGreatDoor
namespace Go.Proofs.YtjkipndhdemnoaaGreatDoor
open Go.Ab Go.Fn
def s_szInode : FSpec := { ps := [.v tInode, .v I], rs := [.v I], pre := fun x => 0 ≤ (x.2.1 : Int) ∧ (x.2.1 : Int) ≤ 1048576, fn := fun x => (Fn.szInode x.1 x.2.1, ()), upd := fun _ => () }
theorem fo_szInode : FO 61 s_szInode := by
  refine fo (specs := []) (clos := []) (fun x => []) trivial trivial Tryz.func61 rfl rfl ?_
  rintro ⟨a, n, ⟨⟩⟩ ⟨hp1, hp2⟩
  refine vcOf (nat_lit 2 ≤ (Nat.succ (nat_lit 1)).succ ∧ (fits (lenL a.snd.fst) → (decide (wSub IntKind.i64 n (iOf (lenL a.snd.fst)) < (0 : Int)) = true → ((-1 : Int), ()) = (szInode a n, ()) ∧ () = ()) ∧ (decide (wSub IntKind.i64 n (iOf (lenL a.snd.fst)) < (0 : Int)) = false → (wSub IntKind.i64 n (iOf (lenL a.snd.fst)), ()) = (szInode a n, ()) ∧ () = ()))) (by kernel_rfl) ?_
  simp only [Nat.le_refl, Nat.succ_eq_add_one, Nat.reduceAdd, Nat.reduceLeDiff, Nat.zero_le, pair_unit, mk_eta, len_bne, eqD_bne, bne_iff_ne, bne_eq_false_iff_eq, beq_iff_eq, beq_eq_false_iff_ne, true_and, and_true, and_self, eq_self, lt_iff, nthI_nat, bnd_iff, decide_eq_true_eq, decide_eq_false_iff_not, Nat.sub_eq, nz, ne_eq, not_false_eq_true, Prod.mk.injEq, Int.reduceEq, Nat.reduceEqDiff, forall_const, implies_true, bne_self_eq_false, Bool.true_eq_false, Bool.false_eq_true, false_implies, reduceCtorEq, Bool.not_true, Bool.not_false, List.all_cons, List.all_nil, Bool.and_true, Bool.not_eq_true, Bool.not_eq_false, Bool.not_eq_true', Bool.not_eq_false', Decidable.not_not]; try simp only [lenL]
  intro hf
  rw [wSub_len hp1 hp2 hf]
  exact ⟨fun h => (if_pos h).symm, fun h => (if_neg h).symm⟩
end Go.Proofs.YtjkipndhdemnoaaGreatDoor
namespace Go.Proofs.YtjkipndhdemnoaaGreatDoor
open Go.Ab Go.Fn
def s_szInodeS : FSpec := { ps := [.v (.slice tInode), .v I], rs := [.v I], pre := fun x => 0 ≤ (x.2.1 : Int) ∧ (x.2.1 : Int) ≤ 1048576, fn := fun x => (szList Fn.szInode x.1 x.2.1, ()), upd := fun _ => () }
def L_szInodeS (xs : List (tInode : Ty).den) (l0 : Int) : LoopAnn := { ι := Nat × Int, inv := fun p => p.1 ≤ xs.length ∧ (0 ≤ p.2 ∧ p.2 ≤ 1048576) ∧ szGo Fn.szInode (xs.drop p.1) p.2 = szGo Fn.szInode xs (l0 - xs.length), slots := fun p => [(5, .d I (Int.ofNat p.1)), (1, .d I p.2)], objs := fun _ => [], μ := fun p => xs.length - p.1 }
theorem fo_szInodeS : FO 34 s_szInodeS := by
  refine fo (specs := [(61, s_szInode)]) (clos := []) (fun x => [(5, .lv [0, 1, 5] <| fun _ => L_szInodeS x.1 x.2.1)]) ⟨fo_szInode, trivial⟩ trivial Tryz.func34 rfl rfl ?_
  rintro ⟨xs, n, ⟨⟩⟩ ⟨hp1, hp2⟩
  have hp1 : (0 : Int) ≤ n := hp1
  have hp2 : (n : Int) ≤ 1048576 := hp2
  refine vcOf (fits (lenL xs) → (decide (wSub IntKind.i64 n (iOf (lenL xs)) < (0 : Int)) = true → ((-1 : Int), ()) = (szList szInode xs n, ()) ∧ () = ()) ∧ (decide (wSub IntKind.i64 n (iOf (lenL xs)) < (0 : Int)) = false → (∃ (i : Nat × Int), (i.fst ≤ List.length xs ∧ ((0 : Int) ≤ i.snd ∧ i.snd ≤ (1048576 : Int)) ∧ szGo szInode (List.drop i.fst xs) i.snd = szGo szInode xs (n - Int.ofNat (List.length xs))) ∧ (xs = xs ∧ wSub IntKind.i64 n (iOf (lenL xs)) = i.snd ∧ (0 : Int) = Int.ofNat i.fst ∧ True) ∧ True ∧ True) ∧ ∀ (i : Nat × Int), i.fst ≤ List.length xs ∧ ((0 : Int) ≤ i.snd ∧ i.snd ≤ (1048576 : Int)) ∧ szGo szInode (List.drop i.fst xs) i.snd = szGo szInode xs (n - Int.ofNat (List.length xs)) → fits (lenL xs) → (decide (Int.ofNat i.fst < iOf (lenL xs)) = true → bnd (Int.ofNat i.fst) (lenL xs) ∧ ∀ (x : Int × List UInt8 × Bool × Unit), nthI xs (Int.ofNat i.fst) = some x → nat_lit 3 ≤ (Nat.succ (nat_lit 1)).succ ∧ true = true ∧ ((0 : (PTy.v I).den) ≤ i.snd ∧ i.snd ≤ (1048576 : (PTy.v I).den)) ∧ (decide (szInode (x.fst, x.snd.fst, x.snd.snd.fst, ()) i.snd < (0 : Int)) = true → ((-1 : Int), ()) = (szList szInode xs n, ()) ∧ () = ()) ∧ (decide (szInode (x.fst, x.snd.fst, x.snd.snd.fst, ()) i.snd < (0 : Int)) = false → ∃ (j : Nat × Int), (j.fst ≤ List.length xs ∧ ((0 : Int) ≤ j.snd ∧ j.snd ≤ (1048576 : Int)) ∧ szGo szInode (List.drop j.fst xs) j.snd = szGo szInode xs (n - Int.ofNat (List.length xs))) ∧ (List.length xs).sub j.fst < (List.length xs).sub i.fst ∧ (xs = xs ∧ szInode (x.fst, x.snd.fst, x.snd.snd.fst, ()) i.snd = j.snd ∧ wAdd IntKind.i64 (Int.ofNat i.fst) (1 : Int) = Int.ofNat j.fst ∧ True) ∧ True ∧ True)) ∧ (decide (Int.ofNat i.fst < iOf (lenL xs)) = false → (i.snd, ()) = (szList szInode xs n, ()) ∧ () = ()))) (by kernel_rfl) ?_
  simp only [Nat.le_refl, Nat.succ_eq_add_one, Nat.reduceAdd, Nat.reduceLeDiff, Nat.zero_le, pair_unit, mk_eta, len_bne, eqD_bne, bne_iff_ne, bne_eq_false_iff_eq, beq_iff_eq, beq_eq_false_iff_ne, true_and, and_true, and_self, eq_self, lt_iff, nthI_nat, bnd_iff, decide_eq_true_eq, decide_eq_false_iff_not, Nat.sub_eq, nz, ne_eq, not_false_eq_true, Prod.mk.injEq, Int.reduceEq, Nat.reduceEqDiff, forall_const, implies_true, bne_self_eq_false, Bool.true_eq_false, Bool.false_eq_true, false_implies, reduceCtorEq, Bool.not_true, Bool.not_false, List.all_cons, List.all_nil, Bool.and_true, Bool.not_eq_true, Bool.not_eq_false, Bool.not_eq_true', Bool.not_eq_false', Decidable.not_not]; try simp only [lenL]
  intro hf
  rw [wSub_len hp1 hp2 hf]
  refine ⟨fun h => (if_pos h).symm, fun h => ⟨⟨(0, n - (xs.length : Int)), ⟨Nat.zero_le _, ⟨Int.not_lt.1 h, Int.le_trans (Int.sub_le_self _ (Int.natCast_nonneg _)) hp2⟩, rfl⟩, rfl, rfl⟩, ?_⟩⟩
  have e0 : szList Fn.szInode xs n = szGo Fn.szInode xs (n - (xs.length : Int)) := if_neg h
  rw [e0]
  rintro ⟨k, m⟩ ⟨hk, ⟨hm1, hm2⟩, he⟩ -
  have hm1 : (0 : Int) ≤ m := hm1
  have hm2 : (m : Int) ≤ 1048576 := hm2
  have he : szGo Fn.szInode (xs.drop k) m = szGo Fn.szInode xs (n - (xs.length : Int)) := he
  refine ⟨fun hlt => ⟨hlt, fun x hx => ⟨⟨hm1, hm2⟩, fun h1 => ?_, fun h1 => ?_⟩⟩, fun hge => ?_⟩
  · rw [← he, szGo_at hx]; exact (if_pos h1).symm
  · have h2 := szInode_le x m hm1
    rw [szGo_at hx] at he
    exact ⟨(k + 1, Fn.szInode x m), ⟨hlt, ⟨Int.not_lt.1 h1, Int.le_trans h2 hm2⟩, (if_neg h1).symm.trans he⟩, Nat.sub_lt_sub_left hlt (Nat.lt_succ_self k), rfl, inc_in hf hk⟩
  · rw [← he, szGo_end hge]
end Go.Proofs.YtjkipndhdemnoaaGreatDoor
namespace Go.Proofs.YtjkipndhdemnoaaGreatDoor
open Go.Ab Go.Fn
def s_toInode : FSpec := { ps := [.v tInode], rs := [.v tInode], pre := fun x => True, fn := fun x => (x.1, ()), upd := fun _ => () }
theorem fo_toInode : FO 68 s_toInode := by
  refine fo (specs := []) (clos := []) (fun x => []) trivial trivial Tryz.func68 rfl rfl ?_
  rintro ⟨⟨a, b, c, ⟨⟩⟩, ⟨⟩⟩ -
  refine vcOf (nat_lit 1 ≤ (Nat.succ (nat_lit 1)).succ ∧ nat_lit 1 ≤ nat_lit 3 ∧ nat_lit 2 ≤ (Nat.succ (nat_lit 1)).succ ∧ nat_lit 2 ≤ nat_lit 3 ∧ nat_lit 3 ≤ (Nat.succ (nat_lit 1)).succ ∧ nat_lit 3 ≤ Nat.succ (nat_lit 2) ∧ nat_lit 3 ≤ (Nat.succ (nat_lit 1)).succ ∧ nat_lit 3 ≤ nat_lit 3 ∧ ((a, b, c, ()), ()) = ((a, b, c, ()), ()) ∧ () = ()) (by kernel_rfl) ?_
  simp only [Nat.le_refl, Nat.succ_eq_add_one, Nat.reduceAdd, Nat.reduceLeDiff, Nat.zero_le, pair_unit, mk_eta, len_bne, eqD_bne, bne_iff_ne, bne_eq_false_iff_eq, beq_iff_eq, beq_eq_false_iff_ne, true_and, and_true, and_self, eq_self, lt_iff, nthI_nat, bnd_iff, decide_eq_true_eq, decide_eq_false_iff_not, Nat.sub_eq, nz, ne_eq, not_false_eq_true, Prod.mk.injEq, Int.reduceEq, Nat.reduceEqDiff, forall_const, implies_true, bne_self_eq_false, Bool.true_eq_false, Bool.false_eq_true, false_implies, reduceCtorEq, Bool.not_true, Bool.not_false, List.all_cons, List.all_nil, Bool.and_true, Bool.not_eq_true, Bool.not_eq_false, Bool.not_eq_true', Bool.not_eq_false', Decidable.not_not]; try simp only [lenL]
end Go.Proofs.YtjkipndhdemnoaaGreatDoor
namespace Go.Proofs.YtjkipndhdemnoaaGreatDoor
open Go.Ab Go.Fn
def s_toInodeS : FSpec := { ps := [.v (.slice tInode)], rs := [.o (.slice tInode)], pre := fun _ => True, fn := fun x => (x.1, ()), upd := fun _ => () }
def L_toInodeS (xs : List (tInode : Ty).den) : LoopAnn := { ι := Nat, inv := fun k => k ≤ xs.length, slots := fun k => [(4, .d I (Int.ofNat k))], objs := fun k => [(1, .arr tInode (fillTo xs k (0, [], false, ())) false)], μ := fun k => xs.length - k }
theorem fo_toInodeS : FO 38 s_toInodeS := by
  refine fo (specs := [(68, s_toInode)]) (clos := []) (fun x => [(3, .lv [0, 3, 4] <| fun _ => L_toInodeS x.1)]) ⟨fo_toInode, trivial⟩ trivial Tryz.func38 rfl rfl ?_
  rintro ⟨xs, ⟨⟩⟩ -
  refine vcOf (fits (lenL xs) → mkOK (iOf (lenL xs)) (iOf (lenL xs)) ∧ (∃ (i : Nat), i ≤ List.length xs ∧ (xs = xs ∧ nat_lit 1 = nat_lit 1 ∧ (0 : Int) = Int.ofNat i ∧ True) ∧ ((([] : List (Int × List UInt8 × Bool × Unit)) = ([] : List (Int × List UInt8 × Bool × Unit)) ∧ false = false) ∧ (List.replicate (tN (iOf (lenL xs))) ((0 : (Ty.int IntKind.i64).den), ([] : List UInt8), false, ()) = fillTo xs i ((0 : I.den), ([] : List UInt8), false, ()) ∧ false = false) ∧ True) ∧ True) ∧ ∀ (i : Nat), i ≤ List.length xs → fits (lenL xs) → (decide (Int.ofNat i < iOf (lenL xs)) = true → bnd (Int.ofNat i) (lenL xs) ∧ ∀ (x : Int × List UInt8 × Bool × Unit), nthI xs (Int.ofNat i) = some x → nat_lit 3 ≤ (Nat.succ (nat_lit 1)).succ ∧ true = true ∧ True ∧ bnd (Int.ofNat i) (lenL (fillTo xs i ((0 : I.den), ([] : List UInt8), false, ()))) ∧ ((0 : Nat) = (0 : Nat) ∧ tN (Int.ofNat i) < lenL (fillTo xs i ((0 : I.den), ([] : List UInt8), false, ()))) ∧ ∃ (j : Nat), j ≤ List.length xs ∧ (List.length xs).sub j < (List.length xs).sub i ∧ (xs = xs ∧ nat_lit 1 = nat_lit 1 ∧ wAdd IntKind.i64 (Int.ofNat i) (1 : Int) = Int.ofNat j ∧ True) ∧ ((([] : List (Int × List UInt8 × Bool × Unit)) = ([] : List (Int × List UInt8 × Bool × Unit)) ∧ false = false) ∧ ((fillTo xs i ((0 : I.den), ([] : List UInt8), false, ())).set (tN (Int.ofNat i)) (x.fst, x.snd.fst, x.snd.snd.fst, ()) = fillTo xs j ((0 : I.den), ([] : List UInt8), false, ()) ∧ false = false) ∧ True) ∧ True) ∧ (decide (Int.ofNat i < iOf (lenL xs)) = false → (fillTo xs i ((0 : I.den), ([] : List UInt8), false, ()), ()) = (xs, ()) ∧ () = ())) (by kernel_rfl) ?_
  simp only [Nat.le_refl, Nat.succ_eq_add_one, Nat.reduceAdd, Nat.reduceLeDiff, Nat.zero_le, pair_unit, mk_eta, len_bne, eqD_bne, bne_iff_ne, bne_eq_false_iff_eq, beq_iff_eq, beq_eq_false_iff_ne, true_and, and_true, and_self, eq_self, lt_iff, nthI_nat, bnd_iff, decide_eq_true_eq, decide_eq_false_iff_not, Nat.sub_eq, nz, ne_eq, not_false_eq_true, Prod.mk.injEq, Int.reduceEq, Nat.reduceEqDiff, forall_const, implies_true, bne_self_eq_false, Bool.true_eq_false, Bool.false_eq_true, false_implies, reduceCtorEq, Bool.not_true, Bool.not_false, List.all_cons, List.all_nil, Bool.and_true, Bool.not_eq_true, Bool.not_eq_false, Bool.not_eq_true', Bool.not_eq_false', Decidable.not_not]; try simp only [lenL]
  exact fun hf => ⟨mkOK_len hf, ⟨0, Nat.zero_le _, rfl, rfl⟩, fun k hk _ => ⟨fun h => ⟨h, fun x hx => ⟨by rw [fill_len hk]; exact h, by rw [fill_len hk]; exact h, k + 1, h, Nat.sub_lt_sub_left h (Nat.lt_succ_self k), inc_in hf hk, fill_set hx⟩⟩, fun h => fill_end h⟩⟩
end Go.Proofs.YtjkipndhdemnoaaGreatDoor
namespace Go.Proofs.YtjkipndhdemnoaaGreatDoor
open Go.Ab Go.Fn
def s_eqInode : FSpec := { ps := [.v tInode, .v tInode], rs := [.v .bool], pre := fun x => True, fn := fun x => (eqD x.1 x.2.1, ()), upd := fun _ => () }
theorem fo_eqInode : FO 73 s_eqInode := by
  refine fo (specs := []) (clos := []) (fun x => []) trivial trivial Tryz.func73 rfl rfl ?_
  rintro ⟨⟨a, b, c, ⟨⟩⟩, ⟨a', b', c', ⟨⟩⟩, ⟨⟩⟩ -
  refine vcOf (nat_lit 1 ≤ (Nat.succ (nat_lit 1)).succ ∧ nat_lit 1 ≤ (Nat.succ (nat_lit 1)).succ ∧ ((a != a') = true → (false, ()) = (eqD (a, b, c, ()) (a', b', c', ()), ()) ∧ () = ()) ∧ ((a != a') = false → nat_lit 2 ≤ (Nat.succ (nat_lit 1)).succ ∧ nat_lit 2 ≤ (Nat.succ (nat_lit 1)).succ ∧ ((!b == b') = true → (false, ()) = (eqD (a, b, c, ()) (a', b', c', ()), ()) ∧ () = ()) ∧ ((!b == b') = false → nat_lit 3 ≤ (Nat.succ (nat_lit 1)).succ ∧ nat_lit 3 ≤ (Nat.succ (nat_lit 1)).succ ∧ (nBool c c' = true → (false, ()) = (eqD (a, b, c, ()) (a', b', c', ()), ()) ∧ () = ()) ∧ (nBool c c' = false → (true, ()) = (eqD (a, b, c, ()) (a', b', c', ()), ()) ∧ () = ())))) (by kernel_rfl) ?_
  simp only [Nat.le_refl, Nat.succ_eq_add_one, Nat.reduceAdd, Nat.reduceLeDiff, Nat.zero_le, pair_unit, mk_eta, len_bne, eqD_bne, bne_iff_ne, bne_eq_false_iff_eq, beq_iff_eq, beq_eq_false_iff_ne, true_and, and_true, and_self, eq_self, lt_iff, nthI_nat, bnd_iff, decide_eq_true_eq, decide_eq_false_iff_not, Nat.sub_eq, nz, ne_eq, not_false_eq_true, Prod.mk.injEq, Int.reduceEq, Nat.reduceEqDiff, forall_const, implies_true, bne_self_eq_false, Bool.true_eq_false, Bool.false_eq_true, false_implies, reduceCtorEq, Bool.not_true, Bool.not_false, List.all_cons, List.all_nil, Bool.and_true, Bool.not_eq_true, Bool.not_eq_false, Bool.not_eq_true', Bool.not_eq_false', Decidable.not_not]; try simp only [lenL]
  by_cases h1 : a = a' <;> by_cases h2 : b = b' <;> by_cases h3 : c = c' <;> simp [h1, h2, h3, eqD, nBool]
end Go.Proofs.YtjkipndhdemnoaaGreatDoor
namespace Go.Proofs.YtjkipndhdemnoaaGreatDoor
open Go.Ab Go.Fn
def s_eqInodeS : FSpec := { ps := [.v (.slice tInode), .v (.slice tInode)], rs := [.v .bool], pre := fun _ => True, fn := fun x => (eqL x.1 x.2.1, ()), upd := fun _ => () }
def L_eqInodeS (xs ys : List (tInode : Ty).den) : LoopAnn := { ι := Nat, inv := fun k => k ≤ xs.length ∧ xs.length = ys.length ∧ xs.take k = ys.take k, slots := fun k => [(5, .d I (Int.ofNat k))], objs := fun _ => [], μ := fun k => xs.length - k }
theorem fo_eqInodeS : FO 43 s_eqInodeS := by
  refine fo (specs := [(73, s_eqInode)]) (clos := []) (fun x => [(4, .lv [0, 1, 5] <| fun _ => L_eqInodeS x.1 x.2.1)]) ⟨fo_eqInode, trivial⟩ trivial Tryz.func43 rfl rfl ?_
  rintro ⟨xs, ys, ⟨⟩⟩ -
  refine vcOf (fits (lenL xs) → fits (lenL ys) → ((iOf (lenL xs) != iOf (lenL ys)) = true → (false, ()) = (eqL xs ys, ()) ∧ () = ()) ∧ ((iOf (lenL xs) != iOf (lenL ys)) = false → (∃ (i : Nat), (i ≤ List.length xs ∧ List.length xs = List.length ys ∧ List.take i xs = List.take i ys) ∧ (xs = xs ∧ ys = ys ∧ (0 : Int) = Int.ofNat i ∧ True) ∧ True ∧ True) ∧ ∀ (i : Nat), i ≤ List.length xs ∧ List.length xs = List.length ys ∧ List.take i xs = List.take i ys → fits (lenL xs) → (decide (Int.ofNat i < iOf (lenL xs)) = true → bnd (Int.ofNat i) (lenL xs) ∧ ∀ (x : Int × List UInt8 × Bool × Unit), nthI xs (Int.ofNat i) = some x → nat_lit 3 ≤ (Nat.succ (nat_lit 1)).succ ∧ bnd (Int.ofNat i) (lenL ys) ∧ ∀ (x_1 : Int × List UInt8 × Bool × Unit), nthI ys (Int.ofNat i) = some x_1 → nat_lit 3 ≤ (Nat.succ (nat_lit 1)).succ ∧ true = true ∧ True ∧ ((!eqD (x.fst, x.snd.fst, x.snd.snd.fst, ()) (x_1.fst, x_1.snd.fst, x_1.snd.snd.fst, ())) = true → (false, ()) = (eqL xs ys, ()) ∧ () = ()) ∧ ((!eqD (x.fst, x.snd.fst, x.snd.snd.fst, ()) (x_1.fst, x_1.snd.fst, x_1.snd.snd.fst, ())) = false → ∃ (j : Nat), (j ≤ List.length xs ∧ List.length xs = List.length ys ∧ List.take j xs = List.take j ys) ∧ (List.length xs).sub j < (List.length xs).sub i ∧ (xs = xs ∧ ys = ys ∧ wAdd IntKind.i64 (Int.ofNat i) (1 : Int) = Int.ofNat j ∧ True) ∧ True ∧ True)) ∧ (decide (Int.ofNat i < iOf (lenL xs)) = false → (true, ()) = (eqL xs ys, ()) ∧ () = ()))) (by kernel_rfl) ?_
  simp only [Nat.le_refl, Nat.succ_eq_add_one, Nat.reduceAdd, Nat.reduceLeDiff, Nat.zero_le, pair_unit, mk_eta, len_bne, eqD_bne, bne_iff_ne, bne_eq_false_iff_eq, beq_iff_eq, beq_eq_false_iff_ne, true_and, and_true, and_self, eq_self, lt_iff, nthI_nat, bnd_iff, decide_eq_true_eq, decide_eq_false_iff_not, Nat.sub_eq, nz, ne_eq, not_false_eq_true, Prod.mk.injEq, Int.reduceEq, Nat.reduceEqDiff, forall_const, implies_true, bne_self_eq_false, Bool.true_eq_false, Bool.false_eq_true, false_implies, reduceCtorEq, Bool.not_true, Bool.not_false, List.all_cons, List.all_nil, Bool.and_true, Bool.not_eq_true, Bool.not_eq_false, Bool.not_eq_true', Bool.not_eq_false', Decidable.not_not]; try simp only [lenL]
  exact fun hf1 hf2 => ⟨fun h => eqL_len h, fun h => ⟨⟨0, ⟨Nat.zero_le _, h, rfl⟩, rfl⟩, fun k ⟨hk, _, ht⟩ _ => ⟨fun hlt => ⟨hlt, fun x hx => ⟨h ▸ hlt, fun y hy => ⟨fun hne => eqL_ne hx hy hne, fun he => ⟨k + 1, ⟨hlt, h, take_eq_succ hx hy ht he⟩, Nat.sub_lt_sub_left hlt (Nat.lt_succ_self k), inc_in hf1 hk⟩⟩⟩⟩, fun hge => eqL_end hge h ht⟩⟩⟩
end Go.Proofs.YtjkipndhdemnoaaGreatDoor
namespace Go.Proofs.YtjkipndhdemnoaaGreatDoor
open Go.Ab Go.Fn
def s_szSlot : FSpec := { ps := [.v tSlot, .v I], rs := [.v I], pre := fun x => 0 ≤ (x.2.1 : Int) ∧ (x.2.1 : Int) ≤ 1048576, fn := fun x => (Fn.szSlot x.1 x.2.1, ()), upd := fun _ => () }
theorem fo_szSlot : FO 62 s_szSlot := by
  refine fo (specs := []) (clos := []) (fun x => []) trivial trivial Tryz.func62 rfl rfl ?_
  rintro ⟨a, n, ⟨⟩⟩ ⟨hp1, hp2⟩
  refine vcOf (nat_lit 1 ≤ Nat.succ (nat_lit 1) ∧ (fits (lenL a.fst) → (decide (wSub IntKind.i64 n (iOf (lenL a.fst)) < (0 : Int)) = true → ((-1 : Int), ()) = (szSlot a n, ()) ∧ () = ()) ∧ (decide (wSub IntKind.i64 n (iOf (lenL a.fst)) < (0 : Int)) = false → (wSub IntKind.i64 n (iOf (lenL a.fst)), ()) = (szSlot a n, ()) ∧ () = ()))) (by kernel_rfl) ?_
  simp only [Nat.le_refl, Nat.succ_eq_add_one, Nat.reduceAdd, Nat.reduceLeDiff, Nat.zero_le, pair_unit, mk_eta, len_bne, eqD_bne, bne_iff_ne, bne_eq_false_iff_eq, beq_iff_eq, beq_eq_false_iff_ne, true_and, and_true, and_self, eq_self, lt_iff, nthI_nat, bnd_iff, decide_eq_true_eq, decide_eq_false_iff_not, Nat.sub_eq, nz, ne_eq, not_false_eq_true, Prod.mk.injEq, Int.reduceEq, Nat.reduceEqDiff, forall_const, implies_true, bne_self_eq_false, Bool.true_eq_false, Bool.false_eq_true, false_implies, reduceCtorEq, Bool.not_true, Bool.not_false, List.all_cons, List.all_nil, Bool.and_true, Bool.not_eq_true, Bool.not_eq_false, Bool.not_eq_true', Bool.not_eq_false', Decidable.not_not]; try simp only [lenL]
  intro hf
  rw [wSub_len hp1 hp2 hf]
  exact ⟨fun h => (if_pos h).symm, fun h => (if_neg h).symm⟩
end Go.Proofs.YtjkipndhdemnoaaGreatDoor
namespace Go.Proofs.YtjkipndhdemnoaaGreatDoor
open Go.Ab Go.Fn
def s_szSlotS : FSpec := { ps := [.v (.slice tSlot), .v I], rs := [.v I], pre := fun x => 0 ≤ (x.2.1 : Int) ∧ (x.2.1 : Int) ≤ 1048576, fn := fun x => (szList Fn.szSlot x.1 x.2.1, ()), upd := fun _ => () }
def L_szSlotS (xs : List (tSlot : Ty).den) (l0 : Int) : LoopAnn := { ι := Nat × Int, inv := fun p => p.1 ≤ xs.length ∧ (0 ≤ p.2 ∧ p.2 ≤ 1048576) ∧ szGo Fn.szSlot (xs.drop p.1) p.2 = szGo Fn.szSlot xs (l0 - xs.length), slots := fun p => [(5, .d I (Int.ofNat p.1)), (1, .d I p.2)], objs := fun _ => [], μ := fun p => xs.length - p.1 }
theorem fo_szSlotS : FO 35 s_szSlotS := by
  refine fo (specs := [(62, s_szSlot)]) (clos := []) (fun x => [(5, .lv [0, 1, 5] <| fun _ => L_szSlotS x.1 x.2.1)]) ⟨fo_szSlot, trivial⟩ trivial Tryz.func35 rfl rfl ?_
  rintro ⟨xs, n, ⟨⟩⟩ ⟨hp1, hp2⟩
  have hp1 : (0 : Int) ≤ n := hp1
  have hp2 : (n : Int) ≤ 1048576 := hp2
  refine vcOf (fits (lenL xs) → (decide (wSub IntKind.i64 n (iOf (lenL xs)) < (0 : Int)) = true → ((-1 : Int), ()) = (szList szSlot xs n, ()) ∧ () = ()) ∧ (decide (wSub IntKind.i64 n (iOf (lenL xs)) < (0 : Int)) = false → (∃ (i : Nat × Int), (i.fst ≤ List.length xs ∧ ((0 : Int) ≤ i.snd ∧ i.snd ≤ (1048576 : Int)) ∧ szGo szSlot (List.drop i.fst xs) i.snd = szGo szSlot xs (n - Int.ofNat (List.length xs))) ∧ (xs = xs ∧ wSub IntKind.i64 n (iOf (lenL xs)) = i.snd ∧ (0 : Int) = Int.ofNat i.fst ∧ True) ∧ True ∧ True) ∧ ∀ (i : Nat × Int), i.fst ≤ List.length xs ∧ ((0 : Int) ≤ i.snd ∧ i.snd ≤ (1048576 : Int)) ∧ szGo szSlot (List.drop i.fst xs) i.snd = szGo szSlot xs (n - Int.ofNat (List.length xs)) → fits (lenL xs) → (decide (Int.ofNat i.fst < iOf (lenL xs)) = true → bnd (Int.ofNat i.fst) (lenL xs) ∧ ∀ (x : List UInt8 × Int × Unit), nthI xs (Int.ofNat i.fst) = some x → nat_lit 2 ≤ Nat.succ (nat_lit 1) ∧ true = true ∧ ((0 : (PTy.v I).den) ≤ i.snd ∧ i.snd ≤ (1048576 : (PTy.v I).den)) ∧ (decide (szSlot (x.fst, x.snd.fst, ()) i.snd < (0 : Int)) = true → ((-1 : Int), ()) = (szList szSlot xs n, ()) ∧ () = ()) ∧ (decide (szSlot (x.fst, x.snd.fst, ()) i.snd < (0 : Int)) = false → ∃ (j : Nat × Int), (j.fst ≤ List.length xs ∧ ((0 : Int) ≤ j.snd ∧ j.snd ≤ (1048576 : Int)) ∧ szGo szSlot (List.drop j.fst xs) j.snd = szGo szSlot xs (n - Int.ofNat (List.length xs))) ∧ (List.length xs).sub j.fst < (List.length xs).sub i.fst ∧ (xs = xs ∧ szSlot (x.fst, x.snd.fst, ()) i.snd = j.snd ∧ wAdd IntKind.i64 (Int.ofNat i.fst) (1 : Int) = Int.ofNat j.fst ∧ True) ∧ True ∧ True)) ∧ (decide (Int.ofNat i.fst < iOf (lenL xs)) = false → (i.snd, ()) = (szList szSlot xs n, ()) ∧ () = ()))) (by kernel_rfl) ?_
  simp only [Nat.le_refl, Nat.succ_eq_add_one, Nat.reduceAdd, Nat.reduceLeDiff, Nat.zero_le, pair_unit, mk_eta, len_bne, eqD_bne, bne_iff_ne, bne_eq_false_iff_eq, beq_iff_eq, beq_eq_false_iff_ne, true_and, and_true, and_self, eq_self, lt_iff, nthI_nat, bnd_iff, decide_eq_true_eq, decide_eq_false_iff_not, Nat.sub_eq, nz, ne_eq, not_false_eq_true, Prod.mk.injEq, Int.reduceEq, Nat.reduceEqDiff, forall_const, implies_true, bne_self_eq_false, Bool.true_eq_false, Bool.false_eq_true, false_implies, reduceCtorEq, Bool.not_true, Bool.not_false, List.all_cons, List.all_nil, Bool.and_true, Bool.not_eq_true, Bool.not_eq_false, Bool.not_eq_true', Bool.not_eq_false', Decidable.not_not]; try simp only [lenL]
  intro hf
  rw [wSub_len hp1 hp2 hf]
  refine ⟨fun h => (if_pos h).symm, fun h => ⟨⟨(0, n - (xs.length : Int)), ⟨Nat.zero_le _, ⟨Int.not_lt.1 h, Int.le_trans (Int.sub_le_self _ (Int.natCast_nonneg _)) hp2⟩, rfl⟩, rfl, rfl⟩, ?_⟩⟩
  have e0 : szList Fn.szSlot xs n = szGo Fn.szSlot xs (n - (xs.length : Int)) := if_neg h
  rw [e0]
  rintro ⟨k, m⟩ ⟨hk, ⟨hm1, hm2⟩, he⟩ -
  have hm1 : (0 : Int) ≤ m := hm1
  have hm2 : (m : Int) ≤ 1048576 := hm2
  have he : szGo Fn.szSlot (xs.drop k) m = szGo Fn.szSlot xs (n - (xs.length : Int)) := he
  refine ⟨fun hlt => ⟨hlt, fun x hx => ⟨⟨hm1, hm2⟩, fun h1 => ?_, fun h1 => ?_⟩⟩, fun hge => ?_⟩
  · rw [← he, szGo_at hx]; exact (if_pos h1).symm
  · have h2 := szSlot_le x m hm1
    rw [szGo_at hx] at he
    exact ⟨(k + 1, Fn.szSlot x m), ⟨hlt, ⟨Int.not_lt.1 h1, Int.le_trans h2 hm2⟩, (if_neg h1).symm.trans he⟩, Nat.sub_lt_sub_left hlt (Nat.lt_succ_self k), rfl, inc_in hf hk⟩
  · rw [← he, szGo_end hge]
end Go.Proofs.YtjkipndhdemnoaaGreatDoor
namespace Go.Proofs.YtjkipndhdemnoaaGreatDoor
open Go.Ab Go.Fn
def s_toSlot : FSpec := { ps := [.v tSlot], rs := [.v tSlot], pre := fun x => True, fn := fun x => (x.1, ()), upd := fun _ => () }
theorem fo_toSlot : FO 69 s_toSlot := by
  refine fo (specs := []) (clos := []) (fun x => []) trivial trivial Tryz.func69 rfl rfl ?_
  rintro ⟨⟨a, b, ⟨⟩⟩, ⟨⟩⟩ -
  refine vcOf (nat_lit 1 ≤ Nat.succ (nat_lit 1) ∧ nat_lit 1 ≤ nat_lit 2 ∧ nat_lit 2 ≤ Nat.succ (nat_lit 1) ∧ nat_lit 2 ≤ nat_lit 2 ∧ nat_lit 2 ≤ Nat.succ (nat_lit 1) ∧ nat_lit 2 ≤ nat_lit 2 ∧ ((a, b, ()), ()) = ((a, b, ()), ()) ∧ () = ()) (by kernel_rfl) ?_
  simp only [Nat.le_refl, Nat.succ_eq_add_one, Nat.reduceAdd, Nat.reduceLeDiff, Nat.zero_le, pair_unit, mk_eta, len_bne, eqD_bne, bne_iff_ne, bne_eq_false_iff_eq, beq_iff_eq, beq_eq_false_iff_ne, true_and, and_true, and_self, eq_self, lt_iff, nthI_nat, bnd_iff, decide_eq_true_eq, decide_eq_false_iff_not, Nat.sub_eq, nz, ne_eq, not_false_eq_true, Prod.mk.injEq, Int.reduceEq, Nat.reduceEqDiff, forall_const, implies_true, bne_self_eq_false, Bool.true_eq_false, Bool.false_eq_true, false_implies, reduceCtorEq, Bool.not_true, Bool.not_false, List.all_cons, List.all_nil, Bool.and_true, Bool.not_eq_true, Bool.not_eq_false, Bool.not_eq_true', Bool.not_eq_false', Decidable.not_not]; try simp only [lenL]
end Go.Proofs.YtjkipndhdemnoaaGreatDoor
namespace Go.Proofs.YtjkipndhdemnoaaGreatDoor
open Go.Ab Go.Fn
def s_toSlotS : FSpec := { ps := [.v (.slice tSlot)], rs := [.o (.slice tSlot)], pre := fun _ => True, fn := fun x => (x.1, ()), upd := fun _ => () }
def L_toSlotS (xs : List (tSlot : Ty).den) : LoopAnn := { ι := Nat, inv := fun k => k ≤ xs.length, slots := fun k => [(4, .d I (Int.ofNat k))], objs := fun k => [(1, .arr tSlot (fillTo xs k ([], 0, ())) false)], μ := fun k => xs.length - k }
theorem fo_toSlotS : FO 39 s_toSlotS := by
  refine fo (specs := [(69, s_toSlot)]) (clos := []) (fun x => [(3, .lv [0, 3, 4] <| fun _ => L_toSlotS x.1)]) ⟨fo_toSlot, trivial⟩ trivial Tryz.func39 rfl rfl ?_
  rintro ⟨xs, ⟨⟩⟩ -
  refine vcOf (fits (lenL xs) → mkOK (iOf (lenL xs)) (iOf (lenL xs)) ∧ (∃ (i : Nat), i ≤ List.length xs ∧ (xs = xs ∧ nat_lit 1 = nat_lit 1 ∧ (0 : Int) = Int.ofNat i ∧ True) ∧ ((([] : List (List UInt8 × Int × Unit)) = ([] : List (List UInt8 × Int × Unit)) ∧ false = false) ∧ (List.replicate (tN (iOf (lenL xs))) (([] : List UInt8), (0 : (Ty.int IntKind.i64).den), ()) = fillTo xs i (([] : List UInt8), (0 : I.den), ()) ∧ false = false) ∧ True) ∧ True) ∧ ∀ (i : Nat), i ≤ List.length xs → fits (lenL xs) → (decide (Int.ofNat i < iOf (lenL xs)) = true → bnd (Int.ofNat i) (lenL xs) ∧ ∀ (x : List UInt8 × Int × Unit), nthI xs (Int.ofNat i) = some x → nat_lit 2 ≤ Nat.succ (nat_lit 1) ∧ true = true ∧ True ∧ bnd (Int.ofNat i) (lenL (fillTo xs i (([] : List UInt8), (0 : I.den), ()))) ∧ ((0 : Nat) = (0 : Nat) ∧ tN (Int.ofNat i) < lenL (fillTo xs i (([] : List UInt8), (0 : I.den), ()))) ∧ ∃ (j : Nat), j ≤ List.length xs ∧ (List.length xs).sub j < (List.length xs).sub i ∧ (xs = xs ∧ nat_lit 1 = nat_lit 1 ∧ wAdd IntKind.i64 (Int.ofNat i) (1 : Int) = Int.ofNat j ∧ True) ∧ ((([] : List (List UInt8 × Int × Unit)) = ([] : List (List UInt8 × Int × Unit)) ∧ false = false) ∧ ((fillTo xs i (([] : List UInt8), (0 : I.den), ())).set (tN (Int.ofNat i)) (x.fst, x.snd.fst, ()) = fillTo xs j (([] : List UInt8), (0 : I.den), ()) ∧ false = false) ∧ True) ∧ True) ∧ (decide (Int.ofNat i < iOf (lenL xs)) = false → (fillTo xs i (([] : List UInt8), (0 : I.den), ()), ()) = (xs, ()) ∧ () = ())) (by kernel_rfl) ?_
  simp only [Nat.le_refl, Nat.succ_eq_add_one, Nat.reduceAdd, Nat.reduceLeDiff, Nat.zero_le, pair_unit, mk_eta, len_bne, eqD_bne, bne_iff_ne, bne_eq_false_iff_eq, beq_iff_eq, beq_eq_false_iff_ne, true_and, and_true, and_self, eq_self, lt_iff, nthI_nat, bnd_iff, decide_eq_true_eq, decide_eq_false_iff_not, Nat.sub_eq, nz, ne_eq, not_false_eq_true, Prod.mk.injEq, Int.reduceEq, Nat.reduceEqDiff, forall_const, implies_true, bne_self_eq_false, Bool.true_eq_false, Bool.false_eq_true, false_implies, reduceCtorEq, Bool.not_true, Bool.not_false, List.all_cons, List.all_nil, Bool.and_true, Bool.not_eq_true, Bool.not_eq_false, Bool.not_eq_true', Bool.not_eq_false', Decidable.not_not]; try simp only [lenL]
  exact fun hf => ⟨mkOK_len hf, ⟨0, Nat.zero_le _, rfl, rfl⟩, fun k hk _ => ⟨fun h => ⟨h, fun x hx => ⟨by rw [fill_len hk]; exact h, by rw [fill_len hk]; exact h, k + 1, h, Nat.sub_lt_sub_left h (Nat.lt_succ_self k), inc_in hf hk, fill_set hx⟩⟩, fun h => fill_end h⟩⟩
end Go.Proofs.YtjkipndhdemnoaaGreatDoor
namespace Go.Proofs.YtjkipndhdemnoaaGreatDoor
open Go.Ab Go.Fn
def s_eqSlot : FSpec := { ps := [.v tSlot, .v tSlot], rs := [.v .bool], pre := fun x => True, fn := fun x => (eqD x.1 x.2.1, ()), upd := fun _ => () }
theorem fo_eqSlot : FO 74 s_eqSlot := by
  refine fo (specs := []) (clos := []) (fun x => []) trivial trivial Tryz.func74 rfl rfl ?_
  rintro ⟨⟨a, b, ⟨⟩⟩, ⟨a', b', ⟨⟩⟩, ⟨⟩⟩ -
  refine vcOf (nat_lit 1 ≤ Nat.succ (nat_lit 1) ∧ nat_lit 1 ≤ Nat.succ (nat_lit 1) ∧ ((!a == a') = true → (false, ()) = (eqD (a, b, ()) (a', b', ()), ()) ∧ () = ()) ∧ ((!a == a') = false → nat_lit 2 ≤ Nat.succ (nat_lit 1) ∧ nat_lit 2 ≤ Nat.succ (nat_lit 1) ∧ ((b != b') = true → (false, ()) = (eqD (a, b, ()) (a', b', ()), ()) ∧ () = ()) ∧ ((b != b') = false → (true, ()) = (eqD (a, b, ()) (a', b', ()), ()) ∧ () = ()))) (by kernel_rfl) ?_
  simp only [Nat.le_refl, Nat.succ_eq_add_one, Nat.reduceAdd, Nat.reduceLeDiff, Nat.zero_le, pair_unit, mk_eta, len_bne, eqD_bne, bne_iff_ne, bne_eq_false_iff_eq, beq_iff_eq, beq_eq_false_iff_ne, true_and, and_true, and_self, eq_self, lt_iff, nthI_nat, bnd_iff, decide_eq_true_eq, decide_eq_false_iff_not, Nat.sub_eq, nz, ne_eq, not_false_eq_true, Prod.mk.injEq, Int.reduceEq, Nat.reduceEqDiff, forall_const, implies_true, bne_self_eq_false, Bool.true_eq_false, Bool.false_eq_true, false_implies, reduceCtorEq, Bool.not_true, Bool.not_false, List.all_cons, List.all_nil, Bool.and_true, Bool.not_eq_true, Bool.not_eq_false, Bool.not_eq_true', Bool.not_eq_false', Decidable.not_not]; try simp only [lenL]
  by_cases h1 : a = a' <;> by_cases h2 : b = b' <;> simp [h1, h2, eqD, nBool]
end Go.Proofs.YtjkipndhdemnoaaGreatDoor
namespace Go.Proofs.YtjkipndhdemnoaaGreatDoor
open Go.Ab Go.Fn
def s_eqSlotS : FSpec := { ps := [.v (.slice tSlot), .v (.slice tSlot)], rs := [.v .bool], pre := fun _ => True, fn := fun x => (eqL x.1 x.2.1, ()), upd := fun _ => () }
def L_eqSlotS (xs ys : List (tSlot : Ty).den) : LoopAnn := { ι := Nat, inv := fun k => k ≤ xs.length ∧ xs.length = ys.length ∧ xs.take k = ys.take k, slots := fun k => [(5, .d I (Int.ofNat k))], objs := fun _ => [], μ := fun k => xs.length - k }
theorem fo_eqSlotS : FO 44 s_eqSlotS := by
  refine fo (specs := [(74, s_eqSlot)]) (clos := []) (fun x => [(4, .lv [0, 1, 5] <| fun _ => L_eqSlotS x.1 x.2.1)]) ⟨fo_eqSlot, trivial⟩ trivial Tryz.func44 rfl rfl ?_
  rintro ⟨xs, ys, ⟨⟩⟩ -
  refine vcOf (fits (lenL xs) → fits (lenL ys) → ((iOf (lenL xs) != iOf (lenL ys)) = true → (false, ()) = (eqL xs ys, ()) ∧ () = ()) ∧ ((iOf (lenL xs) != iOf (lenL ys)) = false → (∃ (i : Nat), (i ≤ List.length xs ∧ List.length xs = List.length ys ∧ List.take i xs = List.take i ys) ∧ (xs = xs ∧ ys = ys ∧ (0 : Int) = Int.ofNat i ∧ True) ∧ True ∧ True) ∧ ∀ (i : Nat), i ≤ List.length xs ∧ List.length xs = List.length ys ∧ List.take i xs = List.take i ys → fits (lenL xs) → (decide (Int.ofNat i < iOf (lenL xs)) = true → bnd (Int.ofNat i) (lenL xs) ∧ ∀ (x : List UInt8 × Int × Unit), nthI xs (Int.ofNat i) = some x → nat_lit 2 ≤ Nat.succ (nat_lit 1) ∧ bnd (Int.ofNat i) (lenL ys) ∧ ∀ (x_1 : List UInt8 × Int × Unit), nthI ys (Int.ofNat i) = some x_1 → nat_lit 2 ≤ Nat.succ (nat_lit 1) ∧ true = true ∧ True ∧ ((!eqD (x.fst, x.snd.fst, ()) (x_1.fst, x_1.snd.fst, ())) = true → (false, ()) = (eqL xs ys, ()) ∧ () = ()) ∧ ((!eqD (x.fst, x.snd.fst, ()) (x_1.fst, x_1.snd.fst, ())) = false → ∃ (j : Nat), (j ≤ List.length xs ∧ List.length xs = List.length ys ∧ List.take j xs = List.take j ys) ∧ (List.length xs).sub j < (List.length xs).sub i ∧ (xs = xs ∧ ys = ys ∧ wAdd IntKind.i64 (Int.ofNat i) (1 : Int) = Int.ofNat j ∧ True) ∧ True ∧ True)) ∧ (decide (Int.ofNat i < iOf (lenL xs)) = false → (true, ()) = (eqL xs ys, ()) ∧ () = ()))) (by kernel_rfl) ?_
  simp only [Nat.le_refl, Nat.succ_eq_add_one, Nat.reduceAdd, Nat.reduceLeDiff, Nat.zero_le, pair_unit, mk_eta, len_bne, eqD_bne, bne_iff_ne, bne_eq_false_iff_eq, beq_iff_eq, beq_eq_false_iff_ne, true_and, and_true, and_self, eq_self, lt_iff, nthI_nat, bnd_iff, decide_eq_true_eq, decide_eq_false_iff_not, Nat.sub_eq, nz, ne_eq, not_false_eq_true, Prod.mk.injEq, Int.reduceEq, Nat.reduceEqDiff, forall_const, implies_true, bne_self_eq_false, Bool.true_eq_false, Bool.false_eq_true, false_implies, reduceCtorEq, Bool.not_true, Bool.not_false, List.all_cons, List.all_nil, Bool.and_true, Bool.not_eq_true, Bool.not_eq_false, Bool.not_eq_true', Bool.not_eq_false', Decidable.not_not]; try simp only [lenL]
  exact fun hf1 hf2 => ⟨fun h => eqL_len h, fun h => ⟨⟨0, ⟨Nat.zero_le _, h, rfl⟩, rfl⟩, fun k ⟨hk, _, ht⟩ _ => ⟨fun hlt => ⟨hlt, fun x hx => ⟨h ▸ hlt, fun y hy => ⟨fun hne => eqL_ne hx hy hne, fun he => ⟨k + 1, ⟨hlt, h, take_eq_succ hx hy ht he⟩, Nat.sub_lt_sub_left hlt (Nat.lt_succ_self k), inc_in hf1 hk⟩⟩⟩⟩, fun hge => eqL_end hge h ht⟩⟩⟩
end Go.Proofs.YtjkipndhdemnoaaGreatDoor
namespace Go.Proofs.YtjkipndhdemnoaaGreatDoor
open Go.Ab Go.Fn
def s_szDisk : FSpec := { ps := [.v tDisk, .v I], rs := [.v I], pre := fun x => 0 ≤ (x.2.1 : Int) ∧ (x.2.1 : Int) ≤ 1048576, fn := fun x => (Fn.szDisk x.1 x.2.1, ()), upd := fun _ => () }
theorem fo_szDisk : FO 9 s_szDisk := by
  refine fo (specs := [(34, s_szInodeS), (35, s_szSlotS)]) (clos := []) (fun x => []) ⟨fo_szInodeS, fo_szSlotS, trivial⟩ trivial Tryz.func9 rfl rfl ?_
  rintro ⟨⟨a, b, c, d, ⟨⟩⟩, n, ⟨⟩⟩ ⟨hp1, hp2⟩
  refine vcOf (nat_lit 1 ≤ (Nat.succ (nat_lit 1)).succ.succ ∧ true = true ∧ ((0 : (PTy.v I).den) ≤ n ∧ n ≤ (1048576 : (PTy.v I).den)) ∧ (decide (szList szInode a n < (0 : Int)) = true → ((-1 : Int), ()) = (szDisk (a, b, c, d, ()) n, ()) ∧ () = ()) ∧ (decide (szList szInode a n < (0 : Int)) = false → nat_lit 2 ≤ (Nat.succ (nat_lit 1)).succ.succ ∧ true = true ∧ ((0 : (PTy.v I).den) ≤ szList szInode a n ∧ szList szInode a n ≤ (1048576 : (PTy.v I).den)) ∧ (decide (szList szSlot b (szList szInode a n) < (0 : Int)) = true → ((-1 : Int), ()) = (szDisk (a, b, c, d, ()) n, ()) ∧ () = ()) ∧ (decide (szList szSlot b (szList szInode a n) < (0 : Int)) = false → nat_lit 3 ≤ (Nat.succ (nat_lit 1)).succ.succ ∧ true = true ∧ ((0 : (PTy.v I).den) ≤ szList szSlot b (szList szInode a n) ∧ szList szSlot b (szList szInode a n) ≤ (1048576 : (PTy.v I).den)) ∧ (decide (szList szSlot c (szList szSlot b (szList szInode a n)) < (0 : Int)) = true → ((-1 : Int), ()) = (szDisk (a, b, c, d, ()) n, ()) ∧ () = ()) ∧ (decide (szList szSlot c (szList szSlot b (szList szInode a n)) < (0 : Int)) = false → (szList szSlot c (szList szSlot b (szList szInode a n)), ()) = (szDisk (a, b, c, d, ()) n, ()) ∧ () = ())))) (by kernel_rfl) ?_
  simp only [Nat.le_refl, Nat.succ_eq_add_one, Nat.reduceAdd, Nat.reduceLeDiff, Nat.zero_le, pair_unit, mk_eta, len_bne, eqD_bne, bne_iff_ne, bne_eq_false_iff_eq, beq_iff_eq, beq_eq_false_iff_ne, true_and, and_true, and_self, eq_self, lt_iff, nthI_nat, bnd_iff, decide_eq_true_eq, decide_eq_false_iff_not, Nat.sub_eq, nz, ne_eq, not_false_eq_true, Prod.mk.injEq, Int.reduceEq, Nat.reduceEqDiff, forall_const, implies_true, bne_self_eq_false, Bool.true_eq_false, Bool.false_eq_true, false_implies, reduceCtorEq, Bool.not_true, Bool.not_false, List.all_cons, List.all_nil, Bool.and_true, Bool.not_eq_true, Bool.not_eq_false, Bool.not_eq_true', Bool.not_eq_false', Decidable.not_not]; try simp only [lenL]
  have hp1 : (0 : Int) ≤ n := hp1
  have hp2 : (n : Int) ≤ 1048576 := hp2
  have q1 := szList_le szInode_le a n hp1
  refine ⟨⟨hp1, hp2⟩, fun h => ?_, fun h1 => ?_⟩
  · unfold Fn.szDisk; rw [if_pos h]
  have q2 := szList_le szSlot_le b _ (Int.not_lt.1 h1)
  refine ⟨⟨Int.not_lt.1 h1, Int.le_trans q1 hp2⟩, fun h => ?_, fun h2 => ⟨⟨Int.not_lt.1 h2, Int.le_trans q2 (Int.le_trans q1 hp2)⟩, fun h => ?_, fun h3 => ?_⟩⟩
  · unfold Fn.szDisk; rw [if_neg h1, if_pos h]
  · unfold Fn.szDisk; rw [if_neg h1, if_neg h2, if_pos h]
  · unfold Fn.szDisk; rw [if_neg h1, if_neg h2, if_neg h3]
end Go.Proofs.YtjkipndhdemnoaaGreatDoor
namespace Go.Proofs.YtjkipndhdemnoaaGreatDoor
open Go.Ab Go.Fn
def s_toDisk : FSpec := { ps := [.v tDisk], rs := [.o tDisk], pre := fun x => True, fn := fun x => (x.1, ()), upd := fun _ => () }
theorem fo_toDisk : FO 11 s_toDisk := by
  refine fo (specs := [(38, s_toInodeS), (39, s_toSlotS)]) (clos := []) (fun x => []) ⟨fo_toInodeS, fo_toSlotS, trivial⟩ trivial Tryz.func11 rfl rfl ?_
  rintro ⟨⟨a, b, c, d, ⟨⟩⟩, ⟨⟩⟩ -
  refine vcOf (nat_lit 1 ≤ (Nat.succ (nat_lit 1)).succ.succ ∧ true = true ∧ True ∧ nat_lit 1 ≤ nat_lit 4 ∧ nat_lit 2 ≤ (Nat.succ (nat_lit 1)).succ.succ ∧ true = true ∧ True ∧ nat_lit 2 ≤ nat_lit 4 ∧ nat_lit 3 ≤ (Nat.succ (nat_lit 1)).succ.succ ∧ true = true ∧ True ∧ nat_lit 3 ≤ nat_lit 4 ∧ nat_lit 4 ≤ (Nat.succ (nat_lit 1)).succ.succ ∧ nat_lit 4 ≤ nat_lit 4 ∧ nat_lit 4 ≤ (Nat.succ (nat_lit 1)).succ.succ ∧ nat_lit 4 ≤ nat_lit 4 ∧ ((a, b, c, d, ()), ()) = ((a, b, c, d, ()), ()) ∧ () = ()) (by kernel_rfl) ?_
  simp only [Nat.le_refl, Nat.succ_eq_add_one, Nat.reduceAdd, Nat.reduceLeDiff, Nat.zero_le, pair_unit, mk_eta, len_bne, eqD_bne, bne_iff_ne, bne_eq_false_iff_eq, beq_iff_eq, beq_eq_false_iff_ne, true_and, and_true, and_self, eq_self, lt_iff, nthI_nat, bnd_iff, decide_eq_true_eq, decide_eq_false_iff_not, Nat.sub_eq, nz, ne_eq, not_false_eq_true, Prod.mk.injEq, Int.reduceEq, Nat.reduceEqDiff, forall_const, implies_true, bne_self_eq_false, Bool.true_eq_false, Bool.false_eq_true, false_implies, reduceCtorEq, Bool.not_true, Bool.not_false, List.all_cons, List.all_nil, Bool.and_true, Bool.not_eq_true, Bool.not_eq_false, Bool.not_eq_true', Bool.not_eq_false', Decidable.not_not]; try simp only [lenL]
end Go.Proofs.YtjkipndhdemnoaaGreatDoor
namespace Go.Proofs.YtjkipndhdemnoaaGreatDoor
open Go.Ab Go.Fn
def s_eqDisk : FSpec := { ps := [.v tDisk, .v tDisk], rs := [.v .bool], pre := fun x => True, fn := fun x => (Fn.eqDisk x.1 x.2.1, ()), upd := fun _ => () }
theorem fo_eqDisk : FO 14 s_eqDisk := by
  refine fo (specs := [(43, s_eqInodeS), (44, s_eqSlotS)]) (clos := []) (fun x => []) ⟨fo_eqInodeS, fo_eqSlotS, trivial⟩ trivial Tryz.func14 rfl rfl ?_
  rintro ⟨⟨a, b, c, d, ⟨⟩⟩, ⟨a', b', c', d', ⟨⟩⟩, ⟨⟩⟩ -
  refine vcOf (nat_lit 1 ≤ (Nat.succ (nat_lit 1)).succ.succ ∧ nat_lit 1 ≤ (Nat.succ (nat_lit 1)).succ.succ ∧ true = true ∧ True ∧ ((!eqL a a') = true → (false, ()) = (eqDisk (a, b, c, d, ()) (a', b', c', d', ()), ()) ∧ () = ()) ∧ ((!eqL a a') = false → nat_lit 2 ≤ (Nat.succ (nat_lit 1)).succ.succ ∧ nat_lit 2 ≤ (Nat.succ (nat_lit 1)).succ.succ ∧ true = true ∧ True ∧ ((!eqL b b') = true → (false, ()) = (eqDisk (a, b, c, d, ()) (a', b', c', d', ()), ()) ∧ () = ()) ∧ ((!eqL b b') = false → nat_lit 3 ≤ (Nat.succ (nat_lit 1)).succ.succ ∧ nat_lit 3 ≤ (Nat.succ (nat_lit 1)).succ.succ ∧ true = true ∧ True ∧ ((!eqL c c') = true → (false, ()) = (eqDisk (a, b, c, d, ()) (a', b', c', d', ()), ()) ∧ () = ()) ∧ ((!eqL c c') = false → nat_lit 4 ≤ (Nat.succ (nat_lit 1)).succ.succ ∧ nat_lit 4 ≤ (Nat.succ (nat_lit 1)).succ.succ ∧ ((d != d') = true → (false, ()) = (eqDisk (a, b, c, d, ()) (a', b', c', d', ()), ()) ∧ () = ()) ∧ ((d != d') = false → (true, ()) = (eqDisk (a, b, c, d, ()) (a', b', c', d', ()), ()) ∧ () = ()))))) (by kernel_rfl) ?_
  simp only [Nat.le_refl, Nat.succ_eq_add_one, Nat.reduceAdd, Nat.reduceLeDiff, Nat.zero_le, pair_unit, mk_eta, len_bne, eqD_bne, bne_iff_ne, bne_eq_false_iff_eq, beq_iff_eq, beq_eq_false_iff_ne, true_and, and_true, and_self, eq_self, lt_iff, nthI_nat, bnd_iff, decide_eq_true_eq, decide_eq_false_iff_not, Nat.sub_eq, nz, ne_eq, not_false_eq_true, Prod.mk.injEq, Int.reduceEq, Nat.reduceEqDiff, forall_const, implies_true, bne_self_eq_false, Bool.true_eq_false, Bool.false_eq_true, false_implies, reduceCtorEq, Bool.not_true, Bool.not_false, List.all_cons, List.all_nil, Bool.and_true, Bool.not_eq_true, Bool.not_eq_false, Bool.not_eq_true', Bool.not_eq_false', Decidable.not_not]; try simp only [lenL]
  by_cases h1 : a = a' <;> by_cases h2 : b = b' <;> by_cases h3 : c = c' <;> by_cases h4 : d = d' <;> simp [h1, h2, h3, h4, Fn.eqDisk, eqD, eqL]
end Go.Proofs.YtjkipndhdemnoaaGreatDoor
namespace Go.Proofs.YtjkipndhdemnoaaGreatDoor
open Go.Ab Go.Fn
def s_read : FSpec := { ps := [.v tDisk, .v .str], rs := [.v .str, .v .bool], pre := fun x => Fn.diskOK x.1 = true, fn := fun x => (Fn.readT x.1 x.2.1, Fn.readB x.1 x.2.1, ()), upd := fun _ => () }
theorem fo_iread : FO 70 s_read := by
  refine fo (specs := [(94, s_slot), (95, s_inode)]) (clos := []) (fun x => []) ⟨fo_slot, fo_inode, trivial⟩ trivial Tryz.func70 rfl rfl ?_
  rintro ⟨⟨a, b, c, d, ⟨⟩⟩, n, ⟨⟩⟩ hp
  refine vcOf (nat_lit 2 ≤ (Nat.succ (nat_lit 1)).succ.succ ∧ true = true ∧ True ∧ (decide (slotAt b n < (0 : Int)) = true → (([] : List UInt8), false, ()) = (readT (a, b, c, d, ()) n, readB (a, b, c, d, ()) n, ()) ∧ () = ()) ∧ (decide (slotAt b n < (0 : Int)) = false → nat_lit 1 ≤ (Nat.succ (nat_lit 1)).succ.succ ∧ nat_lit 4 ≤ (Nat.succ (nat_lit 1)).succ.succ ∧ nat_lit 2 ≤ (Nat.succ (nat_lit 1)).succ.succ ∧ bnd (slotAt b n) (lenL b) ∧ ∀ (x : List UInt8 × Int × Unit), nthI b (slotAt b n) = some x → nat_lit 1 ≤ nat_lit 1 ∧ true = true ∧ True ∧ bnd (inodeAt a x.snd.fst) (lenL a) ∧ ∀ (x_1 : Int × List UInt8 × Bool × Unit), nthI a (inodeAt a x.snd.fst) = some x_1 → nat_lit 1 ≤ Nat.succ (nat_lit 1) ∧ (x_1.snd.fst, true, ()) = (readT (a, b, c, d, ()) n, readB (a, b, c, d, ()) n, ()) ∧ () = ())) (by kernel_rfl) ?_
  simp only [Nat.le_refl, Nat.succ_eq_add_one, Nat.reduceAdd, Nat.reduceLeDiff, Nat.zero_le, pair_unit, mk_eta, len_bne, eqD_bne, bne_iff_ne, bne_eq_false_iff_eq, beq_iff_eq, beq_eq_false_iff_ne, true_and, and_true, and_self, eq_self, lt_iff, nthI_nat, bnd_iff, decide_eq_true_eq, decide_eq_false_iff_not, Nat.sub_eq, nz, ne_eq, not_false_eq_true, Prod.mk.injEq, Int.reduceEq, Nat.reduceEqDiff, forall_const, implies_true, bne_self_eq_false, Bool.true_eq_false, Bool.false_eq_true, false_implies, reduceCtorEq, Bool.not_true, Bool.not_false, List.all_cons, List.all_nil, Bool.and_true, Bool.not_eq_true, Bool.not_eq_false, Bool.not_eq_true', Bool.not_eq_false', Decidable.not_not]; try simp only [lenL]
  have hp : diskOK (a, b, c, d, ()) = true := hp
  refine ⟨fun h => read_none h, fun h => ⟨idx_bnd h, fun x hx => ⟨idx_bnd (slots_in (diskOK_parts hp).1 hx), fun y hy => read_some (d := (a, b, c, d, ())) h hx hy⟩⟩⟩
theorem fo_l11Read : FO 75 s_read := by
  refine fo (specs := [(101, s_slot), (92, s_inode)]) (clos := []) (fun x => []) ⟨fo_l11At, fo_l11Inode, trivial⟩ trivial Tryz.func75 rfl rfl ?_
  rintro ⟨⟨a, b, c, d, ⟨⟩⟩, n, ⟨⟩⟩ hp
  refine vcOf (nat_lit 2 ≤ (Nat.succ (nat_lit 1)).succ.succ ∧ true = true ∧ True ∧ (decide (slotAt b n < (0 : Int)) = true → (([] : List UInt8), false, ()) = (readT (a, b, c, d, ()) n, readB (a, b, c, d, ()) n, ()) ∧ () = ()) ∧ (decide (slotAt b n < (0 : Int)) = false → nat_lit 1 ≤ (Nat.succ (nat_lit 1)).succ.succ ∧ nat_lit 4 ≤ (Nat.succ (nat_lit 1)).succ.succ ∧ nat_lit 2 ≤ (Nat.succ (nat_lit 1)).succ.succ ∧ bnd (slotAt b n) (lenL b) ∧ ∀ (x : List UInt8 × Int × Unit), nthI b (slotAt b n) = some x → nat_lit 1 ≤ nat_lit 1 ∧ true = true ∧ True ∧ bnd (inodeAt a x.snd.fst) (lenL a) ∧ ∀ (x_1 : Int × List UInt8 × Bool × Unit), nthI a (inodeAt a x.snd.fst) = some x_1 → nat_lit 1 ≤ Nat.succ (nat_lit 1) ∧ (x_1.snd.fst, true, ()) = (readT (a, b, c, d, ()) n, readB (a, b, c, d, ()) n, ()) ∧ () = ())) (by kernel_rfl) ?_
  simp only [Nat.le_refl, Nat.succ_eq_add_one, Nat.reduceAdd, Nat.reduceLeDiff, Nat.zero_le, pair_unit, mk_eta, len_bne, eqD_bne, bne_iff_ne, bne_eq_false_iff_eq, beq_iff_eq, beq_eq_false_iff_ne, true_and, and_true, and_self, eq_self, lt_iff, nthI_nat, bnd_iff, decide_eq_true_eq, decide_eq_false_iff_not, Nat.sub_eq, nz, ne_eq, not_false_eq_true, Prod.mk.injEq, Int.reduceEq, Nat.reduceEqDiff, forall_const, implies_true, bne_self_eq_false, Bool.true_eq_false, Bool.false_eq_true, false_implies, reduceCtorEq, Bool.not_true, Bool.not_false, List.all_cons, List.all_nil, Bool.and_true, Bool.not_eq_true, Bool.not_eq_false, Bool.not_eq_true', Bool.not_eq_false', Decidable.not_not]; try simp only [lenL]
  have hp : diskOK (a, b, c, d, ()) = true := hp
  refine ⟨fun h => read_none h, fun h => ⟨idx_bnd h, fun x hx => ⟨idx_bnd (slots_in (diskOK_parts hp).1 hx), fun y hy => read_some (d := (a, b, c, d, ())) h hx hy⟩⟩⟩
end Go.Proofs.YtjkipndhdemnoaaGreatDoor
namespace Go.Fn
open Go.Ab
def addN (all : List Slot) (s : Slot) : List Slot := if slotAt all s.1 < 0 then put s all else all
def allTo (b c : List Slot) (k : Nat) : List Slot := (b.take k).foldl addN c
def allN (b c : List Slot) : List Slot := b.foldl addN c
def namesB (b c : List Slot) : List (List UInt8) := (allN b c).map (fun s => s.1)
theorem slotAt_neg {l : List Slot} {n : List UInt8} : slotAt l n < 0 ↔ ∀ x ∈ l, x.1 ≠ n := by
  unfold slotAt
  constructor
  · intro h x hx e
    unfold idx at h
    split at h
    · exact absurd (Int.natCast_nonneg _) (Int.not_le.2 h)
    · rename_i hf
      have := List.findIdx?_eq_none_iff.1 hf x hx
      unfold nameIs at this
      rw [e] at this
      simp at this
  · intro h
    apply Classical.byContradiction
    intro hn
    obtain ⟨k, x, e, hx, hp, _⟩ := idx_some (p := nameIs n) (xs := l) (fun e => hn (by rw [e]; decide))
    unfold nameIs at hp
    exact h x (List.mem_of_getElem? hx) (by simpa using hp)
theorem put_names {s : Slot} {l : List Slot} (x : List UInt8) : x ∈ (put s l).map (fun s => s.1) ↔ x = s.1 ∨ x ∈ l.map (fun s => s.1) := by
  induction l with
  | nil => simp [put]
  | cons y r ih =>
    unfold put
    split
    · simp only [List.map_cons, List.mem_cons, ih]
      constructor
      · rintro (h | h | h)
        · exact .inr (.inl h)
        · exact .inl h
        · exact .inr (.inr h)
      · rintro (h | h | h)
        · exact .inr (.inl h)
        · exact .inl h
        · exact .inr (.inr h)
    · split
      · rename_i he
        simp only [List.map_cons, List.mem_cons]
        constructor
        · rintro (h | h)
          · exact .inl h
          · exact .inr (.inr h)
        · rintro (h | h | h)
          · exact .inl h
          · exact .inl (h.trans he)
          · exact .inr h
      · simp only [List.map_cons, List.mem_cons]
theorem addN_names {all : List Slot} {s : Slot} (x : List UInt8) : x ∈ (addN all s).map (fun s => s.1) ↔ x = s.1 ∨ x ∈ all.map (fun s => s.1) := by
  unfold addN
  split
  · exact put_names x
  · rename_i h
    constructor
    · exact .inr
    · rintro (rfl | h2)
      · apply Classical.byContradiction
        intro hn
        refine h (slotAt_neg.2 fun y hy e => hn ?_)
        exact List.mem_map.2 ⟨y, hy, e⟩
      · exact h2
theorem addN_sorted {all : List Slot} {s : Slot} (h : SortedN all) : SortedN (addN all s) := by
  unfold addN
  split
  · exact put_sorted h
  · exact h
theorem foldN_sorted : ∀ {b c : List Slot}, SortedN c → SortedN (b.foldl addN c)
  | [], _, h => h
  | s :: r, c, h => foldN_sorted (b := r) (addN_sorted h)
theorem foldN_names (x : List UInt8) : ∀ {b c : List Slot}, x ∈ (b.foldl addN c).map (fun s => s.1) ↔ x ∈ b.map (fun s => s.1) ∨ x ∈ c.map (fun s => s.1)
  | [], c => by simp
  | s :: r, c => by
    rw [List.foldl_cons, foldN_names x (b := r), addN_names]
    simp only [List.map_cons, List.mem_cons]
    constructor
    · rintro (h | h | h)
      · exact .inl (.inr h)
      · exact .inl (.inl h)
      · exact .inr h
    · rintro ((h | h) | h)
      · exact .inr (.inl h)
      · exact .inl h
      · exact .inr (.inr h)
theorem names_sortedT {l : List Slot} (h : SortedN l) : SortedT (l.map (fun s => s.1)) := by
  unfold SortedT
  rw [List.pairwise_map]
  exact h
theorem names_compact {b c : List Slot} {ys : List (List UInt8)} (hc : SortedN c) (hp : ys.Perm ((b ++ c).map (fun s => s.1))) (hw : WeakT ys) : compactL ys = namesB b c := by
  refine sortedT_ext (compact_sorted hw) (names_sortedT (foldN_sorted hc)) fun x => ?_
  rw [compact_mem, hp.mem_iff]
  unfold namesB allN
  rw [foldN_names x, List.map_append, List.mem_append]
theorem all_succ {b c : List Slot} {k : Nat} {x : Slot} (hx : b[k]? = some x) : addN (allTo b c k) x = allTo b c (k + 1) := by
  unfold allTo
  rw [List.take_add_one, hx]; simp
theorem all_end {b c : List Slot} {k : Nat} (h : ¬ k < b.length) : allTo b c k = allN b c := by
  unfold allTo allN
  rw [List.take_of_length_le (by omega)]
theorem addN_len (all : List Slot) (s : Slot) : (addN all s).length ≤ all.length + 1 := by
  unfold addN
  split
  · exact put_len s all
  · omega
theorem all_len (b c : List Slot) : ∀ k, k ≤ b.length → (allTo b c k).length ≤ c.length + k
  | 0, _ => by simp [allTo]
  | k + 1, hk => by
    have ih := all_len b c k (by omega)
    rw [← all_succ (List.getElem?_eq_getElem (show k < b.length by omega))]
    have := addN_len (allTo b c k) b[k]
    omega
end Go.Fn
namespace Go.Fn
open Go.Ab
def idOf (l : List Slot) (n : List UInt8) : Int := if slotAt l n < 0 then 0 else slotId l n
theorem idOf_none {l : List Slot} {n : List UInt8} (h : slotAt l n < 0) : 0 = idOf l n := (if_pos h).symm
theorem idOf_at {l : List Slot} {n : List UInt8} (h : ¬ slotAt l n < 0) {x : Slot} (hx : nthI l (slotAt l n) = some x) : x.2.1 = idOf l n := by unfold idOf slotId; rw [if_neg h, hx]
theorem slot_name {ino : List Inode} {l : List Slot} (h : slotsOK ino l = true) {x : Slot} (hx : x ∈ l) : x.1.length ≤ 12 := by
  unfold slotsOK at h
  obtain ⟨k, hk⟩ := List.mem_iff_getElem?.1 hx
  have := allI_iff.1 h k x hk
  unfold badSlot at this
  simp only [Bool.not_eq_true', Bool.or_eq_false_iff, Bool.not_eq_false'] at this
  have hn := this.1.1
  unfold nameOK within at hn
  simp only [Bool.and_eq_true, decide_eq_true_eq] at hn
  omega
theorem ino_facts {d : Disk} (h : diskOK d = true) {x : Inode} (hx : x ∈ d.1) : 1 ≤ x.1 ∧ x.1 ≤ 1000000 ∧ x.2.1.length ≤ 4096 := by
  have hd := disk_next h
  unfold diskOK at h
  simp only [Bool.and_eq_true] at h
  obtain ⟨k, hk⟩ := List.mem_iff_getElem?.1 hx
  have := allI_iff.1 h.1.2 k x hk
  unfold badInode within at this
  simp only [Bool.not_eq_true', Bool.or_eq_false_iff, Bool.not_eq_false', Bool.and_eq_true, decide_eq_true_eq, decide_eq_false_iff_not] at this
  obtain ⟨⟨⟨⟨h1, h2⟩, _⟩, h3⟩, _⟩ := this
  exact ⟨h1, by omega, by omega⟩
theorem ino_at {a : List Inode} {i : Int} (h : ¬ inodeAt a i < 0) : ∃ x, nthI a (inodeAt a i) = some x ∧ x ∈ a ∧ x.1 = i := by
  obtain ⟨k, x, e, hx, hp, _⟩ := idx_some (p := inodeIs i) (xs := a) (fun e => h (by unfold inodeAt; rw [e]; decide))
  refine ⟨x, ?_, List.mem_of_getElem? hx, of_decide_eq_true hp⟩
  unfold inodeAt nthI
  rw [e]; exact hx
theorem ino_none {d : Disk} (h : diskOK d = true) : inodeAt d.1 0 < 0 := by
  apply Classical.byContradiction
  intro hn
  obtain ⟨x, _, hx, h0⟩ := ino_at hn
  have := (ino_facts h hx).1
  omega
theorem slot_at {l : List Slot} {n : List UInt8} (h : ¬ slotAt l n < 0) : ∃ x, nthI l (slotAt l n) = some x ∧ x ∈ l ∧ x.1 = n := by
  obtain ⟨k, x, e, hx, hp, _⟩ := idx_some (p := nameIs n) (xs := l) (fun e => h (by unfold slotAt; rw [e]; decide))
  refine ⟨x, ?_, List.mem_of_getElem? hx, by unfold nameIs at hp; simpa using hp⟩
  unfold slotAt nthI
  rw [e]; exact hx
theorem slot_ino {d : Disk} {l : List Slot} (h : slotsOK d.1 l = true) {x : Slot} (hx : x ∈ l) : ¬ inodeAt d.1 x.2.1 < 0 := by
  obtain ⟨k, hk⟩ := List.mem_iff_getElem?.1 hx
  exact slots_in h hk
theorem id_ok {d : Disk} (h : diskOK d = true) {l : List Slot} (hl : slotsOK d.1 l = true) {n : List UInt8} (hn : ¬ slotAt l n < 0) : (1 ≤ idOf l n ∧ idOf l n ≤ 1000000) ∧ ¬ inodeAt d.1 (idOf l n) < 0 := by
  obtain ⟨x, e, hx, _⟩ := slot_at hn
  rw [← idOf_at hn e]
  have h1 := slot_ino hl hx
  obtain ⟨y, _, hy, e2⟩ := ino_at h1
  have := ino_facts h hy
  exact ⟨by omega, h1⟩
theorem id_ino {d : Disk} (h : diskOK d = true) {n : List UInt8} : inodeAt d.1 (idOf d.2.1 n) ≥ 0 ↔ ¬ slotAt d.2.1 n < 0 := by
  constructor
  · intro h1 h2
    rw [← idOf_none h2] at h1
    have := ino_none h
    omega
  · intro h1
    have := (id_ok h (diskOK_parts h).1 h1).2
    omega
theorem id_pos {d : Disk} (h : diskOK d = true) {n : List UInt8} : idOf d.2.2.1 n > 0 ↔ ¬ slotAt d.2.2.1 n < 0 := by
  constructor
  · intro h1 h2
    rw [← idOf_none h2] at h1
    omega
  · intro h1
    have := (id_ok h (diskOK_parts h).2 h1).1
    omega
theorem names_in {d : Disk} {n : List UInt8} (h : n ∈ namesB d.2.1 d.2.2.1) : n ∈ d.2.1.map (fun s => s.1) ∨ n ∈ d.2.2.1.map (fun s => s.1) := by
  unfold namesB allN at h
  exact (foldN_names n).1 h
theorem names_12 {d : Disk} (h : diskOK d = true) {n : List UInt8} (hn : n ∈ namesB d.2.1 d.2.2.1) : n.length ≤ 12 := by
  have hp := diskOK_parts h
  rcases names_in hn with h1 | h1 <;> obtain ⟨x, hx, rfl⟩ := List.mem_map.1 h1
  · exact slot_name hp.1 hx
  · exact slot_name hp.2 hx
def inoX (a : List Inode) (i : Int) : Inode := match nthI a (inodeAt a i) with | some x => x | none => (0, [], false, ())
def nowT (n : List UInt8) (x : Inode) : List UInt8 := said [.s n, .s [110, 111, 119], .n x.1, .s [98, 121, 116, 101, 115], .n (iOf (lenL x.2.1))]
def nowS (n : List UInt8) (x : Inode) : List UInt8 := if x.2.2.1 = true then catS (nowT n x) [32, 115, 121, 110, 99, 101, 100] else nowT n x
def lineN (d : Disk) (n : List UInt8) : List UInt8 := if slotAt d.2.1 n < 0 then n else nowS n (inoX d.1 (idOf d.2.1 n))
def lineD (d : Disk) (n : List UInt8) : List UInt8 := if slotAt d.2.2.1 n < 0 then lineN d n else said [.s (lineN d n), .s [115, 97, 102, 101], .n (idOf d.2.2.1 n)]
def linesD (d : Disk) : List (List UInt8) := (namesB d.2.1 d.2.2.1).map (lineD d)
def dskC (d : Disk) : Int := if diskOK d = false then 1 else 0
def dskS (d : Disk) : List (List UInt8) := if diskOK d = false then [] else linesD d
theorem join5 (a b c d e : List UInt8) : joinS [a, b, c, d, e] [32] = a ++ ([32] ++ (b ++ ([32] ++ (c ++ ([32] ++ (d ++ ([32] ++ e))))))) := by simp [joinS, Lib.join, List.intercalate, List.intersperse]
theorem nowT_eq (n : List UInt8) (x : Inode) : nowT n x = n ++ ([32] ++ ([110, 111, 119] ++ ([32] ++ (itoaS x.1 ++ ([32] ++ ([98, 121, 116, 101, 115] ++ ([32] ++ itoaS (iOf (lenL x.2.1))))))))) := join5 _ _ _ _ _
theorem sok_now {n : List UInt8} {x : Inode} (h1 : n.length ≤ 12) (h2 : 1 ≤ x.1 ∧ x.1 ≤ 1000000 ∧ x.2.1.length ≤ 4096) : saidOK [.s n, .s [110, 111, 119], .n x.1, .s [98, 121, 116, 101, 115], .n (iOf (lenL x.2.1))] ∧ (nowT n x).length ≤ 100 := by
  have hi : inI x.1 := by unfold inI; omega
  have hj : inI (iOf (lenL x.2.1)) := inI_len (by unfold lenL; omega)
  have h3 := itoa_len hi
  have h4 := itoa_len hj
  have e : (nowT n x).length ≤ 100 := by
    rw [nowT_eq]
    simp only [List.length_append, List.length_cons, List.length_nil]
    omega
  refine ⟨⟨fun m hm => ?_, Nat.le_trans e (by decide), by simp⟩, e⟩
  simp at hm
  rcases hm with rfl | rfl
  · exact hi
  · exact hj
theorem nowS_len {n : List UInt8} {x : Inode} (h1 : n.length ≤ 12) (h2 : 1 ≤ x.1 ∧ x.1 ≤ 1000000 ∧ x.2.1.length ≤ 4096) : (nowS n x).length ≤ 107 := by
  have := (sok_now h1 h2).2
  unfold nowS
  split
  · unfold catS; simp only [List.length_append, List.length_cons, List.length_nil]; omega
  · omega
theorem ino_x {d : Disk} (h : diskOK d = true) {i : Int} (hi : ¬ inodeAt d.1 i < 0) {x : Inode} (hx : nthI d.1 (inodeAt d.1 i) = some x) : inoX d.1 i = x ∧ x.1 = i ∧ 1 ≤ x.1 ∧ x.1 ≤ 1000000 ∧ x.2.1.length ≤ 4096 := by
  obtain ⟨y, e, hy, ei⟩ := ino_at hi
  rw [e] at hx; cases hx
  refine ⟨?_, ei, ino_facts h hy⟩
  unfold inoX
  rw [e]
theorem lineN_len {d : Disk} (h : diskOK d = true) {n : List UInt8} (hn : n.length ≤ 12) : (lineN d n).length ≤ 107 := by
  unfold lineN
  split
  · omega
  · rename_i hs
    have hi := (id_ok h (diskOK_parts h).1 hs).2
    obtain ⟨y, e, hy, ei⟩ := ino_at hi
    have := ino_x h hi e
    rw [this.1]
    exact nowS_len hn this.2.2
theorem dsk_bad {d : Disk} (h : diskOK d = false) : [] = dskS d ∧ 1 = dskC d := by unfold dskS dskC; rw [if_pos h, if_pos h]; exact ⟨rfl, rfl⟩
theorem dsk_ok {d : Disk} (h : diskOK d = true) : linesD d = dskS d ∧ 0 = dskC d := by unfold dskS dskC; rw [h]; exact ⟨rfl, rfl⟩
end Go.Fn
namespace Go.Fn
open Go.Ab
def manN : List UInt8 := [77, 65, 78, 73, 70, 69, 83, 84]
def nmC (d : Disk) : Int := if readB d manN = false then 5 else rmC (readT d manN)
def nmS (d : Disk) : List (List UInt8) := if readB d manN = false then [] else rmS (readT d manN)
def snC (d : Disk) : Int := if diskOK d = false then 1 else nmC d
def snS (d : Disk) : List (List UInt8) := if diskOK d = false then [] else nmS d
theorem readT_len {d : Disk} (hd : diskOK d = true) (n : List UInt8) : (readT d n).length ≤ 4096 := by
  unfold readT
  split
  · simp
  · rename_i hs
    obtain ⟨x, e, _, _⟩ := slot_at hs
    have e1 := idOf_at hs e
    have hi := (id_ok hd (diskOK_parts hd).1 hs).2
    have e2 : slotId d.2.1 n = idOf d.2.1 n := by unfold idOf; rw [if_neg hs]
    obtain ⟨y, ey, hy, _⟩ := ino_at hi
    rw [e2, ey]
    exact (ino_facts hd hy).2.2
theorem nm_none {d : Disk} (h : readB d manN = false) : [] = nmS d ∧ 5 = nmC d := by
  unfold nmS nmC; rw [if_pos h, if_pos h]; exact ⟨rfl, rfl⟩
theorem nm_some {d : Disk} (h : readB d manN = true) : rmS (readT d manN) = nmS d ∧ rmC (readT d manN) = nmC d := by
  unfold nmS nmC; rw [h]; exact ⟨rfl, rfl⟩
theorem sn_bad {d : Disk} (h : diskOK d = false) : [] = snS d ∧ 1 = snC d := by
  unfold snS snC; rw [if_pos h, if_pos h]; exact ⟨rfl, rfl⟩
theorem sn_ok {d : Disk} (h : diskOK d = true) : nmS d = snS d ∧ nmC d = snC d := by
  unfold snS snC; rw [h]; exact ⟨rfl, rfl⟩
end Go.Fn
namespace Go.Fn
open Go.Ab
def inNames (names : List (List UInt8)) (s : Slot) : Bool := decide (s.1 = manN) || names.any (fun y => decide (y = s.1))
def cleanB (d : Disk) (names : List (List UInt8)) : Bool := d.1.all (fun x => x.2.2.1) && (d.2.1.all (inNames names) && eqL d.2.1 d.2.2.1)
def icB (d : Disk) : Bool := if snC d = 0 then cleanB d (snS d) else false
theorem ic_no {d : Disk} (h : ¬ snC d = 0) : false = icB d := by unfold icB; rw [if_neg h]
theorem ic_yes {d : Disk} (h : snC d = 0) : cleanB d (snS d) = icB d := by unfold icB; rw [if_pos h]
theorem cl_sync {d : Disk} {ns : List (List UInt8)} {k : Nat} {x : Inode} (hx : d.1[k]? = some x) (h : x.2.2.1 = false) : false = cleanB d ns := by
  have : d.1.all (fun x => x.2.2.1) = false := List.all_eq_false.2 ⟨x, List.mem_of_getElem? hx, by rw [h]; exact Bool.false_ne_true⟩
  unfold cleanB; rw [this]; rfl
theorem cl_name {d : Disk} {ns : List (List UInt8)} {k : Nat} {s : Slot} (hx : d.2.1[k]? = some s) (h : inNames ns s = false) : false = cleanB d ns := by
  have : d.2.1.all (inNames ns) = false := List.all_eq_false.2 ⟨s, List.mem_of_getElem? hx, by rw [h]; exact Bool.false_ne_true⟩
  unfold cleanB; rw [this]; simp
theorem cl_end {d : Disk} {ns : List (List UInt8)} {i k : Nat} (h1 : ∀ (j : Nat) (x : Inode), j < i → d.1[j]? = some x → x.2.2.1 = true) (hi : ¬ i < d.1.length) (h2 : ∀ (j : Nat) (s : Slot), j < k → d.2.1[j]? = some s → inNames ns s = true) (hk : ¬ k < d.2.1.length) : eqL d.2.1 d.2.2.1 = cleanB d ns := by
  have a1 : d.1.all (fun x => x.2.2.1) = true := by
    rw [List.all_eq_true]
    intro x hx
    obtain ⟨j, hj⟩ := List.mem_iff_getElem?.1 hx
    have := (List.getElem?_eq_some_iff.1 hj).1
    exact h1 j x (by omega) hj
  have a2 : d.2.1.all (inNames ns) = true := by
    rw [List.all_eq_true]
    intro x hx
    obtain ⟨j, hj⟩ := List.mem_iff_getElem?.1 hx
    have := (List.getElem?_eq_some_iff.1 hj).1
    exact h2 j x (by omega) hj
  unfold cleanB; rw [a1, a2]; rfl
theorem ic_and {a b c d} (h : snC (a, b, c, d, ()) = 0) (h1 : (List.all a fun (y : Inode) => y.2.2.1) = true) (h2 : eqL b c = true) : (List.all b fun (y : Slot) => inNames (snS (a, b, c, d, ())) y) = icB (a, b, c, d, ()) := by
  rw [← ic_yes h]; unfold cleanB
  rw [show (List.all (a, b, c, d, ()).1 fun (x : Inode) => x.2.2.1) = true from h1, show eqL (a, b, c, d, ()).2.1 (a, b, c, d, ()).2.2.1 = true from h2]
  simp
theorem ic_ns {a b c d} (h : snC (a, b, c, d, ()) = 0) (h2 : eqL b c = false) : false = icB (a, b, c, d, ()) := by
  rw [← ic_yes h]; unfold cleanB
  rw [show eqL (a, b, c, d, ()).2.1 (a, b, c, d, ()).2.2.1 = false from h2]
  simp
theorem ic_ni {a b c d} (h : snC (a, b, c, d, ()) = 0) (h1 : (List.all a fun (y : Inode) => y.2.2.1) = false) : false = icB (a, b, c, d, ()) := by
  rw [← ic_yes h]; unfold cleanB
  rw [show (List.all (a, b, c, d, ()).1 fun (x : Inode) => x.2.2.1) = false from h1]
  rfl
theorem ic_bad {d : Disk} (h : diskOK d = false) : false = icB d ∧ 1 = snC d := by
  have e := (sn_bad h).2
  exact ⟨ic_no (by rw [← e]; decide), e⟩
theorem ic_nm {d : Disk} (h : diskOK d = true) (h0 : ¬ nmC d = 0) : false = icB d ∧ nmC d = snC d := by
  have e := (sn_ok h).2
  exact ⟨ic_no (by rw [← e]; exact h0), e⟩
theorem in_man {ns : List (List UInt8)} {x : Slot} (h : x.1 = [77, 65, 78, 73, 70, 69, 83, 84]) : inNames ns x = true := by
  unfold inNames; rw [h]; rfl
theorem in_none {ns : List (List UInt8)} {x : Slot} (h : ¬ x.1 = [77, 65, 78, 73, 70, 69, 83, 84]) (hn : (ns.any fun y => decide (y = x.1)) = false) : inNames ns x = false := by
  unfold inNames; rw [hn, show decide (x.1 = manN) = false from decide_eq_false h]; rfl
theorem in_any {ns : List (List UInt8)} {x : Slot} (hn : (ns.any fun y => decide (y = x.1)) = true) : inNames ns x = true := by
  unfold inNames; rw [hn, Bool.or_true]
theorem in_names {l : List (List UInt8)} {n : List UInt8} {i : Int} : (¬n = [77, 65, 78, 73, 70, 69, 83, 84] → (l.any fun y => decide (y = n)) = inNames l (n, i, ())) ∧ (n = [77, 65, 78, 73, 70, 69, 83, 84] → true = inNames l (n, i, ())) := by
  refine ⟨fun h => ?_, fun h => (in_man h).symm⟩
  unfold inNames
  rw [show decide ((n, i, ()).1 = manN) = false from decide_eq_false h]; rfl
end Go.Fn
namespace Go.Proofs.YtjkipndhdemnoaaGreatDoor
open Go.Ab Go.Fn
def s_nm : FSpec := { ps := [.v tDisk], rs := [.o (.slice .str), .v I], pre := fun x => Fn.diskOK x.1 = true, fn := fun x => (Fn.nmS x.1, Fn.nmC x.1, ()), upd := fun _ => () }
theorem ft_stackNames : FT 40 s_nm := by
  refine foT (specs := [(70, s_read), (71, s_readM)]) (clos := []) (fun x => []) ⟨toT fo_iread, ft_readManifest, trivial⟩ trivial Tryz.func40 rfl rfl ?_
  rintro ⟨⟨a, b, c, d, ⟨⟩⟩, ⟨⟩⟩ hd
  refine vcOf (nat_lit 4 ≤ (Nat.succ (nat_lit 1)).succ.succ ∧ true = true ∧ diskOK (a, b, c, d, ()) = true ∧ ((!readB (a, b, c, d, ()) ((77 : UInt8) :: (65 : UInt8) :: (78 : UInt8) :: (73 : UInt8) :: (70 : UInt8) :: (69 : UInt8) :: (83 : UInt8) :: (84 : UInt8) :: ([] : List UInt8))) = true → (([] : List (List UInt8)), (5 : Int), ()) = (nmS (a, b, c, d, ()), nmC (a, b, c, d, ()), ()) ∧ () = ()) ∧ ((!readB (a, b, c, d, ()) ((77 : UInt8) :: (65 : UInt8) :: (78 : UInt8) :: (73 : UInt8) :: (70 : UInt8) :: (69 : UInt8) :: (83 : UInt8) :: (84 : UInt8) :: ([] : List UInt8))) = false → true = true ∧ (readT (a, b, c, d, ()) ((77 : UInt8) :: (65 : UInt8) :: (78 : UInt8) :: (73 : UInt8) :: (70 : UInt8) :: (69 : UInt8) :: (83 : UInt8) :: (84 : UInt8) :: ([] : List UInt8))).length ≤ (65536 : Nat) ∧ (rmS (readT (a, b, c, d, ()) ((77 : UInt8) :: (65 : UInt8) :: (78 : UInt8) :: (73 : UInt8) :: (70 : UInt8) :: (69 : UInt8) :: (83 : UInt8) :: (84 : UInt8) :: ([] : List UInt8))), rmC (readT (a, b, c, d, ()) ((77 : UInt8) :: (65 : UInt8) :: (78 : UInt8) :: (73 : UInt8) :: (70 : UInt8) :: (69 : UInt8) :: (83 : UInt8) :: (84 : UInt8) :: ([] : List UInt8))), ()) = (nmS (a, b, c, d, ()), nmC (a, b, c, d, ()), ()) ∧ () = ())) (by kernel_rfl) ?_
  simp only [Nat.le_refl, Nat.succ_eq_add_one, Nat.reduceAdd, Nat.reduceLeDiff, Nat.zero_le, pair_unit, mk_eta, len_bne, eqD_bne, bne_iff_ne, bne_eq_false_iff_eq, beq_iff_eq, beq_eq_false_iff_ne, true_and, and_true, and_self, eq_self, lt_iff, nthI_nat, bnd_iff, decide_eq_true_eq, decide_eq_false_iff_not, Nat.sub_eq, nz, ne_eq, not_false_eq_true, Prod.mk.injEq, Int.reduceEq, Nat.reduceEqDiff, forall_const, implies_true, bne_self_eq_false, Bool.true_eq_false, Bool.false_eq_true, false_implies, reduceCtorEq, Bool.not_true, Bool.not_false, List.all_cons, List.all_nil, Bool.and_true, Bool.not_eq_true, Bool.not_eq_false, Bool.not_eq_true', Bool.not_eq_false', Decidable.not_not]; try simp only [lenL]
  have hd : diskOK (a, b, c, d, ()) = true := hd
  exact ⟨hd, fun h => nm_none h, fun h => ⟨Nat.le_trans (readT_len hd _) (by decide), nm_some h⟩⟩
theorem fo_l12Names : FO 66 s_nm := by
  refine fo (specs := [(75, s_read), (93, s_readM)]) (clos := []) (fun x => []) ⟨fo_l11Read, fo_l12ReadManifest, trivial⟩ trivial Tryz.func66 rfl rfl ?_
  rintro ⟨⟨a, b, c, d, ⟨⟩⟩, ⟨⟩⟩ hd
  refine vcOf (nat_lit 4 ≤ (Nat.succ (nat_lit 1)).succ.succ ∧ true = true ∧ diskOK (a, b, c, d, ()) = true ∧ ((!readB (a, b, c, d, ()) ((77 : UInt8) :: (65 : UInt8) :: (78 : UInt8) :: (73 : UInt8) :: (70 : UInt8) :: (69 : UInt8) :: (83 : UInt8) :: (84 : UInt8) :: ([] : List UInt8))) = true → (([] : List (List UInt8)), (5 : Int), ()) = (nmS (a, b, c, d, ()), nmC (a, b, c, d, ()), ()) ∧ () = ()) ∧ ((!readB (a, b, c, d, ()) ((77 : UInt8) :: (65 : UInt8) :: (78 : UInt8) :: (73 : UInt8) :: (70 : UInt8) :: (69 : UInt8) :: (83 : UInt8) :: (84 : UInt8) :: ([] : List UInt8))) = false → true = true ∧ (readT (a, b, c, d, ()) ((77 : UInt8) :: (65 : UInt8) :: (78 : UInt8) :: (73 : UInt8) :: (70 : UInt8) :: (69 : UInt8) :: (83 : UInt8) :: (84 : UInt8) :: ([] : List UInt8))).length ≤ (65536 : Nat) ∧ (rmS (readT (a, b, c, d, ()) ((77 : UInt8) :: (65 : UInt8) :: (78 : UInt8) :: (73 : UInt8) :: (70 : UInt8) :: (69 : UInt8) :: (83 : UInt8) :: (84 : UInt8) :: ([] : List UInt8))), rmC (readT (a, b, c, d, ()) ((77 : UInt8) :: (65 : UInt8) :: (78 : UInt8) :: (73 : UInt8) :: (70 : UInt8) :: (69 : UInt8) :: (83 : UInt8) :: (84 : UInt8) :: ([] : List UInt8))), ()) = (nmS (a, b, c, d, ()), nmC (a, b, c, d, ()), ()) ∧ () = ())) (by kernel_rfl) ?_
  simp only [Nat.le_refl, Nat.succ_eq_add_one, Nat.reduceAdd, Nat.reduceLeDiff, Nat.zero_le, pair_unit, mk_eta, len_bne, eqD_bne, bne_iff_ne, bne_eq_false_iff_eq, beq_iff_eq, beq_eq_false_iff_ne, true_and, and_true, and_self, eq_self, lt_iff, nthI_nat, bnd_iff, decide_eq_true_eq, decide_eq_false_iff_not, Nat.sub_eq, nz, ne_eq, not_false_eq_true, Prod.mk.injEq, Int.reduceEq, Nat.reduceEqDiff, forall_const, implies_true, bne_self_eq_false, Bool.true_eq_false, Bool.false_eq_true, false_implies, reduceCtorEq, Bool.not_true, Bool.not_false, List.all_cons, List.all_nil, Bool.and_true, Bool.not_eq_true, Bool.not_eq_false, Bool.not_eq_true', Bool.not_eq_false', Decidable.not_not]; try simp only [lenL]
  have hd : diskOK (a, b, c, d, ()) = true := hd
  exact ⟨hd, fun h => nm_none h, fun h => ⟨Nat.le_trans (readT_len hd _) (by decide), nm_some h⟩⟩
end Go.Proofs.YtjkipndhdemnoaaGreatDoor
namespace Go.Fn
open Go.Ab
def firstBad : List Int → Int
  | [] => 0
  | c :: r => if c = 0 then firstBad r else c
theorem fb_at {α : Type} {f : α → Int} : ∀ {l : List α} {k : Nat} {x : α}, (∀ j y, j < k → l[j]? = some y → f y = 0) → l[k]? = some x → ¬ f x = 0 → firstBad (l.map f) = f x
  | [], k, x, _, hk, _ => by simp at hk
  | y :: r, 0, x, _, hk, hx => by
    simp only [List.getElem?_cons_zero, Option.some.injEq] at hk; subst hk
    show (if f y = 0 then _ else _) = _
    rw [if_neg hx]
  | y :: r, k + 1, x, h, hk, hx => by
    show (if f y = 0 then firstBad (r.map f) else f y) = _
    rw [if_pos (h 0 y (Nat.succ_pos _) rfl)]
    exact fb_at (fun j z hj hz => h (j + 1) z (Nat.succ_lt_succ hj) (by simpa using hz)) (by simpa using hk) hx
theorem fb_end {α : Type} {f : α → Int} {l : List α} (h : ∀ x, x ∈ l → f x = 0) : firstBad (l.map f) = 0 := by
  induction l with
  | nil => rfl
  | cons y r ih =>
    show (if f y = 0 then firstBad (r.map f) else f y) = _
    rw [if_pos (h y List.mem_cons_self)]
    exact ih fun x hx => h x (List.mem_cons_of_mem _ hx)
def ldOne (d : Disk) (n : List UInt8) : Int := if readB d n = false then 10 else wholeC (readT d n)
def ldC (d : Disk) : Int := if nmC d = 0 then firstBad ((nmS d).map (ldOne d)) else nmC d
def ldS (d : Disk) : List (List Rec) := if ldC d = 0 then (nmS d).map (fun n => wholeL (readT d n)) else []
def LdInv (d : Disk) (q : Nat × List (List Rec)) : Prop := q.1 ≤ (nmS d).length ∧ q.2 = ((nmS d).take q.1).map (fun n => wholeL (readT d n)) ∧ ∀ (j : Nat) (n : List UInt8), j < q.1 → (nmS d)[j]? = some n → ldOne d n = 0
theorem ld_nm {d : Disk} (h : ¬ nmC d = 0) : [] = ldS d ∧ nmC d = ldC d := by
  have e : ldC d = nmC d := by unfold ldC; rw [if_neg h]
  exact ⟨by unfold ldS; rw [if_neg (by rw [e]; exact h)], e.symm⟩
theorem ld_start {d : Disk} : LdInv d (0, []) := ⟨Nat.zero_le _, rfl, fun j _ hj => absurd hj (Nat.not_lt_zero j)⟩
theorem ld_bad {d : Disk} {q : Nat × List (List Rec)} {n : List UInt8} (h0 : nmC d = 0) (hI : LdInv d q) (hn : (nmS d)[q.1]? = some n) (hb : ¬ ldOne d n = 0) : [] = ldS d ∧ ldOne d n = ldC d := by
  have e : ldC d = ldOne d n := by unfold ldC; rw [if_pos h0]; exact fb_at hI.2.2 hn hb
  exact ⟨by unfold ldS; rw [if_neg (by rw [e]; exact hb)], e.symm⟩
theorem ld_none {d : Disk} {q : Nat × List (List Rec)} {n : List UInt8} (h0 : nmC d = 0) (hI : LdInv d q) (hn : (nmS d)[q.1]? = some n) (h : readB d n = false) : [] = ldS d ∧ 10 = ldC d := by
  have e : ldOne d n = 10 := by unfold ldOne; rw [if_pos h]
  have := ld_bad h0 hI hn (by rw [e]; decide)
  rwa [e] at this
theorem ld_code {d : Disk} {q : Nat × List (List Rec)} {n : List UInt8} (h0 : nmC d = 0) (hI : LdInv d q) (hn : (nmS d)[q.1]? = some n) (h : readB d n = true) (hc : ¬ wholeC (readT d n) = 0) : [] = ldS d ∧ wholeC (readT d n) = ldC d := by
  have e : ldOne d n = wholeC (readT d n) := by unfold ldOne; rw [h]; rfl
  have := ld_bad h0 hI hn (by rw [e]; exact hc)
  rwa [e] at this
theorem ld_step {d : Disk} {k : Nat} {out : List (List Rec)} {n : List UInt8} (hI : LdInv d (k, out)) (hn : (nmS d)[k]? = some n) (h : readB d n = true) (hc : wholeC (readT d n) = 0) : LdInv d (k + 1, out ++ [wholeL (readT d n)]) := by
  have hl := (List.getElem?_eq_some_iff.1 hn).1
  refine ⟨hl, ?_, below_succ (P := fun n => ldOne d n = 0) hI.2.2 hn (by unfold ldOne; rw [h]; exact hc)⟩
  have e : out = ((nmS d).take k).map (fun n => wholeL (readT d n)) := hI.2.1
  show out ++ [wholeL (readT d n)] = ((nmS d).take (k + 1)).map (fun n => wholeL (readT d n))
  rw [e, List.take_add_one, hn]; simp
theorem ld_end {d : Disk} {k : Nat} {out : List (List Rec)} (h0 : nmC d = 0) (hI : LdInv d (k, out)) (hk : ¬ k < (nmS d).length) : out = ldS d ∧ 0 = ldC d := by
  have e : ldC d = 0 := by
    unfold ldC; rw [if_pos h0]
    refine fb_end fun x hx => ?_
    obtain ⟨j, hj⟩ := List.mem_iff_getElem?.1 hx
    have := (List.getElem?_eq_some_iff.1 hj).1
    exact hI.2.2 j x (by show j < k; omega) hj
  refine ⟨?_, e.symm⟩
  have e2 : out = ((nmS d).take k).map (fun n => wholeL (readT d n)) := hI.2.1
  unfold ldS; rw [if_pos e, e2, List.take_of_length_le (by omega)]
end Go.Fn
namespace Go.Fn
open Go.Ab
abbrev StepV := Int × List UInt8 × List UInt8 × List UInt8 × Unit
def stSync (n : List UInt8) : StepV := (2, n, [], [], ())
def stRm (n : List UInt8) : StepV := (4, n, [], [], ())
def stDir : StepV := (5, [], [], [], ())
def rmOf (d : Disk) (k : Nat) : List StepV := ((d.2.1.take k).filter (fun s => !inNames (nmS d) s)).map (fun s => stRm s.1)
def rpHead (d : Disk) : List StepV := (nmS d).map stSync ++ [stSync manN, stDir]
def rpB (d : Disk) : List StepV := rpHead d ++ rmOf d d.2.1.length ++ [stDir]
def rpC (d : Disk) : Int := if diskOK d = false then 1 else ldC d
def rpS (d : Disk) : List StepV := if rpC d = 0 then rpB d else []
theorem rp_bad {d : Disk} (h : diskOK d = false) : [] = rpS d ∧ 1 = rpC d := by
  have e : rpC d = 1 := by unfold rpC; rw [if_pos h]
  exact ⟨by unfold rpS; rw [if_neg (by rw [e]; decide)], e.symm⟩
theorem rp_code {d : Disk} (h : diskOK d = true) (hc : ¬ ldC d = 0) : [] = rpS d ∧ ldC d = rpC d := by
  have e : rpC d = ldC d := by unfold rpC; rw [h]; rfl
  exact ⟨by unfold rpS; rw [if_neg (by rw [e]; exact hc)], e.symm⟩
theorem rp_ok {d : Disk} (h : diskOK d = true) (hc : ldC d = 0) : rpB d = rpS d ∧ 0 = rpC d := by
  have e : rpC d = 0 := by unfold rpC; rw [h]; exact hc
  exact ⟨by unfold rpS; rw [if_pos e], e.symm⟩
theorem rm_none {d : Disk} {k : Nat} {s : Slot} (hs : d.2.1[k]? = some s) (h : inNames (nmS d) s = true) : rmOf d (k + 1) = rmOf d k := by
  unfold rmOf; rw [List.take_add_one, hs]; simp [List.filter_append, h]
theorem rm_some {d : Disk} {k : Nat} {s : Slot} (hs : d.2.1[k]? = some s) (h : inNames (nmS d) s = false) : rmOf d (k + 1) = rmOf d k ++ [stRm s.1] := by
  unfold rmOf; rw [List.take_add_one, hs]; simp [List.filter_append, h]
theorem rm_end {d : Disk} {k : Nat} (hk : k ≤ d.2.1.length) (h : ¬ k < d.2.1.length) : rmOf d k = rmOf d d.2.1.length := by
  rw [show k = d.2.1.length from by omega]
theorem any_own {ns : List (List UInt8)} {s : Slot} : ((ns ++ [manN]).any fun y => decide (y = s.1)) = inNames ns s := by
  unfold inNames
  rw [List.any_append, Bool.or_comm]
  congr 1
  simp only [List.any_cons, List.any_nil, Bool.or_false]
  exact decide_eq_decide.2 ⟨Eq.symm, Eq.symm⟩
end Go.Fn
namespace Go.Fn
open Go.Ab
def lsC (d : Disk) : Int := if diskOK d = false then 1 else ldC d
def lsS (d : Disk) : List (List Rec) := if diskOK d = false then [] else ldS d
theorem ls_bad {d : Disk} (h : diskOK d = false) : [] = lsS d ∧ 1 = lsC d := by
  unfold lsS lsC; rw [if_pos h, if_pos h]; exact ⟨rfl, rfl⟩
theorem ls_ok {d : Disk} (h : diskOK d = true) : ldS d = lsS d ∧ ldC d = lsC d := by
  unfold lsS lsC; rw [h]; exact ⟨rfl, rfl⟩
theorem ls_rp {d : Disk} : lsC d = rpC d := rfl
theorem ls_zero {d : Disk} (h : lsC d = 0) : diskOK d = true := by
  cases hd : diskOK d with
  | true => rfl
  | false => rw [← (ls_bad hd).2] at h; cases h
theorem rp_not {d : Disk} (hc : ¬ lsC d = 0) : [] = rpS d ∧ lsC d = rpC d := by
  cases hd : diskOK d with
  | true => rw [← (ls_ok hd).2] at hc ⊢; exact rp_code hd hc
  | false => rw [← (ls_bad hd).2]; exact rp_bad hd
end Go.Fn
namespace Go.Fn
open Go.Ab
theorem nm_five (d : Disk) : (nmS d).length ≤ 5 := by
  unfold nmS
  split
  · simp
  · unfold rmS
    split
    · rename_i h
      unfold rmC at h
      split at h
      · cases h
      · rename_i hf
        have hf : formOK (readT d manN) = true := by
          cases hq : formOK (readT d manN) with
          | true => rfl
          | false => exact absurd hq hf
        unfold formOK at hf
        simp only [Bool.and_eq_true] at hf
        exact (names_ok hf.2.2.1).1
    · simp
theorem slots_24 {d : Disk} (h : diskOK d = true) : d.2.1.length ≤ 24 := by
  unfold diskOK badHead at h
  simp only [Bool.and_eq_true, Bool.not_eq_true', Bool.or_eq_false_iff, decide_eq_false_iff_not] at h
  omega
theorem sync_step {l : List (List UInt8)} {k : Nat} {x : List UInt8} (hx : l[k]? = some x) : (l.take k).map stSync ++ [(2, x, [], [], ())] = (l.take (k + 1)).map stSync := by
  rw [List.take_add_one, hx]; simp [stSync]
theorem sync_len {l : List (List UInt8)} {k : Nat} (h : l.length ≤ 6) : fits (((l.take k).map stSync).length + 1) := by
  unfold fits; rw [List.length_map, List.length_take]; omega
theorem sync_len2 {l : List (List UInt8)} {k : Nat} (h : l.length ≤ 6) : fits (((l.take k).map stSync).length + 2) := by
  unfold fits; rw [List.length_map, List.length_take]; omega
theorem rm_zero (d : Disk) : rmOf d 0 = [] := rfl
theorem rm_len (d : Disk) (k : Nat) : (rmOf d k).length ≤ k := by
  unfold rmOf
  rw [List.length_map]
  exact Nat.le_trans (List.length_filter_le _ _) (List.length_take_le _ _)
theorem rh_len (d : Disk) : (rpHead d).length ≤ 7 := by
  unfold rpHead; have := nm_five d
  simp only [List.length_append, List.length_map, List.length_cons, List.length_nil]; omega
theorem rp_len {d : Disk} {k : Nat} (hk : k ≤ d.2.1.length) (h : diskOK d = true) : fits ((rpHead d ++ rmOf d k).length + 1) := by
  unfold fits; rw [List.length_append]
  have := rm_len d k; have := rh_len d; have := slots_24 h
  omega
theorem rp_mid {d : Disk} {k : Nat} (hk : ¬ k < (nmS d).length) : ((nmS d).take k).map stSync ++ [(2, [77, 65, 78, 73, 70, 69, 83, 84], [], [], ()), (5, [], [], [], ())] = rpHead d ++ rmOf d 0 := by
  rw [List.take_of_length_le (by omega), rm_zero, List.append_nil]; rfl
theorem rp_mid2 {d : Disk} {k : Nat} (hk : ¬ k < (nmS d ++ [manN]).length) : ((nmS d ++ [manN]).take k).map stSync ++ [(5, [], [], [], ())] = rpHead d ++ rmOf d 0 := by
  rw [List.take_of_length_le (by omega), rm_zero, List.append_nil, List.map_append, List.append_assoc]; rfl
theorem rp_rm {d : Disk} {k : Nat} {s : Slot} (hs : d.2.1[k]? = some s) (h : inNames (nmS d) s = false) : rpHead d ++ rmOf d k ++ [(4, s.1, [], [], ())] = rpHead d ++ rmOf d (k + 1) := by
  rw [rm_some hs h, List.append_assoc]; rfl
theorem rp_keep {d : Disk} {k : Nat} {s : Slot} (hs : d.2.1[k]? = some s) (h : inNames (nmS d) s = true) : rpHead d ++ rmOf d k = rpHead d ++ rmOf d (k + 1) := by
  rw [rm_none hs h]
theorem rp_fin {d : Disk} {k : Nat} (hd : diskOK d = true) (hc : ldC d = 0) (hk : k ≤ d.2.1.length) (h : ¬ k < d.2.1.length) : rpHead d ++ rmOf d k ++ [(5, [], [], [], ())] = rpS d ∧ 0 = rpC d := by
  rw [rm_end hk h]; exact rp_ok hd hc
end Go.Fn
namespace Go.Fn
open Go.Ab
def markSt (k : Int) : StepV := (k, markText (k + 1), markText (k + 2), markText (k + 3), ())
theorem at_small3 {d k : Int} {j n : Nat} (hk : kOK k) (hd : 0 ≤ d ∧ d ≤ 16) (hj : j ≤ n) (hf : fits n) : atD d k j + 3 ≤ 9000000000000000 := by
  have := (at_add (e := 3) hk hd hj hf (by omega)).2
  omega
def heldSt (xs : List StepV) (k : Int) : Int := heldL markSt 4 xs k
theorem heldSt_mark {n : Nat} : heldSt (markL markSt 4 n 1) 1 = atD 4 1 n := held_mark markSt 4 n 1
theorem atD4_pos {n : Nat} : ¬ atD 4 1 n < 0 := by unfold atD; simp only [Int.ofNat_eq_natCast]; omega
end Go.Fn
namespace Go.Proofs.YtjkipndhdemnoaaGreatDoor
open Go.Ab Go.Fn
def s_load : FSpec := { ps := [.v tDisk], rs := [.o (.slice (.slice tRec)), .v I], pre := fun x => Fn.diskOK x.1 = true, fn := fun x => (Fn.ldS x.1, Fn.ldC x.1, ()), upd := fun _ => () }
def L_l12Load (d : Fn.Disk) : LoopAnn := { ι := Nat × List (List Fn.Rec), inv := fun q => Fn.LdInv d q, slots := fun q => [(7, .d I (Int.ofNat q.1)), (4, .d (.slice .str) (Fn.nmS d)), (6, .os 3)], objs := fun q => [(3, .arr (.slice tRec) q.2 false)], μ := fun q => (Fn.nmS d).length - q.1, fz := [4] }
theorem fo_l12Load : FO 48 s_load := by
  refine fo (specs := [(66, s_nm), (75, s_read), (76, s_wholeV)]) (clos := []) (fun x => [(6, .lv [1, 4, 6, 7] <| fun _ => L_l12Load x.1)]) ⟨fo_l12Names, fo_l11Read, fo_l09WholeV, trivial⟩ trivial Tryz.func48 rfl rfl ?_
  rintro ⟨⟨a, b, c, d, ⟨⟩⟩, ⟨⟩⟩ hd
  refine vcOf (nat_lit 4 ≤ (Nat.succ (nat_lit 1)).succ.succ ∧ true = true ∧ diskOK (a, b, c, d, ()) = true ∧ ((nmC (a, b, c, d, ()) != (0 : Int)) = true → (([] : List (List (Int × List UInt8 × List UInt8 × Int × Bool × Unit))), nmC (a, b, c, d, ()), ()) = (ldS (a, b, c, d, ()), ldC (a, b, c, d, ()), ()) ∧ () = ()) ∧ ((nmC (a, b, c, d, ()) != (0 : Int)) = false → (∃ (i : Nat × List (List Rec)), LdInv (a, b, c, d, ()) i ∧ ((nat_lit 0 = nat_lit 0 ∧ (0 : Nat) = (0 : Nat)) ∧ nmS (a, b, c, d, ()) = nmS (a, b, c, d, ()) ∧ (Nat.succ (nat_lit 1)).succ = (3 : Nat) ∧ (0 : Int) = Int.ofNat i.fst ∧ True) ∧ ((a = a ∧ b = b ∧ c = c ∧ d = d ∧ True) ∧ (([] : List (List (Int × List UInt8 × List UInt8 × Int × Bool × Unit))) = ([] : List (List (Int × List UInt8 × List UInt8 × Int × Bool × Unit))) ∧ false = false) ∧ True ∧ (([] : List (List (Int × List UInt8 × List UInt8 × Int × Bool × Unit))) = i.snd ∧ false = false) ∧ True) ∧ True) ∧ ∀ (i : Nat × List (List Rec)), LdInv (a, b, c, d, ()) i → fits (lenL (nmS (a, b, c, d, ()))) → (decide (Int.ofNat i.fst < iOf (lenL (nmS (a, b, c, d, ())))) = true → nat_lit 4 ≤ (Nat.succ (nat_lit 1)).succ.succ ∧ bnd (Int.ofNat i.fst) (lenL (nmS (a, b, c, d, ()))) ∧ ∀ (x : List UInt8), nthI (nmS (a, b, c, d, ())) (Int.ofNat i.fst) = some x → nat_lit 1 ≤ nat_lit 1 ∧ true = true ∧ diskOK (a, b, c, d, ()) = true ∧ ((!readB (a, b, c, d, ()) x) = true → (([] : List (List (Int × List UInt8 × List UInt8 × Int × Bool × Unit))), (10 : Int), ()) = (ldS (a, b, c, d, ()), ldC (a, b, c, d, ()), ()) ∧ () = ()) ∧ ((!readB (a, b, c, d, ()) x) = false → true = true ∧ (readT (a, b, c, d, ()) x).length ≤ (100000000 : Nat) ∧ ((wholeC (readT (a, b, c, d, ()) x) != (0 : Int)) = true → (([] : List (List (Int × List UInt8 × List UInt8 × Int × Bool × Unit))), wholeC (readT (a, b, c, d, ()) x), ()) = (ldS (a, b, c, d, ()), ldC (a, b, c, d, ()), ()) ∧ () = ()) ∧ ((wholeC (readT (a, b, c, d, ()) x) != (0 : Int)) = false → fits (lenL i.snd + lenL (wholeL (readT (a, b, c, d, ()) x) :: ([] : List (List (Int × List UInt8 × List UInt8 × Int × Bool × Unit))))) ∧ ∃ (j : Nat × List (List Rec)), LdInv (a, b, c, d, ()) j ∧ (nmS (a, b, c, d, ())).length.sub j.fst < (nmS (a, b, c, d, ())).length.sub i.fst ∧ ((nat_lit 0 = nat_lit 0 ∧ (0 : Nat) = (0 : Nat)) ∧ nmS (a, b, c, d, ()) = nmS (a, b, c, d, ()) ∧ (3 : Nat) = (3 : Nat) ∧ wAdd IntKind.i64 (Int.ofNat i.fst) (1 : Int) = Int.ofNat j.fst ∧ True) ∧ ((a = a ∧ b = b ∧ c = c ∧ d = d ∧ True) ∧ (([] : List (List (Int × List UInt8 × List UInt8 × Int × Bool × Unit))) = ([] : List (List (Int × List UInt8 × List UInt8 × Int × Bool × Unit))) ∧ false = false) ∧ True ∧ (i.snd ++ wholeL (readT (a, b, c, d, ()) x) :: ([] : List (List (Int × List UInt8 × List UInt8 × Int × Bool × Unit))) = j.snd ∧ false = false) ∧ True) ∧ True))) ∧ (decide (Int.ofNat i.fst < iOf (lenL (nmS (a, b, c, d, ())))) = false → (i.snd, (0 : Int), ()) = (ldS (a, b, c, d, ()), ldC (a, b, c, d, ()), ()) ∧ () = ()))) (by kernel_rfl) ?_
  simp only [Nat.le_refl, Nat.succ_eq_add_one, Nat.reduceAdd, Nat.reduceLeDiff, Nat.zero_le, pair_unit, mk_eta, len_bne, eqD_bne, bne_iff_ne, bne_eq_false_iff_eq, beq_iff_eq, beq_eq_false_iff_ne, true_and, and_true, and_self, eq_self, lt_iff, nthI_nat, bnd_iff, decide_eq_true_eq, decide_eq_false_iff_not, Nat.sub_eq, nz, ne_eq, not_false_eq_true, Prod.mk.injEq, Int.reduceEq, Nat.reduceEqDiff, forall_const, implies_true, bne_self_eq_false, Bool.true_eq_false, Bool.false_eq_true, false_implies, reduceCtorEq, Bool.not_true, Bool.not_false, List.all_cons, List.all_nil, Bool.and_true, Bool.not_eq_true, Bool.not_eq_false, Bool.not_eq_true', Bool.not_eq_false', Decidable.not_not]; try simp only [lenL]
  have hd : diskOK (a, b, c, d, ()) = true := hd
  refine ⟨hd, fun h => ld_nm h, fun h0 => ⟨⟨(0, []), ld_start, rfl, rfl⟩, ?_⟩⟩
  rintro ⟨k, out⟩ hI hf
  have hk : k ≤ (nmS (a, b, c, d, ())).length := hI.1
  have ho : out.length ≤ k := by
    have e : out = ((nmS (a, b, c, d, ())).take k).map (fun n => wholeL (readT (a, b, c, d, ()) n)) := hI.2.1
    rw [e, List.length_map, List.length_take]; exact Nat.min_le_left _ _
  refine ⟨fun hlt => ⟨hlt, fun x hx => ⟨hd, fun hr => ld_none (q := (k, out)) h0 hI hx hr, fun hr => ⟨Nat.le_trans (readT_len hd _) (by decide), fun hc => ld_code (q := (k, out)) h0 hI hx hr hc, fun hc => ⟨?_, (k + 1, out ++ [wholeL (readT (a, b, c, d, ()) x)]), ld_step hI hx hr hc, Nat.sub_lt_sub_left hlt (Nat.lt_succ_self k), inc_in hf hk, rfl⟩⟩⟩⟩, fun hge => ld_end h0 hI hge⟩
  have hf : (nmS (a, b, c, d, ())).length < 1099511627776 := hf
  have hlt : k < (nmS (a, b, c, d, ())).length := hlt
  show out.length + 1 < 1099511627776
  omega
end Go.Proofs.YtjkipndhdemnoaaGreatDoor
namespace Go.Proofs.YtjkipndhdemnoaaGreatDoor
open Go.Ab Go.Fn
def L_load (d : Fn.Disk) : LoopAnn := { ι := Nat × List (List Fn.Rec), inv := fun q => Fn.LdInv d q, slots := fun q => [(25, .d I (Int.ofNat q.1)), (23, .d (.slice .str) (Fn.nmS d)), (6, .os 3)], objs := fun q => [(3, .arr (.slice tRec) q.2 false)], μ := fun q => (Fn.nmS d).length - q.1, fz := [4] }
theorem ft_load : FT 50 s_load := by
  refine foT (specs := [(40, s_nm), (70, s_read), (80, s_wholeV)]) (clos := []) (fun x => [(6, .lv [1, 6, 23, 24, 25] <| fun _ => L_load x.1)]) ⟨ft_stackNames, toT fo_iread, toT fo_readLayerV, trivial⟩ trivial Tryz.func50 rfl rfl ?_
  rintro ⟨⟨a, b, c, d, ⟨⟩⟩, ⟨⟩⟩ hd
  refine vcOf (nat_lit 4 ≤ (Nat.succ (nat_lit 1)).succ.succ ∧ true = true ∧ diskOK (a, b, c, d, ()) = true ∧ ((nmC (a, b, c, d, ()) != (0 : Int)) = true → (([] : List (List (Int × List UInt8 × List UInt8 × Int × Bool × Unit))), nmC (a, b, c, d, ()), ()) = (ldS (a, b, c, d, ()), ldC (a, b, c, d, ()), ()) ∧ () = ()) ∧ ((nmC (a, b, c, d, ()) != (0 : Int)) = false → fits (lenL (nmS (a, b, c, d, ()))) → (∃ (i : Nat × List (List Rec)), LdInv (a, b, c, d, ()) i ∧ ((nat_lit 0 = nat_lit 0 ∧ (0 : Nat) = (0 : Nat)) ∧ (Nat.succ (nat_lit 1)).succ = (3 : Nat) ∧ nmS (a, b, c, d, ()) = nmS (a, b, c, d, ()) ∧ iOf (lenL (nmS (a, b, c, d, ()))) = iOf (lenL (nmS (a, b, c, d, ()))) ∧ (0 : Int) = Int.ofNat i.fst ∧ True) ∧ ((a = a ∧ b = b ∧ c = c ∧ d = d ∧ True) ∧ (([] : List (List (Int × List UInt8 × List UInt8 × Int × Bool × Unit))) = ([] : List (List (Int × List UInt8 × List UInt8 × Int × Bool × Unit))) ∧ false = false) ∧ True ∧ (([] : List (List (Int × List UInt8 × List UInt8 × Int × Bool × Unit))) = i.snd ∧ false = false) ∧ True) ∧ True) ∧ ∀ (i : Nat × List (List Rec)), LdInv (a, b, c, d, ()) i → (decide (Int.ofNat i.fst < iOf (lenL (nmS (a, b, c, d, ())))) = true → bnd (Int.ofNat i.fst) (lenL (nmS (a, b, c, d, ()))) ∧ ∀ (x : List UInt8), nthI (nmS (a, b, c, d, ())) (Int.ofNat i.fst) = some x → nat_lit 1 ≤ nat_lit 1 ∧ nat_lit 4 ≤ (Nat.succ (nat_lit 1)).succ.succ ∧ true = true ∧ diskOK (a, b, c, d, ()) = true ∧ ((!readB (a, b, c, d, ()) x) = true → (([] : List (List (Int × List UInt8 × List UInt8 × Int × Bool × Unit))), (10 : Int), ()) = (ldS (a, b, c, d, ()), ldC (a, b, c, d, ()), ()) ∧ () = ()) ∧ ((!readB (a, b, c, d, ()) x) = false → true = true ∧ (readT (a, b, c, d, ()) x).length ≤ (100000000 : Nat) ∧ ((wholeC (readT (a, b, c, d, ()) x) != (0 : Int)) = true → (([] : List (List (Int × List UInt8 × List UInt8 × Int × Bool × Unit))), wholeC (readT (a, b, c, d, ()) x), ()) = (ldS (a, b, c, d, ()), ldC (a, b, c, d, ()), ()) ∧ () = ()) ∧ ((wholeC (readT (a, b, c, d, ()) x) != (0 : Int)) = false → fits (lenL i.snd + lenL (wholeL (readT (a, b, c, d, ()) x) :: ([] : List (List (Int × List UInt8 × List UInt8 × Int × Bool × Unit))))) ∧ ∃ (j : Nat × List (List Rec)), LdInv (a, b, c, d, ()) j ∧ (nmS (a, b, c, d, ())).length.sub j.fst < (nmS (a, b, c, d, ())).length.sub i.fst ∧ ((nat_lit 0 = nat_lit 0 ∧ (0 : Nat) = (0 : Nat)) ∧ (3 : Nat) = (3 : Nat) ∧ nmS (a, b, c, d, ()) = nmS (a, b, c, d, ()) ∧ iOf (lenL (nmS (a, b, c, d, ()))) = iOf (lenL (nmS (a, b, c, d, ()))) ∧ wAdd IntKind.i64 (Int.ofNat i.fst) (1 : Int) = Int.ofNat j.fst ∧ True) ∧ ((a = a ∧ b = b ∧ c = c ∧ d = d ∧ True) ∧ (([] : List (List (Int × List UInt8 × List UInt8 × Int × Bool × Unit))) = ([] : List (List (Int × List UInt8 × List UInt8 × Int × Bool × Unit))) ∧ false = false) ∧ True ∧ (i.snd ++ wholeL (readT (a, b, c, d, ()) x) :: ([] : List (List (Int × List UInt8 × List UInt8 × Int × Bool × Unit))) = j.snd ∧ false = false) ∧ True) ∧ True))) ∧ (decide (Int.ofNat i.fst < iOf (lenL (nmS (a, b, c, d, ())))) = false → (i.snd, (0 : Int), ()) = (ldS (a, b, c, d, ()), ldC (a, b, c, d, ()), ()) ∧ () = ()))) (by kernel_rfl) ?_
  simp only [Nat.le_refl, Nat.succ_eq_add_one, Nat.reduceAdd, Nat.reduceLeDiff, Nat.zero_le, pair_unit, mk_eta, len_bne, eqD_bne, bne_iff_ne, bne_eq_false_iff_eq, beq_iff_eq, beq_eq_false_iff_ne, true_and, and_true, and_self, eq_self, lt_iff, nthI_nat, bnd_iff, decide_eq_true_eq, decide_eq_false_iff_not, Nat.sub_eq, nz, ne_eq, not_false_eq_true, Prod.mk.injEq, Int.reduceEq, Nat.reduceEqDiff, forall_const, implies_true, bne_self_eq_false, Bool.true_eq_false, Bool.false_eq_true, false_implies, reduceCtorEq, Bool.not_true, Bool.not_false, List.all_cons, List.all_nil, Bool.and_true, Bool.not_eq_true, Bool.not_eq_false, Bool.not_eq_true', Bool.not_eq_false', Decidable.not_not]; try simp only [lenL]
  have hd : diskOK (a, b, c, d, ()) = true := hd
  refine ⟨hd, fun h => ld_nm h, fun h0 => fun hf => ⟨⟨(0, []), ld_start, rfl, rfl⟩, ?_⟩⟩
  rintro ⟨k, out⟩ hI
  have hk : k ≤ (nmS (a, b, c, d, ())).length := hI.1
  have ho : out.length ≤ k := by
    have e : out = ((nmS (a, b, c, d, ())).take k).map (fun n => wholeL (readT (a, b, c, d, ()) n)) := hI.2.1
    rw [e, List.length_map, List.length_take]; exact Nat.min_le_left _ _
  refine ⟨fun hlt => ⟨hlt, fun x hx => ⟨hd, fun hr => ld_none (q := (k, out)) h0 hI hx hr, fun hr => ⟨Nat.le_trans (readT_len hd _) (by decide), fun hc => ld_code (q := (k, out)) h0 hI hx hr hc, fun hc => ⟨?_, (k + 1, out ++ [wholeL (readT (a, b, c, d, ()) x)]), ld_step hI hx hr hc, Nat.sub_lt_sub_left hlt (Nat.lt_succ_self k), inc_in hf hk, rfl⟩⟩⟩⟩, fun hge => ld_end h0 hI hge⟩
  have hf : (nmS (a, b, c, d, ())).length < 1099511627776 := hf
  have hlt : k < (nmS (a, b, c, d, ())).length := hlt
  show out.length + 1 < 1099511627776
  omega
end Go.Proofs.YtjkipndhdemnoaaGreatDoor
namespace Go.Proofs.YtjkipndhdemnoaaGreatDoor
open Go.Ab Go.Fn
def s_markInodeS : FSpec := { ps := [.mo tInode, .v I], rs := [.v I], pre := fun x => kOK x.2.1, fn := fun x => (atD 3 x.2.1 (List.length (α := Fn.Inode) x.1), ()), upd := fun x => (markL markI 3 (List.length (α := Fn.Inode) x.1) x.2.1, ()) }
def L_markInodeS (xs : List Fn.Inode) (k : Int) : LoopAnn := { ι := Nat, inv := fun j => j ≤ xs.length, slots := fun j => [(5, .d I (Int.ofNat j)), (1, .d I (atD 3 k j))], objs := fun j => [(0, .arr tInode (markTo markI 3 xs k j) true)], μ := fun j => xs.length - j }
theorem fo_markInodeS : FO 45 s_markInodeS := by
  refine fo (specs := [(47, s_markText)]) (clos := []) (fun x => [(2, .lv [0, 1, 5] <| fun _ => L_markInodeS x.1 x.2.1)]) ⟨fo_markText, trivial⟩ trivial Tryz.func45 rfl rfl ?_
  rintro ⟨xs, k, ⟨⟩⟩ hp
  have hp : kOK k := hp
  refine vcOf ((∃ (i : Nat), i ≤ List.length xs ∧ ((0 : Nat) = (0 : Nat) ∧ k = atD (3 : Int) k i ∧ (0 : Int) = Int.ofNat i ∧ True) ∧ ((xs = markTo markI (3 : Int) xs k i ∧ true = true) ∧ True) ∧ True) ∧ ∀ (i : Nat), i ≤ List.length xs → fits (lenL (markTo markI (3 : Int) xs k i)) → (decide (Int.ofNat i < iOf (lenL (markTo markI (3 : Int) xs k i))) = true → bnd (Int.ofNat i) (lenL (markTo markI (3 : Int) xs k i)) ∧ (nat_lit 1 ≤ nat_lit 3 ∧ tN (Int.ofNat i) < lenL (markTo markI (3 : Int) xs k i)) ∧ ∀ (x : Int × List UInt8 × Bool × Unit), nth (markTo markI (3 : Int) xs k i) (tN (Int.ofNat i)) = some x → true = true ∧ wAdd IntKind.i64 (atD (3 : Int) k i) (1 : Int) ≤ (9000000000000000 : (PTy.v I).den) ∧ bnd (Int.ofNat i) (lenL ((markTo markI (3 : Int) xs k i).set (tN (Int.ofNat i)) (atD (3 : Int) k i, x.snd.fst, x.snd.snd.fst, ()))) ∧ (nat_lit 2 ≤ nat_lit 3 ∧ tN (Int.ofNat i) < lenL ((markTo markI (3 : Int) xs k i).set (tN (Int.ofNat i)) (atD (3 : Int) k i, x.snd.fst, x.snd.snd.fst, ()))) ∧ ∀ (x_1 : Int × List UInt8 × Bool × Unit), nth ((markTo markI (3 : Int) xs k i).set (tN (Int.ofNat i)) (atD (3 : Int) k i, x.snd.fst, x.snd.snd.fst, ())) (tN (Int.ofNat i)) = some x_1 → nz (3 : Int) ∧ bnd (Int.ofNat i) (lenL (((markTo markI (3 : Int) xs k i).set (tN (Int.ofNat i)) (atD (3 : Int) k i, x.snd.fst, x.snd.snd.fst, ())).set (tN (Int.ofNat i)) (x_1.fst, markText (wAdd IntKind.i64 (atD (3 : Int) k i) (1 : Int)), x_1.snd.snd.fst, ()))) ∧ (nat_lit 3 ≤ nat_lit 3 ∧ tN (Int.ofNat i) < lenL (((markTo markI (3 : Int) xs k i).set (tN (Int.ofNat i)) (atD (3 : Int) k i, x.snd.fst, x.snd.snd.fst, ())).set (tN (Int.ofNat i)) (x_1.fst, markText (wAdd IntKind.i64 (atD (3 : Int) k i) (1 : Int)), x_1.snd.snd.fst, ()))) ∧ ∀ (x_2 : Int × List UInt8 × Bool × Unit), nth (((markTo markI (3 : Int) xs k i).set (tN (Int.ofNat i)) (atD (3 : Int) k i, x.snd.fst, x.snd.snd.fst, ())).set (tN (Int.ofNat i)) (x_1.fst, markText (wAdd IntKind.i64 (atD (3 : Int) k i) (1 : Int)), x_1.snd.snd.fst, ())) (tN (Int.ofNat i)) = some x_2 → ∃ (j : Nat), j ≤ List.length xs ∧ (List.length xs).sub j < (List.length xs).sub i ∧ ((0 : Nat) = (0 : Nat) ∧ wAdd IntKind.i64 (wAdd IntKind.i64 (wAdd IntKind.i64 (atD (3 : Int) k i) (1 : Int)) (1 : Int)) (1 : Int) = atD (3 : Int) k j ∧ wAdd IntKind.i64 (Int.ofNat i) (1 : Int) = Int.ofNat j ∧ True) ∧ (((((markTo markI (3 : Int) xs k i).set (tN (Int.ofNat i)) (atD (3 : Int) k i, x.snd.fst, x.snd.snd.fst, ())).set (tN (Int.ofNat i)) (x_1.fst, markText (wAdd IntKind.i64 (atD (3 : Int) k i) (1 : Int)), x_1.snd.snd.fst, ())).set (tN (Int.ofNat i)) (x_2.fst, x_2.snd.fst, wRem (wAdd IntKind.i64 (wAdd IntKind.i64 (atD (3 : Int) k i) (1 : Int)) (1 : Int)) (3 : Int) == (0 : Int), ()) = markTo markI (3 : Int) xs k j ∧ true = true) ∧ True) ∧ True) ∧ (decide (Int.ofNat i < iOf (lenL (markTo markI (3 : Int) xs k i))) = false → (atD (3 : Int) k i, ()) = (atD (3 : Int) k (List.length xs), ()) ∧ (markTo markI (3 : Int) xs k i, ()) = (markL markI (3 : Int) (List.length xs) k, ()))) (by kernel_rfl) ?_
  simp only [Nat.le_refl, Nat.succ_eq_add_one, Nat.reduceAdd, Nat.reduceLeDiff, Nat.zero_le, pair_unit, mk_eta, len_bne, eqD_bne, bne_iff_ne, bne_eq_false_iff_eq, beq_iff_eq, beq_eq_false_iff_ne, true_and, and_true, and_self, eq_self, lt_iff, nthI_nat, bnd_iff, decide_eq_true_eq, decide_eq_false_iff_not, Nat.sub_eq, nz, ne_eq, not_false_eq_true, Prod.mk.injEq, Int.reduceEq, Nat.reduceEqDiff, forall_const, implies_true, bne_self_eq_false, Bool.true_eq_false, Bool.false_eq_true, false_implies, reduceCtorEq, Bool.not_true, Bool.not_false, List.all_cons, List.all_nil, Bool.and_true, Bool.not_eq_true, Bool.not_eq_false, Bool.not_eq_true', Bool.not_eq_false', Decidable.not_not]; try simp only [lenL]
  refine ⟨⟨0, Nat.zero_le _, ⟨atD_zero .., rfl⟩, (markTo_zero ..).symm⟩, fun j hj hf => ⟨fun hlt => ?_, fun hge => ?_⟩⟩
  · have e0 : (markTo markI 3 xs k j).length = List.length xs := markTo_len hj
    have e1 : ∀ y : Fn.Inode, ((markTo markI 3 xs k j).set j y).length = List.length xs := fun y => by rw [List.length_set]; exact e0
    have e2 : ∀ y z : Fn.Inode, (((markTo markI 3 xs k j).set j y).set j z).length = List.length xs := fun y z => by rw [List.length_set]; exact e1 y
    rw [e0] at hlt hf
    have hd : (0 : Int) ≤ 3 ∧ (3 : Int) ≤ 16 := by decide
    simp only [tN_nat, at_add0 hp hd hj hf, at_add1 hp hd hj hf, at_add2 hp hd hj hf]
    refine ⟨e0 ▸ hlt, e0 ▸ hlt, fun x hx => ⟨at_small hp hd hj hf, (e1 _) ▸ hlt, (e1 _) ▸ hlt, fun x1 h1 => ?_⟩⟩
    cases nth_set h1
    refine ⟨(e2 _ _) ▸ hlt, (e2 _ _) ▸ hlt, fun x2 h2 => ?_⟩
    cases nth_set h2
    refine ⟨j + 1, hlt, by omega, ⟨atD_succ 3 k j, inc_in hf hj⟩, ?_⟩
    rw [List.set_set, List.set_set]
    exact markTo_set hlt
  · have hge : ¬ j < List.length xs := by rw [← markTo_len (f := markI) (d := 3) (k := k) hj]; exact hge
    have : j = List.length xs := by omega
    subst this
    exact ⟨rfl, markTo_end hj hge⟩
end Go.Proofs.YtjkipndhdemnoaaGreatDoor
namespace Go.Proofs.YtjkipndhdemnoaaGreatDoor
open Go.Ab Go.Fn
def s_markSlotS : FSpec := { ps := [.mo tSlot, .v I], rs := [.v I], pre := fun x => kOK x.2.1, fn := fun x => (atD 2 x.2.1 (List.length (α := Fn.Slot) x.1), ()), upd := fun x => (markL markS 2 (List.length (α := Fn.Slot) x.1) x.2.1, ()) }
def L_markSlotS (xs : List Fn.Slot) (k : Int) : LoopAnn := { ι := Nat, inv := fun j => j ≤ xs.length, slots := fun j => [(5, .d I (Int.ofNat j)), (1, .d I (atD 2 k j))], objs := fun j => [(0, .arr tSlot (markTo markS 2 xs k j) true)], μ := fun j => xs.length - j }
theorem fo_markSlotS : FO 46 s_markSlotS := by
  refine fo (specs := [(47, s_markText)]) (clos := []) (fun x => [(2, .lv [0, 1, 5] <| fun _ => L_markSlotS x.1 x.2.1)]) ⟨fo_markText, trivial⟩ trivial Tryz.func46 rfl rfl ?_
  rintro ⟨xs, k, ⟨⟩⟩ hp
  have hp : kOK k := hp
  refine vcOf ((∃ (i : Nat), i ≤ List.length xs ∧ ((0 : Nat) = (0 : Nat) ∧ k = atD (2 : Int) k i ∧ (0 : Int) = Int.ofNat i ∧ True) ∧ ((xs = markTo markS (2 : Int) xs k i ∧ true = true) ∧ True) ∧ True) ∧ ∀ (i : Nat), i ≤ List.length xs → fits (lenL (markTo markS (2 : Int) xs k i)) → (decide (Int.ofNat i < iOf (lenL (markTo markS (2 : Int) xs k i))) = true → true = true ∧ atD (2 : Int) k i ≤ (9000000000000000 : (PTy.v I).den) ∧ bnd (Int.ofNat i) (lenL (markTo markS (2 : Int) xs k i)) ∧ (nat_lit 1 ≤ nat_lit 2 ∧ tN (Int.ofNat i) < lenL (markTo markS (2 : Int) xs k i)) ∧ ∀ (x : List UInt8 × Int × Unit), nth (markTo markS (2 : Int) xs k i) (tN (Int.ofNat i)) = some x → bnd (Int.ofNat i) (lenL ((markTo markS (2 : Int) xs k i).set (tN (Int.ofNat i)) (markText (atD (2 : Int) k i), x.snd.fst, ()))) ∧ (nat_lit 2 ≤ nat_lit 2 ∧ tN (Int.ofNat i) < lenL ((markTo markS (2 : Int) xs k i).set (tN (Int.ofNat i)) (markText (atD (2 : Int) k i), x.snd.fst, ()))) ∧ ∀ (x_1 : List UInt8 × Int × Unit), nth ((markTo markS (2 : Int) xs k i).set (tN (Int.ofNat i)) (markText (atD (2 : Int) k i), x.snd.fst, ())) (tN (Int.ofNat i)) = some x_1 → ∃ (j : Nat), j ≤ List.length xs ∧ (List.length xs).sub j < (List.length xs).sub i ∧ ((0 : Nat) = (0 : Nat) ∧ wAdd IntKind.i64 (wAdd IntKind.i64 (atD (2 : Int) k i) (1 : Int)) (1 : Int) = atD (2 : Int) k j ∧ wAdd IntKind.i64 (Int.ofNat i) (1 : Int) = Int.ofNat j ∧ True) ∧ ((((markTo markS (2 : Int) xs k i).set (tN (Int.ofNat i)) (markText (atD (2 : Int) k i), x.snd.fst, ())).set (tN (Int.ofNat i)) (x_1.fst, wAdd IntKind.i64 (atD (2 : Int) k i) (1 : Int), ()) = markTo markS (2 : Int) xs k j ∧ true = true) ∧ True) ∧ True) ∧ (decide (Int.ofNat i < iOf (lenL (markTo markS (2 : Int) xs k i))) = false → (atD (2 : Int) k i, ()) = (atD (2 : Int) k (List.length xs), ()) ∧ (markTo markS (2 : Int) xs k i, ()) = (markL markS (2 : Int) (List.length xs) k, ()))) (by kernel_rfl) ?_
  simp only [Nat.le_refl, Nat.succ_eq_add_one, Nat.reduceAdd, Nat.reduceLeDiff, Nat.zero_le, pair_unit, mk_eta, len_bne, eqD_bne, bne_iff_ne, bne_eq_false_iff_eq, beq_iff_eq, beq_eq_false_iff_ne, true_and, and_true, and_self, eq_self, lt_iff, nthI_nat, bnd_iff, decide_eq_true_eq, decide_eq_false_iff_not, Nat.sub_eq, nz, ne_eq, not_false_eq_true, Prod.mk.injEq, Int.reduceEq, Nat.reduceEqDiff, forall_const, implies_true, bne_self_eq_false, Bool.true_eq_false, Bool.false_eq_true, false_implies, reduceCtorEq, Bool.not_true, Bool.not_false, List.all_cons, List.all_nil, Bool.and_true, Bool.not_eq_true, Bool.not_eq_false, Bool.not_eq_true', Bool.not_eq_false', Decidable.not_not]; try simp only [lenL]
  refine ⟨⟨0, Nat.zero_le _, ⟨atD_zero .., rfl⟩, (markTo_zero ..).symm⟩, fun j hj hf => ⟨fun hlt => ?_, fun hge => ?_⟩⟩
  · have e0 : (markTo markS 2 xs k j).length = List.length xs := markTo_len hj
    have e1 : ∀ y : Fn.Slot, ((markTo markS 2 xs k j).set j y).length = List.length xs := fun y => by rw [List.length_set]; exact e0
    rw [e0] at hlt hf
    have hd : (0 : Int) ≤ 2 ∧ (2 : Int) ≤ 16 := by decide
    simp only [tN_nat, at_add0 hp hd hj hf, at_add1 hp hd hj hf]
    refine ⟨at_le hp hd hj hf, e0 ▸ hlt, e0 ▸ hlt, fun x hx => ⟨(e1 _) ▸ hlt, (e1 _) ▸ hlt, fun x1 h1 => ?_⟩⟩
    cases nth_set h1
    refine ⟨j + 1, hlt, by omega, ⟨atD_succ 2 k j, inc_in hf hj⟩, ?_⟩
    rw [List.set_set]
    exact markTo_set hlt
  · have hge : ¬ j < List.length xs := by rw [← markTo_len (f := markS) (d := 2) (k := k) hj]; exact hge
    have : j = List.length xs := by omega
    subst this
    exact ⟨rfl, markTo_end hj hge⟩
end Go.Proofs.YtjkipndhdemnoaaGreatDoor
namespace Go.Proofs.YtjkipndhdemnoaaGreatDoor
open Go.Ab Go.Fn
def i_markDisk : Inl := inlT (mkE [(45, s_markInodeS), (46, s_markSlotS)] []) (fun _ _ => []) Tryz.f15
theorem in_markDisk : InO 15 i_markDisk := inO (fun _ _ => []) ⟨fo_markInodeS, fo_markSlotS, trivial⟩ trivial trivial Tryz.func15 rfl rfl
end Go.Proofs.YtjkipndhdemnoaaGreatDoor
namespace Go.Proofs.YtjkipndhdemnoaaGreatDoor
open Go.Ab Go.Fn
def s_inStr : FSpec := { ps := [.v (.slice .str), .v .str], rs := [.v .bool], pre := fun _ => True, fn := fun x => (List.any (α := List UInt8) x.1 (fun y => decide (y = x.2.1)), ()), upd := fun _ => () }
def s_idxStr : FSpec := { ps := [.v (.slice .str), .v .str], rs := [.v I], pre := fun _ => True, fn := fun x => (idx (fun y => decide (y = x.2.1)) (x.1 : List (List UInt8)), ()), upd := fun _ => () }
def L_idxStr (l : List (List UInt8)) (t : List UInt8) : LoopAnn := { ι := Nat, inv := fun k => k ≤ l.length ∧ ∀ (j : Nat) (y : List UInt8), j < k → l[j]? = some y → decide (y = t) = false, slots := fun k => [(8, .d I (Int.ofNat k))], objs := fun _ => [], μ := fun k => l.length - k }
theorem fo_IndexStr : FO 72 s_idxStr := by
  refine fo (specs := []) (clos := []) (fun x => [(2, .lv [0, 1, 7, 8] <| fun _ => L_idxStr x.1 x.2.1)]) trivial trivial Tryz.func72 rfl rfl ?_
  rintro ⟨l, t, ⟨⟩⟩ -
  refine vcOf (fits (lenL l) → (∃ (i : Nat), (i ≤ List.length l ∧ ∀ (j : Nat) (y : List UInt8), j < i → l[j]? = some y → decide (y = t) = false) ∧ (l = l ∧ t = t ∧ iOf (lenL l) = iOf (lenL l) ∧ (0 : Int) = Int.ofNat i ∧ True) ∧ True ∧ True) ∧ ∀ (i : Nat), (i ≤ List.length l ∧ ∀ (j : Nat) (y : List UInt8), j < i → l[j]? = some y → decide (y = t) = false) → (decide (Int.ofNat i < iOf (lenL l)) = true → bnd (Int.ofNat i) (lenL l) ∧ ∀ (x : List UInt8), nthI l (Int.ofNat i) = some x → nat_lit 1 ≤ nat_lit 1 ∧ ((t == x) = true → (Int.ofNat i, ()) = (idx (fun (y : List UInt8) => decide (y = t)) l, ()) ∧ () = ()) ∧ ((t == x) = false → ∃ (j : Nat), (j ≤ List.length l ∧ ∀ (j_1 : Nat) (y : List UInt8), j_1 < j → l[j_1]? = some y → decide (y = t) = false) ∧ (List.length l).sub j < (List.length l).sub i ∧ (l = l ∧ t = t ∧ iOf (lenL l) = iOf (lenL l) ∧ wAdd IntKind.i64 (Int.ofNat i) (1 : Int) = Int.ofNat j ∧ True) ∧ True ∧ True)) ∧ (decide (Int.ofNat i < iOf (lenL l)) = false → ((-1 : Int), ()) = (idx (fun (y : List UInt8) => decide (y = t)) l, ()) ∧ () = ())) (by kernel_rfl) ?_
  simp only [Nat.le_refl, Nat.succ_eq_add_one, Nat.reduceAdd, Nat.reduceLeDiff, Nat.zero_le, pair_unit, mk_eta, len_bne, eqD_bne, bne_iff_ne, bne_eq_false_iff_eq, beq_iff_eq, beq_eq_false_iff_ne, true_and, and_true, and_self, eq_self, lt_iff, nthI_nat, bnd_iff, decide_eq_true_eq, decide_eq_false_iff_not, Nat.sub_eq, nz, ne_eq, not_false_eq_true, Prod.mk.injEq, Int.reduceEq, Nat.reduceEqDiff, forall_const, implies_true, bne_self_eq_false, Bool.true_eq_false, Bool.false_eq_true, false_implies, reduceCtorEq, Bool.not_true, Bool.not_false, List.all_cons, List.all_nil, Bool.and_true, Bool.not_eq_true, Bool.not_eq_false, Bool.not_eq_true', Bool.not_eq_false', Decidable.not_not]; try simp only [lenL]
  have hd : ∀ i, (∀ (j : Nat) (y : List UInt8), j < i → l[j]? = some y → ¬y = t) → ∀ (j : Nat) (y : List UInt8), j < i → l[j]? = some y → decide (y = t) = false := fun i h j y hj hy => decide_eq_false (h j y hj hy)
  exact fun hf => ⟨⟨0, ⟨Nat.zero_le _, fun j c hj => absurd hj (Nat.not_lt_zero _)⟩, rfl⟩, fun k ⟨hk, hi⟩ => ⟨fun hlt => ⟨hlt, fun x hx => ⟨fun h => (idx_at (p := fun (y : List UInt8) => decide (y = t)) (hd k hi) hx (decide_eq_true h.symm)).symm, fun h => ⟨k + 1, ⟨hlt, below_succ (P := fun y => ¬ y = t) hi hx (fun e => h e.symm)⟩, by omega, inc_in hf hk⟩⟩⟩, fun hge => (idx_end (p := fun (y : List UInt8) => decide (y = t)) (hd k hi) hge).symm⟩⟩
theorem fo_ContainsStr : FO 41 s_inStr := by
  refine fo (specs := [(72, s_idxStr)]) (clos := []) (fun x => []) ⟨fo_IndexStr, trivial⟩ trivial Tryz.func41 rfl rfl ?_
  rintro ⟨l, t, ⟨⟩⟩ -
  refine vcOf (true = true ∧ True ∧ (decide (idx (fun (y : List UInt8) => decide (y = t)) l ≥ (0 : Int)), ()) = (List.any l fun (y : List UInt8) => decide (y = t), ()) ∧ () = ()) (by kernel_rfl) ?_
  simp only [Nat.le_refl, Nat.succ_eq_add_one, Nat.reduceAdd, Nat.reduceLeDiff, Nat.zero_le, pair_unit, mk_eta, len_bne, eqD_bne, bne_iff_ne, bne_eq_false_iff_eq, beq_iff_eq, beq_eq_false_iff_ne, true_and, and_true, and_self, eq_self, lt_iff, nthI_nat, bnd_iff, decide_eq_true_eq, decide_eq_false_iff_not, Nat.sub_eq, nz, ne_eq, not_false_eq_true, Prod.mk.injEq, Int.reduceEq, Nat.reduceEqDiff, forall_const, implies_true, bne_self_eq_false, Bool.true_eq_false, Bool.false_eq_true, false_implies, reduceCtorEq, Bool.not_true, Bool.not_false, List.all_cons, List.all_nil, Bool.and_true, Bool.not_eq_true, Bool.not_eq_false, Bool.not_eq_true', Bool.not_eq_false', Decidable.not_not]; try simp only [lenL]
  exact idx_nonneg
end Go.Proofs.YtjkipndhdemnoaaGreatDoor
namespace Go.Proofs.YtjkipndhdemnoaaGreatDoor
open Go.Ab Go.Fn
def s_RP : FSpec := { ps := [.v tDisk], rs := [.o (.slice tStep), .v I], pre := fun _ => True, fn := fun x => (Fn.rpS x.1, Fn.rpC x.1, ()), upd := fun _ => () }
def s_rec : FSpec := { ps := [.v tDisk], rs := [.o (.slice tStep), .v I], pre := fun x => Fn.diskOK x.1 = true, fn := fun x => (Fn.rpS x.1, Fn.rpC x.1, ()), upd := fun _ => () }
def L_rc1 (d : Fn.Disk) : LoopAnn := { ι := Nat, inv := fun k => k ≤ (Fn.nmS d).length, slots := fun k => [(9, .d I (Int.ofNat k)), (6, .d (.slice .str) (Fn.nmS d)), (8, .os 4)], objs := fun k => [(4, .arr tStep (((Fn.nmS d).take k).map Fn.stSync) false)], μ := fun k => (Fn.nmS d).length - k, fz := [6] }
def L_rc2 (d : Fn.Disk) : LoopAnn := { ι := Nat, inv := fun k => k ≤ d.2.1.length, slots := fun k => [(10, .d I (Int.ofNat k)), (6, .d (.slice .str) (Fn.nmS d)), (8, .os 4)], objs := fun k => [(4, .arr tStep (Fn.rpHead d ++ Fn.rmOf d k) false)], μ := fun k => d.2.1.length - k, fz := [6] }
theorem fo_l12Recover : FO 37 s_rec := by
  refine fo (specs := [(48, s_load), (66, s_nm), (67, s_hasStr)]) (clos := []) (fun x => [(7, .lv [1, 6, 8, 9] <| fun _ => L_rc1 x.1), (12, .lv [1, 6, 8, 10] <| fun _ => L_rc2 x.1)]) ⟨fo_l12Load, fo_l12Names, fo_l01Has, trivial⟩ trivial Tryz.func37 rfl rfl ?_
  rintro ⟨⟨a, b, c, d, ⟨⟩⟩, ⟨⟩⟩ hd
  refine vcOf (nat_lit 4 ≤ (Nat.succ (nat_lit 1)).succ.succ ∧ true = true ∧ diskOK (a, b, c, d, ()) = true ∧ ((ldC (a, b, c, d, ()) != (0 : Int)) = true → (([] : List (Int × List UInt8 × List UInt8 × List UInt8 × Unit)), ldC (a, b, c, d, ()), ()) = (rpS (a, b, c, d, ()), rpC (a, b, c, d, ()), ()) ∧ () = ()) ∧ ((ldC (a, b, c, d, ()) != (0 : Int)) = false → nat_lit 4 ≤ (Nat.succ (nat_lit 1)).succ.succ ∧ true = true ∧ diskOK (a, b, c, d, ()) = true ∧ (∃ (i : Nat), i ≤ (nmS (a, b, c, d, ())).length ∧ ((nat_lit 0 = nat_lit 0 ∧ (0 : Nat) = (0 : Nat)) ∧ nmS (a, b, c, d, ()) = nmS (a, b, c, d, ()) ∧ (Nat.succ (nat_lit 1)).succ.succ = (4 : Nat) ∧ (0 : Int) = Int.ofNat i ∧ True) ∧ ((a = a ∧ b = b ∧ c = c ∧ d = d ∧ True) ∧ (([] : List (Int × List UInt8 × List UInt8 × List UInt8 × Unit)) = ([] : List (Int × List UInt8 × List UInt8 × List UInt8 × Unit)) ∧ false = false) ∧ (ldS (a, b, c, d, ()) = ldS (a, b, c, d, ()) ∧ false = false) ∧ True ∧ (([] : List (Int × List UInt8 × List UInt8 × List UInt8 × Unit)) = List.map stSync (List.take i (nmS (a, b, c, d, ()))) ∧ false = false) ∧ True) ∧ True) ∧ ∀ (i : Nat), i ≤ (nmS (a, b, c, d, ())).length → fits (lenL (nmS (a, b, c, d, ()))) → (decide (Int.ofNat i < iOf (lenL (nmS (a, b, c, d, ())))) = true → bnd (Int.ofNat i) (lenL (nmS (a, b, c, d, ()))) ∧ ∀ (x : List UInt8), nthI (nmS (a, b, c, d, ())) (Int.ofNat i) = some x → nat_lit 1 ≤ nat_lit 1 ∧ fits (lenL (List.map stSync (List.take i (nmS (a, b, c, d, ())))) + lenL (((2 : Int), x, ([] : List UInt8), ([] : List UInt8), ()) :: ([] : List (Int × List UInt8 × List UInt8 × List UInt8 × Unit)))) ∧ ∃ (j : Nat), j ≤ (nmS (a, b, c, d, ())).length ∧ (nmS (a, b, c, d, ())).length.sub j < (nmS (a, b, c, d, ())).length.sub i ∧ ((nat_lit 0 = nat_lit 0 ∧ (0 : Nat) = (0 : Nat)) ∧ nmS (a, b, c, d, ()) = nmS (a, b, c, d, ()) ∧ (4 : Nat) = (4 : Nat) ∧ wAdd IntKind.i64 (Int.ofNat i) (1 : Int) = Int.ofNat j ∧ True) ∧ ((a = a ∧ b = b ∧ c = c ∧ d = d ∧ True) ∧ (([] : List (Int × List UInt8 × List UInt8 × List UInt8 × Unit)) = ([] : List (Int × List UInt8 × List UInt8 × List UInt8 × Unit)) ∧ false = false) ∧ (ldS (a, b, c, d, ()) = ldS (a, b, c, d, ()) ∧ false = false) ∧ True ∧ (List.map stSync (List.take i (nmS (a, b, c, d, ()))) ++ ((2 : Int), x, ([] : List UInt8), ([] : List UInt8), ()) :: ([] : List (Int × List UInt8 × List UInt8 × List UInt8 × Unit)) = List.map stSync (List.take j (nmS (a, b, c, d, ()))) ∧ false = false) ∧ True) ∧ True) ∧ (decide (Int.ofNat i < iOf (lenL (nmS (a, b, c, d, ())))) = false → fits (lenL (List.map stSync (List.take i (nmS (a, b, c, d, ())))) + lenL (((2 : Int), (77 : UInt8) :: (65 : UInt8) :: (78 : UInt8) :: (73 : UInt8) :: (70 : UInt8) :: (69 : UInt8) :: (83 : UInt8) :: (84 : UInt8) :: ([] : List UInt8), ([] : List UInt8), ([] : List UInt8), ()) :: ((5 : Int), ([] : List UInt8), ([] : List UInt8), ([] : List UInt8), ()) :: ([] : List (Int × List UInt8 × List UInt8 × List UInt8 × Unit)))) ∧ (∃ (i_1 : Nat), i_1 ≤ List.length b ∧ ((nat_lit 0 = nat_lit 0 ∧ (0 : Nat) = (0 : Nat)) ∧ nmS (a, b, c, d, ()) = nmS (a, b, c, d, ()) ∧ (4 : Nat) = (4 : Nat) ∧ (0 : Int) = Int.ofNat i_1 ∧ True) ∧ ((a = a ∧ b = b ∧ c = c ∧ d = d ∧ True) ∧ (([] : List (Int × List UInt8 × List UInt8 × List UInt8 × Unit)) = ([] : List (Int × List UInt8 × List UInt8 × List UInt8 × Unit)) ∧ false = false) ∧ (ldS (a, b, c, d, ()) = ldS (a, b, c, d, ()) ∧ false = false) ∧ True ∧ (List.map stSync (List.take i (nmS (a, b, c, d, ()))) ++ ((2 : Int), (77 : UInt8) :: (65 : UInt8) :: (78 : UInt8) :: (73 : UInt8) :: (70 : UInt8) :: (69 : UInt8) :: (83 : UInt8) :: (84 : UInt8) :: ([] : List UInt8), ([] : List UInt8), ([] : List UInt8), ()) :: ((5 : Int), ([] : List UInt8), ([] : List UInt8), ([] : List UInt8), ()) :: ([] : List (Int × List UInt8 × List UInt8 × List UInt8 × Unit)) = rpHead (a, b, c, d, ()) ++ rmOf (a, b, c, d, ()) i_1 ∧ false = false) ∧ (((2 : Int), (77 : UInt8) :: (65 : UInt8) :: (78 : UInt8) :: (73 : UInt8) :: (70 : UInt8) :: (69 : UInt8) :: (83 : UInt8) :: (84 : UInt8) :: ([] : List UInt8), ([] : List UInt8), ([] : List UInt8), ()) :: ((5 : Int), ([] : List UInt8), ([] : List UInt8), ([] : List UInt8), ()) :: ([] : List (Int × List UInt8 × List UInt8 × List UInt8 × Unit)) = ((2 : Int), (77 : UInt8) :: (65 : UInt8) :: (78 : UInt8) :: (73 : UInt8) :: (70 : UInt8) :: (69 : UInt8) :: (83 : UInt8) :: (84 : UInt8) :: ([] : List UInt8), ([] : List UInt8), ([] : List UInt8), ()) :: ((5 : Int), ([] : List UInt8), ([] : List UInt8), ([] : List UInt8), ()) :: ([] : List (Int × List UInt8 × List UInt8 × List UInt8 × Unit)) ∧ false = false) ∧ True) ∧ True) ∧ ∀ (i : Nat), i ≤ List.length b → nat_lit 2 ≤ (Nat.succ (nat_lit 1)).succ.succ ∧ (fits (lenL b) → (decide (Int.ofNat i < iOf (lenL b)) = true → nat_lit 2 ≤ (Nat.succ (nat_lit 1)).succ.succ ∧ bnd (Int.ofNat i) (lenL b) ∧ ∀ (x : List UInt8 × Int × Unit), nthI b (Int.ofNat i) = some x → nat_lit 1 ≤ Nat.succ (nat_lit 1) ∧ ((!x.fst == (77 : UInt8) :: (65 : UInt8) :: (78 : UInt8) :: (73 : UInt8) :: (70 : UInt8) :: (69 : UInt8) :: (83 : UInt8) :: (84 : UInt8) :: ([] : List UInt8)) = true → nat_lit 2 ≤ (Nat.succ (nat_lit 1)).succ.succ ∧ bnd (Int.ofNat i) (lenL b) ∧ ∀ (x : List UInt8 × Int × Unit), nthI b (Int.ofNat i) = some x → nat_lit 1 ≤ Nat.succ (nat_lit 1) ∧ true = true ∧ True ∧ ((!(nmS (a, b, c, d, ())).any fun (y : List UInt8) => decide (y = x.fst)) = true → nat_lit 2 ≤ (Nat.succ (nat_lit 1)).succ.succ ∧ bnd (Int.ofNat i) (lenL b) ∧ ∀ (x : List UInt8 × Int × Unit), nthI b (Int.ofNat i) = some x → nat_lit 1 ≤ Nat.succ (nat_lit 1) ∧ fits (lenL (rpHead (a, b, c, d, ()) ++ rmOf (a, b, c, d, ()) i) + lenL (((4 : Int), x.fst, ([] : List UInt8), ([] : List UInt8), ()) :: ([] : List (Int × List UInt8 × List UInt8 × List UInt8 × Unit)))) ∧ ∃ (j : Nat), j ≤ List.length b ∧ (List.length b).sub j < (List.length b).sub i ∧ ((nat_lit 0 = nat_lit 0 ∧ (0 : Nat) = (0 : Nat)) ∧ nmS (a, b, c, d, ()) = nmS (a, b, c, d, ()) ∧ (4 : Nat) = (4 : Nat) ∧ wAdd IntKind.i64 (Int.ofNat i) (1 : Int) = Int.ofNat j ∧ True) ∧ ((a = a ∧ b = b ∧ c = c ∧ d = d ∧ True) ∧ (([] : List (Int × List UInt8 × List UInt8 × List UInt8 × Unit)) = ([] : List (Int × List UInt8 × List UInt8 × List UInt8 × Unit)) ∧ false = false) ∧ (ldS (a, b, c, d, ()) = ldS (a, b, c, d, ()) ∧ false = false) ∧ True ∧ (rpHead (a, b, c, d, ()) ++ rmOf (a, b, c, d, ()) i ++ ((4 : Int), x.fst, ([] : List UInt8), ([] : List UInt8), ()) :: ([] : List (Int × List UInt8 × List UInt8 × List UInt8 × Unit)) = rpHead (a, b, c, d, ()) ++ rmOf (a, b, c, d, ()) j ∧ false = false) ∧ (((2 : Int), (77 : UInt8) :: (65 : UInt8) :: (78 : UInt8) :: (73 : UInt8) :: (70 : UInt8) :: (69 : UInt8) :: (83 : UInt8) :: (84 : UInt8) :: ([] : List UInt8), ([] : List UInt8), ([] : List UInt8), ()) :: ((5 : Int), ([] : List UInt8), ([] : List UInt8), ([] : List UInt8), ()) :: ([] : List (Int × List UInt8 × List UInt8 × List UInt8 × Unit)) = ((2 : Int), (77 : UInt8) :: (65 : UInt8) :: (78 : UInt8) :: (73 : UInt8) :: (70 : UInt8) :: (69 : UInt8) :: (83 : UInt8) :: (84 : UInt8) :: ([] : List UInt8), ([] : List UInt8), ([] : List UInt8), ()) :: ((5 : Int), ([] : List UInt8), ([] : List UInt8), ([] : List UInt8), ()) :: ([] : List (Int × List UInt8 × List UInt8 × List UInt8 × Unit)) ∧ false = false) ∧ True) ∧ True) ∧ ((!(nmS (a, b, c, d, ())).any fun (y : List UInt8) => decide (y = x.fst)) = false → ∃ (j : Nat), j ≤ List.length b ∧ (List.length b).sub j < (List.length b).sub i ∧ ((nat_lit 0 = nat_lit 0 ∧ (0 : Nat) = (0 : Nat)) ∧ nmS (a, b, c, d, ()) = nmS (a, b, c, d, ()) ∧ (4 : Nat) = (4 : Nat) ∧ wAdd IntKind.i64 (Int.ofNat i) (1 : Int) = Int.ofNat j ∧ True) ∧ ((a = a ∧ b = b ∧ c = c ∧ d = d ∧ True) ∧ (([] : List (Int × List UInt8 × List UInt8 × List UInt8 × Unit)) = ([] : List (Int × List UInt8 × List UInt8 × List UInt8 × Unit)) ∧ false = false) ∧ (ldS (a, b, c, d, ()) = ldS (a, b, c, d, ()) ∧ false = false) ∧ True ∧ (rpHead (a, b, c, d, ()) ++ rmOf (a, b, c, d, ()) i = rpHead (a, b, c, d, ()) ++ rmOf (a, b, c, d, ()) j ∧ false = false) ∧ (((2 : Int), (77 : UInt8) :: (65 : UInt8) :: (78 : UInt8) :: (73 : UInt8) :: (70 : UInt8) :: (69 : UInt8) :: (83 : UInt8) :: (84 : UInt8) :: ([] : List UInt8), ([] : List UInt8), ([] : List UInt8), ()) :: ((5 : Int), ([] : List UInt8), ([] : List UInt8), ([] : List UInt8), ()) :: ([] : List (Int × List UInt8 × List UInt8 × List UInt8 × Unit)) = ((2 : Int), (77 : UInt8) :: (65 : UInt8) :: (78 : UInt8) :: (73 : UInt8) :: (70 : UInt8) :: (69 : UInt8) :: (83 : UInt8) :: (84 : UInt8) :: ([] : List UInt8), ([] : List UInt8), ([] : List UInt8), ()) :: ((5 : Int), ([] : List UInt8), ([] : List UInt8), ([] : List UInt8), ()) :: ([] : List (Int × List UInt8 × List UInt8 × List UInt8 × Unit)) ∧ false = false) ∧ True) ∧ True)) ∧ ((!x.fst == (77 : UInt8) :: (65 : UInt8) :: (78 : UInt8) :: (73 : UInt8) :: (70 : UInt8) :: (69 : UInt8) :: (83 : UInt8) :: (84 : UInt8) :: ([] : List UInt8)) = false → ∃ (j : Nat), j ≤ List.length b ∧ (List.length b).sub j < (List.length b).sub i ∧ ((nat_lit 0 = nat_lit 0 ∧ (0 : Nat) = (0 : Nat)) ∧ nmS (a, b, c, d, ()) = nmS (a, b, c, d, ()) ∧ (4 : Nat) = (4 : Nat) ∧ wAdd IntKind.i64 (Int.ofNat i) (1 : Int) = Int.ofNat j ∧ True) ∧ ((a = a ∧ b = b ∧ c = c ∧ d = d ∧ True) ∧ (([] : List (Int × List UInt8 × List UInt8 × List UInt8 × Unit)) = ([] : List (Int × List UInt8 × List UInt8 × List UInt8 × Unit)) ∧ false = false) ∧ (ldS (a, b, c, d, ()) = ldS (a, b, c, d, ()) ∧ false = false) ∧ True ∧ (rpHead (a, b, c, d, ()) ++ rmOf (a, b, c, d, ()) i = rpHead (a, b, c, d, ()) ++ rmOf (a, b, c, d, ()) j ∧ false = false) ∧ (((2 : Int), (77 : UInt8) :: (65 : UInt8) :: (78 : UInt8) :: (73 : UInt8) :: (70 : UInt8) :: (69 : UInt8) :: (83 : UInt8) :: (84 : UInt8) :: ([] : List UInt8), ([] : List UInt8), ([] : List UInt8), ()) :: ((5 : Int), ([] : List UInt8), ([] : List UInt8), ([] : List UInt8), ()) :: ([] : List (Int × List UInt8 × List UInt8 × List UInt8 × Unit)) = ((2 : Int), (77 : UInt8) :: (65 : UInt8) :: (78 : UInt8) :: (73 : UInt8) :: (70 : UInt8) :: (69 : UInt8) :: (83 : UInt8) :: (84 : UInt8) :: ([] : List UInt8), ([] : List UInt8), ([] : List UInt8), ()) :: ((5 : Int), ([] : List UInt8), ([] : List UInt8), ([] : List UInt8), ()) :: ([] : List (Int × List UInt8 × List UInt8 × List UInt8 × Unit)) ∧ false = false) ∧ True) ∧ True)) ∧ (decide (Int.ofNat i < iOf (lenL b)) = false → fits (lenL (rpHead (a, b, c, d, ()) ++ rmOf (a, b, c, d, ()) i) + lenL (((5 : Int), ([] : List UInt8), ([] : List UInt8), ([] : List UInt8), ()) :: ([] : List (Int × List UInt8 × List UInt8 × List UInt8 × Unit)))) ∧ (rpHead (a, b, c, d, ()) ++ rmOf (a, b, c, d, ()) i ++ ((5 : Int), ([] : List UInt8), ([] : List UInt8), ([] : List UInt8), ()) :: ([] : List (Int × List UInt8 × List UInt8 × List UInt8 × Unit)), (0 : Int), ()) = (rpS (a, b, c, d, ()), rpC (a, b, c, d, ()), ()) ∧ () = ()))))) (by kernel_rfl) ?_
  simp only [Nat.le_refl, Nat.succ_eq_add_one, Nat.reduceAdd, Nat.reduceLeDiff, Nat.zero_le, pair_unit, mk_eta, len_bne, eqD_bne, bne_iff_ne, bne_eq_false_iff_eq, beq_iff_eq, beq_eq_false_iff_ne, true_and, and_true, and_self, eq_self, lt_iff, nthI_nat, bnd_iff, decide_eq_true_eq, decide_eq_false_iff_not, Nat.sub_eq, nz, ne_eq, not_false_eq_true, Prod.mk.injEq, Int.reduceEq, Nat.reduceEqDiff, forall_const, implies_true, bne_self_eq_false, Bool.true_eq_false, Bool.false_eq_true, false_implies, reduceCtorEq, Bool.not_true, Bool.not_false, List.all_cons, List.all_nil, Bool.and_true, Bool.not_eq_true, Bool.not_eq_false, Bool.not_eq_true', Bool.not_eq_false', Decidable.not_not]; try simp only [lenL]
  have hd : diskOK (a, b, c, d, ()) = true := hd
  have h5 := nm_five (a, b, c, d, ())
  refine ⟨hd, fun h => rp_code hd h, fun h0 => ⟨hd, ⟨0, Nat.zero_le _, rfl, rfl⟩, fun i hi hf => ⟨fun hlt => ⟨hlt, fun x hx => ⟨sync_len (Nat.le_succ_of_le h5), i + 1, hlt, Nat.sub_lt_sub_left hlt (Nat.lt_succ_self i), inc_in hf hi, sync_step hx⟩⟩, fun hge => ⟨sync_len2 (Nat.le_succ_of_le h5), ⟨0, Nat.zero_le _, rfl, rp_mid hge⟩, fun k hk hf2 => ⟨fun hlt => ⟨hlt, fun x hx => ⟨fun hm => ⟨hlt, fun x2 hx2 => ?_⟩, fun hm => ⟨k + 1, hlt, Nat.sub_lt_sub_left hlt (Nat.lt_succ_self k), inc_in hf2 hk, rp_keep (d := (a, b, c, d, ())) hx (in_man hm)⟩⟩⟩, fun hge2 => ⟨rp_len (d := (a, b, c, d, ())) hk hd, rp_fin (d := (a, b, c, d, ())) hd h0 hk hge2⟩⟩⟩⟩⟩⟩
  have e2 : x = x2 := Option.some.inj (hx.symm.trans hx2)
  subst e2
  refine ⟨fun hn => ⟨hlt, fun x3 hx3 => ?_⟩, fun hn => ⟨k + 1, hlt, Nat.sub_lt_sub_left hlt (Nat.lt_succ_self k), inc_in hf2 hk, rp_keep (d := (a, b, c, d, ())) hx (in_any hn)⟩⟩
  have e3 : x = x3 := Option.some.inj (hx.symm.trans hx3)
  subst e3
  exact ⟨rp_len (d := (a, b, c, d, ())) hk hd, k + 1, hlt, Nat.sub_lt_sub_left hlt (Nat.lt_succ_self k), inc_in hf2 hk, rp_rm (d := (a, b, c, d, ())) hx (in_none hm hn)⟩
theorem fo_sRecoverPlan : FO 10 s_RP := by
  refine fo (specs := [(36, s_DiskOK), (37, s_rec)]) (clos := []) (fun x => []) ⟨fo_l11OK, fo_l12Recover, trivial⟩ trivial Tryz.func10 rfl rfl ?_
  rintro ⟨⟨a, b, c, d, ⟨⟩⟩, ⟨⟩⟩ -
  refine vcOf (nat_lit 4 ≤ (Nat.succ (nat_lit 1)).succ.succ ∧ true = true ∧ True ∧ ((!diskOK (a, b, c, d, ())) = true → (([] : List (Int × List UInt8 × List UInt8 × List UInt8 × Unit)), (1 : Int), ()) = (rpS (a, b, c, d, ()), rpC (a, b, c, d, ()), ()) ∧ () = ()) ∧ ((!diskOK (a, b, c, d, ())) = false → nat_lit 4 ≤ (Nat.succ (nat_lit 1)).succ.succ ∧ true = true ∧ diskOK (a, b, c, d, ()) = true ∧ (rpS (a, b, c, d, ()), rpC (a, b, c, d, ()), ()) = (rpS (a, b, c, d, ()), rpC (a, b, c, d, ()), ()) ∧ () = ())) (by kernel_rfl) ?_
  simp only [Nat.le_refl, Nat.succ_eq_add_one, Nat.reduceAdd, Nat.reduceLeDiff, Nat.zero_le, pair_unit, mk_eta, len_bne, eqD_bne, bne_iff_ne, bne_eq_false_iff_eq, beq_iff_eq, beq_eq_false_iff_ne, true_and, and_true, and_self, eq_self, lt_iff, nthI_nat, bnd_iff, decide_eq_true_eq, decide_eq_false_iff_not, Nat.sub_eq, nz, ne_eq, not_false_eq_true, Prod.mk.injEq, Int.reduceEq, Nat.reduceEqDiff, forall_const, implies_true, bne_self_eq_false, Bool.true_eq_false, Bool.false_eq_true, false_implies, reduceCtorEq, Bool.not_true, Bool.not_false, List.all_cons, List.all_nil, Bool.and_true, Bool.not_eq_true, Bool.not_eq_false, Bool.not_eq_true', Bool.not_eq_false', Decidable.not_not]; try simp only [lenL]
  exact ⟨fun h => rp_bad h, fun h => h⟩
end Go.Proofs.YtjkipndhdemnoaaGreatDoor
namespace Go.Proofs.YtjkipndhdemnoaaGreatDoor
open Go.Ab Go.Fn
def s_LS : FSpec := { ps := [.v tDisk], rs := [.o (.slice (.slice tRec)), .v I], pre := fun _ => True, fn := fun x => (Fn.lsS x.1, Fn.lsC x.1, ()), upd := fun _ => () }
theorem ft_LoadStack : FT 19 s_LS := by
  refine foT (specs := [(49, s_DiskOK), (50, s_load)]) (clos := []) (fun x => []) ⟨toT fo_DiskOK, ft_load, trivial⟩ trivial Tryz.func19 rfl rfl ?_
  rintro ⟨⟨a, b, c, d, ⟨⟩⟩, ⟨⟩⟩ -
  refine vcOf (nat_lit 4 ≤ (Nat.succ (nat_lit 1)).succ.succ ∧ true = true ∧ True ∧ ((!diskOK (a, b, c, d, ())) = true → (([] : List (List (Int × List UInt8 × List UInt8 × Int × Bool × Unit))), (1 : Int), ()) = (lsS (a, b, c, d, ()), lsC (a, b, c, d, ()), ()) ∧ () = ()) ∧ ((!diskOK (a, b, c, d, ())) = false → nat_lit 4 ≤ (Nat.succ (nat_lit 1)).succ.succ ∧ true = true ∧ diskOK (a, b, c, d, ()) = true ∧ (ldS (a, b, c, d, ()), ldC (a, b, c, d, ()), ()) = (lsS (a, b, c, d, ()), lsC (a, b, c, d, ()), ()) ∧ () = ())) (by kernel_rfl) ?_
  simp only [Nat.le_refl, Nat.succ_eq_add_one, Nat.reduceAdd, Nat.reduceLeDiff, Nat.zero_le, pair_unit, mk_eta, len_bne, eqD_bne, bne_iff_ne, bne_eq_false_iff_eq, beq_iff_eq, beq_eq_false_iff_ne, true_and, and_true, and_self, eq_self, lt_iff, nthI_nat, bnd_iff, decide_eq_true_eq, decide_eq_false_iff_not, Nat.sub_eq, nz, ne_eq, not_false_eq_true, Prod.mk.injEq, Int.reduceEq, Nat.reduceEqDiff, forall_const, implies_true, bne_self_eq_false, Bool.true_eq_false, Bool.false_eq_true, false_implies, reduceCtorEq, Bool.not_true, Bool.not_false, List.all_cons, List.all_nil, Bool.and_true, Bool.not_eq_true, Bool.not_eq_false, Bool.not_eq_true', Bool.not_eq_false', Decidable.not_not]; try simp only [lenL]
  exact ⟨fun h => ls_bad h, fun h => ⟨h, ls_ok h⟩⟩
end Go.Proofs.YtjkipndhdemnoaaGreatDoor
namespace Go.Proofs.YtjkipndhdemnoaaGreatDoor
open Go.Ab Go.Fn
def L_ri1 (d : Fn.Disk) : LoopAnn := { ι := Nat, inv := fun k => k ≤ (Fn.nmS d ++ [Fn.manN]).length, slots := fun k => [(33, .d I (Int.ofNat k)), (31, .d (.slice .str) (Fn.nmS d ++ [Fn.manN])), (8, .d (.slice .str) (Fn.nmS d ++ [Fn.manN])), (9, .os 5)], objs := fun k => [(5, .arr tStep (((Fn.nmS d ++ [Fn.manN]).take k).map Fn.stSync) false)], μ := fun k => (Fn.nmS d ++ [Fn.manN]).length - k, fz := [8, 31] }
def L_ri2 (d : Fn.Disk) : LoopAnn := { ι := Nat, inv := fun k => k ≤ d.2.1.length, slots := fun k => [(50, .d I (Int.ofNat k)), (8, .d (.slice .str) (Fn.nmS d ++ [Fn.manN])), (9, .os 5)], objs := fun k => [(5, .arr tStep (Fn.rpHead d ++ Fn.rmOf d k) false)], μ := fun k => d.2.1.length - k, fz := [8] }
theorem ft_RecoverPlan : FT 12 s_RP := by
  refine foT (specs := [(19, s_LS), (40, s_nm), (41, s_inStr)]) (clos := []) (fun x => [(8, .lv [1, 8, 9, 31, 32, 33] <| fun _ => L_ri1 x.1), (14, .lv [8, 9, 48, 49, 50] <| fun _ => L_ri2 x.1)]) ⟨ft_LoadStack, ft_stackNames, toT fo_ContainsStr, trivial⟩ trivial Tryz.func12 rfl rfl ?_
  rintro ⟨⟨a, b, c, d, ⟨⟩⟩, ⟨⟩⟩ -
  refine vcOf (nat_lit 4 ≤ (Nat.succ (nat_lit 1)).succ.succ ∧ true = true ∧ True ∧ ((lsC (a, b, c, d, ()) != (0 : Int)) = true → (([] : List (Int × List UInt8 × List UInt8 × List UInt8 × Unit)), lsC (a, b, c, d, ()), ()) = (rpS (a, b, c, d, ()), rpC (a, b, c, d, ()), ()) ∧ () = ()) ∧ ((lsC (a, b, c, d, ()) != (0 : Int)) = false → nat_lit 4 ≤ (Nat.succ (nat_lit 1)).succ.succ ∧ true = true ∧ diskOK (a, b, c, d, ()) = true ∧ fits (lenL (nmS (a, b, c, d, ())) + lenL (((77 : UInt8) :: (65 : UInt8) :: (78 : UInt8) :: (73 : UInt8) :: (70 : UInt8) :: (69 : UInt8) :: (83 : UInt8) :: (84 : UInt8) :: ([] : List UInt8)) :: ([] : List (List UInt8)))) ∧ (fits (lenL (nmS (a, b, c, d, ()) ++ ((77 : UInt8) :: (65 : UInt8) :: (78 : UInt8) :: (73 : UInt8) :: (70 : UInt8) :: (69 : UInt8) :: (83 : UInt8) :: (84 : UInt8) :: ([] : List UInt8)) :: ([] : List (List UInt8)))) → (∃ (i : Nat), i ≤ (nmS (a, b, c, d, ()) ++ manN :: ([] : List (List UInt8))).length ∧ ((nat_lit 0 = nat_lit 0 ∧ (0 : Nat) = (0 : Nat)) ∧ nmS (a, b, c, d, ()) ++ ((77 : UInt8) :: (65 : UInt8) :: (78 : UInt8) :: (73 : UInt8) :: (70 : UInt8) :: (69 : UInt8) :: (83 : UInt8) :: (84 : UInt8) :: ([] : List UInt8)) :: ([] : List (List UInt8)) = nmS (a, b, c, d, ()) ++ manN :: ([] : List (List UInt8)) ∧ (Nat.succ (nat_lit 2)).succ.succ = (5 : Nat) ∧ nmS (a, b, c, d, ()) ++ ((77 : UInt8) :: (65 : UInt8) :: (78 : UInt8) :: (73 : UInt8) :: (70 : UInt8) :: (69 : UInt8) :: (83 : UInt8) :: (84 : UInt8) :: ([] : List UInt8)) :: ([] : List (List UInt8)) = nmS (a, b, c, d, ()) ++ manN :: ([] : List (List UInt8)) ∧ iOf (lenL (nmS (a, b, c, d, ()) ++ ((77 : UInt8) :: (65 : UInt8) :: (78 : UInt8) :: (73 : UInt8) :: (70 : UInt8) :: (69 : UInt8) :: (83 : UInt8) :: (84 : UInt8) :: ([] : List UInt8)) :: ([] : List (List UInt8)))) = iOf (lenL (nmS (a, b, c, d, ()) ++ ((77 : UInt8) :: (65 : UInt8) :: (78 : UInt8) :: (73 : UInt8) :: (70 : UInt8) :: (69 : UInt8) :: (83 : UInt8) :: (84 : UInt8) :: ([] : List UInt8)) :: ([] : List (List UInt8)))) ∧ (0 : Int) = Int.ofNat i ∧ True) ∧ ((a = a ∧ b = b ∧ c = c ∧ d = d ∧ True) ∧ (([] : List (Int × List UInt8 × List UInt8 × List UInt8 × Unit)) = ([] : List (Int × List UInt8 × List UInt8 × List UInt8 × Unit)) ∧ false = false) ∧ (lsS (a, b, c, d, ()) = lsS (a, b, c, d, ()) ∧ false = false) ∧ True ∧ (((77 : UInt8) :: (65 : UInt8) :: (78 : UInt8) :: (73 : UInt8) :: (70 : UInt8) :: (69 : UInt8) :: (83 : UInt8) :: (84 : UInt8) :: ([] : List UInt8)) :: ([] : List (List UInt8)) = ((77 : UInt8) :: (65 : UInt8) :: (78 : UInt8) :: (73 : UInt8) :: (70 : UInt8) :: (69 : UInt8) :: (83 : UInt8) :: (84 : UInt8) :: ([] : List UInt8)) :: ([] : List (List UInt8)) ∧ false = false) ∧ (([] : List (Int × List UInt8 × List UInt8 × List UInt8 × Unit)) = List.map stSync (List.take i (nmS (a, b, c, d, ()) ++ manN :: ([] : List (List UInt8)))) ∧ false = false) ∧ True) ∧ True) ∧ ∀ (i : Nat), i ≤ (nmS (a, b, c, d, ()) ++ manN :: ([] : List (List UInt8))).length → (decide (Int.ofNat i < iOf (lenL (nmS (a, b, c, d, ()) ++ ((77 : UInt8) :: (65 : UInt8) :: (78 : UInt8) :: (73 : UInt8) :: (70 : UInt8) :: (69 : UInt8) :: (83 : UInt8) :: (84 : UInt8) :: ([] : List UInt8)) :: ([] : List (List UInt8))))) = true → bnd (Int.ofNat i) (lenL (nmS (a, b, c, d, ()) ++ manN :: ([] : List (List UInt8)))) ∧ ∀ (x : List UInt8), nthI (nmS (a, b, c, d, ()) ++ manN :: ([] : List (List UInt8))) (Int.ofNat i) = some x → nat_lit 1 ≤ nat_lit 1 ∧ fits (lenL (List.map stSync (List.take i (nmS (a, b, c, d, ()) ++ manN :: ([] : List (List UInt8))))) + lenL (((2 : Int), x, ([] : List UInt8), ([] : List UInt8), ()) :: ([] : List (Int × List UInt8 × List UInt8 × List UInt8 × Unit)))) ∧ ∃ (j : Nat), j ≤ (nmS (a, b, c, d, ()) ++ manN :: ([] : List (List UInt8))).length ∧ (nmS (a, b, c, d, ()) ++ manN :: ([] : List (List UInt8))).length.sub j < (nmS (a, b, c, d, ()) ++ manN :: ([] : List (List UInt8))).length.sub i ∧ ((nat_lit 0 = nat_lit 0 ∧ (0 : Nat) = (0 : Nat)) ∧ nmS (a, b, c, d, ()) ++ manN :: ([] : List (List UInt8)) = nmS (a, b, c, d, ()) ++ manN :: ([] : List (List UInt8)) ∧ (5 : Nat) = (5 : Nat) ∧ nmS (a, b, c, d, ()) ++ manN :: ([] : List (List UInt8)) = nmS (a, b, c, d, ()) ++ manN :: ([] : List (List UInt8)) ∧ iOf (lenL (nmS (a, b, c, d, ()) ++ ((77 : UInt8) :: (65 : UInt8) :: (78 : UInt8) :: (73 : UInt8) :: (70 : UInt8) :: (69 : UInt8) :: (83 : UInt8) :: (84 : UInt8) :: ([] : List UInt8)) :: ([] : List (List UInt8)))) = iOf (lenL (nmS (a, b, c, d, ()) ++ ((77 : UInt8) :: (65 : UInt8) :: (78 : UInt8) :: (73 : UInt8) :: (70 : UInt8) :: (69 : UInt8) :: (83 : UInt8) :: (84 : UInt8) :: ([] : List UInt8)) :: ([] : List (List UInt8)))) ∧ wAdd IntKind.i64 (Int.ofNat i) (1 : Int) = Int.ofNat j ∧ True) ∧ ((a = a ∧ b = b ∧ c = c ∧ d = d ∧ True) ∧ (([] : List (Int × List UInt8 × List UInt8 × List UInt8 × Unit)) = ([] : List (Int × List UInt8 × List UInt8 × List UInt8 × Unit)) ∧ false = false) ∧ (lsS (a, b, c, d, ()) = lsS (a, b, c, d, ()) ∧ false = false) ∧ True ∧ (((77 : UInt8) :: (65 : UInt8) :: (78 : UInt8) :: (73 : UInt8) :: (70 : UInt8) :: (69 : UInt8) :: (83 : UInt8) :: (84 : UInt8) :: ([] : List UInt8)) :: ([] : List (List UInt8)) = ((77 : UInt8) :: (65 : UInt8) :: (78 : UInt8) :: (73 : UInt8) :: (70 : UInt8) :: (69 : UInt8) :: (83 : UInt8) :: (84 : UInt8) :: ([] : List UInt8)) :: ([] : List (List UInt8)) ∧ false = false) ∧ (List.map stSync (List.take i (nmS (a, b, c, d, ()) ++ manN :: ([] : List (List UInt8)))) ++ ((2 : Int), x, ([] : List UInt8), ([] : List UInt8), ()) :: ([] : List (Int × List UInt8 × List UInt8 × List UInt8 × Unit)) = List.map stSync (List.take j (nmS (a, b, c, d, ()) ++ manN :: ([] : List (List UInt8)))) ∧ false = false) ∧ True) ∧ True) ∧ (decide (Int.ofNat i < iOf (lenL (nmS (a, b, c, d, ()) ++ ((77 : UInt8) :: (65 : UInt8) :: (78 : UInt8) :: (73 : UInt8) :: (70 : UInt8) :: (69 : UInt8) :: (83 : UInt8) :: (84 : UInt8) :: ([] : List UInt8)) :: ([] : List (List UInt8))))) = false → fits (lenL (List.map stSync (List.take i (nmS (a, b, c, d, ()) ++ manN :: ([] : List (List UInt8))))) + lenL (((5 : Int), ([] : List UInt8), ([] : List UInt8), ([] : List UInt8), ()) :: ([] : List (Int × List UInt8 × List UInt8 × List UInt8 × Unit)))) ∧ nat_lit 2 ≤ (Nat.succ (nat_lit 1)).succ.succ ∧ (fits (lenL b) → (∃ (i_1 : Nat), i_1 ≤ List.length b ∧ (nmS (a, b, c, d, ()) ++ manN :: ([] : List (List UInt8)) = nmS (a, b, c, d, ()) ++ manN :: ([] : List (List UInt8)) ∧ (5 : Nat) = (5 : Nat) ∧ b = b ∧ iOf (lenL b) = iOf (lenL b) ∧ (0 : Int) = Int.ofNat i_1 ∧ True) ∧ ((a = a ∧ b = b ∧ c = c ∧ d = d ∧ True) ∧ (([] : List (Int × List UInt8 × List UInt8 × List UInt8 × Unit)) = ([] : List (Int × List UInt8 × List UInt8 × List UInt8 × Unit)) ∧ false = false) ∧ (lsS (a, b, c, d, ()) = lsS (a, b, c, d, ()) ∧ false = false) ∧ True ∧ (((77 : UInt8) :: (65 : UInt8) :: (78 : UInt8) :: (73 : UInt8) :: (70 : UInt8) :: (69 : UInt8) :: (83 : UInt8) :: (84 : UInt8) :: ([] : List UInt8)) :: ([] : List (List UInt8)) = ((77 : UInt8) :: (65 : UInt8) :: (78 : UInt8) :: (73 : UInt8) :: (70 : UInt8) :: (69 : UInt8) :: (83 : UInt8) :: (84 : UInt8) :: ([] : List UInt8)) :: ([] : List (List UInt8)) ∧ false = false) ∧ (List.map stSync (List.take i (nmS (a, b, c, d, ()) ++ manN :: ([] : List (List UInt8)))) ++ ((5 : Int), ([] : List UInt8), ([] : List UInt8), ([] : List UInt8), ()) :: ([] : List (Int × List UInt8 × List UInt8 × List UInt8 × Unit)) = rpHead (a, b, c, d, ()) ++ rmOf (a, b, c, d, ()) i_1 ∧ false = false) ∧ (((5 : Int), ([] : List UInt8), ([] : List UInt8), ([] : List UInt8), ()) :: ([] : List (Int × List UInt8 × List UInt8 × List UInt8 × Unit)) = ((5 : Int), ([] : List UInt8), ([] : List UInt8), ([] : List UInt8), ()) :: ([] : List (Int × List UInt8 × List UInt8 × List UInt8 × Unit)) ∧ false = false) ∧ True) ∧ True) ∧ ∀ (i : Nat), i ≤ List.length b → (decide (Int.ofNat i < iOf (lenL b)) = true → bnd (Int.ofNat i) (lenL b) ∧ ∀ (x : List UInt8 × Int × Unit), nthI b (Int.ofNat i) = some x → nat_lit 2 ≤ Nat.succ (nat_lit 1) ∧ nat_lit 2 ≤ nat_lit 2 ∧ nat_lit 1 ≤ Nat.succ (nat_lit 1) ∧ true = true ∧ True ∧ ((!(nmS (a, b, c, d, ()) ++ manN :: ([] : List (List UInt8))).any fun (y : List UInt8) => decide (y = x.fst)) = true → nat_lit 1 ≤ Nat.succ (nat_lit 1) ∧ fits (lenL (rpHead (a, b, c, d, ()) ++ rmOf (a, b, c, d, ()) i) + lenL (((4 : Int), x.fst, ([] : List UInt8), ([] : List UInt8), ()) :: ([] : List (Int × List UInt8 × List UInt8 × List UInt8 × Unit)))) ∧ ∃ (j : Nat), j ≤ List.length b ∧ (List.length b).sub j < (List.length b).sub i ∧ (nmS (a, b, c, d, ()) ++ manN :: ([] : List (List UInt8)) = nmS (a, b, c, d, ()) ++ manN :: ([] : List (List UInt8)) ∧ (5 : Nat) = (5 : Nat) ∧ b = b ∧ iOf (lenL b) = iOf (lenL b) ∧ wAdd IntKind.i64 (Int.ofNat i) (1 : Int) = Int.ofNat j ∧ True) ∧ ((a = a ∧ b = b ∧ c = c ∧ d = d ∧ True) ∧ (([] : List (Int × List UInt8 × List UInt8 × List UInt8 × Unit)) = ([] : List (Int × List UInt8 × List UInt8 × List UInt8 × Unit)) ∧ false = false) ∧ (lsS (a, b, c, d, ()) = lsS (a, b, c, d, ()) ∧ false = false) ∧ True ∧ (((77 : UInt8) :: (65 : UInt8) :: (78 : UInt8) :: (73 : UInt8) :: (70 : UInt8) :: (69 : UInt8) :: (83 : UInt8) :: (84 : UInt8) :: ([] : List UInt8)) :: ([] : List (List UInt8)) = ((77 : UInt8) :: (65 : UInt8) :: (78 : UInt8) :: (73 : UInt8) :: (70 : UInt8) :: (69 : UInt8) :: (83 : UInt8) :: (84 : UInt8) :: ([] : List UInt8)) :: ([] : List (List UInt8)) ∧ false = false) ∧ (rpHead (a, b, c, d, ()) ++ rmOf (a, b, c, d, ()) i ++ ((4 : Int), x.fst, ([] : List UInt8), ([] : List UInt8), ()) :: ([] : List (Int × List UInt8 × List UInt8 × List UInt8 × Unit)) = rpHead (a, b, c, d, ()) ++ rmOf (a, b, c, d, ()) j ∧ false = false) ∧ (((5 : Int), ([] : List UInt8), ([] : List UInt8), ([] : List UInt8), ()) :: ([] : List (Int × List UInt8 × List UInt8 × List UInt8 × Unit)) = ((5 : Int), ([] : List UInt8), ([] : List UInt8), ([] : List UInt8), ()) :: ([] : List (Int × List UInt8 × List UInt8 × List UInt8 × Unit)) ∧ false = false) ∧ True) ∧ True) ∧ ((!(nmS (a, b, c, d, ()) ++ manN :: ([] : List (List UInt8))).any fun (y : List UInt8) => decide (y = x.fst)) = false → ∃ (j : Nat), j ≤ List.length b ∧ (List.length b).sub j < (List.length b).sub i ∧ (nmS (a, b, c, d, ()) ++ manN :: ([] : List (List UInt8)) = nmS (a, b, c, d, ()) ++ manN :: ([] : List (List UInt8)) ∧ (5 : Nat) = (5 : Nat) ∧ b = b ∧ iOf (lenL b) = iOf (lenL b) ∧ wAdd IntKind.i64 (Int.ofNat i) (1 : Int) = Int.ofNat j ∧ True) ∧ ((a = a ∧ b = b ∧ c = c ∧ d = d ∧ True) ∧ (([] : List (Int × List UInt8 × List UInt8 × List UInt8 × Unit)) = ([] : List (Int × List UInt8 × List UInt8 × List UInt8 × Unit)) ∧ false = false) ∧ (lsS (a, b, c, d, ()) = lsS (a, b, c, d, ()) ∧ false = false) ∧ True ∧ (((77 : UInt8) :: (65 : UInt8) :: (78 : UInt8) :: (73 : UInt8) :: (70 : UInt8) :: (69 : UInt8) :: (83 : UInt8) :: (84 : UInt8) :: ([] : List UInt8)) :: ([] : List (List UInt8)) = ((77 : UInt8) :: (65 : UInt8) :: (78 : UInt8) :: (73 : UInt8) :: (70 : UInt8) :: (69 : UInt8) :: (83 : UInt8) :: (84 : UInt8) :: ([] : List UInt8)) :: ([] : List (List UInt8)) ∧ false = false) ∧ (rpHead (a, b, c, d, ()) ++ rmOf (a, b, c, d, ()) i = rpHead (a, b, c, d, ()) ++ rmOf (a, b, c, d, ()) j ∧ false = false) ∧ (((5 : Int), ([] : List UInt8), ([] : List UInt8), ([] : List UInt8), ()) :: ([] : List (Int × List UInt8 × List UInt8 × List UInt8 × Unit)) = ((5 : Int), ([] : List UInt8), ([] : List UInt8), ([] : List UInt8), ()) :: ([] : List (Int × List UInt8 × List UInt8 × List UInt8 × Unit)) ∧ false = false) ∧ True) ∧ True)) ∧ (decide (Int.ofNat i < iOf (lenL b)) = false → fits (lenL (rpHead (a, b, c, d, ()) ++ rmOf (a, b, c, d, ()) i) + lenL (((5 : Int), ([] : List UInt8), ([] : List UInt8), ([] : List UInt8), ()) :: ([] : List (Int × List UInt8 × List UInt8 × List UInt8 × Unit)))) ∧ (rpHead (a, b, c, d, ()) ++ rmOf (a, b, c, d, ()) i ++ ((5 : Int), ([] : List UInt8), ([] : List UInt8), ([] : List UInt8), ()) :: ([] : List (Int × List UInt8 × List UInt8 × List UInt8 × Unit)), (0 : Int), ()) = (rpS (a, b, c, d, ()), rpC (a, b, c, d, ()), ()) ∧ () = ())))))) (by kernel_rfl) ?_
  simp only [Nat.le_refl, Nat.succ_eq_add_one, Nat.reduceAdd, Nat.reduceLeDiff, Nat.zero_le, pair_unit, mk_eta, len_bne, eqD_bne, bne_iff_ne, bne_eq_false_iff_eq, beq_iff_eq, beq_eq_false_iff_ne, true_and, and_true, and_self, eq_self, lt_iff, nthI_nat, bnd_iff, decide_eq_true_eq, decide_eq_false_iff_not, Nat.sub_eq, nz, ne_eq, not_false_eq_true, Prod.mk.injEq, Int.reduceEq, Nat.reduceEqDiff, forall_const, implies_true, bne_self_eq_false, Bool.true_eq_false, Bool.false_eq_true, false_implies, reduceCtorEq, Bool.not_true, Bool.not_false, List.all_cons, List.all_nil, Bool.and_true, Bool.not_eq_true, Bool.not_eq_false, Bool.not_eq_true', Bool.not_eq_false', Decidable.not_not]; try simp only [lenL]
  have h5 := nm_five (a, b, c, d, ())
  have hl : (nmS (a, b, c, d, ()) ++ [manN]).length ≤ 6 := by rw [List.length_append]; exact Nat.succ_le_succ h5
  refine ⟨fun h => rp_not h, fun h0 => ?_⟩
  have hd := ls_zero h0
  have hc : ldC (a, b, c, d, ()) = 0 := (ls_ok hd).2.trans h0
  refine ⟨hd, show (nmS (a, b, c, d, ())).length + 1 < 1099511627776 by omega, fun hf => ⟨⟨0, Nat.zero_le _, ⟨rfl, rfl, rfl⟩, rfl⟩, fun i hi => ⟨fun hlt => ⟨hlt, fun x hx => ⟨sync_len hl, i + 1, hlt, Nat.sub_lt_sub_left hlt (Nat.lt_succ_self i), inc_in hf hi, sync_step hx⟩⟩, fun hge => ⟨sync_len hl, fun hf2 => ⟨⟨0, Nat.zero_le _, rfl, rp_mid2 hge⟩, fun k hk => ⟨fun hlt => ⟨hlt, fun x hx => ⟨fun hn => ⟨rp_len (d := (a, b, c, d, ())) hk hd, k + 1, hlt, Nat.sub_lt_sub_left hlt (Nat.lt_succ_self k), inc_in hf2 hk, rp_rm (d := (a, b, c, d, ())) hx (any_own.symm.trans hn)⟩, fun hn => ⟨k + 1, hlt, Nat.sub_lt_sub_left hlt (Nat.lt_succ_self k), inc_in hf2 hk, rp_keep (d := (a, b, c, d, ())) hx (any_own.symm.trans hn)⟩⟩⟩, fun hge2 => ⟨rp_len (d := (a, b, c, d, ())) hk hd, rp_fin (d := (a, b, c, d, ())) hd hc hk hge2⟩⟩⟩⟩⟩⟩⟩
end Go.Proofs.YtjkipndhdemnoaaGreatDoor
namespace Go.Proofs.YtjkipndhdemnoaaGreatDoor
open Go.Ab Go.Fn
def s_eqStep : FSpec := { ps := [.v tStep, .v tStep], rs := [.v .bool], pre := fun x => True, fn := fun x => (eqD x.1 x.2.1, ()), upd := fun _ => () }
theorem fo_eqStep : FO 42 s_eqStep := by
  refine fo (specs := []) (clos := []) (fun x => []) trivial trivial Tryz.func42 rfl rfl ?_
  rintro ⟨⟨a, b, c, d, ⟨⟩⟩, ⟨a', b', c', d', ⟨⟩⟩, ⟨⟩⟩ -
  refine vcOf (nat_lit 1 ≤ (Nat.succ (nat_lit 1)).succ.succ ∧ nat_lit 1 ≤ (Nat.succ (nat_lit 1)).succ.succ ∧ ((a != a') = true → (false, ()) = (eqD (a, b, c, d, ()) (a', b', c', d', ()), ()) ∧ () = ()) ∧ ((a != a') = false → nat_lit 2 ≤ (Nat.succ (nat_lit 1)).succ.succ ∧ nat_lit 2 ≤ (Nat.succ (nat_lit 1)).succ.succ ∧ ((!b == b') = true → (false, ()) = (eqD (a, b, c, d, ()) (a', b', c', d', ()), ()) ∧ () = ()) ∧ ((!b == b') = false → nat_lit 3 ≤ (Nat.succ (nat_lit 1)).succ.succ ∧ nat_lit 3 ≤ (Nat.succ (nat_lit 1)).succ.succ ∧ ((!c == c') = true → (false, ()) = (eqD (a, b, c, d, ()) (a', b', c', d', ()), ()) ∧ () = ()) ∧ ((!c == c') = false → nat_lit 4 ≤ (Nat.succ (nat_lit 1)).succ.succ ∧ nat_lit 4 ≤ (Nat.succ (nat_lit 1)).succ.succ ∧ ((!d == d') = true → (false, ()) = (eqD (a, b, c, d, ()) (a', b', c', d', ()), ()) ∧ () = ()) ∧ ((!d == d') = false → (true, ()) = (eqD (a, b, c, d, ()) (a', b', c', d', ()), ()) ∧ () = ()))))) (by kernel_rfl) ?_
  simp only [Nat.le_refl, Nat.succ_eq_add_one, Nat.reduceAdd, Nat.reduceLeDiff, Nat.zero_le, pair_unit, mk_eta, len_bne, eqD_bne, bne_iff_ne, bne_eq_false_iff_eq, beq_iff_eq, beq_eq_false_iff_ne, true_and, and_true, and_self, eq_self, lt_iff, nthI_nat, bnd_iff, decide_eq_true_eq, decide_eq_false_iff_not, Nat.sub_eq, nz, ne_eq, not_false_eq_true, Prod.mk.injEq, Int.reduceEq, Nat.reduceEqDiff, forall_const, implies_true, bne_self_eq_false, Bool.true_eq_false, Bool.false_eq_true, false_implies, reduceCtorEq, Bool.not_true, Bool.not_false, List.all_cons, List.all_nil, Bool.and_true, Bool.not_eq_true, Bool.not_eq_false, Bool.not_eq_true', Bool.not_eq_false', Decidable.not_not]; try simp only [lenL]
  by_cases h1 : a = a' <;> by_cases h2 : b = b' <;> by_cases h3 : c = c' <;> by_cases h4 : d = d' <;> simp [h1, h2, h3, h4, eqD]
end Go.Proofs.YtjkipndhdemnoaaGreatDoor
namespace Go.Proofs.YtjkipndhdemnoaaGreatDoor
open Go.Ab Go.Fn
def s_eqStepS : FSpec := { ps := [.v (.slice tStep), .v (.slice tStep)], rs := [.v .bool], pre := fun _ => True, fn := fun x => (eqL x.1 x.2.1, ()), upd := fun _ => () }
def L_eqStepS (xs ys : List (tStep : Ty).den) : LoopAnn := { ι := Nat, inv := fun k => k ≤ xs.length ∧ xs.length = ys.length ∧ xs.take k = ys.take k, slots := fun k => [(5, .d I (Int.ofNat k))], objs := fun _ => [], μ := fun k => xs.length - k }
theorem fo_eqStepS : FO 13 s_eqStepS := by
  refine fo (specs := [(42, s_eqStep)]) (clos := []) (fun x => [(4, .lv [0, 1, 5] <| fun _ => L_eqStepS x.1 x.2.1)]) ⟨fo_eqStep, trivial⟩ trivial Tryz.func13 rfl rfl ?_
  rintro ⟨xs, ys, ⟨⟩⟩ -
  refine vcOf (fits (lenL xs) → fits (lenL ys) → ((iOf (lenL xs) != iOf (lenL ys)) = true → (false, ()) = (eqL xs ys, ()) ∧ () = ()) ∧ ((iOf (lenL xs) != iOf (lenL ys)) = false → (∃ (i : Nat), (i ≤ List.length xs ∧ List.length xs = List.length ys ∧ List.take i xs = List.take i ys) ∧ (xs = xs ∧ ys = ys ∧ (0 : Int) = Int.ofNat i ∧ True) ∧ True ∧ True) ∧ ∀ (i : Nat), i ≤ List.length xs ∧ List.length xs = List.length ys ∧ List.take i xs = List.take i ys → fits (lenL xs) → (decide (Int.ofNat i < iOf (lenL xs)) = true → bnd (Int.ofNat i) (lenL xs) ∧ ∀ (x : Int × List UInt8 × List UInt8 × List UInt8 × Unit), nthI xs (Int.ofNat i) = some x → nat_lit 4 ≤ (Nat.succ (nat_lit 1)).succ.succ ∧ bnd (Int.ofNat i) (lenL ys) ∧ ∀ (x_1 : Int × List UInt8 × List UInt8 × List UInt8 × Unit), nthI ys (Int.ofNat i) = some x_1 → nat_lit 4 ≤ (Nat.succ (nat_lit 1)).succ.succ ∧ true = true ∧ True ∧ ((!eqD (x.fst, x.snd.fst, x.snd.snd.fst, x.snd.snd.snd.fst, ()) (x_1.fst, x_1.snd.fst, x_1.snd.snd.fst, x_1.snd.snd.snd.fst, ())) = true → (false, ()) = (eqL xs ys, ()) ∧ () = ()) ∧ ((!eqD (x.fst, x.snd.fst, x.snd.snd.fst, x.snd.snd.snd.fst, ()) (x_1.fst, x_1.snd.fst, x_1.snd.snd.fst, x_1.snd.snd.snd.fst, ())) = false → ∃ (j : Nat), (j ≤ List.length xs ∧ List.length xs = List.length ys ∧ List.take j xs = List.take j ys) ∧ (List.length xs).sub j < (List.length xs).sub i ∧ (xs = xs ∧ ys = ys ∧ wAdd IntKind.i64 (Int.ofNat i) (1 : Int) = Int.ofNat j ∧ True) ∧ True ∧ True)) ∧ (decide (Int.ofNat i < iOf (lenL xs)) = false → (true, ()) = (eqL xs ys, ()) ∧ () = ()))) (by kernel_rfl) ?_
  simp only [Nat.le_refl, Nat.succ_eq_add_one, Nat.reduceAdd, Nat.reduceLeDiff, Nat.zero_le, pair_unit, mk_eta, len_bne, eqD_bne, bne_iff_ne, bne_eq_false_iff_eq, beq_iff_eq, beq_eq_false_iff_ne, true_and, and_true, and_self, eq_self, lt_iff, nthI_nat, bnd_iff, decide_eq_true_eq, decide_eq_false_iff_not, Nat.sub_eq, nz, ne_eq, not_false_eq_true, Prod.mk.injEq, Int.reduceEq, Nat.reduceEqDiff, forall_const, implies_true, bne_self_eq_false, Bool.true_eq_false, Bool.false_eq_true, false_implies, reduceCtorEq, Bool.not_true, Bool.not_false, List.all_cons, List.all_nil, Bool.and_true, Bool.not_eq_true, Bool.not_eq_false, Bool.not_eq_true', Bool.not_eq_false', Decidable.not_not]; try simp only [lenL]
  exact fun hf1 hf2 => ⟨fun h => eqL_len h, fun h => ⟨⟨0, ⟨Nat.zero_le _, h, rfl⟩, rfl⟩, fun k ⟨hk, _, ht⟩ _ => ⟨fun hlt => ⟨hlt, fun x hx => ⟨h ▸ hlt, fun y hy => ⟨fun hne => eqL_ne hx hy hne, fun he => ⟨k + 1, ⟨hlt, h, take_eq_succ hx hy ht he⟩, Nat.sub_lt_sub_left hlt (Nat.lt_succ_self k), inc_in hf1 hk⟩⟩⟩⟩, fun hge => eqL_end hge h ht⟩⟩⟩
end Go.Proofs.YtjkipndhdemnoaaGreatDoor
