/- Every function that the law FnExactDiskLines reaches does what its specification (a function on plain data) says; the law answers true wherever what it reads is of bulk at most 1048576. Conditions: that bound. -/
import Derived.Test.YtolminmmnckpkaaGreatDoorAb2
import Derived.Deep.DeepHandedRow
import Derived.Deep.DeepLaidRun
import Derived.Laws.BitsLemmas
import Derived.Lib.Bytealg
import Derived.Lib.ItoaLen
import Derived.Lib.ItoaMem
import Derived.Lib.Join
import Derived.Lib.LaidTab
import Derived.OpenShut
import Derived.OwnWalkIn
import Derived.ProofKit
import Derived.Shelf.GgSortFunc.RowK
import Derived.Shelf.Lays8
import Derived.Shelf.LaysM
import Derived.Shelf.SlLaysF0
import Derived.Shelf.SlLaysM
import Derived.Shelf.SlLaysN
import Derived.Shelf.SlicesG.CompactS
import Derived.Shelf.SortM.Plain
import Derived.Shelf.SortM.SortNone
import Derived.Shelf.Spec.SlicesGrow
import Derived.Shelf.Strconv.Itoa3
import Derived.Shelf.Strings.OnBuilder
import Derived.Sort.Walk0
import Derived.Test.YtolminmmnckpkaaGreatDoorCards
import Derived.Test.YtolminmmnckpkaaGreatDoorRows
import Derived.Test.YtolminmmnckpkaaGreatDoorTie
import Derived.WalkKit
import Derived.Test.YtolminmmnckpkaaGreatDoorExactDiskLines1
set_option autoImplicit true
set_option relaxedAutoImplicit true
set_option maxHeartbeats 4000000
set_option maxRecDepth 4000
set_option linter.unusedVariables false
set_option linter.unusedSimpArgs false
namespace Go.Proofs.YtolminmmnckpkaaGreatDoor
open Go.Ab Go.Fn
theorem ft_law_FnExactDiskLines : FT 5 (lawSpec [tDisk] 1048576) := by
  refine foTI (specs := [(22, s_szDisk), (24, s_toDisk), (23, s_DiskLines), (25, s_DiskLines), (11, s_eqStringS), (26, s_eqDisk), (14, s_markStringS), (15, s_heldStringS)]) (clos := []) (inl := [(27, i_markDisk)]) (fun x => []) ⟨toT fo_szDisk, toT fo_toDisk, toT fo_sDiskLines, ft_DiskLines, toT fo_eqStringS, toT fo_eqDisk, toT fo_markStringS, toT fo_heldStringS, trivial⟩ trivial ⟨inT (fun _ _ => []) ⟨fo_markInodeS, fo_markSlotS, trivial⟩ trivial trivial Tryz.func27 rfl rfl, trivial⟩ Tryz.func5 rfl rfl ?_
  rintro ⟨⟨a, b, c, d, ⟨⟩⟩, ⟨⟩⟩ hl
  refine vcOf (nat_lit 4 ≤ (Nat.succ (nat_lit 1)).succ.succ ∧ true = true ∧ ((0 : (PTy.v I).den) ≤ (1048576 : Int) ∧ (1048576 : Int) ≤ (1048576 : (PTy.v I).den)) ∧ (decide (szDisk (a, b, c, d, ()) (1048576 : Int) < (0 : Int)) = true → (true, ()) = (true, ()) ∧ () = ()) ∧ (decide (szDisk (a, b, c, d, ()) (1048576 : Int) < (0 : Int)) = false → nat_lit 4 ≤ (Nat.succ (nat_lit 1)).succ.succ ∧ true = true ∧ True ∧ true = true ∧ True ∧ nat_lit 4 ≤ (Nat.succ (nat_lit 1)).succ.succ ∧ true = true ∧ True ∧ nat_lit 4 ≤ nat_lit 4 ∧ nat_lit 4 ≤ (Nat.succ (nat_lit 1)).succ.succ ∧ true = true ∧ True ∧ true = true ∧ True ∧ ((!eqL (dskS (a, b, c, d, ())) (dskS (a, b, c, d, ()))) = false → ((dskC (a, b, c, d, ()) != dskC (a, b, c, d, ())) = true → (false, ()) = (true, ()) ∧ () = ()) ∧ ((dskC (a, b, c, d, ()) != dskC (a, b, c, d, ())) = false → nat_lit 4 ≤ (Nat.succ (nat_lit 1)).succ.succ ∧ nat_lit 4 ≤ (Nat.succ (nat_lit 1)).succ.succ ∧ true = true ∧ True ∧ true = true ∧ True ∧ ((!eqDisk (a, b, c, d, ()) (a, b, c, d, ())) = true → (false, ()) = (true, ()) ∧ () = ()) ∧ ((!eqDisk (a, b, c, d, ()) (a, b, c, d, ())) = false → nat_lit 4 ≤ (Nat.succ (nat_lit 1)).succ.succ ∧ nat_lit 1 ≤ (Nat.succ (nat_lit 1)).succ.succ ∧ true = true ∧ kOK (1 : Int) ∧ nat_lit 2 ≤ (Nat.succ (nat_lit 1)).succ.succ ∧ true = true ∧ kOK (atD (3 : Int) (1 : Int) (List.length a)) ∧ nat_lit 3 ≤ (Nat.succ (nat_lit 1)).succ.succ ∧ true = true ∧ kOK (atD (2 : Int) (atD (3 : Int) (1 : Int) (List.length a)) (List.length b)) ∧ (decide (atD (2 : Int) (atD (2 : Int) (atD (3 : Int) (1 : Int) (List.length a)) (List.length b)) (List.length c) < (0 : Int)) = false → true = true ∧ True ∧ ((!eqL (dskS (a, b, c, d, ())) (dskS (a, b, c, d, ()))) = false → ((dskC (a, b, c, d, ()) != dskC (a, b, c, d, ())) = true → (false, ()) = (true, ()) ∧ () = ()) ∧ ((dskC (a, b, c, d, ()) != dskC (a, b, c, d, ())) = false → true = true ∧ kOK (1 : Int) ∧ true = true ∧ kOK (1 : Int) ∧ (decide (heldT (markL markText (1 : Int) (dskS (a, b, c, d, ())).length (1 : Int)) (1 : Int) < (0 : Int)) = true → (false, ()) = (true, ()) ∧ () = ()) ∧ (decide (heldT (markL markText (1 : Int) (dskS (a, b, c, d, ())).length (1 : Int)) (1 : Int) < (0 : Int)) = false → ((heldT (markL markText (1 : Int) (dskS (a, b, c, d, ())).length (1 : Int)) (1 : Int) != atD (1 : Int) (1 : Int) (dskS (a, b, c, d, ())).length) = true → (false, ()) = (true, ()) ∧ () = ()) ∧ ((heldT (markL markText (1 : Int) (dskS (a, b, c, d, ())).length (1 : Int)) (1 : Int) != atD (1 : Int) (1 : Int) (dskS (a, b, c, d, ())).length) = false → nat_lit 4 ≤ (Nat.succ (nat_lit 1)).succ.succ ∧ true = true ∧ True ∧ true = true ∧ True ∧ true = true ∧ True ∧ ((!eqL (dskS (a, b, c, d, ())) (dskS (a, b, c, d, ()))) = false → ((dskC (a, b, c, d, ()) != dskC (a, b, c, d, ())) = true → (false, ()) = (true, ()) ∧ () = ()) ∧ ((dskC (a, b, c, d, ()) != dskC (a, b, c, d, ())) = false → true = true ∧ kOK (1 : Int) ∧ (decide (heldT (markL markText (1 : Int) (dskS (a, b, c, d, ())).length (1 : Int)) (1 : Int) < (0 : Int)) = true → (false, ()) = (true, ()) ∧ () = ()) ∧ (decide (heldT (markL markText (1 : Int) (dskS (a, b, c, d, ())).length (1 : Int)) (1 : Int) < (0 : Int)) = false → ((heldT (markL markText (1 : Int) (dskS (a, b, c, d, ())).length (1 : Int)) (1 : Int) != atD (1 : Int) (1 : Int) (dskS (a, b, c, d, ())).length) = true → (false, ()) = (true, ()) ∧ () = ()) ∧ ((heldT (markL markText (1 : Int) (dskS (a, b, c, d, ())).length (1 : Int)) (1 : Int) != atD (1 : Int) (1 : Int) (dskS (a, b, c, d, ())).length) = false → (true, ()) = (true, ()) ∧ () = ())))) ∧ ((!eqL (dskS (a, b, c, d, ())) (dskS (a, b, c, d, ()))) = true → (false, ()) = (true, ()) ∧ () = ()))))) ∧ ((!eqL (dskS (a, b, c, d, ())) (dskS (a, b, c, d, ()))) = true → (false, ()) = (true, ()) ∧ () = ())) ∧ (decide (atD (2 : Int) (atD (2 : Int) (atD (3 : Int) (1 : Int) (List.length a)) (List.length b)) (List.length c) < (0 : Int)) = true → (false, ()) = (true, ()) ∧ () = ())))) ∧ ((!eqL (dskS (a, b, c, d, ())) (dskS (a, b, c, d, ()))) = true → (false, ()) = (true, ()) ∧ () = ()))) (by kernel_rfl) ?_
  simp only [Nat.le_refl, Nat.succ_eq_add_one, Nat.reduceAdd, Nat.reduceLeDiff, Nat.zero_le, pair_unit, mk_eta, len_bne, eqD_bne, bne_iff_ne, bne_eq_false_iff_eq, beq_iff_eq, beq_eq_false_iff_ne, true_and, and_true, and_self, eq_self, lt_iff, nthI_nat, bnd_iff, decide_eq_true_eq, decide_eq_false_iff_not, Nat.sub_eq, nz, ne_eq, not_false_eq_true, Prod.mk.injEq, Int.reduceEq, Nat.reduceEqDiff, forall_const, implies_true, bne_self_eq_false, Bool.true_eq_false, Bool.false_eq_true, false_implies, reduceCtorEq, Bool.not_true, Bool.not_false, List.all_cons, List.all_nil, Bool.and_true, Bool.not_eq_true, Bool.not_eq_false, Bool.not_eq_true', Bool.not_eq_false', Decidable.not_not]; try simp only [lenL]
  refine ⟨by constructor <;> decide, fun hs => ?_⟩
  have hS := sz_small hs
  have e1 : ∀ n, heldT (markL markText 1 n 1) 1 = atD 1 1 n := fun n => heldT_mark
  have e2 : eqL (dskS (a, b, c, d, ())) (dskS (a, b, c, d, ())) = true := eqL_self _
  have e3 : eqDisk (a, b, c, d, ()) (a, b, c, d, ()) = true := eqDisk_self _
  have e4 := markN_pos hS
  simp only [e1, e2, e3]
  exact ⟨fun _ => ⟨fun h => Bool.noConfusion h, fun _ => ⟨kOK_one, atD_kOK1 hS.1, atD_kOK2 hS.1 hS.2.1, fun _ => ⟨fun _ => ⟨kOK_one, kOK_one, fun h => absurd h atD1_pos, fun _ => ⟨fun h => h trivial, fun _ => ⟨fun _ => ⟨kOK_one, fun h => absurd h atD1_pos, fun _ h => h trivial⟩, fun h => Bool.noConfusion h⟩⟩⟩, fun h => Bool.noConfusion h⟩, fun h => absurd h e4⟩⟩, fun h => Bool.noConfusion h⟩
end Go.Proofs.YtolminmmnckpkaaGreatDoor
namespace Go.Proofs.YtolminmmnckpkaaGreatDoor
open Go.Ab Go.Fn
theorem met_tail {P : Program} {x : String × DataW Unit} {r : List (String × DataW Unit)} {W : World} (h : laidMet P (x :: r) W) : laidMet P r W := by
  obtain ⟨ps, ⟨g, t, cs, fuel, p, q, h1, h2, h3, h4, h5, h6⟩, hn, hc⟩ := h
  subst h6
  exact ⟨q, h5, (List.nodup_append.1 hn).2.1, fun b off hb => hc b off (List.mem_append_right _ hb)⟩
theorem tab_head {rest : List (String × DataW Unit)} {W : World} (h : laidMet Tryz.prog (("internal/strconv.uint64pow10", Rows.laid_internal_strconv_uint64pow10) :: rest) W) : tabP W :=
  Lib.tabIs_of_head (t := 228) (e := 198) (n := 20) gPow (by kernel_rfl) Tryz.underlying228 Tryz.underlying198 (by kernel_rfl) (by kernel_rfl) h
theorem tab_lt {W : World} (h : tabP W) {b : Nat} (hb : b < 3 + 1) : b < W.heap.size := by
  have h : W.var? Tryz.prog "internal/strconv.uint64pow10" = _ := h
  unfold World.var? at h
  rw [gPow] at h
  simp only [Option.bind_some] at h
  split at h
  · rename_i hh
    exact Nat.lt_of_lt_of_le hb (Array.getElem?_eq_some_iff.1 hh).1
  · cases h
end Go.Proofs.YtolminmmnckpkaaGreatDoor
namespace Go.Proofs.YtolminmmnckpkaaGreatDoor
open Go.Ab Go.Fn Go.ChangeShapes Go.WideShapes Go.ChangeAt Go.RowKit
theorem bulk {H : Type} : Bulk (Rows.uptoBulk (H := H)) Rows.uptoBulkAll := by
  constructor <;> intros <;> simp [Rows.uptoBulk, Rows.uptoBulkAll]
theorem own : ownKnob Tryz.prog.godebug = none := by kernel_rfl
def valsOf : Nat → DataW Unit → List Value
  | _, .lit (.int k v) => [.int k v]
  | n + 1, .agg l => l.flatMap (valsOf n)
  | _, _ => []
def layAt (h : Array _root_.Go.Obj) (b : Nat) (d : DataW Unit) : Array _root_.Go.Obj := h.modify b fun
  | .cells _ t frozen => .cells (valsOf 3 d).toArray t frozen
  | o => o
noncomputable def laidWorld (os : Os) : World :=
  { World.holding Tryz.prog os ⟨#[], #[], []⟩ with heap := layAt (layAt (layAt (World.holding Tryz.prog os ⟨#[], #[], []⟩).heap 6 Rows.laid_math_bits_deBruijn32tab) 7 Rows.laid_math_bits_deBruijn64tab) 3 Rows.laid_internal_strconv_uint64pow10 }
theorem laid_met (os : Os) : laidMet Tryz.prog Rows.fnExactDiskLinesUptoRow.laid ((laidWorld os).forCall (fun _ _ => 0) ⟨#[], #[.agg #[.slice none 0 0, .slice none 0 0, .slice none 0 0, .int .i64 0]], []⟩).memory :=
  laidMet_of_run3 8 (by kernel_rfl) (by kernel_rfl) (by kernel_rfl)
theorem reads (os : Os) {H : Type} (enc : TypeId × Value → H) : ∃ places, DataW.whole enc Tryz.prog ((laidWorld os).forCall (fun _ _ => 0) ⟨#[], #[.agg #[.slice none 0 0, .slice none 0 0, .slice none 0 0, .int .i64 0]], []⟩).memory Tryz.f5.params.toList Rows.fnExactDiskLinesSpec.vars false (#[.agg #[.slice none 0 0, .slice none 0 0, .slice none 0 0, .int .i64 0]] : Array Value).toList 8 = some ([.agg [.nil, .nil, .nil, .lit (.int .i64 0)]], [], places) :=
  ⟨[], by kernel_rfl⟩
set_option maxRecDepth 100000 in
theorem fnExactDiskLines_lifted (os : Os) (started : os.Started) (H : Type) (enc : TypeId × Value → H) (F : Stop.Interp) :
    ReturnsInHanded {} Tryz.checked os 5 .any ((Rows.OpenSpec.upto Rows.fnExactDiskLinesSpec).preRow enc Tryz.prog Tryz.f5 Rows.fnExactDiskLinesUptoRow.domain false Rows.fnExactDiskLinesUptoRow.laid) (((Rows.OpenSpec.upto Rows.fnExactDiskLinesSpec).at F).post enc Tryz.prog Tryz.f5 false true false false) := by
  obtain ⟨places, hx⟩ := reads os enc
  refine returnsInHanded_of_row (C := Tryz.checked) (s := Rows.OpenSpec.upto Rows.fnExactDiskLinesSpec) own started (by kernel_rfl) Tryz.func5
    (witness_row_at (enc := enc) (C := Tryz.checked) false (laidWorld os) #[.agg #[.slice none 0 0, .slice none 0 0, .slice none 0 0, .int .i64 0]] rfl (by kernel_rfl) (by kernel_rfl) (by kernel_rfl)
      (OpenSpec.preRow_of_cond 8 hx (by kernel_rfl) (fun k hk => by cases hk; kernel_rfl) (by kernel_rfl) (laid_met os))) ?_
  intro W base args ds gs before hval hW _ hk _ hL _ _
  have hT : tabP W := tab_head (met_tail (met_tail hL))
  refine law_contractT bulk ft_law_FnExactDiskLines (by kernel_rfl) rfl ?_ (tb := 4) rfl (by kernel_rfl) hT (fun b hb => tab_lt hT (show b < 3 + 1 from hb)) (tabT [] []) hval hW (of_decide_eq_true (hk _ rfl))
  intro ds hl
  match ds, hl with
  | [_], _ => rfl
theorem fnExactDiskLines_said : Rows.FnExactDiskLinesUptoSaid :=
  OpenClaim.holds_of_cond 5 Tryz.f5 rfl rfl rfl rfl rfl rfl rfl ⟨rfl, rfl, rfl, rfl, rfl⟩ rfl rfl rfl rfl rfl (by kernel_rfl) Tryz.func5 (by kernel_rfl)
    (of_decide_eq_true (by kernel_rfl)) (by unfold Func.isWrapper; first | (rw [if_pos (by decide +kernel)]; kernel_rfl) | (rw [if_neg (by decide +kernel)]; exact ⟨rfl, rfl⟩))
    (fun os started H enc _ F => by rw [OpenClaim.pre_eq_preRow]; exact fnExactDiskLines_lifted os started H enc F)
theorem noStandIn : (Tryz.f5.params.toList.all fun t => !(Tryz.pinned.checked.prog.wantsStandIn t)) = true := by kernel_rfl
theorem fnExactDiskLines_plain (f : FuncId) (fn : Func) (hf : Tryz.pinned.checked.prog.funcNamed "loop.example/g00798/laws.FnExactDiskLines" = some f) (hfn : Tryz.pinned.checked.prog.funcs[f]? = some fn) :
    true = Tryz.pinned.checked.prog.looks [] ∧ ∀ (j : Nat) t, fn.params[j]? = some t → Tryz.pinned.checked.prog.wantsStandIn t = false := by
  obtain rfl : f = 5 := Option.some.inj ((show Tryz.prog.funcNamed "loop.example/g00798/laws.FnExactDiskLines" = some 5 by kernel_rfl).symm.trans hf) |>.symm
  obtain rfl : fn = Tryz.f5 := (Option.some.inj (Tryz.func5.symm.trans hfn)).symm
  refine ⟨by kernel_rfl, fun j t ht => ?_⟩
  have h := List.all_eq_true.1 noStandIn t (by simpa using Array.mem_of_getElem? ht)
  simpa using h
theorem fnExactDiskLines_holds : Rows.FnExactDiskLinesUptoCardSaid :=
  Claim7.holds_tied_plain_at .later [] _ _ _ _ fnExactDiskLines_said (fun _ h => by cases h) (by kernel_rfl) (fun _ h => by cases h) fnExactDiskLinesUpto_row_tie rfl ⟨rfl, rfl⟩ (by kernel_rfl) rfl fnExactDiskLines_plain (by kernel_rfl)
end Go.Proofs.YtolminmmnckpkaaGreatDoor
