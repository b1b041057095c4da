/- Every function that the law FnExactLookUp reaches does what its specification (a function on plain data) says; the law answers true wherever what it reads is of bulk at most 1048576. Conditions: that bound. -/
import Derived.Test.YtjkipndhdemnoaaGreatDoorAb2
import Derived.Deep.DeepHandedRow
import Derived.Deep.DeepLaidRun
import Derived.Laws.BitsLemmas
import Derived.Lib.Bytealg
import Derived.Lib.ItoaLen
import Derived.Lib.ItoaMem
import Derived.Lib.Join
import Derived.LoopIn
import Derived.LoopNIn
import Derived.OpenShut
import Derived.OwnWalkIn
import Derived.ProofKit
import Derived.RangeFuncBox
import Derived.RangeFuncCalls
import Derived.RangeFuncLeaves
import Derived.RangeFuncWrites
import Derived.Shelf.Abstract
import Derived.TacticsInMore
import Derived.Test.YtjkipndhdemnoaaGreatDoorCards
import Derived.Test.YtjkipndhdemnoaaGreatDoorRows
import Derived.Test.YtjkipndhdemnoaaGreatDoorTie
import Derived.WalkKit
import Derived.Test.YtjkipndhdemnoaaGreatDoorExactLookUp1
set_option autoImplicit true
set_option relaxedAutoImplicit true
set_option maxHeartbeats 4000000
set_option maxRecDepth 4000
set_option linter.unusedVariables false
set_option linter.unusedSimpArgs false
namespace Go.Proofs.YtjkipndhdemnoaaGreatDoor
open Go.Ab Go.Fn
def s_eqRecordSS : FSpec := { ps := [.v (.slice (.slice tRec)), .v (.slice (.slice tRec))], rs := [.v .bool], pre := fun _ => True, fn := fun x => (eqL (α := List Rec) x.1 x.2.1, ()), upd := fun _ => () }
def L_eqRecordSS (xs ys : List (List Rec)) : LoopAnn := { ι := Nat, inv := fun k => k ≤ xs.length ∧ xs.length = ys.length ∧ xs.take k = ys.take k, slots := fun k => [(5, .d I (Int.ofNat k))], objs := fun _ => [], μ := fun k => xs.length - k }
theorem fo_eqRecordSS : FO 20 s_eqRecordSS := by
  refine fo (specs := [(51, s_eqRecordS)]) (clos := []) (fun x => [(4, .lv [0, 1, 5] <| fun _ => L_eqRecordSS x.1 x.2.1)]) ⟨fo_eqRecordS, trivial⟩ trivial Tryz.func20 rfl rfl ?_
  rintro ⟨xs, ys, ⟨⟩⟩ -
  refine vcOf (fits (lenL xs) → fits (lenL ys) → ((iOf (lenL xs) != iOf (lenL ys)) = true → (false, ()) = (eqL xs ys, ()) ∧ () = ()) ∧ ((iOf (lenL xs) != iOf (lenL ys)) = false → (∃ (i : Nat), (i ≤ List.length xs ∧ List.length xs = List.length ys ∧ List.take i xs = List.take i ys) ∧ (xs = xs ∧ ys = ys ∧ (0 : Int) = Int.ofNat i ∧ True) ∧ True ∧ True) ∧ ∀ (i : Nat), i ≤ List.length xs ∧ List.length xs = List.length ys ∧ List.take i xs = List.take i ys → fits (lenL xs) → (decide (Int.ofNat i < iOf (lenL xs)) = true → bnd (Int.ofNat i) (lenL xs) ∧ ∀ (x : List (Int × List UInt8 × List UInt8 × Int × Bool × Unit)), nthI xs (Int.ofNat i) = some x → nat_lit 1 ≤ nat_lit 1 ∧ bnd (Int.ofNat i) (lenL ys) ∧ ∀ (x_1 : List (Int × List UInt8 × List UInt8 × Int × Bool × Unit)), nthI ys (Int.ofNat i) = some x_1 → nat_lit 1 ≤ nat_lit 1 ∧ true = true ∧ True ∧ ((!eqL x x_1) = true → (false, ()) = (eqL xs ys, ()) ∧ () = ()) ∧ ((!eqL x x_1) = false → ∃ (j : Nat), (j ≤ List.length xs ∧ List.length xs = List.length ys ∧ List.take j xs = List.take j ys) ∧ (List.length xs).sub j < (List.length xs).sub i ∧ (xs = xs ∧ ys = ys ∧ wAdd IntKind.i64 (Int.ofNat i) (1 : Int) = Int.ofNat j ∧ True) ∧ True ∧ True)) ∧ (decide (Int.ofNat i < iOf (lenL xs)) = false → (true, ()) = (eqL xs ys, ()) ∧ () = ()))) (by kernel_rfl) ?_
  simp only [Nat.le_refl, Nat.succ_eq_add_one, Nat.reduceAdd, Nat.reduceLeDiff, Nat.zero_le, pair_unit, mk_eta, len_bne, eqD_bne, bne_iff_ne, bne_eq_false_iff_eq, beq_iff_eq, beq_eq_false_iff_ne, true_and, and_true, and_self, eq_self, lt_iff, nthI_nat, bnd_iff, decide_eq_true_eq, decide_eq_false_iff_not, Nat.sub_eq, nz, ne_eq, not_false_eq_true, Prod.mk.injEq, Int.reduceEq, Nat.reduceEqDiff, forall_const, implies_true, bne_self_eq_false, Bool.true_eq_false, Bool.false_eq_true, false_implies, reduceCtorEq, Bool.not_true, Bool.not_false, List.all_cons, List.all_nil, Bool.and_true, Bool.not_eq_true, Bool.not_eq_false, Bool.not_eq_true', Bool.not_eq_false', Decidable.not_not]; try simp only [lenL]
  exact fun hf1 hf2 => ⟨fun h => eqL_len h, fun h => ⟨⟨0, ⟨Nat.zero_le _, h, rfl⟩, rfl⟩, fun k ⟨hk, _, ht⟩ _ => ⟨fun hlt => ⟨hlt, fun x hx => ⟨h ▸ hlt, fun y hy => ⟨fun hne => eqL_ne hx hy (eqLR_ne hne), fun he => ⟨k + 1, ⟨hlt, h, take_eq_succ hx hy ht (eqLR_eq he)⟩, Nat.sub_lt_sub_left hlt (Nat.lt_succ_self k), inc_in hf1 hk⟩⟩⟩⟩, fun hge => eqL_end hge h ht⟩⟩⟩
end Go.Proofs.YtjkipndhdemnoaaGreatDoor
namespace Go.Proofs.YtjkipndhdemnoaaGreatDoor
open Go.Ab Go.Fn
def s_eqNode : FSpec := { ps := [.v tNode, .v tNode], rs := [.v .bool], pre := fun x => True, fn := fun x => (Fn.eqNd x.1 x.2.1, ()), upd := fun _ => () }
theorem fo_eqNode : FO 27 s_eqNode := by
  refine fo (specs := []) (clos := []) (fun x => []) trivial trivial Tryz.func27 rfl rfl ?_
  rintro ⟨⟨k, p, b, m, ⟨⟩⟩, ⟨k', p', b', m', ⟨⟩⟩, ⟨⟩⟩ -
  refine vcOf (nat_lit 1 ≤ (Nat.succ (nat_lit 1)).succ.succ ∧ nat_lit 1 ≤ (Nat.succ (nat_lit 1)).succ.succ ∧ ((k != k') = true → (false, ()) = (eqNd (k, p, b, m, ()) (k', p', b', m', ()), ()) ∧ () = ()) ∧ ((k != k') = false → nat_lit 2 ≤ (Nat.succ (nat_lit 1)).succ.succ ∧ nat_lit 2 ≤ (Nat.succ (nat_lit 1)).succ.succ ∧ ((!p == p') = true → (false, ()) = (eqNd (k, p, b, m, ()) (k', p', b', m', ()), ()) ∧ () = ()) ∧ ((!p == p') = false → nat_lit 3 ≤ (Nat.succ (nat_lit 1)).succ.succ ∧ nat_lit 3 ≤ (Nat.succ (nat_lit 1)).succ.succ ∧ ((!b == b') = true → (false, ()) = (eqNd (k, p, b, m, ()) (k', p', b', m', ()), ()) ∧ () = ()) ∧ ((!b == b') = false → nat_lit 4 ≤ (Nat.succ (nat_lit 1)).succ.succ ∧ nat_lit 4 ≤ (Nat.succ (nat_lit 1)).succ.succ ∧ ((m != m') = true → (false, ()) = (eqNd (k, p, b, m, ()) (k', p', b', m', ()), ()) ∧ () = ()) ∧ ((m != m') = false → (true, ()) = (eqNd (k, p, b, m, ()) (k', p', b', m', ()), ()) ∧ () = ()))))) (by kernel_rfl) ?_
  simp only [Nat.le_refl, Nat.succ_eq_add_one, Nat.reduceAdd, Nat.reduceLeDiff, Nat.zero_le, pair_unit, mk_eta, len_bne, eqD_bne, bne_iff_ne, bne_eq_false_iff_eq, beq_iff_eq, beq_eq_false_iff_ne, true_and, and_true, and_self, eq_self, lt_iff, nthI_nat, bnd_iff, decide_eq_true_eq, decide_eq_false_iff_not, Nat.sub_eq, nz, ne_eq, not_false_eq_true, Prod.mk.injEq, Int.reduceEq, Nat.reduceEqDiff, forall_const, implies_true, bne_self_eq_false, Bool.true_eq_false, Bool.false_eq_true, false_implies, reduceCtorEq, Bool.not_true, Bool.not_false, List.all_cons, List.all_nil, Bool.and_true, Bool.not_eq_true, Bool.not_eq_false, Bool.not_eq_true', Bool.not_eq_false', Decidable.not_not]; try simp only [lenL]
  unfold Fn.eqNd
  by_cases h1 : k = k' <;> by_cases h2 : p = p' <;> by_cases h3 : b = b' <;> by_cases h4 : m = m' <;> simp [h1, h2, h3, h4]
end Go.Proofs.YtjkipndhdemnoaaGreatDoor
namespace Go.Proofs.YtjkipndhdemnoaaGreatDoor
open Go.Ab Go.Fn
theorem fo_law_FnExactLookUp : FO 5 (lawSpec [.slice (.slice tRec), .str] 1048576) := by
  refine fo (specs := [(23, s_szRecordSS), (25, s_toRecordSS), (20, s_eqRecordSS), (24, s_LookUp), (26, s_LookUp), (27, s_eqNode)]) (clos := []) (fun x => []) ⟨fo_szRecordSS, fo_toRecordSS, fo_eqRecordSS, fo_sLookUp, fo_LookUp, fo_eqNode, trivial⟩ trivial Tryz.func5 rfl rfl ?_
  rintro ⟨ls, t, ⟨⟩⟩ hl
  refine vcOf (fits (lenL t) → (decide (iOf (lenL t) > (1048576 : Int)) = true → (true, ()) = (true, ()) ∧ () = ()) ∧ (decide (iOf (lenL t) > (1048576 : Int)) = false → true = true ∧ ((0 : (PTy.v I).den) ≤ (1048576 : Int) ∧ (1048576 : Int) ≤ (1048576 : (PTy.v I).den)) ∧ (decide (szList szRecordS ls (1048576 : Int) < (0 : Int)) = true → (true, ()) = (true, ()) ∧ () = ()) ∧ (decide (szList szRecordS ls (1048576 : Int) < (0 : Int)) = false → true = true ∧ True ∧ true = true ∧ (okLs ls ∧ List.length t ≤ (100000000 : Nat)) ∧ nat_lit 4 ≤ nat_lit 4 ∧ true = true ∧ True ∧ true = true ∧ (okLs ls ∧ List.length t ≤ (100000000 : Nat)) ∧ nat_lit 4 ≤ nat_lit 4 ∧ nat_lit 4 ≤ (Nat.succ (nat_lit 1)).succ.succ ∧ nat_lit 4 ≤ (Nat.succ (nat_lit 1)).succ.succ ∧ true = true ∧ True ∧ ((!eqNd ((nodeOf (askR ls t).fst).fst, (nodeOf (askR ls t).fst).snd.fst, (nodeOf (askR ls t).fst).snd.snd.fst, (nodeOf (askR ls t).fst).snd.snd.snd.fst, ()) ((nodeOf (askR ls t).fst).fst, (nodeOf (askR ls t).fst).snd.fst, (nodeOf (askR ls t).fst).snd.snd.fst, (nodeOf (askR ls t).fst).snd.snd.snd.fst, ())) = false → (((askR ls t).snd.snd != (askR ls t).snd.snd) = true → (false, ()) = (true, ()) ∧ () = ()) ∧ (((askR ls t).snd.snd != (askR ls t).snd.snd) = false → true = true ∧ True ∧ true = true ∧ True ∧ ((!eqL ls ls) = true → (false, ()) = (true, ()) ∧ () = ()) ∧ ((!eqL ls ls) = false → (true, ()) = (true, ()) ∧ () = ()))) ∧ ((!eqNd ((nodeOf (askR ls t).fst).fst, (nodeOf (askR ls t).fst).snd.fst, (nodeOf (askR ls t).fst).snd.snd.fst, (nodeOf (askR ls t).fst).snd.snd.snd.fst, ()) ((nodeOf (askR ls t).fst).fst, (nodeOf (askR ls t).fst).snd.fst, (nodeOf (askR ls t).fst).snd.snd.fst, (nodeOf (askR ls t).fst).snd.snd.snd.fst, ())) = true → (false, ()) = (true, ()) ∧ () = ())))) (by kernel_rfl) ?_
  simp only [Nat.le_refl, Nat.succ_eq_add_one, Nat.reduceAdd, Nat.reduceLeDiff, Nat.zero_le, pair_unit, mk_eta, len_bne, eqD_bne, bne_iff_ne, bne_eq_false_iff_eq, beq_iff_eq, beq_eq_false_iff_ne, true_and, and_true, and_self, eq_self, lt_iff, nthI_nat, bnd_iff, decide_eq_true_eq, decide_eq_false_iff_not, Nat.sub_eq, nz, ne_eq, not_false_eq_true, Prod.mk.injEq, Int.reduceEq, Nat.reduceEqDiff, forall_const, implies_true, bne_self_eq_false, Bool.true_eq_false, Bool.false_eq_true, false_implies, reduceCtorEq, Bool.not_true, Bool.not_false, List.all_cons, List.all_nil, Bool.and_true, Bool.not_eq_true, Bool.not_eq_false, Bool.not_eq_true', Bool.not_eq_false', Decidable.not_not]; try simp only [lenL]
  refine fun _ h1 => ⟨by constructor <;> decide, fun h => ?_⟩
  have ht : List.length t ≤ 100000000 := by have h1 : ¬ ((List.length t : Int) > 1048576) := h1; omega
  have ho := szSS_small h
  exact ⟨⟨ho, ht⟩, ⟨ho, ht⟩, fun _ e => (by rw [eqL_self] at e; cases e), fun e => (by rw [eqNd_self] at e; cases e)⟩
end Go.Proofs.YtjkipndhdemnoaaGreatDoor
namespace Go.Proofs.YtjkipndhdemnoaaGreatDoor
open Go.Ab Go.Fn Go.ChangeShapes Go.WideShapes Go.ChangeAt Go.RowKit
theorem bulk {H : Type} : Bulk (Rows.uptoBulk (H := H)) Rows.uptoBulkAll := by
  constructor <;> intros <;> simp [Rows.uptoBulk, Rows.uptoBulkAll]
theorem own : ownKnob Tryz.prog.godebug = none := by kernel_rfl
def valsOf : Nat → DataW Unit → List Value
  | _, .lit (.int k v) => [.int k v]
  | n + 1, .agg l => l.flatMap (valsOf n)
  | _, _ => []
def layAt (h : Array _root_.Go.Obj) (b : Nat) (d : DataW Unit) : Array _root_.Go.Obj := h.modify b fun
  | .cells _ t frozen => .cells (valsOf 3 d).toArray t frozen
  | o => o
noncomputable def laidWorld (os : Os) : World :=
  { World.holding Tryz.prog os ⟨#[], #[], []⟩ with heap := layAt (layAt (World.holding Tryz.prog os ⟨#[], #[], []⟩).heap 5 Rows.laid_unicode_utf8_acceptRanges) 4 Rows.laid_unicode_utf8_first }
theorem laid_met (os : Os) : laidMet Tryz.prog Rows.fnExactLookUpUptoRow.laid ((laidWorld os).forCall (fun _ _ => 0) ⟨#[], #[.slice none 0 0, .string ⟨#[]⟩], []⟩).memory :=
  laidMet_of_run3 8 (by kernel_rfl) (by kernel_rfl) (by kernel_rfl)
theorem reads (os : Os) {H : Type} (enc : TypeId × Value → H) : ∃ places, DataW.whole enc Tryz.prog ((laidWorld os).forCall (fun _ _ => 0) ⟨#[], #[.slice none 0 0, .string ⟨#[]⟩], []⟩).memory Tryz.f5.params.toList Rows.fnExactLookUpSpec.vars false (#[.slice none 0 0, .string ⟨#[]⟩] : Array Value).toList 8 = some ([.nil, .lit (.string [])], [], places) :=
  ⟨[], by kernel_rfl⟩
set_option maxRecDepth 100000 in
theorem fnExactLookUp_lifted (os : Os) (started : os.Started) (H : Type) (enc : TypeId × Value → H) (F : Stop.Interp) :
    ReturnsInHanded {} Tryz.checked os 5 .any ((Rows.OpenSpec.upto Rows.fnExactLookUpSpec).preRow enc Tryz.prog Tryz.f5 Rows.fnExactLookUpUptoRow.domain false Rows.fnExactLookUpUptoRow.laid) (((Rows.OpenSpec.upto Rows.fnExactLookUpSpec).at F).post enc Tryz.prog Tryz.f5 false true false false) := by
  obtain ⟨places, hx⟩ := reads os enc
  refine returnsInHanded_of_row (C := Tryz.checked) (s := Rows.OpenSpec.upto Rows.fnExactLookUpSpec) own started (by kernel_rfl) Tryz.func5
    (witness_row_at (enc := enc) (C := Tryz.checked) false (laidWorld os) #[.slice none 0 0, .string ⟨#[]⟩] rfl (by kernel_rfl) (by kernel_rfl) (by kernel_rfl)
      (OpenSpec.preRow_of_cond 8 hx (by kernel_rfl) (fun k hk => by cases hk; kernel_rfl) (by kernel_rfl) (laid_met os))) ?_
  intro W base args ds gs before hval hW _ hk _ _ _ _
  refine law_contract bulk fo_law_FnExactLookUp (by kernel_rfl) rfl ?_ (tb := 4) rfl (by kernel_rfl) hval hW (of_decide_eq_true (hk _ rfl))
  intro ds hl
  match ds, hl with
  | [_, _], _ => rfl
theorem fnExactLookUp_said : Rows.FnExactLookUpUptoSaid :=
  OpenClaim.holds_of_cond 5 Tryz.f5 rfl rfl rfl rfl rfl rfl rfl ⟨rfl, rfl, rfl, rfl, rfl⟩ rfl rfl rfl rfl rfl (by kernel_rfl) Tryz.func5 (by kernel_rfl)
    (of_decide_eq_true (by kernel_rfl)) (by unfold Func.isWrapper; first | (rw [if_pos (by decide +kernel)]; kernel_rfl) | (rw [if_neg (by decide +kernel)]; exact ⟨rfl, rfl⟩))
    (fun os started H enc _ F => by rw [OpenClaim.pre_eq_preRow]; exact fnExactLookUp_lifted os started H enc F)
theorem noStandIn : (Tryz.f5.params.toList.all fun t => !(Tryz.pinned.checked.prog.wantsStandIn t)) = true := by kernel_rfl
theorem fnExactLookUp_plain (f : FuncId) (fn : Func) (hf : Tryz.pinned.checked.prog.funcNamed "loop.example/g00798/laws.FnExactLookUp" = some f) (hfn : Tryz.pinned.checked.prog.funcs[f]? = some fn) :
    true = Tryz.pinned.checked.prog.looks [] ∧ ∀ (j : Nat) t, fn.params[j]? = some t → Tryz.pinned.checked.prog.wantsStandIn t = false := by
  obtain rfl : f = 5 := Option.some.inj ((show Tryz.prog.funcNamed "loop.example/g00798/laws.FnExactLookUp" = some 5 by kernel_rfl).symm.trans hf) |>.symm
  obtain rfl : fn = Tryz.f5 := (Option.some.inj (Tryz.func5.symm.trans hfn)).symm
  refine ⟨by kernel_rfl, fun j t ht => ?_⟩
  have h := List.all_eq_true.1 noStandIn t (by simpa using Array.mem_of_getElem? ht)
  simpa using h
theorem fnExactLookUp_holds : Rows.FnExactLookUpUptoCardSaid :=
  Claim7.holds_tied_plain_at .later [] _ _ _ _ fnExactLookUp_said (fun _ h => by cases h) (by kernel_rfl) (fun _ h => by cases h) fnExactLookUpUpto_row_tie rfl ⟨rfl, rfl⟩ (by kernel_rfl) rfl fnExactLookUp_plain (by kernel_rfl)
end Go.Proofs.YtjkipndhdemnoaaGreatDoor
