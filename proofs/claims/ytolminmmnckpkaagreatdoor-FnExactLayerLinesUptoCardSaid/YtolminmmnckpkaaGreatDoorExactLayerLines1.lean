/- Every function that the law FnExactLayerLines reaches does what its specification (a function on plain data) says; the law answers true wherever what it reads is of bulk at most 1048576. Conditions: that bound. -/
import Derived.Test.YtolminmmnckpkaaGreatDoorAb2
import Derived.Deep.DeepHandedRow
import Derived.Deep.DeepLaidRun
import Derived.Laws.BitsLemmas
import Derived.Lib.Bytealg
import Derived.Lib.ItoaLen
import Derived.Lib.ItoaMem
import Derived.Lib.Join
import Derived.Lib.LaidTab
import Derived.OpenShut
import Derived.ProofKit
import Derived.Shelf.LaysM
import Derived.Shelf.Strconv.Itoa3
import Derived.Shelf.Strings.OnBuilder
import Derived.Test.YtolminmmnckpkaaGreatDoorCards
import Derived.Test.YtolminmmnckpkaaGreatDoorRows
import Derived.Test.YtolminmmnckpkaaGreatDoorTie
import Derived.WalkKit
import Derived.Test.YtolminmmnckpkaaGreatDoorExactLayerLines0
set_option autoImplicit true
set_option relaxedAutoImplicit true
set_option maxHeartbeats 4000000
set_option maxRecDepth 4000
set_option linter.unusedVariables false
set_option linter.unusedSimpArgs false
namespace Go.Proofs.YtolminmmnckpkaaGreatDoor
open Go.Ab Go.Fn
def s_faultAt : FSpec := { ps := [.v (.slice tRec), .v I], rs := [.v I], pre := fun x => okL x.1 ∧ ∃ k : Nat, x.2.1 = Int.ofNat k ∧ k < List.length (α := Rec) x.1 ∧ k < 1099511627776, fn := fun x => (Fn.faultI x.1 x.2.1, ()), upd := fun _ => () }
theorem fo_faultAt : FO 119 s_faultAt := by
  refine fo (specs := [(82, s_parent), (153, s_find), (114, s_recOK), (146, s_fault), (80, s_PathLess), (37, s_first)]) (clos := []) (fun x => [(2000005, .ofSegs fun _ => [(15, ([16,17,18,19,20,21,22,23,24,25], fun _ => [(47, .d .bool (Fn.sameB x.1 x.2.1))])), (54, ([55,56,57,58,59,60,61], fun _ => [(83, .d .bool (Fn.dirB x.1 x.2.1))]))])]) ⟨fo_parent, fo_find, fo_RecordOK, fo_RecordFault, fo_PathLess, fo_first, trivial⟩ trivial Tryz.func119 rfl rfl ?_
  rintro ⟨l, i, ⟨⟩⟩ ⟨hl, i, rfl, hi, hb⟩
  refine vcOf (bnd (Int.ofNat i) (lenL l) ∧ ∀ (x : Int × List UInt8 × List UInt8 × Int × Bool × Unit), nthI l (Int.ofNat i) = some x → nat_lit 5 ≤ (Nat.succ (nat_lit 1)).succ.succ.succ ∧ nat_lit 5 ≤ nat_lit 5 ∧ nat_lit 2 ≤ (Nat.succ (nat_lit 1)).succ.succ.succ ∧ true = true ∧ x.snd.fst.length ≤ (100000000 : Nat) ∧ ((!parentS x.snd.fst == ([] : List UInt8)) = true → boundLo (Int.ofNat i) (lenL l) ∧ true = true ∧ True ∧ nat_lit 5 ≤ (Nat.succ (nat_lit 1)).succ.succ.succ ∧ nat_lit 5 ≤ (Nat.succ (nat_lit 1)).succ.succ.succ ∧ nat_lit 2 ≤ (Nat.succ (nat_lit 1)).succ.succ.succ ∧ true = true ∧ x.snd.fst.length ≤ (100000000 : Nat) ∧ true = true ∧ x.snd.fst.length ≤ (100000000 : Nat) ∧ ((decide (Int.ofNat i > (0 : Int)) = true → IntKind.i64 = IntKind.i64 ∧ bnd (mm true (wSub IntKind.i64 (Int.ofNat i) (1 : Int)) (0 : Int)) (lenL l) ∧ ∀ (x_1 : Int × List UInt8 × List UInt8 × Int × Bool × Unit), nthI l (mm true (wSub IntKind.i64 (Int.ofNat i) (1 : Int)) (0 : Int)) = some x_1 → nat_lit 1 ≤ (Nat.succ (nat_lit 1)).succ.succ ∧ nat_lit 2 ≤ (Nat.succ (nat_lit 1)).succ.succ.succ ∧ (l = l ∧ Int.ofNat i = Int.ofNat i ∧ (0 : Int) = (0 : Int) ∧ (nat_lit 0 = nat_lit 0 ∧ (0 : Nat) = (0 : Nat)) ∧ idx (atPath (parentS x.snd.fst)) (subL l (0 : Nat) (tN (Int.ofNat i))) = idx (atPath (parentS x.snd.fst)) (subL l (0 : Nat) (tN (Int.ofNat i))) ∧ parentS x.snd.fst = parentS x.snd.fst ∧ l = l ∧ Int.ofNat i = Int.ofNat i ∧ (x.fst = x.fst ∧ x.snd.fst = x.snd.fst ∧ x.snd.snd.fst = x.snd.snd.fst ∧ x.snd.snd.snd.fst = x.snd.snd.snd.fst ∧ x.snd.snd.snd.snd.fst = x.snd.snd.snd.snd.fst ∧ True) ∧ (x.fst = x.fst ∧ x.snd.fst = x.snd.fst ∧ x.snd.snd.fst = x.snd.snd.fst ∧ x.snd.snd.snd.fst = x.snd.snd.snd.fst ∧ x.snd.snd.snd.snd.fst = x.snd.snd.snd.snd.fst ∧ True) ∧ (nat_lit 0 = nat_lit 0 ∧ nat_lit 1 = nat_lit 1) ∧ x.snd.fst = x.snd.fst ∧ parentS x.snd.fst = parentS x.snd.fst ∧ parentS x.snd.fst = parentS x.snd.fst ∧ (!parentS x.snd.fst == ([] : List UInt8)) = !parentS x.snd.fst == ([] : List UInt8) ∧ l = l ∧ Int.ofNat i = Int.ofNat i ∧ subL l (0 : Nat) (tN (Int.ofNat i)) = subL l (0 : Nat) (tN (Int.ofNat i)) ∧ parentS x.snd.fst = parentS x.snd.fst ∧ idx (atPath (parentS x.snd.fst)) (subL l (0 : Nat) (tN (Int.ofNat i))) = idx (atPath (parentS x.snd.fst)) (subL l (0 : Nat) (tN (Int.ofNat i))) ∧ Int.ofNat i = Int.ofNat i ∧ decide (Int.ofNat i ≥ (16 : Int)) = decide (Int.ofNat i ≥ (16 : Int)) ∧ ((4 : Nat) = (4 : Nat) ∧ decide (Int.ofNat i ≥ (16 : Int)) = decide (Int.ofNat i ≥ (16 : Int))) ∧ ((3 : Nat) = (3 : Nat) ∧ (6 : Int) = (6 : Int)) ∧ ((4 : Nat) = (4 : Nat) ∧ true = true) ∧ (x.fst = x.fst ∧ x.snd.fst = x.snd.fst ∧ x.snd.snd.fst = x.snd.snd.fst ∧ x.snd.snd.snd.fst = x.snd.snd.snd.fst ∧ x.snd.snd.snd.snd.fst = x.snd.snd.snd.snd.fst ∧ True) ∧ decide (recFault (x.fst, x.snd.fst, x.snd.snd.fst, x.snd.snd.snd.fst, x.snd.snd.snd.snd.fst, ()) = (0 : Int)) = decide (recFault (x.fst, x.snd.fst, x.snd.snd.fst, x.snd.snd.snd.fst, x.snd.snd.snd.snd.fst, ()) = (0 : Int)) ∧ (!decide (recFault (x.fst, x.snd.fst, x.snd.snd.fst, x.snd.snd.snd.fst, x.snd.snd.snd.snd.fst, ()) = (0 : Int))) = !decide (recFault (x.fst, x.snd.fst, x.snd.snd.fst, x.snd.snd.snd.fst, x.snd.snd.snd.snd.fst, ()) = (0 : Int)) ∧ ((4 : Nat) = (4 : Nat) ∧ (!decide (recFault (x.fst, x.snd.fst, x.snd.snd.fst, x.snd.snd.snd.fst, x.snd.snd.snd.snd.fst, ()) = (0 : Int))) = !decide (recFault (x.fst, x.snd.fst, x.snd.snd.fst, x.snd.snd.snd.fst, x.snd.snd.snd.snd.fst, ()) = (0 : Int))) ∧ (x.fst = x.fst ∧ x.snd.fst = x.snd.fst ∧ x.snd.snd.fst = x.snd.snd.fst ∧ x.snd.snd.snd.fst = x.snd.snd.snd.fst ∧ x.snd.snd.snd.snd.fst = x.snd.snd.snd.snd.fst ∧ True) ∧ recFault (x.fst, x.snd.fst, x.snd.snd.fst, x.snd.snd.snd.fst, x.snd.snd.snd.snd.fst, ()) = recFault (x.fst, x.snd.fst, x.snd.snd.fst, x.snd.snd.snd.fst, x.snd.snd.snd.snd.fst, ()) ∧ ((3 : Nat) = (3 : Nat) ∧ recFault (x.fst, x.snd.fst, x.snd.snd.fst, x.snd.snd.snd.fst, x.snd.snd.snd.snd.fst, ()) = recFault (x.fst, x.snd.fst, x.snd.snd.fst, x.snd.snd.snd.fst, x.snd.snd.snd.snd.fst, ())) ∧ Int.ofNat i = Int.ofNat i ∧ decide (Int.ofNat i > (0 : Int)) = decide (Int.ofNat i > (0 : Int)) ∧ true = decide (Int.ofNat i > (0 : Int)) ∧ (x_1.snd.fst == x.snd.fst) = sameB l (Int.ofNat i) ∧ ((3 : Nat) = (3 : Nat) ∧ (18 : Int) = (18 : Int)) ∧ Int.ofNat i = Int.ofNat i ∧ decide (Int.ofNat i > (0 : Int)) = decide (Int.ofNat i > (0 : Int)) ∧ ((3 : Nat) = (3 : Nat) ∧ (11 : Int) = (11 : Int)) ∧ idx (atPath (parentS x.snd.fst)) (subL l (0 : Nat) (tN (Int.ofNat i))) = idx (atPath (parentS x.snd.fst)) (subL l (0 : Nat) (tN (Int.ofNat i))) ∧ decide (idx (atPath (parentS x.snd.fst)) (subL l (0 : Nat) (tN (Int.ofNat i))) < (0 : Int)) = decide (idx (atPath (parentS x.snd.fst)) (subL l (0 : Nat) (tN (Int.ofNat i))) < (0 : Int)) ∧ ((4 : Nat) = (4 : Nat) ∧ decide (idx (atPath (parentS x.snd.fst)) (subL l (0 : Nat) (tN (Int.ofNat i))) < (0 : Int)) = decide (idx (atPath (parentS x.snd.fst)) (subL l (0 : Nat) (tN (Int.ofNat i))) < (0 : Int))) ∧ ((3 : Nat) = (3 : Nat) ∧ (12 : Int) = (12 : Int)) ∧ (nat_lit 0 = nat_lit 0 ∧ nat_lit 1 = nat_lit 1) ∧ x.snd.fst = x.snd.fst ∧ ((3 : Nat) = (3 : Nat) ∧ (13 : Int) = (13 : Int)) ∧ True) ∧ ((x.fst = x.fst ∧ x.snd.fst = x.snd.fst ∧ x.snd.snd.fst = x.snd.snd.fst ∧ x.snd.snd.snd.fst = x.snd.snd.snd.fst ∧ x.snd.snd.snd.snd.fst = x.snd.snd.snd.snd.fst ∧ True) ∧ True) ∧ True) ∧ (decide (Int.ofNat i > (0 : Int)) = false → (l = l ∧ Int.ofNat i = Int.ofNat i ∧ (0 : Int) = (0 : Int) ∧ (nat_lit 0 = nat_lit 0 ∧ (0 : Nat) = (0 : Nat)) ∧ idx (atPath (parentS x.snd.fst)) (subL l (0 : Nat) (tN (Int.ofNat i))) = idx (atPath (parentS x.snd.fst)) (subL l (0 : Nat) (tN (Int.ofNat i))) ∧ parentS x.snd.fst = parentS x.snd.fst ∧ l = l ∧ Int.ofNat i = Int.ofNat i ∧ (x.fst = x.fst ∧ x.snd.fst = x.snd.fst ∧ x.snd.snd.fst = x.snd.snd.fst ∧ x.snd.snd.snd.fst = x.snd.snd.snd.fst ∧ x.snd.snd.snd.snd.fst = x.snd.snd.snd.snd.fst ∧ True) ∧ (x.fst = x.fst ∧ x.snd.fst = x.snd.fst ∧ x.snd.snd.fst = x.snd.snd.fst ∧ x.snd.snd.snd.fst = x.snd.snd.snd.fst ∧ x.snd.snd.snd.snd.fst = x.snd.snd.snd.snd.fst ∧ True) ∧ (nat_lit 0 = nat_lit 0 ∧ nat_lit 1 = nat_lit 1) ∧ x.snd.fst = x.snd.fst ∧ parentS x.snd.fst = parentS x.snd.fst ∧ parentS x.snd.fst = parentS x.snd.fst ∧ (!parentS x.snd.fst == ([] : List UInt8)) = !parentS x.snd.fst == ([] : List UInt8) ∧ l = l ∧ Int.ofNat i = Int.ofNat i ∧ subL l (0 : Nat) (tN (Int.ofNat i)) = subL l (0 : Nat) (tN (Int.ofNat i)) ∧ parentS x.snd.fst = parentS x.snd.fst ∧ idx (atPath (parentS x.snd.fst)) (subL l (0 : Nat) (tN (Int.ofNat i))) = idx (atPath (parentS x.snd.fst)) (subL l (0 : Nat) (tN (Int.ofNat i))) ∧ Int.ofNat i = Int.ofNat i ∧ decide (Int.ofNat i ≥ (16 : Int)) = decide (Int.ofNat i ≥ (16 : Int)) ∧ ((4 : Nat) = (4 : Nat) ∧ decide (Int.ofNat i ≥ (16 : Int)) = decide (Int.ofNat i ≥ (16 : Int))) ∧ ((3 : Nat) = (3 : Nat) ∧ (6 : Int) = (6 : Int)) ∧ ((4 : Nat) = (4 : Nat) ∧ true = true) ∧ (x.fst = x.fst ∧ x.snd.fst = x.snd.fst ∧ x.snd.snd.fst = x.snd.snd.fst ∧ x.snd.snd.snd.fst = x.snd.snd.snd.fst ∧ x.snd.snd.snd.snd.fst = x.snd.snd.snd.snd.fst ∧ True) ∧ decide (recFault (x.fst, x.snd.fst, x.snd.snd.fst, x.snd.snd.snd.fst, x.snd.snd.snd.snd.fst, ()) = (0 : Int)) = decide (recFault (x.fst, x.snd.fst, x.snd.snd.fst, x.snd.snd.snd.fst, x.snd.snd.snd.snd.fst, ()) = (0 : Int)) ∧ (!decide (recFault (x.fst, x.snd.fst, x.snd.snd.fst, x.snd.snd.snd.fst, x.snd.snd.snd.snd.fst, ()) = (0 : Int))) = !decide (recFault (x.fst, x.snd.fst, x.snd.snd.fst, x.snd.snd.snd.fst, x.snd.snd.snd.snd.fst, ()) = (0 : Int)) ∧ ((4 : Nat) = (4 : Nat) ∧ (!decide (recFault (x.fst, x.snd.fst, x.snd.snd.fst, x.snd.snd.snd.fst, x.snd.snd.snd.snd.fst, ()) = (0 : Int))) = !decide (recFault (x.fst, x.snd.fst, x.snd.snd.fst, x.snd.snd.snd.fst, x.snd.snd.snd.snd.fst, ()) = (0 : Int))) ∧ (x.fst = x.fst ∧ x.snd.fst = x.snd.fst ∧ x.snd.snd.fst = x.snd.snd.fst ∧ x.snd.snd.snd.fst = x.snd.snd.snd.fst ∧ x.snd.snd.snd.snd.fst = x.snd.snd.snd.snd.fst ∧ True) ∧ recFault (x.fst, x.snd.fst, x.snd.snd.fst, x.snd.snd.snd.fst, x.snd.snd.snd.snd.fst, ()) = recFault (x.fst, x.snd.fst, x.snd.snd.fst, x.snd.snd.snd.fst, x.snd.snd.snd.snd.fst, ()) ∧ ((3 : Nat) = (3 : Nat) ∧ recFault (x.fst, x.snd.fst, x.snd.snd.fst, x.snd.snd.snd.fst, x.snd.snd.snd.snd.fst, ()) = recFault (x.fst, x.snd.fst, x.snd.snd.fst, x.snd.snd.snd.fst, x.snd.snd.snd.snd.fst, ())) ∧ Int.ofNat i = Int.ofNat i ∧ decide (Int.ofNat i > (0 : Int)) = decide (Int.ofNat i > (0 : Int)) ∧ false = decide (Int.ofNat i > (0 : Int)) ∧ false = sameB l (Int.ofNat i) ∧ ((3 : Nat) = (3 : Nat) ∧ (18 : Int) = (18 : Int)) ∧ Int.ofNat i = Int.ofNat i ∧ decide (Int.ofNat i > (0 : Int)) = decide (Int.ofNat i > (0 : Int)) ∧ ((3 : Nat) = (3 : Nat) ∧ (11 : Int) = (11 : Int)) ∧ idx (atPath (parentS x.snd.fst)) (subL l (0 : Nat) (tN (Int.ofNat i))) = idx (atPath (parentS x.snd.fst)) (subL l (0 : Nat) (tN (Int.ofNat i))) ∧ decide (idx (atPath (parentS x.snd.fst)) (subL l (0 : Nat) (tN (Int.ofNat i))) < (0 : Int)) = decide (idx (atPath (parentS x.snd.fst)) (subL l (0 : Nat) (tN (Int.ofNat i))) < (0 : Int)) ∧ ((4 : Nat) = (4 : Nat) ∧ decide (idx (atPath (parentS x.snd.fst)) (subL l (0 : Nat) (tN (Int.ofNat i))) < (0 : Int)) = decide (idx (atPath (parentS x.snd.fst)) (subL l (0 : Nat) (tN (Int.ofNat i))) < (0 : Int))) ∧ ((3 : Nat) = (3 : Nat) ∧ (12 : Int) = (12 : Int)) ∧ (nat_lit 0 = nat_lit 0 ∧ nat_lit 1 = nat_lit 1) ∧ x.snd.fst = x.snd.fst ∧ ((3 : Nat) = (3 : Nat) ∧ (13 : Int) = (13 : Int)) ∧ True) ∧ ((x.fst = x.fst ∧ x.snd.fst = x.snd.fst ∧ x.snd.snd.fst = x.snd.snd.fst ∧ x.snd.snd.snd.fst = x.snd.snd.snd.fst ∧ x.snd.snd.snd.snd.fst = x.snd.snd.snd.snd.fst ∧ True) ∧ True) ∧ True)) ∧ (decide (Int.ofNat i > (0 : Int)) = true → IntKind.i64 = IntKind.i64 ∧ bnd (mm true (wSub IntKind.i64 (Int.ofNat i) (1 : Int)) (0 : Int)) (lenL l) ∧ ∀ (x_1 : Int × List UInt8 × List UInt8 × Int × Bool × Unit), nthI l (mm true (wSub IntKind.i64 (Int.ofNat i) (1 : Int)) (0 : Int)) = some x_1 → nat_lit 1 ≤ (Nat.succ (nat_lit 1)).succ.succ ∧ nat_lit 2 ≤ (Nat.succ (nat_lit 1)).succ.succ.succ ∧ true = true ∧ (x_1.snd.fst.length ≤ (100000000 : Nat) ∧ x.snd.fst.length ≤ (100000000 : Nat)) ∧ true = true ∧ x.snd.fst.length ≤ (100000000 : Nat) ∧ (((!parentS x.snd.fst == ([] : List UInt8)) = true → IntKind.i64 = IntKind.i64 ∧ bnd (mm true (idx (atPath (parentS x.snd.fst)) (subL l (0 : Nat) (tN (Int.ofNat i)))) (0 : Int)) (lenL l) ∧ ∀ (x_2 : Int × List UInt8 × List UInt8 × Int × Bool × Unit), nthI l (mm true (idx (atPath (parentS x.snd.fst)) (subL l (0 : Nat) (tN (Int.ofNat i)))) (0 : Int)) = some x_2 → nat_lit 1 ≤ (Nat.succ (nat_lit 1)).succ.succ.succ ∧ (l = l ∧ Int.ofNat i = Int.ofNat i ∧ (0 : Int) = (0 : Int) ∧ (nat_lit 0 = nat_lit 0 ∧ (0 : Nat) = (0 : Nat)) ∧ idx (atPath (parentS x.snd.fst)) (subL l (0 : Nat) (tN (Int.ofNat i))) = idx (atPath (parentS x.snd.fst)) (subL l (0 : Nat) (tN (Int.ofNat i))) ∧ parentS x.snd.fst = parentS x.snd.fst ∧ l = l ∧ Int.ofNat i = Int.ofNat i ∧ (x.fst = x.fst ∧ x.snd.fst = x.snd.fst ∧ x.snd.snd.fst = x.snd.snd.fst ∧ x.snd.snd.snd.fst = x.snd.snd.snd.fst ∧ x.snd.snd.snd.snd.fst = x.snd.snd.snd.snd.fst ∧ True) ∧ (x.fst = x.fst ∧ x.snd.fst = x.snd.fst ∧ x.snd.snd.fst = x.snd.snd.fst ∧ x.snd.snd.snd.fst = x.snd.snd.snd.fst ∧ x.snd.snd.snd.snd.fst = x.snd.snd.snd.snd.fst ∧ True) ∧ (nat_lit 0 = nat_lit 0 ∧ nat_lit 1 = nat_lit 1) ∧ x.snd.fst = x.snd.fst ∧ parentS x.snd.fst = parentS x.snd.fst ∧ parentS x.snd.fst = parentS x.snd.fst ∧ (!parentS x.snd.fst == ([] : List UInt8)) = !parentS x.snd.fst == ([] : List UInt8) ∧ l = l ∧ Int.ofNat i = Int.ofNat i ∧ subL l (0 : Nat) (tN (Int.ofNat i)) = subL l (0 : Nat) (tN (Int.ofNat i)) ∧ parentS x.snd.fst = parentS x.snd.fst ∧ idx (atPath (parentS x.snd.fst)) (subL l (0 : Nat) (tN (Int.ofNat i))) = idx (atPath (parentS x.snd.fst)) (subL l (0 : Nat) (tN (Int.ofNat i))) ∧ Int.ofNat i = Int.ofNat i ∧ decide (Int.ofNat i ≥ (16 : Int)) = decide (Int.ofNat i ≥ (16 : Int)) ∧ ((4 : Nat) = (4 : Nat) ∧ decide (Int.ofNat i ≥ (16 : Int)) = decide (Int.ofNat i ≥ (16 : Int))) ∧ ((3 : Nat) = (3 : Nat) ∧ (6 : Int) = (6 : Int)) ∧ ((4 : Nat) = (4 : Nat) ∧ true = true) ∧ (x.fst = x.fst ∧ x.snd.fst = x.snd.fst ∧ x.snd.snd.fst = x.snd.snd.fst ∧ x.snd.snd.snd.fst = x.snd.snd.snd.fst ∧ x.snd.snd.snd.snd.fst = x.snd.snd.snd.snd.fst ∧ True) ∧ decide (recFault (x.fst, x.snd.fst, x.snd.snd.fst, x.snd.snd.snd.fst, x.snd.snd.snd.snd.fst, ()) = (0 : Int)) = decide (recFault (x.fst, x.snd.fst, x.snd.snd.fst, x.snd.snd.snd.fst, x.snd.snd.snd.snd.fst, ()) = (0 : Int)) ∧ (!decide (recFault (x.fst, x.snd.fst, x.snd.snd.fst, x.snd.snd.snd.fst, x.snd.snd.snd.snd.fst, ()) = (0 : Int))) = !decide (recFault (x.fst, x.snd.fst, x.snd.snd.fst, x.snd.snd.snd.fst, x.snd.snd.snd.snd.fst, ()) = (0 : Int)) ∧ ((4 : Nat) = (4 : Nat) ∧ (!decide (recFault (x.fst, x.snd.fst, x.snd.snd.fst, x.snd.snd.snd.fst, x.snd.snd.snd.snd.fst, ()) = (0 : Int))) = !decide (recFault (x.fst, x.snd.fst, x.snd.snd.fst, x.snd.snd.snd.fst, x.snd.snd.snd.snd.fst, ()) = (0 : Int))) ∧ (x.fst = x.fst ∧ x.snd.fst = x.snd.fst ∧ x.snd.snd.fst = x.snd.snd.fst ∧ x.snd.snd.snd.fst = x.snd.snd.snd.fst ∧ x.snd.snd.snd.snd.fst = x.snd.snd.snd.snd.fst ∧ True) ∧ recFault (x.fst, x.snd.fst, x.snd.snd.fst, x.snd.snd.snd.fst, x.snd.snd.snd.snd.fst, ()) = recFault (x.fst, x.snd.fst, x.snd.snd.fst, x.snd.snd.snd.fst, x.snd.snd.snd.snd.fst, ()) ∧ ((3 : Nat) = (3 : Nat) ∧ recFault (x.fst, x.snd.fst, x.snd.snd.fst, x.snd.snd.snd.fst, x.snd.snd.snd.snd.fst, ()) = recFault (x.fst, x.snd.fst, x.snd.snd.fst, x.snd.snd.snd.fst, x.snd.snd.snd.snd.fst, ())) ∧ Int.ofNat i = Int.ofNat i ∧ decide (Int.ofNat i > (0 : Int)) = decide (Int.ofNat i > (0 : Int)) ∧ decide (Int.ofNat i > (0 : Int)) = decide (Int.ofNat i > (0 : Int)) ∧ sameB l (Int.ofNat i) = sameB l (Int.ofNat i) ∧ ((4 : Nat) = (4 : Nat) ∧ sameB l (Int.ofNat i) = sameB l (Int.ofNat i)) ∧ ((3 : Nat) = (3 : Nat) ∧ (18 : Int) = (18 : Int)) ∧ Int.ofNat i = Int.ofNat i ∧ decide (Int.ofNat i > (0 : Int)) = decide (Int.ofNat i > (0 : Int)) ∧ true = true ∧ l = l ∧ Int.ofNat i = Int.ofNat i ∧ wSub IntKind.i64 (Int.ofNat i) (1 : Int) = wSub IntKind.i64 (Int.ofNat i) (1 : Int) ∧ mm true (wSub IntKind.i64 (Int.ofNat i) (1 : Int)) (0 : Int) = mm true (wSub IntKind.i64 (Int.ofNat i) (1 : Int)) (0 : Int) ∧ (x_1.fst = x_1.fst ∧ x_1.snd.fst = x_1.snd.fst ∧ x_1.snd.snd.fst = x_1.snd.snd.fst ∧ x_1.snd.snd.snd.fst = x_1.snd.snd.snd.fst ∧ x_1.snd.snd.snd.snd.fst = x_1.snd.snd.snd.snd.fst ∧ True) ∧ (x_1.snd.fst = x_1.snd.fst ∧ x_1.snd.snd.fst = x_1.snd.snd.fst ∧ x_1.snd.snd.snd.fst = x_1.snd.snd.snd.fst ∧ x_1.snd.snd.snd.snd.fst = x_1.snd.snd.snd.snd.fst ∧ True) ∧ x_1.snd.fst = x_1.snd.fst ∧ (nat_lit 0 = nat_lit 0 ∧ nat_lit 1 = nat_lit 1) ∧ x.snd.fst = x.snd.fst ∧ pathLess x_1.snd.fst x.snd.fst = pathLess x_1.snd.fst x.snd.fst ∧ (!pathLess x_1.snd.fst x.snd.fst) = !pathLess x_1.snd.fst x.snd.fst ∧ (!pathLess x_1.snd.fst x.snd.fst) = !pathLess x_1.snd.fst x.snd.fst ∧ ((4 : Nat) = (4 : Nat) ∧ (!pathLess x_1.snd.fst x.snd.fst) = !pathLess x_1.snd.fst x.snd.fst) ∧ ((3 : Nat) = (3 : Nat) ∧ (11 : Int) = (11 : Int)) ∧ idx (atPath (parentS x.snd.fst)) (subL l (0 : Nat) (tN (Int.ofNat i))) = idx (atPath (parentS x.snd.fst)) (subL l (0 : Nat) (tN (Int.ofNat i))) ∧ decide (idx (atPath (parentS x.snd.fst)) (subL l (0 : Nat) (tN (Int.ofNat i))) < (0 : Int)) = decide (idx (atPath (parentS x.snd.fst)) (subL l (0 : Nat) (tN (Int.ofNat i))) < (0 : Int)) ∧ ((4 : Nat) = (4 : Nat) ∧ decide (idx (atPath (parentS x.snd.fst)) (subL l (0 : Nat) (tN (Int.ofNat i))) < (0 : Int)) = decide (idx (atPath (parentS x.snd.fst)) (subL l (0 : Nat) (tN (Int.ofNat i))) < (0 : Int))) ∧ ((3 : Nat) = (3 : Nat) ∧ (12 : Int) = (12 : Int)) ∧ (nat_lit 0 = nat_lit 0 ∧ nat_lit 1 = nat_lit 1) ∧ x.snd.fst = x.snd.fst ∧ parentS x.snd.fst = parentS x.snd.fst ∧ (!parentS x.snd.fst == ([] : List UInt8)) = !parentS x.snd.fst == ([] : List UInt8) ∧ true = !parentS x.snd.fst == ([] : List UInt8) ∧ (x_2.fst != (3 : Int)) = dirB l (Int.ofNat i) ∧ ((3 : Nat) = (3 : Nat) ∧ (13 : Int) = (13 : Int)) ∧ True) ∧ ((x.fst = x.fst ∧ x.snd.fst = x.snd.fst ∧ x.snd.snd.fst = x.snd.snd.fst ∧ x.snd.snd.snd.fst = x.snd.snd.snd.fst ∧ x.snd.snd.snd.snd.fst = x.snd.snd.snd.snd.fst ∧ True) ∧ True) ∧ True) ∧ ((!parentS x.snd.fst == ([] : List UInt8)) = false → (l = l ∧ Int.ofNat i = Int.ofNat i ∧ (0 : Int) = (0 : Int) ∧ (nat_lit 0 = nat_lit 0 ∧ (0 : Nat) = (0 : Nat)) ∧ idx (atPath (parentS x.snd.fst)) (subL l (0 : Nat) (tN (Int.ofNat i))) = idx (atPath (parentS x.snd.fst)) (subL l (0 : Nat) (tN (Int.ofNat i))) ∧ parentS x.snd.fst = parentS x.snd.fst ∧ l = l ∧ Int.ofNat i = Int.ofNat i ∧ (x.fst = x.fst ∧ x.snd.fst = x.snd.fst ∧ x.snd.snd.fst = x.snd.snd.fst ∧ x.snd.snd.snd.fst = x.snd.snd.snd.fst ∧ x.snd.snd.snd.snd.fst = x.snd.snd.snd.snd.fst ∧ True) ∧ (x.fst = x.fst ∧ x.snd.fst = x.snd.fst ∧ x.snd.snd.fst = x.snd.snd.fst ∧ x.snd.snd.snd.fst = x.snd.snd.snd.fst ∧ x.snd.snd.snd.snd.fst = x.snd.snd.snd.snd.fst ∧ True) ∧ (nat_lit 0 = nat_lit 0 ∧ nat_lit 1 = nat_lit 1) ∧ x.snd.fst = x.snd.fst ∧ parentS x.snd.fst = parentS x.snd.fst ∧ parentS x.snd.fst = parentS x.snd.fst ∧ (!parentS x.snd.fst == ([] : List UInt8)) = !parentS x.snd.fst == ([] : List UInt8) ∧ l = l ∧ Int.ofNat i = Int.ofNat i ∧ subL l (0 : Nat) (tN (Int.ofNat i)) = subL l (0 : Nat) (tN (Int.ofNat i)) ∧ parentS x.snd.fst = parentS x.snd.fst ∧ idx (atPath (parentS x.snd.fst)) (subL l (0 : Nat) (tN (Int.ofNat i))) = idx (atPath (parentS x.snd.fst)) (subL l (0 : Nat) (tN (Int.ofNat i))) ∧ Int.ofNat i = Int.ofNat i ∧ decide (Int.ofNat i ≥ (16 : Int)) = decide (Int.ofNat i ≥ (16 : Int)) ∧ ((4 : Nat) = (4 : Nat) ∧ decide (Int.ofNat i ≥ (16 : Int)) = decide (Int.ofNat i ≥ (16 : Int))) ∧ ((3 : Nat) = (3 : Nat) ∧ (6 : Int) = (6 : Int)) ∧ ((4 : Nat) = (4 : Nat) ∧ true = true) ∧ (x.fst = x.fst ∧ x.snd.fst = x.snd.fst ∧ x.snd.snd.fst = x.snd.snd.fst ∧ x.snd.snd.snd.fst = x.snd.snd.snd.fst ∧ x.snd.snd.snd.snd.fst = x.snd.snd.snd.snd.fst ∧ True) ∧ decide (recFault (x.fst, x.snd.fst, x.snd.snd.fst, x.snd.snd.snd.fst, x.snd.snd.snd.snd.fst, ()) = (0 : Int)) = decide (recFault (x.fst, x.snd.fst, x.snd.snd.fst, x.snd.snd.snd.fst, x.snd.snd.snd.snd.fst, ()) = (0 : Int)) ∧ (!decide (recFault (x.fst, x.snd.fst, x.snd.snd.fst, x.snd.snd.snd.fst, x.snd.snd.snd.snd.fst, ()) = (0 : Int))) = !decide (recFault (x.fst, x.snd.fst, x.snd.snd.fst, x.snd.snd.snd.fst, x.snd.snd.snd.snd.fst, ()) = (0 : Int)) ∧ ((4 : Nat) = (4 : Nat) ∧ (!decide (recFault (x.fst, x.snd.fst, x.snd.snd.fst, x.snd.snd.snd.fst, x.snd.snd.snd.snd.fst, ()) = (0 : Int))) = !decide (recFault (x.fst, x.snd.fst, x.snd.snd.fst, x.snd.snd.snd.fst, x.snd.snd.snd.snd.fst, ()) = (0 : Int))) ∧ (x.fst = x.fst ∧ x.snd.fst = x.snd.fst ∧ x.snd.snd.fst = x.snd.snd.fst ∧ x.snd.snd.snd.fst = x.snd.snd.snd.fst ∧ x.snd.snd.snd.snd.fst = x.snd.snd.snd.snd.fst ∧ True) ∧ recFault (x.fst, x.snd.fst, x.snd.snd.fst, x.snd.snd.snd.fst, x.snd.snd.snd.snd.fst, ()) = recFault (x.fst, x.snd.fst, x.snd.snd.fst, x.snd.snd.snd.fst, x.snd.snd.snd.snd.fst, ()) ∧ ((3 : Nat) = (3 : Nat) ∧ recFault (x.fst, x.snd.fst, x.snd.snd.fst, x.snd.snd.snd.fst, x.snd.snd.snd.snd.fst, ()) = recFault (x.fst, x.snd.fst, x.snd.snd.fst, x.snd.snd.snd.fst, x.snd.snd.snd.snd.fst, ())) ∧ Int.ofNat i = Int.ofNat i ∧ decide (Int.ofNat i > (0 : Int)) = decide (Int.ofNat i > (0 : Int)) ∧ decide (Int.ofNat i > (0 : Int)) = decide (Int.ofNat i > (0 : Int)) ∧ sameB l (Int.ofNat i) = sameB l (Int.ofNat i) ∧ ((4 : Nat) = (4 : Nat) ∧ sameB l (Int.ofNat i) = sameB l (Int.ofNat i)) ∧ ((3 : Nat) = (3 : Nat) ∧ (18 : Int) = (18 : Int)) ∧ Int.ofNat i = Int.ofNat i ∧ decide (Int.ofNat i > (0 : Int)) = decide (Int.ofNat i > (0 : Int)) ∧ true = true ∧ l = l ∧ Int.ofNat i = Int.ofNat i ∧ wSub IntKind.i64 (Int.ofNat i) (1 : Int) = wSub IntKind.i64 (Int.ofNat i) (1 : Int) ∧ mm true (wSub IntKind.i64 (Int.ofNat i) (1 : Int)) (0 : Int) = mm true (wSub IntKind.i64 (Int.ofNat i) (1 : Int)) (0 : Int) ∧ (x_1.fst = x_1.fst ∧ x_1.snd.fst = x_1.snd.fst ∧ x_1.snd.snd.fst = x_1.snd.snd.fst ∧ x_1.snd.snd.snd.fst = x_1.snd.snd.snd.fst ∧ x_1.snd.snd.snd.snd.fst = x_1.snd.snd.snd.snd.fst ∧ True) ∧ (x_1.snd.fst = x_1.snd.fst ∧ x_1.snd.snd.fst = x_1.snd.snd.fst ∧ x_1.snd.snd.snd.fst = x_1.snd.snd.snd.fst ∧ x_1.snd.snd.snd.snd.fst = x_1.snd.snd.snd.snd.fst ∧ True) ∧ x_1.snd.fst = x_1.snd.fst ∧ (nat_lit 0 = nat_lit 0 ∧ nat_lit 1 = nat_lit 1) ∧ x.snd.fst = x.snd.fst ∧ pathLess x_1.snd.fst x.snd.fst = pathLess x_1.snd.fst x.snd.fst ∧ (!pathLess x_1.snd.fst x.snd.fst) = !pathLess x_1.snd.fst x.snd.fst ∧ (!pathLess x_1.snd.fst x.snd.fst) = !pathLess x_1.snd.fst x.snd.fst ∧ ((4 : Nat) = (4 : Nat) ∧ (!pathLess x_1.snd.fst x.snd.fst) = !pathLess x_1.snd.fst x.snd.fst) ∧ ((3 : Nat) = (3 : Nat) ∧ (11 : Int) = (11 : Int)) ∧ idx (atPath (parentS x.snd.fst)) (subL l (0 : Nat) (tN (Int.ofNat i))) = idx (atPath (parentS x.snd.fst)) (subL l (0 : Nat) (tN (Int.ofNat i))) ∧ decide (idx (atPath (parentS x.snd.fst)) (subL l (0 : Nat) (tN (Int.ofNat i))) < (0 : Int)) = decide (idx (atPath (parentS x.snd.fst)) (subL l (0 : Nat) (tN (Int.ofNat i))) < (0 : Int)) ∧ ((4 : Nat) = (4 : Nat) ∧ decide (idx (atPath (parentS x.snd.fst)) (subL l (0 : Nat) (tN (Int.ofNat i))) < (0 : Int)) = decide (idx (atPath (parentS x.snd.fst)) (subL l (0 : Nat) (tN (Int.ofNat i))) < (0 : Int))) ∧ ((3 : Nat) = (3 : Nat) ∧ (12 : Int) = (12 : Int)) ∧ (nat_lit 0 = nat_lit 0 ∧ nat_lit 1 = nat_lit 1) ∧ x.snd.fst = x.snd.fst ∧ parentS x.snd.fst = parentS x.snd.fst ∧ (!parentS x.snd.fst == ([] : List UInt8)) = !parentS x.snd.fst == ([] : List UInt8) ∧ false = !parentS x.snd.fst == ([] : List UInt8) ∧ false = dirB l (Int.ofNat i) ∧ ((3 : Nat) = (3 : Nat) ∧ (13 : Int) = (13 : Int)) ∧ True) ∧ ((x.fst = x.fst ∧ x.snd.fst = x.snd.fst ∧ x.snd.snd.fst = x.snd.snd.fst ∧ x.snd.snd.snd.fst = x.snd.snd.snd.fst ∧ x.snd.snd.snd.snd.fst = x.snd.snd.snd.snd.fst ∧ True) ∧ True) ∧ True)) ∧ true = true ∧ True ∧ true = true ∧ True ∧ (first (AnyV.b (decide (Int.ofNat i ≥ (16 : Int))) :: AnyV.n (6 : Int) :: AnyV.b true :: AnyV.n (first ((AnyV.b !decide (recFault (x.fst, x.snd.fst, x.snd.snd.fst, x.snd.snd.snd.fst, x.snd.snd.snd.snd.fst, ()) = (0 : Int))) :: AnyV.n (recFault (x.fst, x.snd.fst, x.snd.snd.fst, x.snd.snd.snd.fst, x.snd.snd.snd.snd.fst, ())) :: AnyV.b (sameB l (Int.ofNat i)) :: AnyV.n (18 : Int) :: (AnyV.b !pathLess x_1.snd.fst x.snd.fst) :: AnyV.n (11 : Int) :: AnyV.b (decide (idx (atPath (parentS x.snd.fst)) (subL l (0 : Nat) (tN (Int.ofNat i))) < (0 : Int))) :: AnyV.n (12 : Int) :: AnyV.b (dirB l (Int.ofNat i)) :: AnyV.n (13 : Int) :: ([] : List AnyV))) :: ([] : List AnyV)), ()) = (faultI l (Int.ofNat i), ()) ∧ () = ()) ∧ (decide (Int.ofNat i > (0 : Int)) = false → true = true ∧ x.snd.fst.length ≤ (100000000 : Nat) ∧ (((!parentS x.snd.fst == ([] : List UInt8)) = true → IntKind.i64 = IntKind.i64 ∧ bnd (mm true (idx (atPath (parentS x.snd.fst)) (subL l (0 : Nat) (tN (Int.ofNat i)))) (0 : Int)) (lenL l) ∧ ∀ (x_1 : Int × List UInt8 × List UInt8 × Int × Bool × Unit), nthI l (mm true (idx (atPath (parentS x.snd.fst)) (subL l (0 : Nat) (tN (Int.ofNat i)))) (0 : Int)) = some x_1 → nat_lit 1 ≤ (Nat.succ (nat_lit 1)).succ.succ.succ ∧ (l = l ∧ Int.ofNat i = Int.ofNat i ∧ (0 : Int) = (0 : Int) ∧ (nat_lit 0 = nat_lit 0 ∧ (0 : Nat) = (0 : Nat)) ∧ idx (atPath (parentS x.snd.fst)) (subL l (0 : Nat) (tN (Int.ofNat i))) = idx (atPath (parentS x.snd.fst)) (subL l (0 : Nat) (tN (Int.ofNat i))) ∧ parentS x.snd.fst = parentS x.snd.fst ∧ l = l ∧ Int.ofNat i = Int.ofNat i ∧ (x.fst = x.fst ∧ x.snd.fst = x.snd.fst ∧ x.snd.snd.fst = x.snd.snd.fst ∧ x.snd.snd.snd.fst = x.snd.snd.snd.fst ∧ x.snd.snd.snd.snd.fst = x.snd.snd.snd.snd.fst ∧ True) ∧ (x.fst = x.fst ∧ x.snd.fst = x.snd.fst ∧ x.snd.snd.fst = x.snd.snd.fst ∧ x.snd.snd.snd.fst = x.snd.snd.snd.fst ∧ x.snd.snd.snd.snd.fst = x.snd.snd.snd.snd.fst ∧ True) ∧ (nat_lit 0 = nat_lit 0 ∧ nat_lit 1 = nat_lit 1) ∧ x.snd.fst = x.snd.fst ∧ parentS x.snd.fst = parentS x.snd.fst ∧ parentS x.snd.fst = parentS x.snd.fst ∧ (!parentS x.snd.fst == ([] : List UInt8)) = !parentS x.snd.fst == ([] : List UInt8) ∧ l = l ∧ Int.ofNat i = Int.ofNat i ∧ subL l (0 : Nat) (tN (Int.ofNat i)) = subL l (0 : Nat) (tN (Int.ofNat i)) ∧ parentS x.snd.fst = parentS x.snd.fst ∧ idx (atPath (parentS x.snd.fst)) (subL l (0 : Nat) (tN (Int.ofNat i))) = idx (atPath (parentS x.snd.fst)) (subL l (0 : Nat) (tN (Int.ofNat i))) ∧ Int.ofNat i = Int.ofNat i ∧ decide (Int.ofNat i ≥ (16 : Int)) = decide (Int.ofNat i ≥ (16 : Int)) ∧ ((4 : Nat) = (4 : Nat) ∧ decide (Int.ofNat i ≥ (16 : Int)) = decide (Int.ofNat i ≥ (16 : Int))) ∧ ((3 : Nat) = (3 : Nat) ∧ (6 : Int) = (6 : Int)) ∧ ((4 : Nat) = (4 : Nat) ∧ true = true) ∧ (x.fst = x.fst ∧ x.snd.fst = x.snd.fst ∧ x.snd.snd.fst = x.snd.snd.fst ∧ x.snd.snd.snd.fst = x.snd.snd.snd.fst ∧ x.snd.snd.snd.snd.fst = x.snd.snd.snd.snd.fst ∧ True) ∧ decide (recFault (x.fst, x.snd.fst, x.snd.snd.fst, x.snd.snd.snd.fst, x.snd.snd.snd.snd.fst, ()) = (0 : Int)) = decide (recFault (x.fst, x.snd.fst, x.snd.snd.fst, x.snd.snd.snd.fst, x.snd.snd.snd.snd.fst, ()) = (0 : Int)) ∧ (!decide (recFault (x.fst, x.snd.fst, x.snd.snd.fst, x.snd.snd.snd.fst, x.snd.snd.snd.snd.fst, ()) = (0 : Int))) = !decide (recFault (x.fst, x.snd.fst, x.snd.snd.fst, x.snd.snd.snd.fst, x.snd.snd.snd.snd.fst, ()) = (0 : Int)) ∧ ((4 : Nat) = (4 : Nat) ∧ (!decide (recFault (x.fst, x.snd.fst, x.snd.snd.fst, x.snd.snd.snd.fst, x.snd.snd.snd.snd.fst, ()) = (0 : Int))) = !decide (recFault (x.fst, x.snd.fst, x.snd.snd.fst, x.snd.snd.snd.fst, x.snd.snd.snd.snd.fst, ()) = (0 : Int))) ∧ (x.fst = x.fst ∧ x.snd.fst = x.snd.fst ∧ x.snd.snd.fst = x.snd.snd.fst ∧ x.snd.snd.snd.fst = x.snd.snd.snd.fst ∧ x.snd.snd.snd.snd.fst = x.snd.snd.snd.snd.fst ∧ True) ∧ recFault (x.fst, x.snd.fst, x.snd.snd.fst, x.snd.snd.snd.fst, x.snd.snd.snd.snd.fst, ()) = recFault (x.fst, x.snd.fst, x.snd.snd.fst, x.snd.snd.snd.fst, x.snd.snd.snd.snd.fst, ()) ∧ ((3 : Nat) = (3 : Nat) ∧ recFault (x.fst, x.snd.fst, x.snd.snd.fst, x.snd.snd.snd.fst, x.snd.snd.snd.snd.fst, ()) = recFault (x.fst, x.snd.fst, x.snd.snd.fst, x.snd.snd.snd.fst, x.snd.snd.snd.snd.fst, ())) ∧ Int.ofNat i = Int.ofNat i ∧ decide (Int.ofNat i > (0 : Int)) = decide (Int.ofNat i > (0 : Int)) ∧ decide (Int.ofNat i > (0 : Int)) = decide (Int.ofNat i > (0 : Int)) ∧ sameB l (Int.ofNat i) = sameB l (Int.ofNat i) ∧ ((4 : Nat) = (4 : Nat) ∧ sameB l (Int.ofNat i) = sameB l (Int.ofNat i)) ∧ ((3 : Nat) = (3 : Nat) ∧ (18 : Int) = (18 : Int)) ∧ Int.ofNat i = Int.ofNat i ∧ decide (Int.ofNat i > (0 : Int)) = decide (Int.ofNat i > (0 : Int)) ∧ false = false ∧ True ∧ True ∧ True ∧ True ∧ True ∧ True ∧ True ∧ True ∧ True ∧ True ∧ True ∧ false = false ∧ ((4 : Nat) = (4 : Nat) ∧ false = false) ∧ ((3 : Nat) = (3 : Nat) ∧ (11 : Int) = (11 : Int)) ∧ idx (atPath (parentS x.snd.fst)) (subL l (0 : Nat) (tN (Int.ofNat i))) = idx (atPath (parentS x.snd.fst)) (subL l (0 : Nat) (tN (Int.ofNat i))) ∧ decide (idx (atPath (parentS x.snd.fst)) (subL l (0 : Nat) (tN (Int.ofNat i))) < (0 : Int)) = decide (idx (atPath (parentS x.snd.fst)) (subL l (0 : Nat) (tN (Int.ofNat i))) < (0 : Int)) ∧ ((4 : Nat) = (4 : Nat) ∧ decide (idx (atPath (parentS x.snd.fst)) (subL l (0 : Nat) (tN (Int.ofNat i))) < (0 : Int)) = decide (idx (atPath (parentS x.snd.fst)) (subL l (0 : Nat) (tN (Int.ofNat i))) < (0 : Int))) ∧ ((3 : Nat) = (3 : Nat) ∧ (12 : Int) = (12 : Int)) ∧ (nat_lit 0 = nat_lit 0 ∧ nat_lit 1 = nat_lit 1) ∧ x.snd.fst = x.snd.fst ∧ parentS x.snd.fst = parentS x.snd.fst ∧ (!parentS x.snd.fst == ([] : List UInt8)) = !parentS x.snd.fst == ([] : List UInt8) ∧ true = !parentS x.snd.fst == ([] : List UInt8) ∧ (x_1.fst != (3 : Int)) = dirB l (Int.ofNat i) ∧ ((3 : Nat) = (3 : Nat) ∧ (13 : Int) = (13 : Int)) ∧ True) ∧ ((x.fst = x.fst ∧ x.snd.fst = x.snd.fst ∧ x.snd.snd.fst = x.snd.snd.fst ∧ x.snd.snd.snd.fst = x.snd.snd.snd.fst ∧ x.snd.snd.snd.snd.fst = x.snd.snd.snd.snd.fst ∧ True) ∧ True) ∧ True) ∧ ((!parentS x.snd.fst == ([] : List UInt8)) = false → (l = l ∧ Int.ofNat i = Int.ofNat i ∧ (0 : Int) = (0 : Int) ∧ (nat_lit 0 = nat_lit 0 ∧ (0 : Nat) = (0 : Nat)) ∧ idx (atPath (parentS x.snd.fst)) (subL l (0 : Nat) (tN (Int.ofNat i))) = idx (atPath (parentS x.snd.fst)) (subL l (0 : Nat) (tN (Int.ofNat i))) ∧ parentS x.snd.fst = parentS x.snd.fst ∧ l = l ∧ Int.ofNat i = Int.ofNat i ∧ (x.fst = x.fst ∧ x.snd.fst = x.snd.fst ∧ x.snd.snd.fst = x.snd.snd.fst ∧ x.snd.snd.snd.fst = x.snd.snd.snd.fst ∧ x.snd.snd.snd.snd.fst = x.snd.snd.snd.snd.fst ∧ True) ∧ (x.fst = x.fst ∧ x.snd.fst = x.snd.fst ∧ x.snd.snd.fst = x.snd.snd.fst ∧ x.snd.snd.snd.fst = x.snd.snd.snd.fst ∧ x.snd.snd.snd.snd.fst = x.snd.snd.snd.snd.fst ∧ True) ∧ (nat_lit 0 = nat_lit 0 ∧ nat_lit 1 = nat_lit 1) ∧ x.snd.fst = x.snd.fst ∧ parentS x.snd.fst = parentS x.snd.fst ∧ parentS x.snd.fst = parentS x.snd.fst ∧ (!parentS x.snd.fst == ([] : List UInt8)) = !parentS x.snd.fst == ([] : List UInt8) ∧ l = l ∧ Int.ofNat i = Int.ofNat i ∧ subL l (0 : Nat) (tN (Int.ofNat i)) = subL l (0 : Nat) (tN (Int.ofNat i)) ∧ parentS x.snd.fst = parentS x.snd.fst ∧ idx (atPath (parentS x.snd.fst)) (subL l (0 : Nat) (tN (Int.ofNat i))) = idx (atPath (parentS x.snd.fst)) (subL l (0 : Nat) (tN (Int.ofNat i))) ∧ Int.ofNat i = Int.ofNat i ∧ decide (Int.ofNat i ≥ (16 : Int)) = decide (Int.ofNat i ≥ (16 : Int)) ∧ ((4 : Nat) = (4 : Nat) ∧ decide (Int.ofNat i ≥ (16 : Int)) = decide (Int.ofNat i ≥ (16 : Int))) ∧ ((3 : Nat) = (3 : Nat) ∧ (6 : Int) = (6 : Int)) ∧ ((4 : Nat) = (4 : Nat) ∧ true = true) ∧ (x.fst = x.fst ∧ x.snd.fst = x.snd.fst ∧ x.snd.snd.fst = x.snd.snd.fst ∧ x.snd.snd.snd.fst = x.snd.snd.snd.fst ∧ x.snd.snd.snd.snd.fst = x.snd.snd.snd.snd.fst ∧ True) ∧ decide (recFault (x.fst, x.snd.fst, x.snd.snd.fst, x.snd.snd.snd.fst, x.snd.snd.snd.snd.fst, ()) = (0 : Int)) = decide (recFault (x.fst, x.snd.fst, x.snd.snd.fst, x.snd.snd.snd.fst, x.snd.snd.snd.snd.fst, ()) = (0 : Int)) ∧ (!decide (recFault (x.fst, x.snd.fst, x.snd.snd.fst, x.snd.snd.snd.fst, x.snd.snd.snd.snd.fst, ()) = (0 : Int))) = !decide (recFault (x.fst, x.snd.fst, x.snd.snd.fst, x.snd.snd.snd.fst, x.snd.snd.snd.snd.fst, ()) = (0 : Int)) ∧ ((4 : Nat) = (4 : Nat) ∧ (!decide (recFault (x.fst, x.snd.fst, x.snd.snd.fst, x.snd.snd.snd.fst, x.snd.snd.snd.snd.fst, ()) = (0 : Int))) = !decide (recFault (x.fst, x.snd.fst, x.snd.snd.fst, x.snd.snd.snd.fst, x.snd.snd.snd.snd.fst, ()) = (0 : Int))) ∧ (x.fst = x.fst ∧ x.snd.fst = x.snd.fst ∧ x.snd.snd.fst = x.snd.snd.fst ∧ x.snd.snd.snd.fst = x.snd.snd.snd.fst ∧ x.snd.snd.snd.snd.fst = x.snd.snd.snd.snd.fst ∧ True) ∧ recFault (x.fst, x.snd.fst, x.snd.snd.fst, x.snd.snd.snd.fst, x.snd.snd.snd.snd.fst, ()) = recFault (x.fst, x.snd.fst, x.snd.snd.fst, x.snd.snd.snd.fst, x.snd.snd.snd.snd.fst, ()) ∧ ((3 : Nat) = (3 : Nat) ∧ recFault (x.fst, x.snd.fst, x.snd.snd.fst, x.snd.snd.snd.fst, x.snd.snd.snd.snd.fst, ()) = recFault (x.fst, x.snd.fst, x.snd.snd.fst, x.snd.snd.snd.fst, x.snd.snd.snd.snd.fst, ())) ∧ Int.ofNat i = Int.ofNat i ∧ decide (Int.ofNat i > (0 : Int)) = decide (Int.ofNat i > (0 : Int)) ∧ decide (Int.ofNat i > (0 : Int)) = decide (Int.ofNat i > (0 : Int)) ∧ sameB l (Int.ofNat i) = sameB l (Int.ofNat i) ∧ ((4 : Nat) = (4 : Nat) ∧ sameB l (Int.ofNat i) = sameB l (Int.ofNat i)) ∧ ((3 : Nat) = (3 : Nat) ∧ (18 : Int) = (18 : Int)) ∧ Int.ofNat i = Int.ofNat i ∧ decide (Int.ofNat i > (0 : Int)) = decide (Int.ofNat i > (0 : Int)) ∧ false = false ∧ True ∧ True ∧ True ∧ True ∧ True ∧ True ∧ True ∧ True ∧ True ∧ True ∧ True ∧ false = false ∧ ((4 : Nat) = (4 : Nat) ∧ false = false) ∧ ((3 : Nat) = (3 : Nat) ∧ (11 : Int) = (11 : Int)) ∧ idx (atPath (parentS x.snd.fst)) (subL l (0 : Nat) (tN (Int.ofNat i))) = idx (atPath (parentS x.snd.fst)) (subL l (0 : Nat) (tN (Int.ofNat i))) ∧ decide (idx (atPath (parentS x.snd.fst)) (subL l (0 : Nat) (tN (Int.ofNat i))) < (0 : Int)) = decide (idx (atPath (parentS x.snd.fst)) (subL l (0 : Nat) (tN (Int.ofNat i))) < (0 : Int)) ∧ ((4 : Nat) = (4 : Nat) ∧ decide (idx (atPath (parentS x.snd.fst)) (subL l (0 : Nat) (tN (Int.ofNat i))) < (0 : Int)) = decide (idx (atPath (parentS x.snd.fst)) (subL l (0 : Nat) (tN (Int.ofNat i))) < (0 : Int))) ∧ ((3 : Nat) = (3 : Nat) ∧ (12 : Int) = (12 : Int)) ∧ (nat_lit 0 = nat_lit 0 ∧ nat_lit 1 = nat_lit 1) ∧ x.snd.fst = x.snd.fst ∧ parentS x.snd.fst = parentS x.snd.fst ∧ (!parentS x.snd.fst == ([] : List UInt8)) = !parentS x.snd.fst == ([] : List UInt8) ∧ false = !parentS x.snd.fst == ([] : List UInt8) ∧ false = dirB l (Int.ofNat i) ∧ ((3 : Nat) = (3 : Nat) ∧ (13 : Int) = (13 : Int)) ∧ True) ∧ ((x.fst = x.fst ∧ x.snd.fst = x.snd.fst ∧ x.snd.snd.fst = x.snd.snd.fst ∧ x.snd.snd.snd.fst = x.snd.snd.snd.fst ∧ x.snd.snd.snd.snd.fst = x.snd.snd.snd.snd.fst ∧ True) ∧ True) ∧ True)) ∧ true = true ∧ True ∧ true = true ∧ True ∧ (first (AnyV.b (decide (Int.ofNat i ≥ (16 : Int))) :: AnyV.n (6 : Int) :: AnyV.b true :: AnyV.n (first ((AnyV.b !decide (recFault (x.fst, x.snd.fst, x.snd.snd.fst, x.snd.snd.snd.fst, x.snd.snd.snd.snd.fst, ()) = (0 : Int))) :: AnyV.n (recFault (x.fst, x.snd.fst, x.snd.snd.fst, x.snd.snd.snd.fst, x.snd.snd.snd.snd.fst, ())) :: AnyV.b (sameB l (Int.ofNat i)) :: AnyV.n (18 : Int) :: AnyV.b false :: AnyV.n (11 : Int) :: AnyV.b (decide (idx (atPath (parentS x.snd.fst)) (subL l (0 : Nat) (tN (Int.ofNat i))) < (0 : Int))) :: AnyV.n (12 : Int) :: AnyV.b (dirB l (Int.ofNat i)) :: AnyV.n (13 : Int) :: ([] : List AnyV))) :: ([] : List AnyV)), ()) = (faultI l (Int.ofNat i), ()) ∧ () = ())) ∧ ((!parentS x.snd.fst == ([] : List UInt8)) = false → nat_lit 5 ≤ (Nat.succ (nat_lit 1)).succ.succ.succ ∧ nat_lit 5 ≤ (Nat.succ (nat_lit 1)).succ.succ.succ ∧ nat_lit 2 ≤ (Nat.succ (nat_lit 1)).succ.succ.succ ∧ true = true ∧ x.snd.fst.length ≤ (100000000 : Nat) ∧ true = true ∧ x.snd.fst.length ≤ (100000000 : Nat) ∧ ((decide (Int.ofNat i > (0 : Int)) = true → IntKind.i64 = IntKind.i64 ∧ bnd (mm true (wSub IntKind.i64 (Int.ofNat i) (1 : Int)) (0 : Int)) (lenL l) ∧ ∀ (x_1 : Int × List UInt8 × List UInt8 × Int × Bool × Unit), nthI l (mm true (wSub IntKind.i64 (Int.ofNat i) (1 : Int)) (0 : Int)) = some x_1 → nat_lit 1 ≤ (Nat.succ (nat_lit 1)).succ.succ ∧ nat_lit 2 ≤ (Nat.succ (nat_lit 1)).succ.succ.succ ∧ (l = l ∧ Int.ofNat i = Int.ofNat i ∧ (0 : Int) = (0 : Int) ∧ (nat_lit 0 = nat_lit 0 ∧ (0 : Nat) = (0 : Nat)) ∧ (0 : Int) = (0 : Int) ∧ parentS x.snd.fst = parentS x.snd.fst ∧ l = l ∧ Int.ofNat i = Int.ofNat i ∧ (x.fst = x.fst ∧ x.snd.fst = x.snd.fst ∧ x.snd.snd.fst = x.snd.snd.fst ∧ x.snd.snd.snd.fst = x.snd.snd.snd.fst ∧ x.snd.snd.snd.snd.fst = x.snd.snd.snd.snd.fst ∧ True) ∧ (x.fst = x.fst ∧ x.snd.fst = x.snd.fst ∧ x.snd.snd.fst = x.snd.snd.fst ∧ x.snd.snd.snd.fst = x.snd.snd.snd.fst ∧ x.snd.snd.snd.snd.fst = x.snd.snd.snd.snd.fst ∧ True) ∧ (nat_lit 0 = nat_lit 0 ∧ nat_lit 1 = nat_lit 1) ∧ x.snd.fst = x.snd.fst ∧ parentS x.snd.fst = parentS x.snd.fst ∧ parentS x.snd.fst = parentS x.snd.fst ∧ (!parentS x.snd.fst == ([] : List UInt8)) = !parentS x.snd.fst == ([] : List UInt8) ∧ Int.ofNat i = Int.ofNat i ∧ decide (Int.ofNat i ≥ (16 : Int)) = decide (Int.ofNat i ≥ (16 : Int)) ∧ ((4 : Nat) = (4 : Nat) ∧ decide (Int.ofNat i ≥ (16 : Int)) = decide (Int.ofNat i ≥ (16 : Int))) ∧ ((3 : Nat) = (3 : Nat) ∧ (6 : Int) = (6 : Int)) ∧ ((4 : Nat) = (4 : Nat) ∧ true = true) ∧ (x.fst = x.fst ∧ x.snd.fst = x.snd.fst ∧ x.snd.snd.fst = x.snd.snd.fst ∧ x.snd.snd.snd.fst = x.snd.snd.snd.fst ∧ x.snd.snd.snd.snd.fst = x.snd.snd.snd.snd.fst ∧ True) ∧ decide (recFault (x.fst, x.snd.fst, x.snd.snd.fst, x.snd.snd.snd.fst, x.snd.snd.snd.snd.fst, ()) = (0 : Int)) = decide (recFault (x.fst, x.snd.fst, x.snd.snd.fst, x.snd.snd.snd.fst, x.snd.snd.snd.snd.fst, ()) = (0 : Int)) ∧ (!decide (recFault (x.fst, x.snd.fst, x.snd.snd.fst, x.snd.snd.snd.fst, x.snd.snd.snd.snd.fst, ()) = (0 : Int))) = !decide (recFault (x.fst, x.snd.fst, x.snd.snd.fst, x.snd.snd.snd.fst, x.snd.snd.snd.snd.fst, ()) = (0 : Int)) ∧ ((4 : Nat) = (4 : Nat) ∧ (!decide (recFault (x.fst, x.snd.fst, x.snd.snd.fst, x.snd.snd.snd.fst, x.snd.snd.snd.snd.fst, ()) = (0 : Int))) = !decide (recFault (x.fst, x.snd.fst, x.snd.snd.fst, x.snd.snd.snd.fst, x.snd.snd.snd.snd.fst, ()) = (0 : Int))) ∧ (x.fst = x.fst ∧ x.snd.fst = x.snd.fst ∧ x.snd.snd.fst = x.snd.snd.fst ∧ x.snd.snd.snd.fst = x.snd.snd.snd.fst ∧ x.snd.snd.snd.snd.fst = x.snd.snd.snd.snd.fst ∧ True) ∧ recFault (x.fst, x.snd.fst, x.snd.snd.fst, x.snd.snd.snd.fst, x.snd.snd.snd.snd.fst, ()) = recFault (x.fst, x.snd.fst, x.snd.snd.fst, x.snd.snd.snd.fst, x.snd.snd.snd.snd.fst, ()) ∧ ((3 : Nat) = (3 : Nat) ∧ recFault (x.fst, x.snd.fst, x.snd.snd.fst, x.snd.snd.snd.fst, x.snd.snd.snd.snd.fst, ()) = recFault (x.fst, x.snd.fst, x.snd.snd.fst, x.snd.snd.snd.fst, x.snd.snd.snd.snd.fst, ())) ∧ Int.ofNat i = Int.ofNat i ∧ decide (Int.ofNat i > (0 : Int)) = decide (Int.ofNat i > (0 : Int)) ∧ true = decide (Int.ofNat i > (0 : Int)) ∧ (x_1.snd.fst == x.snd.fst) = sameB l (Int.ofNat i) ∧ ((3 : Nat) = (3 : Nat) ∧ (18 : Int) = (18 : Int)) ∧ Int.ofNat i = Int.ofNat i ∧ decide (Int.ofNat i > (0 : Int)) = decide (Int.ofNat i > (0 : Int)) ∧ ((3 : Nat) = (3 : Nat) ∧ (11 : Int) = (11 : Int)) ∧ (0 : Int) = (0 : Int) ∧ decide ((0 : Int) < (0 : Int)) = decide ((0 : Int) < (0 : Int)) ∧ ((4 : Nat) = (4 : Nat) ∧ decide ((0 : Int) < (0 : Int)) = decide ((0 : Int) < (0 : Int))) ∧ ((3 : Nat) = (3 : Nat) ∧ (12 : Int) = (12 : Int)) ∧ (nat_lit 0 = nat_lit 0 ∧ nat_lit 1 = nat_lit 1) ∧ x.snd.fst = x.snd.fst ∧ ((3 : Nat) = (3 : Nat) ∧ (13 : Int) = (13 : Int)) ∧ True) ∧ ((x.fst = x.fst ∧ x.snd.fst = x.snd.fst ∧ x.snd.snd.fst = x.snd.snd.fst ∧ x.snd.snd.snd.fst = x.snd.snd.snd.fst ∧ x.snd.snd.snd.snd.fst = x.snd.snd.snd.snd.fst ∧ True) ∧ True) ∧ True) ∧ (decide (Int.ofNat i > (0 : Int)) = false → (l = l ∧ Int.ofNat i = Int.ofNat i ∧ (0 : Int) = (0 : Int) ∧ (nat_lit 0 = nat_lit 0 ∧ (0 : Nat) = (0 : Nat)) ∧ (0 : Int) = (0 : Int) ∧ parentS x.snd.fst = parentS x.snd.fst ∧ l = l ∧ Int.ofNat i = Int.ofNat i ∧ (x.fst = x.fst ∧ x.snd.fst = x.snd.fst ∧ x.snd.snd.fst = x.snd.snd.fst ∧ x.snd.snd.snd.fst = x.snd.snd.snd.fst ∧ x.snd.snd.snd.snd.fst = x.snd.snd.snd.snd.fst ∧ True) ∧ (x.fst = x.fst ∧ x.snd.fst = x.snd.fst ∧ x.snd.snd.fst = x.snd.snd.fst ∧ x.snd.snd.snd.fst = x.snd.snd.snd.fst ∧ x.snd.snd.snd.snd.fst = x.snd.snd.snd.snd.fst ∧ True) ∧ (nat_lit 0 = nat_lit 0 ∧ nat_lit 1 = nat_lit 1) ∧ x.snd.fst = x.snd.fst ∧ parentS x.snd.fst = parentS x.snd.fst ∧ parentS x.snd.fst = parentS x.snd.fst ∧ (!parentS x.snd.fst == ([] : List UInt8)) = !parentS x.snd.fst == ([] : List UInt8) ∧ Int.ofNat i = Int.ofNat i ∧ decide (Int.ofNat i ≥ (16 : Int)) = decide (Int.ofNat i ≥ (16 : Int)) ∧ ((4 : Nat) = (4 : Nat) ∧ decide (Int.ofNat i ≥ (16 : Int)) = decide (Int.ofNat i ≥ (16 : Int))) ∧ ((3 : Nat) = (3 : Nat) ∧ (6 : Int) = (6 : Int)) ∧ ((4 : Nat) = (4 : Nat) ∧ true = true) ∧ (x.fst = x.fst ∧ x.snd.fst = x.snd.fst ∧ x.snd.snd.fst = x.snd.snd.fst ∧ x.snd.snd.snd.fst = x.snd.snd.snd.fst ∧ x.snd.snd.snd.snd.fst = x.snd.snd.snd.snd.fst ∧ True) ∧ decide (recFault (x.fst, x.snd.fst, x.snd.snd.fst, x.snd.snd.snd.fst, x.snd.snd.snd.snd.fst, ()) = (0 : Int)) = decide (recFault (x.fst, x.snd.fst, x.snd.snd.fst, x.snd.snd.snd.fst, x.snd.snd.snd.snd.fst, ()) = (0 : Int)) ∧ (!decide (recFault (x.fst, x.snd.fst, x.snd.snd.fst, x.snd.snd.snd.fst, x.snd.snd.snd.snd.fst, ()) = (0 : Int))) = !decide (recFault (x.fst, x.snd.fst, x.snd.snd.fst, x.snd.snd.snd.fst, x.snd.snd.snd.snd.fst, ()) = (0 : Int)) ∧ ((4 : Nat) = (4 : Nat) ∧ (!decide (recFault (x.fst, x.snd.fst, x.snd.snd.fst, x.snd.snd.snd.fst, x.snd.snd.snd.snd.fst, ()) = (0 : Int))) = !decide (recFault (x.fst, x.snd.fst, x.snd.snd.fst, x.snd.snd.snd.fst, x.snd.snd.snd.snd.fst, ()) = (0 : Int))) ∧ (x.fst = x.fst ∧ x.snd.fst = x.snd.fst ∧ x.snd.snd.fst = x.snd.snd.fst ∧ x.snd.snd.snd.fst = x.snd.snd.snd.fst ∧ x.snd.snd.snd.snd.fst = x.snd.snd.snd.snd.fst ∧ True) ∧ recFault (x.fst, x.snd.fst, x.snd.snd.fst, x.snd.snd.snd.fst, x.snd.snd.snd.snd.fst, ()) = recFault (x.fst, x.snd.fst, x.snd.snd.fst, x.snd.snd.snd.fst, x.snd.snd.snd.snd.fst, ()) ∧ ((3 : Nat) = (3 : Nat) ∧ recFault (x.fst, x.snd.fst, x.snd.snd.fst, x.snd.snd.snd.fst, x.snd.snd.snd.snd.fst, ()) = recFault (x.fst, x.snd.fst, x.snd.snd.fst, x.snd.snd.snd.fst, x.snd.snd.snd.snd.fst, ())) ∧ Int.ofNat i = Int.ofNat i ∧ decide (Int.ofNat i > (0 : Int)) = decide (Int.ofNat i > (0 : Int)) ∧ false = decide (Int.ofNat i > (0 : Int)) ∧ false = sameB l (Int.ofNat i) ∧ ((3 : Nat) = (3 : Nat) ∧ (18 : Int) = (18 : Int)) ∧ Int.ofNat i = Int.ofNat i ∧ decide (Int.ofNat i > (0 : Int)) = decide (Int.ofNat i > (0 : Int)) ∧ ((3 : Nat) = (3 : Nat) ∧ (11 : Int) = (11 : Int)) ∧ (0 : Int) = (0 : Int) ∧ decide ((0 : Int) < (0 : Int)) = decide ((0 : Int) < (0 : Int)) ∧ ((4 : Nat) = (4 : Nat) ∧ decide ((0 : Int) < (0 : Int)) = decide ((0 : Int) < (0 : Int))) ∧ ((3 : Nat) = (3 : Nat) ∧ (12 : Int) = (12 : Int)) ∧ (nat_lit 0 = nat_lit 0 ∧ nat_lit 1 = nat_lit 1) ∧ x.snd.fst = x.snd.fst ∧ ((3 : Nat) = (3 : Nat) ∧ (13 : Int) = (13 : Int)) ∧ True) ∧ ((x.fst = x.fst ∧ x.snd.fst = x.snd.fst ∧ x.snd.snd.fst = x.snd.snd.fst ∧ x.snd.snd.snd.fst = x.snd.snd.snd.fst ∧ x.snd.snd.snd.snd.fst = x.snd.snd.snd.snd.fst ∧ True) ∧ True) ∧ True)) ∧ (decide (Int.ofNat i > (0 : Int)) = true → IntKind.i64 = IntKind.i64 ∧ bnd (mm true (wSub IntKind.i64 (Int.ofNat i) (1 : Int)) (0 : Int)) (lenL l) ∧ ∀ (x_1 : Int × List UInt8 × List UInt8 × Int × Bool × Unit), nthI l (mm true (wSub IntKind.i64 (Int.ofNat i) (1 : Int)) (0 : Int)) = some x_1 → nat_lit 1 ≤ (Nat.succ (nat_lit 1)).succ.succ ∧ nat_lit 2 ≤ (Nat.succ (nat_lit 1)).succ.succ.succ ∧ true = true ∧ (x_1.snd.fst.length ≤ (100000000 : Nat) ∧ x.snd.fst.length ≤ (100000000 : Nat)) ∧ true = true ∧ x.snd.fst.length ≤ (100000000 : Nat) ∧ (((!parentS x.snd.fst == ([] : List UInt8)) = true → IntKind.i64 = IntKind.i64 ∧ bnd (mm true (0 : Int) (0 : Int)) (lenL l) ∧ ∀ (x_2 : Int × List UInt8 × List UInt8 × Int × Bool × Unit), nthI l (mm true (0 : Int) (0 : Int)) = some x_2 → nat_lit 1 ≤ (Nat.succ (nat_lit 1)).succ.succ.succ ∧ (l = l ∧ Int.ofNat i = Int.ofNat i ∧ (0 : Int) = (0 : Int) ∧ (nat_lit 0 = nat_lit 0 ∧ (0 : Nat) = (0 : Nat)) ∧ (0 : Int) = (0 : Int) ∧ parentS x.snd.fst = parentS x.snd.fst ∧ l = l ∧ Int.ofNat i = Int.ofNat i ∧ (x.fst = x.fst ∧ x.snd.fst = x.snd.fst ∧ x.snd.snd.fst = x.snd.snd.fst ∧ x.snd.snd.snd.fst = x.snd.snd.snd.fst ∧ x.snd.snd.snd.snd.fst = x.snd.snd.snd.snd.fst ∧ True) ∧ (x.fst = x.fst ∧ x.snd.fst = x.snd.fst ∧ x.snd.snd.fst = x.snd.snd.fst ∧ x.snd.snd.snd.fst = x.snd.snd.snd.fst ∧ x.snd.snd.snd.snd.fst = x.snd.snd.snd.snd.fst ∧ True) ∧ (nat_lit 0 = nat_lit 0 ∧ nat_lit 1 = nat_lit 1) ∧ x.snd.fst = x.snd.fst ∧ parentS x.snd.fst = parentS x.snd.fst ∧ parentS x.snd.fst = parentS x.snd.fst ∧ (!parentS x.snd.fst == ([] : List UInt8)) = !parentS x.snd.fst == ([] : List UInt8) ∧ Int.ofNat i = Int.ofNat i ∧ decide (Int.ofNat i ≥ (16 : Int)) = decide (Int.ofNat i ≥ (16 : Int)) ∧ ((4 : Nat) = (4 : Nat) ∧ decide (Int.ofNat i ≥ (16 : Int)) = decide (Int.ofNat i ≥ (16 : Int))) ∧ ((3 : Nat) = (3 : Nat) ∧ (6 : Int) = (6 : Int)) ∧ ((4 : Nat) = (4 : Nat) ∧ true = true) ∧ (x.fst = x.fst ∧ x.snd.fst = x.snd.fst ∧ x.snd.snd.fst = x.snd.snd.fst ∧ x.snd.snd.snd.fst = x.snd.snd.snd.fst ∧ x.snd.snd.snd.snd.fst = x.snd.snd.snd.snd.fst ∧ True) ∧ decide (recFault (x.fst, x.snd.fst, x.snd.snd.fst, x.snd.snd.snd.fst, x.snd.snd.snd.snd.fst, ()) = (0 : Int)) = decide (recFault (x.fst, x.snd.fst, x.snd.snd.fst, x.snd.snd.snd.fst, x.snd.snd.snd.snd.fst, ()) = (0 : Int)) ∧ (!decide (recFault (x.fst, x.snd.fst, x.snd.snd.fst, x.snd.snd.snd.fst, x.snd.snd.snd.snd.fst, ()) = (0 : Int))) = !decide (recFault (x.fst, x.snd.fst, x.snd.snd.fst, x.snd.snd.snd.fst, x.snd.snd.snd.snd.fst, ()) = (0 : Int)) ∧ ((4 : Nat) = (4 : Nat) ∧ (!decide (recFault (x.fst, x.snd.fst, x.snd.snd.fst, x.snd.snd.snd.fst, x.snd.snd.snd.snd.fst, ()) = (0 : Int))) = !decide (recFault (x.fst, x.snd.fst, x.snd.snd.fst, x.snd.snd.snd.fst, x.snd.snd.snd.snd.fst, ()) = (0 : Int))) ∧ (x.fst = x.fst ∧ x.snd.fst = x.snd.fst ∧ x.snd.snd.fst = x.snd.snd.fst ∧ x.snd.snd.snd.fst = x.snd.snd.snd.fst ∧ x.snd.snd.snd.snd.fst = x.snd.snd.snd.snd.fst ∧ True) ∧ recFault (x.fst, x.snd.fst, x.snd.snd.fst, x.snd.snd.snd.fst, x.snd.snd.snd.snd.fst, ()) = recFault (x.fst, x.snd.fst, x.snd.snd.fst, x.snd.snd.snd.fst, x.snd.snd.snd.snd.fst, ()) ∧ ((3 : Nat) = (3 : Nat) ∧ recFault (x.fst, x.snd.fst, x.snd.snd.fst, x.snd.snd.snd.fst, x.snd.snd.snd.snd.fst, ()) = recFault (x.fst, x.snd.fst, x.snd.snd.fst, x.snd.snd.snd.fst, x.snd.snd.snd.snd.fst, ())) ∧ Int.ofNat i = Int.ofNat i ∧ decide (Int.ofNat i > (0 : Int)) = decide (Int.ofNat i > (0 : Int)) ∧ decide (Int.ofNat i > (0 : Int)) = decide (Int.ofNat i > (0 : Int)) ∧ sameB l (Int.ofNat i) = sameB l (Int.ofNat i) ∧ ((4 : Nat) = (4 : Nat) ∧ sameB l (Int.ofNat i) = sameB l (Int.ofNat i)) ∧ ((3 : Nat) = (3 : Nat) ∧ (18 : Int) = (18 : Int)) ∧ Int.ofNat i = Int.ofNat i ∧ decide (Int.ofNat i > (0 : Int)) = decide (Int.ofNat i > (0 : Int)) ∧ true = true ∧ l = l ∧ Int.ofNat i = Int.ofNat i ∧ wSub IntKind.i64 (Int.ofNat i) (1 : Int) = wSub IntKind.i64 (Int.ofNat i) (1 : Int) ∧ mm true (wSub IntKind.i64 (Int.ofNat i) (1 : Int)) (0 : Int) = mm true (wSub IntKind.i64 (Int.ofNat i) (1 : Int)) (0 : Int) ∧ (x_1.fst = x_1.fst ∧ x_1.snd.fst = x_1.snd.fst ∧ x_1.snd.snd.fst = x_1.snd.snd.fst ∧ x_1.snd.snd.snd.fst = x_1.snd.snd.snd.fst ∧ x_1.snd.snd.snd.snd.fst = x_1.snd.snd.snd.snd.fst ∧ True) ∧ (x_1.snd.fst = x_1.snd.fst ∧ x_1.snd.snd.fst = x_1.snd.snd.fst ∧ x_1.snd.snd.snd.fst = x_1.snd.snd.snd.fst ∧ x_1.snd.snd.snd.snd.fst = x_1.snd.snd.snd.snd.fst ∧ True) ∧ x_1.snd.fst = x_1.snd.fst ∧ (nat_lit 0 = nat_lit 0 ∧ nat_lit 1 = nat_lit 1) ∧ x.snd.fst = x.snd.fst ∧ pathLess x_1.snd.fst x.snd.fst = pathLess x_1.snd.fst x.snd.fst ∧ (!pathLess x_1.snd.fst x.snd.fst) = !pathLess x_1.snd.fst x.snd.fst ∧ (!pathLess x_1.snd.fst x.snd.fst) = !pathLess x_1.snd.fst x.snd.fst ∧ ((4 : Nat) = (4 : Nat) ∧ (!pathLess x_1.snd.fst x.snd.fst) = !pathLess x_1.snd.fst x.snd.fst) ∧ ((3 : Nat) = (3 : Nat) ∧ (11 : Int) = (11 : Int)) ∧ (0 : Int) = (0 : Int) ∧ decide ((0 : Int) < (0 : Int)) = decide ((0 : Int) < (0 : Int)) ∧ ((4 : Nat) = (4 : Nat) ∧ decide ((0 : Int) < (0 : Int)) = decide ((0 : Int) < (0 : Int))) ∧ ((3 : Nat) = (3 : Nat) ∧ (12 : Int) = (12 : Int)) ∧ (nat_lit 0 = nat_lit 0 ∧ nat_lit 1 = nat_lit 1) ∧ x.snd.fst = x.snd.fst ∧ parentS x.snd.fst = parentS x.snd.fst ∧ (!parentS x.snd.fst == ([] : List UInt8)) = !parentS x.snd.fst == ([] : List UInt8) ∧ true = !parentS x.snd.fst == ([] : List UInt8) ∧ (x_2.fst != (3 : Int)) = dirB l (Int.ofNat i) ∧ ((3 : Nat) = (3 : Nat) ∧ (13 : Int) = (13 : Int)) ∧ True) ∧ ((x.fst = x.fst ∧ x.snd.fst = x.snd.fst ∧ x.snd.snd.fst = x.snd.snd.fst ∧ x.snd.snd.snd.fst = x.snd.snd.snd.fst ∧ x.snd.snd.snd.snd.fst = x.snd.snd.snd.snd.fst ∧ True) ∧ True) ∧ True) ∧ ((!parentS x.snd.fst == ([] : List UInt8)) = false → (l = l ∧ Int.ofNat i = Int.ofNat i ∧ (0 : Int) = (0 : Int) ∧ (nat_lit 0 = nat_lit 0 ∧ (0 : Nat) = (0 : Nat)) ∧ (0 : Int) = (0 : Int) ∧ parentS x.snd.fst = parentS x.snd.fst ∧ l = l ∧ Int.ofNat i = Int.ofNat i ∧ (x.fst = x.fst ∧ x.snd.fst = x.snd.fst ∧ x.snd.snd.fst = x.snd.snd.fst ∧ x.snd.snd.snd.fst = x.snd.snd.snd.fst ∧ x.snd.snd.snd.snd.fst = x.snd.snd.snd.snd.fst ∧ True) ∧ (x.fst = x.fst ∧ x.snd.fst = x.snd.fst ∧ x.snd.snd.fst = x.snd.snd.fst ∧ x.snd.snd.snd.fst = x.snd.snd.snd.fst ∧ x.snd.snd.snd.snd.fst = x.snd.snd.snd.snd.fst ∧ True) ∧ (nat_lit 0 = nat_lit 0 ∧ nat_lit 1 = nat_lit 1) ∧ x.snd.fst = x.snd.fst ∧ parentS x.snd.fst = parentS x.snd.fst ∧ parentS x.snd.fst = parentS x.snd.fst ∧ (!parentS x.snd.fst == ([] : List UInt8)) = !parentS x.snd.fst == ([] : List UInt8) ∧ Int.ofNat i = Int.ofNat i ∧ decide (Int.ofNat i ≥ (16 : Int)) = decide (Int.ofNat i ≥ (16 : Int)) ∧ ((4 : Nat) = (4 : Nat) ∧ decide (Int.ofNat i ≥ (16 : Int)) = decide (Int.ofNat i ≥ (16 : Int))) ∧ ((3 : Nat) = (3 : Nat) ∧ (6 : Int) = (6 : Int)) ∧ ((4 : Nat) = (4 : Nat) ∧ true = true) ∧ (x.fst = x.fst ∧ x.snd.fst = x.snd.fst ∧ x.snd.snd.fst = x.snd.snd.fst ∧ x.snd.snd.snd.fst = x.snd.snd.snd.fst ∧ x.snd.snd.snd.snd.fst = x.snd.snd.snd.snd.fst ∧ True) ∧ decide (recFault (x.fst, x.snd.fst, x.snd.snd.fst, x.snd.snd.snd.fst, x.snd.snd.snd.snd.fst, ()) = (0 : Int)) = decide (recFault (x.fst, x.snd.fst, x.snd.snd.fst, x.snd.snd.snd.fst, x.snd.snd.snd.snd.fst, ()) = (0 : Int)) ∧ (!decide (recFault (x.fst, x.snd.fst, x.snd.snd.fst, x.snd.snd.snd.fst, x.snd.snd.snd.snd.fst, ()) = (0 : Int))) = !decide (recFault (x.fst, x.snd.fst, x.snd.snd.fst, x.snd.snd.snd.fst, x.snd.snd.snd.snd.fst, ()) = (0 : Int)) ∧ ((4 : Nat) = (4 : Nat) ∧ (!decide (recFault (x.fst, x.snd.fst, x.snd.snd.fst, x.snd.snd.snd.fst, x.snd.snd.snd.snd.fst, ()) = (0 : Int))) = !decide (recFault (x.fst, x.snd.fst, x.snd.snd.fst, x.snd.snd.snd.fst, x.snd.snd.snd.snd.fst, ()) = (0 : Int))) ∧ (x.fst = x.fst ∧ x.snd.fst = x.snd.fst ∧ x.snd.snd.fst = x.snd.snd.fst ∧ x.snd.snd.snd.fst = x.snd.snd.snd.fst ∧ x.snd.snd.snd.snd.fst = x.snd.snd.snd.snd.fst ∧ True) ∧ recFault (x.fst, x.snd.fst, x.snd.snd.fst, x.snd.snd.snd.fst, x.snd.snd.snd.snd.fst, ()) = recFault (x.fst, x.snd.fst, x.snd.snd.fst, x.snd.snd.snd.fst, x.snd.snd.snd.snd.fst, ()) ∧ ((3 : Nat) = (3 : Nat) ∧ recFault (x.fst, x.snd.fst, x.snd.snd.fst, x.snd.snd.snd.fst, x.snd.snd.snd.snd.fst, ()) = recFault (x.fst, x.snd.fst, x.snd.snd.fst, x.snd.snd.snd.fst, x.snd.snd.snd.snd.fst, ())) ∧ Int.ofNat i = Int.ofNat i ∧ decide (Int.ofNat i > (0 : Int)) = decide (Int.ofNat i > (0 : Int)) ∧ decide (Int.ofNat i > (0 : Int)) = decide (Int.ofNat i > (0 : Int)) ∧ sameB l (Int.ofNat i) = sameB l (Int.ofNat i) ∧ ((4 : Nat) = (4 : Nat) ∧ sameB l (Int.ofNat i) = sameB l (Int.ofNat i)) ∧ ((3 : Nat) = (3 : Nat) ∧ (18 : Int) = (18 : Int)) ∧ Int.ofNat i = Int.ofNat i ∧ decide (Int.ofNat i > (0 : Int)) = decide (Int.ofNat i > (0 : Int)) ∧ true = true ∧ l = l ∧ Int.ofNat i = Int.ofNat i ∧ wSub IntKind.i64 (Int.ofNat i) (1 : Int) = wSub IntKind.i64 (Int.ofNat i) (1 : Int) ∧ mm true (wSub IntKind.i64 (Int.ofNat i) (1 : Int)) (0 : Int) = mm true (wSub IntKind.i64 (Int.ofNat i) (1 : Int)) (0 : Int) ∧ (x_1.fst = x_1.fst ∧ x_1.snd.fst = x_1.snd.fst ∧ x_1.snd.snd.fst = x_1.snd.snd.fst ∧ x_1.snd.snd.snd.fst = x_1.snd.snd.snd.fst ∧ x_1.snd.snd.snd.snd.fst = x_1.snd.snd.snd.snd.fst ∧ True) ∧ (x_1.snd.fst = x_1.snd.fst ∧ x_1.snd.snd.fst = x_1.snd.snd.fst ∧ x_1.snd.snd.snd.fst = x_1.snd.snd.snd.fst ∧ x_1.snd.snd.snd.snd.fst = x_1.snd.snd.snd.snd.fst ∧ True) ∧ x_1.snd.fst = x_1.snd.fst ∧ (nat_lit 0 = nat_lit 0 ∧ nat_lit 1 = nat_lit 1) ∧ x.snd.fst = x.snd.fst ∧ pathLess x_1.snd.fst x.snd.fst = pathLess x_1.snd.fst x.snd.fst ∧ (!pathLess x_1.snd.fst x.snd.fst) = !pathLess x_1.snd.fst x.snd.fst ∧ (!pathLess x_1.snd.fst x.snd.fst) = !pathLess x_1.snd.fst x.snd.fst ∧ ((4 : Nat) = (4 : Nat) ∧ (!pathLess x_1.snd.fst x.snd.fst) = !pathLess x_1.snd.fst x.snd.fst) ∧ ((3 : Nat) = (3 : Nat) ∧ (11 : Int) = (11 : Int)) ∧ (0 : Int) = (0 : Int) ∧ decide ((0 : Int) < (0 : Int)) = decide ((0 : Int) < (0 : Int)) ∧ ((4 : Nat) = (4 : Nat) ∧ decide ((0 : Int) < (0 : Int)) = decide ((0 : Int) < (0 : Int))) ∧ ((3 : Nat) = (3 : Nat) ∧ (12 : Int) = (12 : Int)) ∧ (nat_lit 0 = nat_lit 0 ∧ nat_lit 1 = nat_lit 1) ∧ x.snd.fst = x.snd.fst ∧ parentS x.snd.fst = parentS x.snd.fst ∧ (!parentS x.snd.fst == ([] : List UInt8)) = !parentS x.snd.fst == ([] : List UInt8) ∧ false = !parentS x.snd.fst == ([] : List UInt8) ∧ false = dirB l (Int.ofNat i) ∧ ((3 : Nat) = (3 : Nat) ∧ (13 : Int) = (13 : Int)) ∧ True) ∧ ((x.fst = x.fst ∧ x.snd.fst = x.snd.fst ∧ x.snd.snd.fst = x.snd.snd.fst ∧ x.snd.snd.snd.fst = x.snd.snd.snd.fst ∧ x.snd.snd.snd.snd.fst = x.snd.snd.snd.snd.fst ∧ True) ∧ True) ∧ True)) ∧ true = true ∧ True ∧ true = true ∧ True ∧ (first (AnyV.b (decide (Int.ofNat i ≥ (16 : Int))) :: AnyV.n (6 : Int) :: AnyV.b true :: AnyV.n (first ((AnyV.b !decide (recFault (x.fst, x.snd.fst, x.snd.snd.fst, x.snd.snd.snd.fst, x.snd.snd.snd.snd.fst, ()) = (0 : Int))) :: AnyV.n (recFault (x.fst, x.snd.fst, x.snd.snd.fst, x.snd.snd.snd.fst, x.snd.snd.snd.snd.fst, ())) :: AnyV.b (sameB l (Int.ofNat i)) :: AnyV.n (18 : Int) :: (AnyV.b !pathLess x_1.snd.fst x.snd.fst) :: AnyV.n (11 : Int) :: AnyV.b (decide ((0 : Int) < (0 : Int))) :: AnyV.n (12 : Int) :: AnyV.b (dirB l (Int.ofNat i)) :: AnyV.n (13 : Int) :: ([] : List AnyV))) :: ([] : List AnyV)), ()) = (faultI l (Int.ofNat i), ()) ∧ () = ()) ∧ (decide (Int.ofNat i > (0 : Int)) = false → true = true ∧ x.snd.fst.length ≤ (100000000 : Nat) ∧ (((!parentS x.snd.fst == ([] : List UInt8)) = true → IntKind.i64 = IntKind.i64 ∧ bnd (mm true (0 : Int) (0 : Int)) (lenL l) ∧ ∀ (x_1 : Int × List UInt8 × List UInt8 × Int × Bool × Unit), nthI l (mm true (0 : Int) (0 : Int)) = some x_1 → nat_lit 1 ≤ (Nat.succ (nat_lit 1)).succ.succ.succ ∧ (l = l ∧ Int.ofNat i = Int.ofNat i ∧ (0 : Int) = (0 : Int) ∧ (nat_lit 0 = nat_lit 0 ∧ (0 : Nat) = (0 : Nat)) ∧ (0 : Int) = (0 : Int) ∧ parentS x.snd.fst = parentS x.snd.fst ∧ l = l ∧ Int.ofNat i = Int.ofNat i ∧ (x.fst = x.fst ∧ x.snd.fst = x.snd.fst ∧ x.snd.snd.fst = x.snd.snd.fst ∧ x.snd.snd.snd.fst = x.snd.snd.snd.fst ∧ x.snd.snd.snd.snd.fst = x.snd.snd.snd.snd.fst ∧ True) ∧ (x.fst = x.fst ∧ x.snd.fst = x.snd.fst ∧ x.snd.snd.fst = x.snd.snd.fst ∧ x.snd.snd.snd.fst = x.snd.snd.snd.fst ∧ x.snd.snd.snd.snd.fst = x.snd.snd.snd.snd.fst ∧ True) ∧ (nat_lit 0 = nat_lit 0 ∧ nat_lit 1 = nat_lit 1) ∧ x.snd.fst = x.snd.fst ∧ parentS x.snd.fst = parentS x.snd.fst ∧ parentS x.snd.fst = parentS x.snd.fst ∧ (!parentS x.snd.fst == ([] : List UInt8)) = !parentS x.snd.fst == ([] : List UInt8) ∧ Int.ofNat i = Int.ofNat i ∧ decide (Int.ofNat i ≥ (16 : Int)) = decide (Int.ofNat i ≥ (16 : Int)) ∧ ((4 : Nat) = (4 : Nat) ∧ decide (Int.ofNat i ≥ (16 : Int)) = decide (Int.ofNat i ≥ (16 : Int))) ∧ ((3 : Nat) = (3 : Nat) ∧ (6 : Int) = (6 : Int)) ∧ ((4 : Nat) = (4 : Nat) ∧ true = true) ∧ (x.fst = x.fst ∧ x.snd.fst = x.snd.fst ∧ x.snd.snd.fst = x.snd.snd.fst ∧ x.snd.snd.snd.fst = x.snd.snd.snd.fst ∧ x.snd.snd.snd.snd.fst = x.snd.snd.snd.snd.fst ∧ True) ∧ decide (recFault (x.fst, x.snd.fst, x.snd.snd.fst, x.snd.snd.snd.fst, x.snd.snd.snd.snd.fst, ()) = (0 : Int)) = decide (recFault (x.fst, x.snd.fst, x.snd.snd.fst, x.snd.snd.snd.fst, x.snd.snd.snd.snd.fst, ()) = (0 : Int)) ∧ (!decide (recFault (x.fst, x.snd.fst, x.snd.snd.fst, x.snd.snd.snd.fst, x.snd.snd.snd.snd.fst, ()) = (0 : Int))) = !decide (recFault (x.fst, x.snd.fst, x.snd.snd.fst, x.snd.snd.snd.fst, x.snd.snd.snd.snd.fst, ()) = (0 : Int)) ∧ ((4 : Nat) = (4 : Nat) ∧ (!decide (recFault (x.fst, x.snd.fst, x.snd.snd.fst, x.snd.snd.snd.fst, x.snd.snd.snd.snd.fst, ()) = (0 : Int))) = !decide (recFault (x.fst, x.snd.fst, x.snd.snd.fst, x.snd.snd.snd.fst, x.snd.snd.snd.snd.fst, ()) = (0 : Int))) ∧ (x.fst = x.fst ∧ x.snd.fst = x.snd.fst ∧ x.snd.snd.fst = x.snd.snd.fst ∧ x.snd.snd.snd.fst = x.snd.snd.snd.fst ∧ x.snd.snd.snd.snd.fst = x.snd.snd.snd.snd.fst ∧ True) ∧ recFault (x.fst, x.snd.fst, x.snd.snd.fst, x.snd.snd.snd.fst, x.snd.snd.snd.snd.fst, ()) = recFault (x.fst, x.snd.fst, x.snd.snd.fst, x.snd.snd.snd.fst, x.snd.snd.snd.snd.fst, ()) ∧ ((3 : Nat) = (3 : Nat) ∧ recFault (x.fst, x.snd.fst, x.snd.snd.fst, x.snd.snd.snd.fst, x.snd.snd.snd.snd.fst, ()) = recFault (x.fst, x.snd.fst, x.snd.snd.fst, x.snd.snd.snd.fst, x.snd.snd.snd.snd.fst, ())) ∧ Int.ofNat i = Int.ofNat i ∧ decide (Int.ofNat i > (0 : Int)) = decide (Int.ofNat i > (0 : Int)) ∧ decide (Int.ofNat i > (0 : Int)) = decide (Int.ofNat i > (0 : Int)) ∧ sameB l (Int.ofNat i) = sameB l (Int.ofNat i) ∧ ((4 : Nat) = (4 : Nat) ∧ sameB l (Int.ofNat i) = sameB l (Int.ofNat i)) ∧ ((3 : Nat) = (3 : Nat) ∧ (18 : Int) = (18 : Int)) ∧ Int.ofNat i = Int.ofNat i ∧ decide (Int.ofNat i > (0 : Int)) = decide (Int.ofNat i > (0 : Int)) ∧ false = false ∧ True ∧ True ∧ True ∧ True ∧ True ∧ True ∧ True ∧ True ∧ True ∧ True ∧ True ∧ false = false ∧ ((4 : Nat) = (4 : Nat) ∧ false = false) ∧ ((3 : Nat) = (3 : Nat) ∧ (11 : Int) = (11 : Int)) ∧ (0 : Int) = (0 : Int) ∧ decide ((0 : Int) < (0 : Int)) = decide ((0 : Int) < (0 : Int)) ∧ ((4 : Nat) = (4 : Nat) ∧ decide ((0 : Int) < (0 : Int)) = decide ((0 : Int) < (0 : Int))) ∧ ((3 : Nat) = (3 : Nat) ∧ (12 : Int) = (12 : Int)) ∧ (nat_lit 0 = nat_lit 0 ∧ nat_lit 1 = nat_lit 1) ∧ x.snd.fst = x.snd.fst ∧ parentS x.snd.fst = parentS x.snd.fst ∧ (!parentS x.snd.fst == ([] : List UInt8)) = !parentS x.snd.fst == ([] : List UInt8) ∧ true = !parentS x.snd.fst == ([] : List UInt8) ∧ (x_1.fst != (3 : Int)) = dirB l (Int.ofNat i) ∧ ((3 : Nat) = (3 : Nat) ∧ (13 : Int) = (13 : Int)) ∧ True) ∧ ((x.fst = x.fst ∧ x.snd.fst = x.snd.fst ∧ x.snd.snd.fst = x.snd.snd.fst ∧ x.snd.snd.snd.fst = x.snd.snd.snd.fst ∧ x.snd.snd.snd.snd.fst = x.snd.snd.snd.snd.fst ∧ True) ∧ True) ∧ True) ∧ ((!parentS x.snd.fst == ([] : List UInt8)) = false → (l = l ∧ Int.ofNat i = Int.ofNat i ∧ (0 : Int) = (0 : Int) ∧ (nat_lit 0 = nat_lit 0 ∧ (0 : Nat) = (0 : Nat)) ∧ (0 : Int) = (0 : Int) ∧ parentS x.snd.fst = parentS x.snd.fst ∧ l = l ∧ Int.ofNat i = Int.ofNat i ∧ (x.fst = x.fst ∧ x.snd.fst = x.snd.fst ∧ x.snd.snd.fst = x.snd.snd.fst ∧ x.snd.snd.snd.fst = x.snd.snd.snd.fst ∧ x.snd.snd.snd.snd.fst = x.snd.snd.snd.snd.fst ∧ True) ∧ (x.fst = x.fst ∧ x.snd.fst = x.snd.fst ∧ x.snd.snd.fst = x.snd.snd.fst ∧ x.snd.snd.snd.fst = x.snd.snd.snd.fst ∧ x.snd.snd.snd.snd.fst = x.snd.snd.snd.snd.fst ∧ True) ∧ (nat_lit 0 = nat_lit 0 ∧ nat_lit 1 = nat_lit 1) ∧ x.snd.fst = x.snd.fst ∧ parentS x.snd.fst = parentS x.snd.fst ∧ parentS x.snd.fst = parentS x.snd.fst ∧ (!parentS x.snd.fst == ([] : List UInt8)) = !parentS x.snd.fst == ([] : List UInt8) ∧ Int.ofNat i = Int.ofNat i ∧ decide (Int.ofNat i ≥ (16 : Int)) = decide (Int.ofNat i ≥ (16 : Int)) ∧ ((4 : Nat) = (4 : Nat) ∧ decide (Int.ofNat i ≥ (16 : Int)) = decide (Int.ofNat i ≥ (16 : Int))) ∧ ((3 : Nat) = (3 : Nat) ∧ (6 : Int) = (6 : Int)) ∧ ((4 : Nat) = (4 : Nat) ∧ true = true) ∧ (x.fst = x.fst ∧ x.snd.fst = x.snd.fst ∧ x.snd.snd.fst = x.snd.snd.fst ∧ x.snd.snd.snd.fst = x.snd.snd.snd.fst ∧ x.snd.snd.snd.snd.fst = x.snd.snd.snd.snd.fst ∧ True) ∧ decide (recFault (x.fst, x.snd.fst, x.snd.snd.fst, x.snd.snd.snd.fst, x.snd.snd.snd.snd.fst, ()) = (0 : Int)) = decide (recFault (x.fst, x.snd.fst, x.snd.snd.fst, x.snd.snd.snd.fst, x.snd.snd.snd.snd.fst, ()) = (0 : Int)) ∧ (!decide (recFault (x.fst, x.snd.fst, x.snd.snd.fst, x.snd.snd.snd.fst, x.snd.snd.snd.snd.fst, ()) = (0 : Int))) = !decide (recFault (x.fst, x.snd.fst, x.snd.snd.fst, x.snd.snd.snd.fst, x.snd.snd.snd.snd.fst, ()) = (0 : Int)) ∧ ((4 : Nat) = (4 : Nat) ∧ (!decide (recFault (x.fst, x.snd.fst, x.snd.snd.fst, x.snd.snd.snd.fst, x.snd.snd.snd.snd.fst, ()) = (0 : Int))) = !decide (recFault (x.fst, x.snd.fst, x.snd.snd.fst, x.snd.snd.snd.fst, x.snd.snd.snd.snd.fst, ()) = (0 : Int))) ∧ (x.fst = x.fst ∧ x.snd.fst = x.snd.fst ∧ x.snd.snd.fst = x.snd.snd.fst ∧ x.snd.snd.snd.fst = x.snd.snd.snd.fst ∧ x.snd.snd.snd.snd.fst = x.snd.snd.snd.snd.fst ∧ True) ∧ recFault (x.fst, x.snd.fst, x.snd.snd.fst, x.snd.snd.snd.fst, x.snd.snd.snd.snd.fst, ()) = recFault (x.fst, x.snd.fst, x.snd.snd.fst, x.snd.snd.snd.fst, x.snd.snd.snd.snd.fst, ()) ∧ ((3 : Nat) = (3 : Nat) ∧ recFault (x.fst, x.snd.fst, x.snd.snd.fst, x.snd.snd.snd.fst, x.snd.snd.snd.snd.fst, ()) = recFault (x.fst, x.snd.fst, x.snd.snd.fst, x.snd.snd.snd.fst, x.snd.snd.snd.snd.fst, ())) ∧ Int.ofNat i = Int.ofNat i ∧ decide (Int.ofNat i > (0 : Int)) = decide (Int.ofNat i > (0 : Int)) ∧ decide (Int.ofNat i > (0 : Int)) = decide (Int.ofNat i > (0 : Int)) ∧ sameB l (Int.ofNat i) = sameB l (Int.ofNat i) ∧ ((4 : Nat) = (4 : Nat) ∧ sameB l (Int.ofNat i) = sameB l (Int.ofNat i)) ∧ ((3 : Nat) = (3 : Nat) ∧ (18 : Int) = (18 : Int)) ∧ Int.ofNat i = Int.ofNat i ∧ decide (Int.ofNat i > (0 : Int)) = decide (Int.ofNat i > (0 : Int)) ∧ false = false ∧ True ∧ True ∧ True ∧ True ∧ True ∧ True ∧ True ∧ True ∧ True ∧ True ∧ True ∧ false = false ∧ ((4 : Nat) = (4 : Nat) ∧ false = false) ∧ ((3 : Nat) = (3 : Nat) ∧ (11 : Int) = (11 : Int)) ∧ (0 : Int) = (0 : Int) ∧ decide ((0 : Int) < (0 : Int)) = decide ((0 : Int) < (0 : Int)) ∧ ((4 : Nat) = (4 : Nat) ∧ decide ((0 : Int) < (0 : Int)) = decide ((0 : Int) < (0 : Int))) ∧ ((3 : Nat) = (3 : Nat) ∧ (12 : Int) = (12 : Int)) ∧ (nat_lit 0 = nat_lit 0 ∧ nat_lit 1 = nat_lit 1) ∧ x.snd.fst = x.snd.fst ∧ parentS x.snd.fst = parentS x.snd.fst ∧ (!parentS x.snd.fst == ([] : List UInt8)) = !parentS x.snd.fst == ([] : List UInt8) ∧ false = !parentS x.snd.fst == ([] : List UInt8) ∧ false = dirB l (Int.ofNat i) ∧ ((3 : Nat) = (3 : Nat) ∧ (13 : Int) = (13 : Int)) ∧ True) ∧ ((x.fst = x.fst ∧ x.snd.fst = x.snd.fst ∧ x.snd.snd.fst = x.snd.snd.fst ∧ x.snd.snd.snd.fst = x.snd.snd.snd.fst ∧ x.snd.snd.snd.snd.fst = x.snd.snd.snd.snd.fst ∧ True) ∧ True) ∧ True)) ∧ true = true ∧ True ∧ true = true ∧ True ∧ (first (AnyV.b (decide (Int.ofNat i ≥ (16 : Int))) :: AnyV.n (6 : Int) :: AnyV.b true :: AnyV.n (first ((AnyV.b !decide (recFault (x.fst, x.snd.fst, x.snd.snd.fst, x.snd.snd.snd.fst, x.snd.snd.snd.snd.fst, ()) = (0 : Int))) :: AnyV.n (recFault (x.fst, x.snd.fst, x.snd.snd.fst, x.snd.snd.snd.fst, x.snd.snd.snd.snd.fst, ())) :: AnyV.b (sameB l (Int.ofNat i)) :: AnyV.n (18 : Int) :: AnyV.b false :: AnyV.n (11 : Int) :: AnyV.b (decide ((0 : Int) < (0 : Int))) :: AnyV.n (12 : Int) :: AnyV.b (dirB l (Int.ofNat i)) :: AnyV.n (13 : Int) :: ([] : List AnyV))) :: ([] : List AnyV)), ()) = (faultI l (Int.ofNat i), ()) ∧ () = ()))) (by kernel_rfl) ?_
  simp only [Nat.le_refl, Nat.succ_eq_add_one, Nat.reduceAdd, Nat.reduceLeDiff, Nat.zero_le, pair_unit, mk_eta, len_bne, eqD_bne, bne_iff_ne, bne_eq_false_iff_eq, beq_iff_eq, beq_eq_false_iff_ne, true_and, and_true, and_self, eq_self, lt_iff, nthI_nat, bnd_iff, decide_eq_true_eq, decide_eq_false_iff_not, Nat.sub_eq, nz, ne_eq, not_false_eq_true, Prod.mk.injEq, Int.reduceEq, Nat.reduceEqDiff, forall_const, implies_true, bne_self_eq_false, Bool.true_eq_false, Bool.false_eq_true, false_implies, reduceCtorEq, Bool.not_true, Bool.not_false, List.all_cons, List.all_nil, Bool.and_true, Bool.not_eq_true, Bool.not_eq_false, Bool.not_eq_true', Bool.not_eq_false', Decidable.not_not]; try simp only [lenL]
  have hl : okL l := hl
  have hi : i < List.length l := hi
  refine ⟨hi, fun x hx => ?_⟩
  have hlx := hl x (List.mem_of_getElem? hx)
  have hA : (Int.ofNat i > 0 → bnd (mm true (wSub .i64 (Int.ofNat i) 1) 0) (List.length l) ∧ ∀ y, nthI l (mm true (wSub .i64 (Int.ofNat i) 1) 0) = some y → true = decide (Int.ofNat i > 0) ∧ (y.2.1 == x.2.1) = sameB l (Int.ofNat i)) ∧ (¬ Int.ofNat i > 0 → false = decide (Int.ofNat i > 0) ∧ false = sameB l (Int.ofNat i)) := by
    refine ⟨fun h0 => ?_, fun h0 => ⟨(decide_eq_false h0).symm, same_no h0⟩⟩
    rw [ms1 h0 hb]
    exact ⟨bnd_nat (by omega), fun y hy => ⟨(decide_eq_true h0).symm, (same_at h0 hx hy).2⟩⟩
  refine ⟨hlx, fun hp => ⟨⟨Int.natCast_nonneg _, Int.ofNat_le.2 (Nat.le_of_lt hi)⟩, hlx, hlx, hA, ?_, ?_⟩, fun hp => ⟨hlx, hlx, hA, ?_, ?_⟩⟩
  · intro h0
    rw [ms1 h0 hb]
    refine ⟨bnd_nat (by omega), fun y hy => ⟨⟨hl y (List.mem_of_getElem? hy), hlx⟩, hlx, ⟨fun _ => ?_, fun h => absurd h hp⟩, fa_first hx (order_at h0 hx hy) (up_some hx hp)⟩⟩
    rw [up_some hx hp]
    exact dir_any hi hx hp
  · intro h0
    refine ⟨hlx, ⟨fun _ => ?_, fun h => absurd h hp⟩, fa_first hx (order_no h0) (up_some hx hp)⟩
    rw [up_some hx hp]
    exact dir_any hi hx hp
  · intro h0
    rw [ms1 h0 hb]
    exact ⟨bnd_nat (by omega), fun y hy => ⟨⟨hl y (List.mem_of_getElem? hy), hlx⟩, hlx, ⟨fun h => absurd hp h, fun _ => ⟨by rw [hp]; rfl, (dir_none hx hp).symm⟩⟩, fa_first hx (order_at h0 hx hy) (up_none hx hp).symm⟩⟩
  · intro h0
    exact ⟨hlx, ⟨fun h => absurd hp h, fun _ => ⟨by rw [hp]; rfl, (dir_none hx hp).symm⟩⟩, fa_first hx (order_no h0) (up_none hx hp).symm⟩
end Go.Proofs.YtolminmmnckpkaaGreatDoor
namespace Go.Proofs.YtolminmmnckpkaaGreatDoor
open Go.Ab Go.Fn
def s_layF : FSpec := { ps := [.v (.slice tRec)], rs := [.v I, .v I], pre := fun x => okL x.1, fn := fun x => (Fn.layN x.1, Fn.layC x.1, ()), upd := fun _ => () }
def L_l03Fault (l : List Rec) : LoopAnn := { ι := Nat, inv := fun k => Fn.OKto l k, slots := fun k => [(4, .d I (Int.ofNat k))], objs := fun _ => [], μ := fun k => l.length - k }
theorem fo_l03Fault : FO 66 s_layF := by
  refine fo (specs := [(109, s_fault), (75, s_l01Less), (76, s_parent), (110, s_find)]) (clos := []) (fun x => [(2, .lv [0, 4] <| fun _ => L_l03Fault x.1), (1000009, .lv [0, 4, 41] <| .ofCut fun s => [(41, .d .bool (Fn.sameB x.1 (s.tI 4)))]), (1000011, .lv [0, 4, 59] <| .ofCut fun s => [(59, .d .bool (Fn.unlessB x.1 (s.tI 4)))])]) ⟨fo_l02Fault, fo_l01Less, fo_l01Parent, fo_l03At, trivial⟩ trivial Tryz.func66 rfl rfl ?_
  rintro ⟨l, ⟨⟩⟩ hl
  refine vcOf ((∃ (i : Nat), OKto l i ∧ (l = l ∧ (0 : Int) = Int.ofNat i ∧ True) ∧ True ∧ True) ∧ ∀ (i : Nat), OKto l i → fits (lenL l) → (decide (Int.ofNat i < iOf (lenL l)) = true → ((Int.ofNat i == (16 : Int)) = true → (Int.ofNat i, (6 : Int), ()) = (layN l, layC l, ()) ∧ () = ()) ∧ ((Int.ofNat i == (16 : Int)) = false → bnd (Int.ofNat i) (lenL l) ∧ ∀ (x : Int × List UInt8 × List UInt8 × Int × Bool × Unit), nthI l (Int.ofNat i) = some x → nat_lit 5 ≤ (Nat.succ (nat_lit 1)).succ.succ.succ ∧ true = true ∧ x.snd.fst.length ≤ (100000000 : Nat) ∧ ((recFault (x.fst, x.snd.fst, x.snd.snd.fst, x.snd.snd.snd.fst, x.snd.snd.snd.snd.fst, ()) != (0 : Int)) = true → (Int.ofNat i, recFault (x.fst, x.snd.fst, x.snd.snd.fst, x.snd.snd.snd.fst, x.snd.snd.snd.snd.fst, ()), ()) = (layN l, layC l, ()) ∧ () = ()) ∧ ((recFault (x.fst, x.snd.fst, x.snd.snd.fst, x.snd.snd.snd.fst, x.snd.snd.snd.snd.fst, ()) != (0 : Int)) = false → ((decide (Int.ofNat i > (0 : Int)) = true → bnd (Int.ofNat i) (lenL l) ∧ ∀ (x : Int × List UInt8 × List UInt8 × Int × Bool × Unit), nthI l (Int.ofNat i) = some x → nat_lit 1 ≤ (Nat.succ (nat_lit 1)).succ.succ ∧ bnd (wSub IntKind.i64 (Int.ofNat i) (1 : Int)) (lenL l) ∧ ∀ (x_1 : Int × List UInt8 × List UInt8 × Int × Bool × Unit), nthI l (wSub IntKind.i64 (Int.ofNat i) (1 : Int)) = some x_1 → nat_lit 1 ≤ (Nat.succ (nat_lit 1)).succ.succ ∧ (l = l ∧ Int.ofNat i = Int.ofNat i ∧ (x.snd.fst == x_1.snd.fst) = sameB l (Int.ofNat i) ∧ True) ∧ True ∧ True) ∧ (decide (Int.ofNat i > (0 : Int)) = false → (l = l ∧ Int.ofNat i = Int.ofNat i ∧ false = sameB l (Int.ofNat i) ∧ True) ∧ True ∧ True)) ∧ (sameB l (Int.ofNat i) = true → (Int.ofNat i, (18 : Int), ()) = (layN l, layC l, ()) ∧ () = ()) ∧ (sameB l (Int.ofNat i) = false → ((decide (Int.ofNat i > (0 : Int)) = true → bnd (wSub IntKind.i64 (Int.ofNat i) (1 : Int)) (lenL l) ∧ ∀ (x : Int × List UInt8 × List UInt8 × Int × Bool × Unit), nthI l (wSub IntKind.i64 (Int.ofNat i) (1 : Int)) = some x → nat_lit 1 ≤ (Nat.succ (nat_lit 1)).succ.succ ∧ bnd (Int.ofNat i) (lenL l) ∧ ∀ (x_1 : Int × List UInt8 × List UInt8 × Int × Bool × Unit), nthI l (Int.ofNat i) = some x_1 → nat_lit 1 ≤ (Nat.succ (nat_lit 1)).succ.succ ∧ true = true ∧ (x.snd.fst.length ≤ (100000000 : Nat) ∧ x_1.snd.fst.length ≤ (100000000 : Nat)) ∧ (l = l ∧ Int.ofNat i = Int.ofNat i ∧ (!lessL (split (47 : UInt8) x.snd.fst) (split (47 : UInt8) x_1.snd.fst)) = unlessB l (Int.ofNat i) ∧ True) ∧ True ∧ True) ∧ (decide (Int.ofNat i > (0 : Int)) = false → (l = l ∧ Int.ofNat i = Int.ofNat i ∧ false = unlessB l (Int.ofNat i) ∧ True) ∧ True ∧ True)) ∧ (unlessB l (Int.ofNat i) = true → (Int.ofNat i, (11 : Int), ()) = (layN l, layC l, ()) ∧ () = ()) ∧ (unlessB l (Int.ofNat i) = false → bnd (Int.ofNat i) (lenL l) ∧ ∀ (x : Int × List UInt8 × List UInt8 × Int × Bool × Unit), nthI l (Int.ofNat i) = some x → nat_lit 1 ≤ (Nat.succ (nat_lit 1)).succ.succ ∧ true = true ∧ x.snd.fst.length ≤ (100000000 : Nat) ∧ ((parentS x.snd.fst == ([] : List UInt8)) = true → ∃ (j : Nat), OKto l j ∧ (List.length l).sub j < (List.length l).sub i ∧ (l = l ∧ wAdd IntKind.i64 (Int.ofNat i) (1 : Int) = Int.ofNat j ∧ True) ∧ True ∧ True) ∧ ((parentS x.snd.fst == ([] : List UInt8)) = false → boundLo (Int.ofNat i) (lenL l) ∧ true = true ∧ True ∧ (decide (idx (atPath (parentS x.snd.fst)) (subL l (0 : Nat) (tN (Int.ofNat i))) < (0 : Int)) = true → (Int.ofNat i, (12 : Int), ()) = (layN l, layC l, ()) ∧ () = ()) ∧ (decide (idx (atPath (parentS x.snd.fst)) (subL l (0 : Nat) (tN (Int.ofNat i))) < (0 : Int)) = false → bnd (idx (atPath (parentS x.snd.fst)) (subL l (0 : Nat) (tN (Int.ofNat i)))) (lenL l) ∧ ∀ (x_1 : Int × List UInt8 × List UInt8 × Int × Bool × Unit), nthI l (idx (atPath (parentS x.snd.fst)) (subL l (0 : Nat) (tN (Int.ofNat i)))) = some x_1 → nat_lit 1 ≤ (Nat.succ (nat_lit 1)).succ.succ.succ ∧ ((x_1.fst != (3 : Int)) = true → (Int.ofNat i, (13 : Int), ()) = (layN l, layC l, ()) ∧ () = ()) ∧ ((x_1.fst != (3 : Int)) = false → ∃ (j : Nat), OKto l j ∧ (List.length l).sub j < (List.length l).sub i ∧ (l = l ∧ wAdd IntKind.i64 (Int.ofNat i) (1 : Int) = Int.ofNat j ∧ True) ∧ True ∧ True)))))))) ∧ (decide (Int.ofNat i < iOf (lenL l)) = false → ((0 : Int), (0 : Int), ()) = (layN l, layC l, ()) ∧ () = ())) (by kernel_rfl) ?_
  simp only [Nat.le_refl, Nat.succ_eq_add_one, Nat.reduceAdd, Nat.reduceLeDiff, Nat.zero_le, pair_unit, mk_eta, len_bne, eqD_bne, bne_iff_ne, bne_eq_false_iff_eq, beq_iff_eq, beq_eq_false_iff_ne, true_and, and_true, and_self, eq_self, lt_iff, nthI_nat, bnd_iff, decide_eq_true_eq, decide_eq_false_iff_not, Nat.sub_eq, nz, ne_eq, not_false_eq_true, Prod.mk.injEq, Int.reduceEq, Nat.reduceEqDiff, forall_const, implies_true, bne_self_eq_false, Bool.true_eq_false, Bool.false_eq_true, false_implies, reduceCtorEq, Bool.not_true, Bool.not_false, List.all_cons, List.all_nil, Bool.and_true, Bool.not_eq_true, Bool.not_eq_false, Bool.not_eq_true', Bool.not_eq_false', Decidable.not_not]; try simp only [lenL]
  have hl : okL l := hl
  refine ⟨⟨0, ok0 l, rfl⟩, fun i h hf => ⟨fun hi => ⟨fun h16 => lay_c h hi (fa_16 (Nat.le_of_eq (Int.ofNat.inj h16).symm)) (by decide), fun h16 => ⟨hi, fun x hx => ⟨hl x (List.mem_of_getElem? hx), ?_⟩⟩⟩, fun he => lay_end h he⟩⟩
  have hlt := ok_16 h h16
  have ex := recAt_at hx
  refine ⟨fun hr => lay_c h hi (by rw [fa_rec hlt (by rw [ex]; exact hr), ex]) hr, fun hr => ?_⟩
  have hr' : recFault (recAt l i) = 0 := by rw [ex]; exact hr
  refine ⟨⟨fun hp => ⟨hi, fun x' hx' => ?_⟩, fun hn => same_no hn⟩, fun hs => lay_c h hi (fa_18 hlt hr' hs) (by decide), fun hs => ⟨⟨fun hp => ?_, fun hn => unless_no hn⟩, fun ho => lay_c h hi (fa_11 hlt hr' hs (by rw [order_eq h hr']; exact ho)) (by decide), fun ho => ⟨hi, fun x' hx' => ?_⟩⟩⟩
  · rw [ws1 hp hi hf]
    exact ⟨bnd_nat (by omega), fun y hy => (same_at hp hx' hy).1⟩
  · rw [ws1 hp hi hf]
    exact ⟨bnd_nat (by omega), fun y hy => ⟨hi, fun x' hx' => ⟨⟨hl y (List.mem_of_getElem? hy), hl x' (List.mem_of_getElem? hx')⟩, unless_at hp hx' hy⟩⟩⟩
  · have ho' : orderB l (Int.ofNat i) = false := by rw [order_eq h hr']; exact ho
    refine ⟨hl x' (List.mem_of_getElem? hx'), fun hp => ?_, fun hp => ⟨⟨Int.natCast_nonneg _, Int.ofNat_le.2 (Nat.le_of_lt hi)⟩, ?_⟩⟩
    · exact ⟨i + 1, ok_step h hi (fa_0 hlt hr' hs ho' (by rw [up_none hx' hp]; decide) (dir_none hx' hp)), Nat.sub_lt_sub_left hi (Nat.lt_succ_self i), inc_in hf h.1⟩
    · rw [up_some hx' hp]
      refine ⟨fun hu => lay_c h hi (fa_12 hlt hr' hs ho' hu) (by decide), fun hu => ⟨⟨by omega, up_lt hi⟩, fun z hz => ⟨fun hk => lay_c h hi (fa_13 hlt hr' hs ho' hu (by rw [dir_some hx' hp hu hz]; simp [hk])) (by decide), fun hk => ⟨i + 1, ok_step h hi (fa_0 hlt hr' hs ho' hu (by rw [dir_some hx' hp hu hz]; simp [hk])), Nat.sub_lt_sub_left hi (Nat.lt_succ_self i), inc_in hf h.1⟩⟩⟩⟩
end Go.Proofs.YtolminmmnckpkaaGreatDoor
namespace Go.Proofs.YtolminmmnckpkaaGreatDoor
open Go.Ab Go.Fn
def L_fault (l : List Rec) : LoopAnn := { ι := Nat, inv := fun k => Fn.OKto l k, slots := fun k => [(8, .d I (Int.ofNat k))], objs := fun _ => [], μ := fun k => l.length - k }
theorem fo_fault : FO 72 s_layF := by
  refine fo (specs := [(119, s_faultAt)]) (clos := []) (fun x => [(2, .lv [0, 7, 8] <| fun _ => L_fault x.1)]) ⟨fo_faultAt, trivial⟩ trivial Tryz.func72 rfl rfl ?_
  rintro ⟨l, ⟨⟩⟩ hl
  refine vcOf (fits (lenL l) → (∃ (i : Nat), OKto l i ∧ (l = l ∧ iOf (lenL l) = iOf (lenL l) ∧ (0 : Int) = Int.ofNat i ∧ True) ∧ True ∧ True) ∧ ∀ (i : Nat), OKto l i → (decide (Int.ofNat i < iOf (lenL l)) = true → true = true ∧ (okL l ∧ ∃ (k : Nat), Int.ofNat i = Int.ofNat k ∧ k < List.length l ∧ k < (1099511627776 : Nat)) ∧ ((faultI l (Int.ofNat i) != (0 : Int)) = true → (Int.ofNat i, faultI l (Int.ofNat i), ()) = (layN l, layC l, ()) ∧ () = ()) ∧ ((faultI l (Int.ofNat i) != (0 : Int)) = false → ∃ (j : Nat), OKto l j ∧ (List.length l).sub j < (List.length l).sub i ∧ (l = l ∧ iOf (lenL l) = iOf (lenL l) ∧ wAdd IntKind.i64 (Int.ofNat i) (1 : Int) = Int.ofNat j ∧ True) ∧ True ∧ True)) ∧ (decide (Int.ofNat i < iOf (lenL l)) = false → ((0 : Int), (0 : Int), ()) = (layN l, layC l, ()) ∧ () = ())) (by kernel_rfl) ?_
  simp only [Nat.le_refl, Nat.succ_eq_add_one, Nat.reduceAdd, Nat.reduceLeDiff, Nat.zero_le, pair_unit, mk_eta, len_bne, eqD_bne, bne_iff_ne, bne_eq_false_iff_eq, beq_iff_eq, beq_eq_false_iff_ne, true_and, and_true, and_self, eq_self, lt_iff, nthI_nat, bnd_iff, decide_eq_true_eq, decide_eq_false_iff_not, Nat.sub_eq, nz, ne_eq, not_false_eq_true, Prod.mk.injEq, Int.reduceEq, Nat.reduceEqDiff, forall_const, implies_true, bne_self_eq_false, Bool.true_eq_false, Bool.false_eq_true, false_implies, reduceCtorEq, Bool.not_true, Bool.not_false, List.all_cons, List.all_nil, Bool.and_true, Bool.not_eq_true, Bool.not_eq_false, Bool.not_eq_true', Bool.not_eq_false', Decidable.not_not]; try simp only [lenL]
  have hl : okL l := hl
  refine fun hf => ⟨⟨0, ok0 l, rfl⟩, fun i h => ⟨fun hi => ⟨⟨hl, i, rfl, hi, Nat.lt_trans hi hf⟩, fun hn => lay_c h hi rfl hn, fun h0 => ⟨i + 1, ok_step h hi h0, Nat.sub_lt_sub_left hi (Nat.lt_succ_self i), inc_in hf h.1⟩⟩, fun he => lay_end h he⟩⟩
end Go.Proofs.YtolminmmnckpkaaGreatDoor
namespace Go.Fn
open Go.Ab
def stepBad (t : List UInt8) (k : Nat) : Bool := decide (decL (t.drop k) = 0) || decide (t.length < k + decL (t.drop k) + 2)
def stepSum (t : List UInt8) (k : Nat) : Bool := decide (subL t (k + decL (t.drop k)) (k + decL (t.drop k) + 2) = two (sum (subL t k (k + decL (t.drop k)))))
def readL (t : List UInt8) : Nat → List Rec → Nat → List Rec × Int × Int
  | 0, out, k => if ¬ t.length = k + 2 then ([], Int.ofNat k, 3) else if ¬ t.drop k = two (sum (t.take k)) then ([], Int.ofNat k, 15) else (out, 0, 0)
  | n + 1, out, k => if stepBad t k = true then ([], Int.ofNat k, 3) else if stepSum t k = false then ([], Int.ofNat k, 15)
    else if ¬ faultAt (out ++ [decR (t.drop k)]) out.length = 0 then ([], Int.ofNat k, faultAt (out ++ [decR (t.drop k)]) out.length)
    else readL t n (out ++ [decR (t.drop k)]) (k + decL (t.drop k) + 2)
def headBad (t : List UInt8) : Bool := decide (t.length < 4) || !(hasPre t [76, 89, 82])
def whole (t : List UInt8) : List Rec × Int × Int := if headBad t = true then ([], 0, 3) else readL t (byteN t 3) [] 4
def wholeL (t : List UInt8) : List Rec := (whole t).1
def wholeN (t : List UInt8) : Int := (whole t).2.1
def wholeC (t : List UInt8) : Int := (whole t).2.2
def RInv (t : List UInt8) (q : List Rec × Nat × Nat) : Prop := q.2.1 ≤ t.length ∧ readL t q.2.2 q.1 q.2.1 = whole t ∧ OKto q.1 q.1.length ∧ q.1.length + q.2.2 = byteN t 3 ∧ okL q.1
theorem wh_head {t : List UInt8} (h : headBad t = true) : [] = wholeL t ∧ 0 = wholeN t ∧ 3 = wholeC t := by
  unfold wholeL wholeN wholeC whole; rw [if_pos h]; exact ⟨rfl, rfl, rfl⟩
theorem head_a {t : List UInt8} (h : iOf t.length < 4) : headBad t = true := by
  have h : (t.length : Int) < 4 := h
  unfold headBad; rw [decide_eq_true (p := t.length < 4) (by omega)]; rfl
theorem take3 {t : List UInt8} : subL t 0 (tN 3) = t.take 3 := rfl
theorem head_b {t : List UInt8} (h : ¬ subL t 0 (tN 3) = [76, 89, 82]) : headBad t = true := by
  rw [take3] at h
  unfold headBad hasPre
  have : ¬ t.take [(76 : UInt8), 89, 82].length = [76, 89, 82] := h
  rw [decide_eq_false this, Bool.and_false]
  simp
theorem head_no {t : List UInt8} (h : ¬ iOf t.length < 4) (h2 : subL t 0 (tN 3) = [76, 89, 82]) : headBad t = false := by
  have h : ¬ (t.length : Int) < 4 := h
  rw [take3] at h2
  unfold headBad hasPre
  have : t.take [(76 : UInt8), 89, 82].length = [76, 89, 82] := h2
  rw [decide_eq_true this, decide_eq_false (p := t.length < 4) (by omega), decide_eq_true (p := [(76 : UInt8), 89, 82].length ≤ t.length) (by show 3 ≤ t.length; omega)]
  rfl
theorem head_len {t : List UInt8} (h : headBad t = false) : 4 ≤ t.length := by
  unfold headBad at h
  simp only [Bool.or_eq_false_iff, decide_eq_false_iff_not] at h
  omega
theorem r_start {t : List UInt8} (h : headBad t = false) : RInv t ([], 4, byteN t 3) :=
  ⟨head_len h, by unfold whole; rw [if_neg (by rw [h]; exact Bool.false_ne_true)], ⟨Nat.le_refl _, fun j hj => absurd hj (Nat.not_lt_zero _)⟩, Nat.zero_add _, fun r hr => by cases hr⟩
theorem wh_of {t : List UInt8} {a : List Rec × Int × Int} (h : a = whole t) : a.1 = wholeL t ∧ a.2.1 = wholeN t ∧ a.2.2 = wholeC t := by subst h; exact ⟨rfl, rfl, rfl⟩
theorem readL_succ (t : List UInt8) (n : Nat) (out : List Rec) (k : Nat) : readL t (n + 1) out k = if stepBad t k = true then ([], Int.ofNat k, 3) else if stepSum t k = false then ([], Int.ofNat k, 15)
    else if ¬ faultAt (out ++ [decR (t.drop k)]) out.length = 0 then ([], Int.ofNat k, faultAt (out ++ [decR (t.drop k)]) out.length)
    else readL t n (out ++ [decR (t.drop k)]) (k + decL (t.drop k) + 2) := rfl
theorem wh_a {t : List UInt8} {out : List Rec} {k n : Nat} (h : RInv t (out, k, n + 1)) (hb : stepBad t k = true) : [] = wholeL t ∧ Int.ofNat k = wholeN t ∧ 3 = wholeC t := by
  have e : readL t (n + 1) out k = whole t := h.2.1
  rw [readL_succ, if_pos hb] at e
  exact wh_of e
theorem wh_b {t : List UInt8} {out : List Rec} {k n : Nat} (h : RInv t (out, k, n + 1)) (hb : ¬ stepBad t k = true) (hs : stepSum t k = false) : [] = wholeL t ∧ Int.ofNat k = wholeN t ∧ 15 = wholeC t := by
  have e : readL t (n + 1) out k = whole t := h.2.1
  rw [readL_succ, if_neg hb, if_pos hs] at e
  exact wh_of e
theorem wh_c {t : List UInt8} {out : List Rec} {k n : Nat} {c : Int} (h : RInv t (out, k, n + 1)) (hb : ¬ stepBad t k = true) (hs : ¬ stepSum t k = false) (hc : faultAt (out ++ [decR (t.drop k)]) out.length = c) (hn : ¬ c = 0) : [] = wholeL t ∧ Int.ofNat k = wholeN t ∧ c = wholeC t := by
  have e : readL t (n + 1) out k = whole t := h.2.1
  rw [readL_succ, if_neg hb, if_neg hs, hc, if_pos hn] at e
  exact wh_of e
theorem recAt_pre {out : List Rec} {r : Rec} {j : Nat} (hj : j < out.length) : recAt (out ++ [r]) j = recAt out j := by
  unfold recAt
  rw [List.getD_eq_getElem?_getD, List.getD_eq_getElem?_getD, List.getElem?_append_left hj]
theorem up_pre {out : List Rec} {r : Rec} {j : Nat} (hj : j < out.length) : upOf (out ++ [r]) j = upOf out j := by
  unfold upOf
  rw [recAt_pre hj, List.take_append_of_le_length (Nat.le_of_lt hj)]
theorem fa_pre {out : List Rec} {r : Rec} {j : Nat} (hj : j < out.length) : faultAt (out ++ [r]) j = faultAt out j := by
  have h1 : recAt (out ++ [r]) (j - 1) = recAt out (j - 1) := recAt_pre (by omega)
  have h2 := recAt_pre (r := r) hj
  have h3 := up_pre (r := r) hj
  have h4 : recAt (out ++ [r]) (upOf out j).toNat = recAt out (upOf out j).toNat := recAt_pre (by have := up_lt hj; omega)
  unfold faultAt sameB orderB dirB
  simp only [show (Int.ofNat j).toNat = j from rfl, h1, h2, h3, h4]
theorem ok_pre {out : List Rec} {r : Rec} (h : OKto out out.length) : OKto (out ++ [r]) out.length :=
  ⟨by simp, fun j hj => by rw [fa_pre hj]; exact h.2 j hj⟩
theorem wh_step {t : List UInt8} {out : List Rec} {k n : Nat} (h : RInv t (out, k, n + 1)) (ht : t.length ≤ 100000000) (hb : ¬ stepBad t k = true) (hs : ¬ stepSum t k = false) (hc : faultAt (out ++ [decR (t.drop k)]) out.length = 0) : RInv t (out ++ [decR (t.drop k)], k + decL (t.drop k) + 2, n) := by
  obtain ⟨h1, e, h3, h4, h5⟩ := h
  have e : readL t (n + 1) out k = whole t := e
  rw [readL_succ, if_neg hb, if_neg hs, if_neg (not_not_intro hc)] at e
  have h4 : out.length + (n + 1) = byteN t 3 := h4
  have hb' : ¬ t.length < k + decL (t.drop k) + 2 := by
    intro hlt
    apply hb
    unfold stepBad
    rw [decide_eq_true hlt]; simp
  refine ⟨?_, e, ?_, ?_, ?_⟩
  · show k + decL (t.drop k) + 2 ≤ t.length
    omega
  · have := ok_step (ok_pre (r := decR (t.drop k)) h3) (by simp) hc
    simpa using this
  · show (out ++ [decR (t.drop k)]).length + n = byteN t 3
    simp; omega
  · intro r hr
    rcases List.mem_append.1 hr with hr | hr
    · exact h5 r hr
    · rw [List.mem_singleton.1 hr]
      have := decR_path (t.drop k)
      simp at this
      omega
theorem okL_snoc {t : List UInt8} {out : List Rec} {k n : Nat} (h : RInv t (out, k, n)) (ht : t.length ≤ 100000000) : okL (out ++ [decR (t.drop k)]) := by
  intro r hr
  rcases List.mem_append.1 hr with hr | hr
  · exact h.2.2.2.2 r hr
  · rw [List.mem_singleton.1 hr]
    have := decR_path (t.drop k)
    simp at this
    omega
theorem wh_e1 {t : List UInt8} {out : List Rec} {k : Nat} (h : RInv t (out, k, 0)) (h1 : ¬ t.length = k + 2) : [] = wholeL t ∧ Int.ofNat k = wholeN t ∧ 3 = wholeC t := by
  have e : readL t 0 out k = whole t := h.2.1
  unfold readL at e
  rw [if_pos h1] at e
  exact wh_of e
theorem wh_e2 {t : List UInt8} {out : List Rec} {k : Nat} (h : RInv t (out, k, 0)) (h1 : t.length = k + 2) (h2 : ¬ t.drop k = two (sum (t.take k))) : [] = wholeL t ∧ Int.ofNat k = wholeN t ∧ 15 = wholeC t := by
  have e : readL t 0 out k = whole t := h.2.1
  unfold readL at e
  rw [if_neg (not_not_intro h1), if_pos h2] at e
  exact wh_of e
theorem wh_e3 {t : List UInt8} {out : List Rec} {k : Nat} (h : RInv t (out, k, 0)) (h1 : t.length = k + 2) (h2 : t.drop k = two (sum (t.take k))) : out = wholeL t ∧ 0 = wholeN t ∧ 0 = wholeC t := by
  have e : readL t 0 out k = whole t := h.2.1
  unfold readL at e
  rw [if_neg (not_not_intro h1), if_neg (not_not_intro h2)] at e
  exact wh_of e
theorem decL_le (t : List UInt8) : decL t ≤ t.length := by
  unfold decL
  split
  · omega
  · split
    · omega
    · split <;> omega
theorem sub_all {α : Type} {l : List α} {k : Nat} : subL l k l.length = l.drop k := by unfold subL; rw [List.take_length]
theorem sum_two {t : List UInt8} : (0 : Int) ≤ sum t ∧ sum t < 65536 := ⟨(sum_range t).1, Int.lt_trans (sum_range t).2 (by decide)⟩
theorem lay_last {l : List Rec} {r : Rec} (h : OKto l l.length) : (¬ layC (l ++ [r]) = 0 → layN (l ++ [r]) = Int.ofNat l.length ∧ faultAt (l ++ [r]) l.length = layC (l ++ [r])) ∧ (layC (l ++ [r]) = 0 → faultAt (l ++ [r]) l.length = 0) := by
  by_cases hf : faultAt (l ++ [r]) l.length = 0
  · have := lay_end (l := l ++ [r]) (i := l.length + 1) (by have := ok_step (ok_pre (r := r) h) (by simp) hf; exact this) (by simp)
    exact ⟨fun hn => absurd this.2.symm hn, fun _ => hf⟩
  · have := lay_c (ok_pre (r := r) h) (by simp) rfl hf
    exact ⟨fun _ => ⟨this.1.symm, this.2⟩, fun h0 => by rw [this.2]; exact h0⟩
def ffN (t : List UInt8) : Int := if short t = false then 0 else wholeN t
def ffC (t : List UInt8) : Int := if short t = false then 2 else wholeC t
theorem ff_long {t : List UInt8} (h : short t = false) : 0 = ffN t ∧ 2 = ffC t := by unfold ffN ffC; rw [if_pos h, if_pos h]; exact ⟨rfl, rfl⟩
theorem ff_ok {t : List UInt8} (h : ¬ short t = false) : wholeN t = ffN t ∧ wholeC t = ffC t := by unfold ffN ffC; rw [if_neg h, if_neg h]; exact ⟨rfl, rfl⟩
end Go.Fn
namespace Go.Fn
open Go.Ab
def encHead (l : List Rec) : List UInt8 := catS [76, 89, 82] [b8 (iOf (lenL l))]
def encStep (acc : List UInt8) (r : Rec) : List UInt8 := catS acc (catS (enc r) (two (sum (enc r))))
def encTo (l : List Rec) (k : Nat) : List UInt8 := (l.take k).foldl encStep (encHead l)
def encLay (l : List Rec) : List UInt8 := catS (encTo l l.length) (two (sum (encTo l l.length)))
theorem enc_len {r : Rec} (h : recFault r = 0) : (enc r).length ≤ 61 := by
  obtain ⟨k, p, b, m, o, ⟨⟩⟩ := r
  obtain ⟨hp, h8, -, h4, -⟩ := rec_ok h
  have h1 := path_len hp
  have h2 := body_len h8
  unfold enc
  simp only [catS, two, List.length_append, List.length_cons, List.length_nil]
  omega
theorem encTo_zero (l : List Rec) : encTo l 0 = encHead l := by unfold encTo; simp
theorem encTo_succ {l : List Rec} {k : Nat} {x : Rec} (hx : l[k]? = some x) : encTo l (k + 1) = encStep (encTo l k) x := by
  unfold encTo
  rw [List.take_add_one, hx, List.foldl_append]
  rfl
theorem encStep_len {acc : List UInt8} {r : Rec} (h : recFault r = 0) : (encStep acc r).length ≤ acc.length + 63 := by
  have := enc_len h
  unfold encStep
  simp only [catS, two, List.length_append, List.length_cons, List.length_nil]
  omega
theorem encTo_len {l : List Rec} (h : ∀ r ∈ l, recFault r = 0) : ∀ k, k ≤ l.length → (encTo l k).length ≤ 4 + 63 * k
  | 0, _ => by rw [encTo_zero]; unfold encHead; simp [catS]
  | k + 1, hk => by
    have hx := List.getElem?_eq_getElem (show k < l.length by omega)
    rw [encTo_succ hx]
    have h1 := encTo_len h k (by omega)
    have h2 := encStep_len (acc := encTo l k) (h _ (List.mem_of_getElem? hx))
    omega
theorem okto_all {l : List Rec} (h : OKto l l.length) : ∀ r ∈ l, recFault r = 0 := by
  intro r hr
  obtain ⟨j, hj, rfl⟩ := List.getElem_of_mem hr
  have := fa_fine (h.2 j hj)
  rwa [recAt_at (List.getElem?_eq_getElem hj)] at this
theorem okto_16 {l : List Rec} (h : OKto l l.length) : l.length ≤ 16 := by
  rcases Nat.lt_or_ge 16 l.length with hlt | hge
  · have := h.2 16 hlt
    rw [fa_16 (Nat.le_refl _)] at this
    cases this
  · exact hge
theorem layC_ok {l : List Rec} (h : layC l = 0) : OKto l l.length := by
  refine ⟨Nat.le_refl _, fun j hj => ?_⟩
  unfold layC layI at h
  split at h
  · rename_i i hi
    rw [List.find?_range_eq_some] at hi
    simp [h] at hi
  · rename_i hi
    rw [List.find?_eq_none] at hi
    have := hi j (List.mem_range.2 hj)
    simpa using this
def encLayC (l : List Rec) : Int := if l.length > 4096 then 2 else if ¬ layC l = 0 then 1 else 0
def encLayS (l : List Rec) : List UInt8 := if encLayC l = 0 then encLay l else []
theorem el_long {l : List Rec} (h : iOf l.length > 4096) : [] = encLayS l ∧ 2 = encLayC l := by
  have h : (l.length : Int) > 4096 := h
  have e : encLayC l = 2 := by unfold encLayC; rw [if_pos (by omega)]
  unfold encLayS
  rw [e]
  exact ⟨rfl, rfl⟩
theorem el_bad {l : List Rec} (h : ¬ iOf l.length > 4096) (hc : ¬ layC l = 0) : [] = encLayS l ∧ 1 = encLayC l := by
  have h : ¬ (l.length : Int) > 4096 := h
  have e : encLayC l = 1 := by unfold encLayC; rw [if_neg (by omega), if_pos hc]
  unfold encLayS
  rw [e]
  exact ⟨rfl, rfl⟩
theorem el_ok {l : List Rec} (h : ¬ iOf l.length > 4096) (hc : layC l = 0) : OKto l l.length ∧ encLay l = encLayS l ∧ 0 = encLayC l := by
  have h : ¬ (l.length : Int) > 4096 := h
  have e : encLayC l = 0 := by unfold encLayC; rw [if_neg (by omega), if_neg (not_not_intro hc)]
  unfold encLayS
  rw [e]
  exact ⟨layC_ok hc, rfl, rfl⟩
def layFC (l : List Rec) : Int := if l.length > 4096 then 2 else layC l
def layFN (l : List Rec) : Int := if l.length > 4096 then 0 else layN l
theorem lf_long {l : List Rec} (h : iOf l.length > 4096) : 0 = layFN l ∧ 2 = layFC l := by
  have h : (l.length : Int) > 4096 := h
  unfold layFN layFC
  rw [if_pos (by omega), if_pos (by omega)]; exact ⟨rfl, rfl⟩
theorem lf_ok {l : List Rec} (h : ¬ iOf l.length > 4096) : layN l = layFN l ∧ layC l = layFC l := by
  have h : ¬ (l.length : Int) > 4096 := h
  unfold layFN layFC
  rw [if_neg (by omega), if_neg (by omega)]; exact ⟨rfl, rfl⟩
theorem first_lay {l : List Rec} : first [.b (decide (iOf l.length > 4096)), .n 2, .b (!decide (layFC l = 0)), .n 1] = encLayC l := by
  unfold encLayC layFC iOf
  by_cases h : l.length > 4096
  · rw [if_pos h, if_pos h, decide_eq_true (p := (l.length : Int) > 4096) (by omega)]; rfl
  · rw [if_neg h, if_neg h, decide_eq_false (p := (l.length : Int) > 4096) (by omega)]
    by_cases h2 : layC l = 0
    · rw [decide_eq_true h2, if_neg (not_not_intro h2)]; rfl
    · rw [decide_eq_false h2, if_pos h2]; rfl
theorem enc_f1 {x : Rec} (h : recFault x = 0) : fits ((enc x).length + (two (sum (enc x))).length) := by
  have := enc_len h
  show _ < 1099511627776
  simp only [two, List.length_cons, List.length_nil]
  omega
theorem enc_f2 {l : List Rec} {i : Nat} {x : Rec} (ha : ∀ r ∈ l, recFault r = 0) (h16 : l.length ≤ 16) (hi : i ≤ l.length) (h : recFault x = 0) : fits ((encTo l i).length + (catS (enc x) (two (sum (enc x)))).length) := by
  have h1 := enc_len h
  have h2 := encTo_len ha i hi
  show _ < 1099511627776
  simp only [catS, two, List.length_append, List.length_cons, List.length_nil]
  omega
theorem enc_f3 {l : List Rec} {i : Nat} (ha : ∀ r ∈ l, recFault r = 0) (h16 : l.length ≤ 16) (hi : i ≤ l.length) : fits ((encTo l i).length + (two (sum (encTo l i))).length) := by
  have h2 := encTo_len ha i hi
  show _ < 1099511627776
  simp only [two, List.length_cons, List.length_nil]
  omega
theorem enc_end {l : List Rec} {i : Nat} (hi : i ≤ l.length) (he : ¬ i < l.length) : catS (encTo l i) (two (sum (encTo l i))) = encLay l := by
  have : i = l.length := by omega
  subst this; rfl
end Go.Fn
namespace Go.Fn
open Go.Ab
instance recDecEq : DecidableEq Rec := @instDecidableEqProd _ _ _ (@instDecidableEqProd _ _ _ (@instDecidableEqProd _ _ _ (inferInstanceAs (DecidableEq (Int × Bool × Unit)))))
theorem szRec_le (r : Rec) (n : Int) (h : 0 ≤ n) : szRec r n ≤ n := by
  unfold szRec
  split
  · omega
  · split <;> omega
theorem eqRec_dec (a b : Rec) : eqRec a b = decide (a = b) := by
  obtain ⟨k, p, b', m, o, ⟨⟩⟩ := a
  obtain ⟨k2, p2, b2, m2, o2, ⟨⟩⟩ := b
  unfold eqRec
  by_cases h : (k, p, b', m, o, ()) = (k2, p2, b2, m2, o2, ())
  · rw [decide_eq_true h]
    simp only [Prod.mk.injEq] at h
    simp [h.1, h.2.1, h.2.2.1, h.2.2.2.1, h.2.2.2.2.1]
  · rw [decide_eq_false h]
    simp only [Prod.mk.injEq, and_true] at h
    by_cases h1 : k = k2 <;> by_cases h2 : p = p2 <;> by_cases h3 : b' = b2 <;> by_cases h4 : m = m2 <;> by_cases h5 : o = o2 <;> simp [h1, h2, h3, h4, h5] at h ⊢
theorem eqRec_ne {a b : Rec} (h : eqRec a b = false) : a ≠ b := by rw [eqRec_dec] at h; simpa using h
theorem eqRec_eq {a b : Rec} (h : eqRec a b = true) : a = b := by rw [eqRec_dec] at h; simpa using h
theorem szS_small {l : List Rec} : ∀ {n : Int}, n ≤ 1048576 → ¬ szGo szRec l n < 0 → okL l := by
  induction l with
  | nil => intro n _ _ r hr; cases hr
  | cons a r ih =>
    intro n hn h x hx
    have e : szGo szRec (a :: r) n = if szRec a n < 0 then -1 else szGo szRec r (szRec a n) := rfl
    rw [e] at h
    split at h
    · omega
    · rename_i h2
      obtain ⟨k, p, b, m, o, ⟨⟩⟩ := a
      have h3 := szRec_small hn h2
      rcases List.mem_cons.1 hx with rfl | hx
      · exact Nat.le_trans h3.1 (by decide)
      · have h4 : szRec (k, p, b, m, o, ()) n ≤ n := by
          unfold szRec at h2 ⊢
          split at h2
          · omega
          · split at h2
            · omega
            · rename_i q1 q2
              rw [if_neg q1, if_neg q2]; omega
        exact ih (Int.le_trans h4 hn) h x hx
theorem szL_small {l : List Rec} (h : ¬ szList szRec l 1048576 < 0) : okL l := by
  unfold szList at h
  split at h
  · omega
  · exact szS_small (by omega) h
end Go.Fn
namespace Go.Proofs.YtolminmmnckpkaaGreatDoor
open Go.Ab Go.Fn
def s_layOK : FSpec := { ps := [.v (.slice tRec)], rs := [.v .bool], pre := fun x => okL x.1, fn := fun x => (decide (Fn.layC x.1 = 0), ()), upd := fun _ => () }
theorem fo_l03OK : FO 45 s_layOK := by
  refine fo (specs := [(66, s_layF)]) (clos := []) (fun x => []) ⟨fo_l03Fault, trivial⟩ trivial Tryz.func45 rfl rfl ?_
  rintro ⟨l, ⟨⟩⟩ hl
  refine vcOf (true = true ∧ okL l ∧ (layC l == (0 : Int), ()) = (decide (layC l = (0 : Int)), ()) ∧ () = ()) (by kernel_rfl) ?_
  simp only [Nat.le_refl, Nat.succ_eq_add_one, Nat.reduceAdd, Nat.reduceLeDiff, Nat.zero_le, pair_unit, mk_eta, len_bne, eqD_bne, bne_iff_ne, bne_eq_false_iff_eq, beq_iff_eq, beq_eq_false_iff_ne, true_and, and_true, and_self, eq_self, lt_iff, nthI_nat, bnd_iff, decide_eq_true_eq, decide_eq_false_iff_not, Nat.sub_eq, nz, ne_eq, not_false_eq_true, Prod.mk.injEq, Int.reduceEq, Nat.reduceEqDiff, forall_const, implies_true, bne_self_eq_false, Bool.true_eq_false, Bool.false_eq_true, false_implies, reduceCtorEq, Bool.not_true, Bool.not_false, List.all_cons, List.all_nil, Bool.and_true, Bool.not_eq_true, Bool.not_eq_false, Bool.not_eq_true', Bool.not_eq_false', Decidable.not_not]; try simp only [lenL]
  exact ⟨hl, eqI_dec _ _⟩
def s_isLongRec : FSpec := { ps := [.v (.slice tRec)], rs := [.v .bool], pre := fun _ => True, fn := fun x => (decide (iOf (List.length (α := Rec) x.1) > 4096), ()), upd := fun _ => () }
theorem fo_isLongRec : FO 48 s_isLongRec := by
  refine fo (specs := []) (clos := []) (fun x => []) trivial trivial Tryz.func48 rfl rfl ?_
  rintro ⟨l, ⟨⟩⟩ -
  refine vcOf (fits (lenL l) → (decide (iOf (lenL l) > (4096 : Int)), ()) = (decide (iOf (List.length l) > (4096 : Int)), ()) ∧ () = ()) (by kernel_rfl) ?_
  simp only [Nat.le_refl, Nat.succ_eq_add_one, Nat.reduceAdd, Nat.reduceLeDiff, Nat.zero_le, pair_unit, mk_eta, len_bne, eqD_bne, bne_iff_ne, bne_eq_false_iff_eq, beq_iff_eq, beq_eq_false_iff_ne, true_and, and_true, and_self, eq_self, lt_iff, nthI_nat, bnd_iff, decide_eq_true_eq, decide_eq_false_iff_not, Nat.sub_eq, nz, ne_eq, not_false_eq_true, Prod.mk.injEq, Int.reduceEq, Nat.reduceEqDiff, forall_const, implies_true, bne_self_eq_false, Bool.true_eq_false, Bool.false_eq_true, false_implies, reduceCtorEq, Bool.not_true, Bool.not_false, List.all_cons, List.all_nil, Bool.and_true, Bool.not_eq_true, Bool.not_eq_false, Bool.not_eq_true', Bool.not_eq_false', Decidable.not_not]; try simp only [lenL]
  exact fun _ => rfl
def s_LayerFault : FSpec := { ps := [.v (.slice tRec)], rs := [.v I, .v I], pre := fun x => okL x.1, fn := fun x => (Fn.layFN x.1, Fn.layFC x.1, ()), upd := fun _ => () }
theorem fo_LayerFault : FO 85 s_LayerFault := by
  refine fo (specs := [(48, s_isLongRec), (72, s_layF)]) (clos := []) (fun x => []) ⟨fo_isLongRec, fo_fault, trivial⟩ trivial Tryz.func85 rfl rfl ?_
  rintro ⟨l, ⟨⟩⟩ hl
  refine vcOf (true = true ∧ True ∧ (decide (iOf (List.length l) > (4096 : Int)) = true → ((0 : Int), (2 : Int), ()) = (layFN l, layFC l, ()) ∧ () = ()) ∧ (decide (iOf (List.length l) > (4096 : Int)) = false → true = true ∧ okL l ∧ (layN l, layC l, ()) = (layFN l, layFC l, ()) ∧ () = ())) (by kernel_rfl) ?_
  simp only [Nat.le_refl, Nat.succ_eq_add_one, Nat.reduceAdd, Nat.reduceLeDiff, Nat.zero_le, pair_unit, mk_eta, len_bne, eqD_bne, bne_iff_ne, bne_eq_false_iff_eq, beq_iff_eq, beq_eq_false_iff_ne, true_and, and_true, and_self, eq_self, lt_iff, nthI_nat, bnd_iff, decide_eq_true_eq, decide_eq_false_iff_not, Nat.sub_eq, nz, ne_eq, not_false_eq_true, Prod.mk.injEq, Int.reduceEq, Nat.reduceEqDiff, forall_const, implies_true, bne_self_eq_false, Bool.true_eq_false, Bool.false_eq_true, false_implies, reduceCtorEq, Bool.not_true, Bool.not_false, List.all_cons, List.all_nil, Bool.and_true, Bool.not_eq_true, Bool.not_eq_false, Bool.not_eq_true', Bool.not_eq_false', Decidable.not_not]; try simp only [lenL]
  exact ⟨fun h => lf_long h, fun h => ⟨hl, lf_ok h⟩⟩
def s_LayerOK : FSpec := { ps := [.v (.slice tRec)], rs := [.v .bool], pre := fun x => okL x.1, fn := fun x => (decide (Fn.layFC x.1 = 0), ()), upd := fun _ => () }
theorem fo_LayerOK : FO 49 s_LayerOK := by
  refine fo (specs := [(85, s_LayerFault)]) (clos := []) (fun x => []) ⟨fo_LayerFault, trivial⟩ trivial Tryz.func49 rfl rfl ?_
  rintro ⟨l, ⟨⟩⟩ hl
  refine vcOf (true = true ∧ okL l ∧ (layFC l == (0 : Int), ()) = (decide (layFC l = (0 : Int)), ()) ∧ () = ()) (by kernel_rfl) ?_
  simp only [Nat.le_refl, Nat.succ_eq_add_one, Nat.reduceAdd, Nat.reduceLeDiff, Nat.zero_le, pair_unit, mk_eta, len_bne, eqD_bne, bne_iff_ne, bne_eq_false_iff_eq, beq_iff_eq, beq_eq_false_iff_ne, true_and, and_true, and_self, eq_self, lt_iff, nthI_nat, bnd_iff, decide_eq_true_eq, decide_eq_false_iff_not, Nat.sub_eq, nz, ne_eq, not_false_eq_true, Prod.mk.injEq, Int.reduceEq, Nat.reduceEqDiff, forall_const, implies_true, bne_self_eq_false, Bool.true_eq_false, Bool.false_eq_true, false_implies, reduceCtorEq, Bool.not_true, Bool.not_false, List.all_cons, List.all_nil, Bool.and_true, Bool.not_eq_true, Bool.not_eq_false, Bool.not_eq_true', Bool.not_eq_false', Decidable.not_not]; try simp only [lenL]
  exact ⟨hl, eqI_dec _ _⟩
end Go.Proofs.YtolminmmnckpkaaGreatDoor
namespace Go.Proofs.YtolminmmnckpkaaGreatDoor
open Go.Ab Go.Fn
def s_szRecordS : FSpec := { ps := [.v (.slice tRec), .v I], rs := [.v I], pre := fun x => 0 ≤ (x.2.1 : Int) ∧ (x.2.1 : Int) ≤ 1048576, fn := fun x => (szList Fn.szRec x.1 x.2.1, ()), upd := fun _ => () }
def L_szRecordS (xs : List (tRec : Ty).den) (l0 : Int) : LoopAnn := { ι := Nat × Int, inv := fun p => p.1 ≤ xs.length ∧ (0 ≤ p.2 ∧ p.2 ≤ 1048576) ∧ szGo Fn.szRec (xs.drop p.1) p.2 = szGo Fn.szRec xs (l0 - xs.length), slots := fun p => [(5, .d I (Int.ofNat p.1)), (1, .d I p.2)], objs := fun _ => [], μ := fun p => xs.length - p.1 }
theorem fo_szRecordS : FO 16 s_szRecordS := by
  refine fo (specs := [(44, s_szRecord)]) (clos := []) (fun x => [(5, .lv [0, 1, 5] <| fun _ => L_szRecordS x.1 x.2.1)]) ⟨fo_szRecord, trivial⟩ trivial Tryz.func16 rfl rfl ?_
  rintro ⟨xs, n, ⟨⟩⟩ ⟨hp1, hp2⟩
  have hp1 : (0 : Int) ≤ n := hp1
  have hp2 : (n : Int) ≤ 1048576 := hp2
  refine vcOf (fits (lenL xs) → (decide (wSub IntKind.i64 n (iOf (lenL xs)) < (0 : Int)) = true → ((-1 : Int), ()) = (szList szRec xs n, ()) ∧ () = ()) ∧ (decide (wSub IntKind.i64 n (iOf (lenL xs)) < (0 : Int)) = false → (∃ (i : Nat × Int), (i.fst ≤ List.length xs ∧ ((0 : Int) ≤ i.snd ∧ i.snd ≤ (1048576 : Int)) ∧ szGo szRec (List.drop i.fst xs) i.snd = szGo szRec xs (n - Int.ofNat (List.length xs))) ∧ (xs = xs ∧ wSub IntKind.i64 n (iOf (lenL xs)) = i.snd ∧ (0 : Int) = Int.ofNat i.fst ∧ True) ∧ True ∧ True) ∧ ∀ (i : Nat × Int), i.fst ≤ List.length xs ∧ ((0 : Int) ≤ i.snd ∧ i.snd ≤ (1048576 : Int)) ∧ szGo szRec (List.drop i.fst xs) i.snd = szGo szRec xs (n - Int.ofNat (List.length xs)) → fits (lenL xs) → (decide (Int.ofNat i.fst < iOf (lenL xs)) = true → bnd (Int.ofNat i.fst) (lenL xs) ∧ ∀ (x : Int × List UInt8 × List UInt8 × Int × Bool × Unit), nthI xs (Int.ofNat i.fst) = some x → nat_lit 5 ≤ (Nat.succ (nat_lit 1)).succ.succ.succ ∧ true = true ∧ ((-1 : Int) ≤ i.snd ∧ i.snd ≤ (1048576 : (PTy.v I).den)) ∧ (decide (szRec (x.fst, x.snd.fst, x.snd.snd.fst, x.snd.snd.snd.fst, x.snd.snd.snd.snd.fst, ()) i.snd < (0 : Int)) = true → ((-1 : Int), ()) = (szList szRec xs n, ()) ∧ () = ()) ∧ (decide (szRec (x.fst, x.snd.fst, x.snd.snd.fst, x.snd.snd.snd.fst, x.snd.snd.snd.snd.fst, ()) i.snd < (0 : Int)) = false → ∃ (j : Nat × Int), (j.fst ≤ List.length xs ∧ ((0 : Int) ≤ j.snd ∧ j.snd ≤ (1048576 : Int)) ∧ szGo szRec (List.drop j.fst xs) j.snd = szGo szRec xs (n - Int.ofNat (List.length xs))) ∧ (List.length xs).sub j.fst < (List.length xs).sub i.fst ∧ (xs = xs ∧ szRec (x.fst, x.snd.fst, x.snd.snd.fst, x.snd.snd.snd.fst, x.snd.snd.snd.snd.fst, ()) i.snd = j.snd ∧ wAdd IntKind.i64 (Int.ofNat i.fst) (1 : Int) = Int.ofNat j.fst ∧ True) ∧ True ∧ True)) ∧ (decide (Int.ofNat i.fst < iOf (lenL xs)) = false → (i.snd, ()) = (szList szRec xs n, ()) ∧ () = ()))) (by kernel_rfl) ?_
  simp only [Nat.le_refl, Nat.succ_eq_add_one, Nat.reduceAdd, Nat.reduceLeDiff, Nat.zero_le, pair_unit, mk_eta, len_bne, eqD_bne, bne_iff_ne, bne_eq_false_iff_eq, beq_iff_eq, beq_eq_false_iff_ne, true_and, and_true, and_self, eq_self, lt_iff, nthI_nat, bnd_iff, decide_eq_true_eq, decide_eq_false_iff_not, Nat.sub_eq, nz, ne_eq, not_false_eq_true, Prod.mk.injEq, Int.reduceEq, Nat.reduceEqDiff, forall_const, implies_true, bne_self_eq_false, Bool.true_eq_false, Bool.false_eq_true, false_implies, reduceCtorEq, Bool.not_true, Bool.not_false, List.all_cons, List.all_nil, Bool.and_true, Bool.not_eq_true, Bool.not_eq_false, Bool.not_eq_true', Bool.not_eq_false', Decidable.not_not]; try simp only [lenL]
  intro hf
  rw [wSub_len hp1 hp2 hf]
  refine ⟨fun h => (if_pos h).symm, fun h => ⟨⟨(0, n - (xs.length : Int)), ⟨Nat.zero_le _, ⟨Int.not_lt.1 h, Int.le_trans (Int.sub_le_self _ (Int.natCast_nonneg _)) hp2⟩, rfl⟩, rfl, rfl⟩, ?_⟩⟩
  have e0 : szList Fn.szRec xs n = szGo Fn.szRec xs (n - (xs.length : Int)) := if_neg h
  rw [e0]
  rintro ⟨k, m⟩ ⟨hk, ⟨hm1, hm2⟩, he⟩ -
  have hm1 : (0 : Int) ≤ m := hm1
  have hm2 : (m : Int) ≤ 1048576 := hm2
  have he : szGo Fn.szRec (xs.drop k) m = szGo Fn.szRec xs (n - (xs.length : Int)) := he
  refine ⟨fun hlt => ⟨hlt, fun x hx => ⟨⟨Int.le_trans (by decide) hm1, hm2⟩, fun h1 => ?_, fun h1 => ?_⟩⟩, fun hge => ?_⟩
  · rw [← he, szGo_at hx]; exact (if_pos h1).symm
  · have h2 := szRec_le x m hm1
    rw [szGo_at hx] at he
    exact ⟨(k + 1, Fn.szRec x m), ⟨hlt, ⟨Int.not_lt.1 h1, Int.le_trans h2 hm2⟩, (if_neg h1).symm.trans he⟩, Nat.sub_lt_sub_left hlt (Nat.lt_succ_self k), rfl, inc_in hf hk⟩
  · rw [← he, szGo_end hge]
end Go.Proofs.YtolminmmnckpkaaGreatDoor
namespace Go.Proofs.YtolminmmnckpkaaGreatDoor
open Go.Ab Go.Fn
def s_toRecordS : FSpec := { ps := [.v (.slice tRec)], rs := [.o (.slice tRec)], pre := fun _ => True, fn := fun x => (x.1, ()), upd := fun _ => () }
def L_toRecordS (xs : List (tRec : Ty).den) : LoopAnn := { ι := Nat, inv := fun k => k ≤ xs.length, slots := fun k => [(4, .d I (Int.ofNat k))], objs := fun k => [(1, .arr tRec (fillTo xs k (0, [], [], 0, false, ())) false)], μ := fun k => xs.length - k }
theorem fo_toRecordS : FO 18 s_toRecordS := by
  refine fo (specs := [(47, s_toRecord)]) (clos := []) (fun x => [(3, .lv [0, 3, 4] <| fun _ => L_toRecordS x.1)]) ⟨fo_toRecord, trivial⟩ trivial Tryz.func18 rfl rfl ?_
  rintro ⟨xs, ⟨⟩⟩ -
  refine vcOf (fits (lenL xs) → mkOK (iOf (lenL xs)) (iOf (lenL xs)) ∧ (∃ (i : Nat), i ≤ List.length xs ∧ (xs = xs ∧ nat_lit 1 = nat_lit 1 ∧ (0 : Int) = Int.ofNat i ∧ True) ∧ ((([] : List (Int × List UInt8 × List UInt8 × Int × Bool × Unit)) = ([] : List (Int × List UInt8 × List UInt8 × Int × Bool × Unit)) ∧ false = false) ∧ (List.replicate (tN (iOf (lenL xs))) ((0 : (Ty.int IntKind.i64).den), ([] : List UInt8), ([] : List UInt8), (0 : (Ty.int IntKind.i64).den), false, ()) = fillTo xs i ((0 : I.den), ([] : List UInt8), ([] : List UInt8), (0 : I.den), false, ()) ∧ false = false) ∧ True) ∧ True) ∧ ∀ (i : Nat), i ≤ List.length xs → fits (lenL xs) → (decide (Int.ofNat i < iOf (lenL xs)) = true → bnd (Int.ofNat i) (lenL xs) ∧ ∀ (x : Int × List UInt8 × List UInt8 × Int × Bool × Unit), nthI xs (Int.ofNat i) = some x → nat_lit 5 ≤ (Nat.succ (nat_lit 1)).succ.succ.succ ∧ true = true ∧ True ∧ bnd (Int.ofNat i) (lenL (fillTo xs i ((0 : I.den), ([] : List UInt8), ([] : List UInt8), (0 : I.den), false, ()))) ∧ ((0 : Nat) = (0 : Nat) ∧ tN (Int.ofNat i) < lenL (fillTo xs i ((0 : I.den), ([] : List UInt8), ([] : List UInt8), (0 : I.den), false, ()))) ∧ ∃ (j : Nat), j ≤ List.length xs ∧ (List.length xs).sub j < (List.length xs).sub i ∧ (xs = xs ∧ nat_lit 1 = nat_lit 1 ∧ wAdd IntKind.i64 (Int.ofNat i) (1 : Int) = Int.ofNat j ∧ True) ∧ ((([] : List (Int × List UInt8 × List UInt8 × Int × Bool × Unit)) = ([] : List (Int × List UInt8 × List UInt8 × Int × Bool × Unit)) ∧ false = false) ∧ ((fillTo xs i ((0 : I.den), ([] : List UInt8), ([] : List UInt8), (0 : I.den), false, ())).set (tN (Int.ofNat i)) (x.fst, x.snd.fst, x.snd.snd.fst, x.snd.snd.snd.fst, x.snd.snd.snd.snd.fst, ()) = fillTo xs j ((0 : I.den), ([] : List UInt8), ([] : List UInt8), (0 : I.den), false, ()) ∧ false = false) ∧ True) ∧ True) ∧ (decide (Int.ofNat i < iOf (lenL xs)) = false → (fillTo xs i ((0 : I.den), ([] : List UInt8), ([] : List UInt8), (0 : I.den), false, ()), ()) = (xs, ()) ∧ () = ())) (by kernel_rfl) ?_
  simp only [Nat.le_refl, Nat.succ_eq_add_one, Nat.reduceAdd, Nat.reduceLeDiff, Nat.zero_le, pair_unit, mk_eta, len_bne, eqD_bne, bne_iff_ne, bne_eq_false_iff_eq, beq_iff_eq, beq_eq_false_iff_ne, true_and, and_true, and_self, eq_self, lt_iff, nthI_nat, bnd_iff, decide_eq_true_eq, decide_eq_false_iff_not, Nat.sub_eq, nz, ne_eq, not_false_eq_true, Prod.mk.injEq, Int.reduceEq, Nat.reduceEqDiff, forall_const, implies_true, bne_self_eq_false, Bool.true_eq_false, Bool.false_eq_true, false_implies, reduceCtorEq, Bool.not_true, Bool.not_false, List.all_cons, List.all_nil, Bool.and_true, Bool.not_eq_true, Bool.not_eq_false, Bool.not_eq_true', Bool.not_eq_false', Decidable.not_not]; try simp only [lenL]
  exact fun hf => ⟨mkOK_len hf, ⟨0, Nat.zero_le _, rfl, rfl⟩, fun k hk _ => ⟨fun h => ⟨h, fun x hx => ⟨by rw [fill_len hk]; exact h, by rw [fill_len hk]; exact h, k + 1, h, Nat.sub_lt_sub_left h (Nat.lt_succ_self k), inc_in hf hk, fill_set hx⟩⟩, fun h => fill_end h⟩⟩
end Go.Proofs.YtolminmmnckpkaaGreatDoor
namespace Go.Proofs.YtolminmmnckpkaaGreatDoor
open Go.Ab Go.Fn
def s_eqRecordS : FSpec := { ps := [.v (.slice tRec), .v (.slice tRec)], rs := [.v .bool], pre := fun _ => True, fn := fun x => (eqL (α := Rec) x.1 x.2.1, ()), upd := fun _ => () }
def L_eqRecordS (xs ys : List (tRec : Ty).den) : LoopAnn := { ι := Nat, inv := fun k => k ≤ xs.length ∧ xs.length = ys.length ∧ xs.take k = ys.take k, slots := fun k => [(5, .d I (Int.ofNat k))], objs := fun _ => [], μ := fun k => xs.length - k }
theorem fo_eqRecordS : FO 20 s_eqRecordS := by
  refine fo (specs := [(50, s_eqRecord)]) (clos := []) (fun x => [(4, .lv [0, 1, 5] <| fun _ => L_eqRecordS x.1 x.2.1)]) ⟨fo_eqRecord, trivial⟩ trivial Tryz.func20 rfl rfl ?_
  rintro ⟨xs, ys, ⟨⟩⟩ -
  refine vcOf (fits (lenL xs) → fits (lenL ys) → ((iOf (lenL xs) != iOf (lenL ys)) = true → (false, ()) = (eqL xs ys, ()) ∧ () = ()) ∧ ((iOf (lenL xs) != iOf (lenL ys)) = false → (∃ (i : Nat), (i ≤ List.length xs ∧ List.length xs = List.length ys ∧ List.take i xs = List.take i ys) ∧ (xs = xs ∧ ys = ys ∧ (0 : Int) = Int.ofNat i ∧ True) ∧ True ∧ True) ∧ ∀ (i : Nat), i ≤ List.length xs ∧ List.length xs = List.length ys ∧ List.take i xs = List.take i ys → fits (lenL xs) → (decide (Int.ofNat i < iOf (lenL xs)) = true → bnd (Int.ofNat i) (lenL xs) ∧ ∀ (x : Int × List UInt8 × List UInt8 × Int × Bool × Unit), nthI xs (Int.ofNat i) = some x → nat_lit 5 ≤ (Nat.succ (nat_lit 1)).succ.succ.succ ∧ bnd (Int.ofNat i) (lenL ys) ∧ ∀ (x_1 : Int × List UInt8 × List UInt8 × Int × Bool × Unit), nthI ys (Int.ofNat i) = some x_1 → nat_lit 5 ≤ (Nat.succ (nat_lit 1)).succ.succ.succ ∧ true = true ∧ True ∧ ((!eqRec (x.fst, x.snd.fst, x.snd.snd.fst, x.snd.snd.snd.fst, x.snd.snd.snd.snd.fst, ()) (x_1.fst, x_1.snd.fst, x_1.snd.snd.fst, x_1.snd.snd.snd.fst, x_1.snd.snd.snd.snd.fst, ())) = true → (false, ()) = (eqL xs ys, ()) ∧ () = ()) ∧ ((!eqRec (x.fst, x.snd.fst, x.snd.snd.fst, x.snd.snd.snd.fst, x.snd.snd.snd.snd.fst, ()) (x_1.fst, x_1.snd.fst, x_1.snd.snd.fst, x_1.snd.snd.snd.fst, x_1.snd.snd.snd.snd.fst, ())) = false → ∃ (j : Nat), (j ≤ List.length xs ∧ List.length xs = List.length ys ∧ List.take j xs = List.take j ys) ∧ (List.length xs).sub j < (List.length xs).sub i ∧ (xs = xs ∧ ys = ys ∧ wAdd IntKind.i64 (Int.ofNat i) (1 : Int) = Int.ofNat j ∧ True) ∧ True ∧ True)) ∧ (decide (Int.ofNat i < iOf (lenL xs)) = false → (true, ()) = (eqL xs ys, ()) ∧ () = ()))) (by kernel_rfl) ?_
  simp only [Nat.le_refl, Nat.succ_eq_add_one, Nat.reduceAdd, Nat.reduceLeDiff, Nat.zero_le, pair_unit, mk_eta, len_bne, eqD_bne, bne_iff_ne, bne_eq_false_iff_eq, beq_iff_eq, beq_eq_false_iff_ne, true_and, and_true, and_self, eq_self, lt_iff, nthI_nat, bnd_iff, decide_eq_true_eq, decide_eq_false_iff_not, Nat.sub_eq, nz, ne_eq, not_false_eq_true, Prod.mk.injEq, Int.reduceEq, Nat.reduceEqDiff, forall_const, implies_true, bne_self_eq_false, Bool.true_eq_false, Bool.false_eq_true, false_implies, reduceCtorEq, Bool.not_true, Bool.not_false, List.all_cons, List.all_nil, Bool.and_true, Bool.not_eq_true, Bool.not_eq_false, Bool.not_eq_true', Bool.not_eq_false', Decidable.not_not]; try simp only [lenL]
  exact fun hf1 hf2 => ⟨fun h => eqL_len h, fun h => ⟨⟨0, ⟨Nat.zero_le _, h, rfl⟩, rfl⟩, fun k ⟨hk, _, ht⟩ _ => ⟨fun hlt => ⟨hlt, fun x hx => ⟨h ▸ hlt, fun y hy => ⟨fun hne => eqL_ne hx hy (eqRec_ne hne), fun he => ⟨k + 1, ⟨hlt, h, take_eq_succ hx hy ht (eqRec_eq he)⟩, Nat.sub_lt_sub_left hlt (Nat.lt_succ_self k), inc_in hf1 hk⟩⟩⟩⟩, fun hge => eqL_end hge h ht⟩⟩⟩
end Go.Proofs.YtolminmmnckpkaaGreatDoor
namespace Go.Fn
open Go.Ab
def markR (k : Int) : Rec := (k, markText (k + 1), markText (k + 2), k + 3, third (k + 4), ())
theorem at_add3 {d k : Int} {j n : Nat} (hk : kOK k) (hd : 0 ≤ d ∧ d ≤ 16) (hj : j ≤ n) (hf : fits n) : wAdd .i64 (atD d k j + 3) 1 = atD d k j + 4 := by
  simpa using (at_add (e := 3) hk hd hj hf (by omega)).1
theorem at_add4 {d k : Int} {j n : Nat} (hk : kOK k) (hd : 0 ≤ d ∧ d ≤ 16) (hj : j ≤ n) (hf : fits n) : wAdd .i64 (atD d k j + 4) 1 = atD d k j + 5 := by
  simpa using (at_add (e := 4) hk hd hj hf (by omega)).1
theorem at_small2 {d k : Int} {j n : Nat} (hk : kOK k) (hd : 0 ≤ d ∧ d ≤ 16) (hj : j ≤ n) (hf : fits n) : atD d k j + 2 ≤ 9000000000000000 := by
  have := (at_add (e := 2) hk hd hj hf (by omega)).2
  omega
def heldR (xs : List Rec) (k : Int) : Int := heldL markR 5 xs k
theorem heldR_mark {n : Nat} : heldR (markL markR 5 n 1) 1 = atD 5 1 n := held_mark markR 5 n 1
theorem atD_pos {n : Nat} : ¬ atD 5 1 n < 0 := by unfold atD; simp only [Int.ofNat_eq_natCast]; omega
end Go.Fn
namespace Go.Proofs.YtolminmmnckpkaaGreatDoor
open Go.Ab Go.Fn
def s_markText : FSpec := { ps := [.v I], rs := [.v .str], pre := fun x => (x.1 : Int) ≤ 9000000000000000, fn := fun x => (markText x.1, ()), upd := fun _ => () }
def L_markText (k : Int) : LoopAnn := { ι := Nat × List UInt8, inv := fun p => p.1 ≤ 9000000000000000 ∧ digs p.1 ++ p.2 = digs k.toNat, slots := fun p => [(0, .d I (Int.ofNat p.1)), (3, .d .str p.2)], objs := fun _ => [], μ := fun p => p.1 }
theorem fo_markText : FO 43 s_markText := by
  refine fo (specs := []) (clos := []) (fun x => [(4, .lv [0, 3] <| fun _ => L_markText x.1)]) trivial trivial Tryz.func43 rfl rfl ?_
  rintro ⟨(k : Int), ⟨⟩⟩ (hp : k ≤ 9000000000000000)
  refine vcOf ((decide (k ≤ (0 : Int)) = true → ((109 : UInt8) :: (48 : UInt8) :: ([] : List UInt8), ()) = (markText k, ()) ∧ () = ()) ∧ (decide (k ≤ (0 : Int)) = false → (∃ (i : Nat × List UInt8), (i.fst ≤ (9000000000000000 : Nat) ∧ digs i.fst ++ i.snd = digs k.toNat) ∧ (k = Int.ofNat i.fst ∧ ([] : List UInt8) = i.snd ∧ True) ∧ True ∧ True) ∧ ∀ (i : Nat × List UInt8), i.fst ≤ (9000000000000000 : Nat) ∧ digs i.fst ++ i.snd = digs k.toNat → (decide (Int.ofNat i.fst > (0 : Int)) = true → nz (10 : Int) ∧ fits (lenL (UInt8.ofNat (IntKind.u8.wrap (wAdd IntKind.i64 (48 : Int) (wRem (Int.ofNat i.fst) (10 : Int)))).toNat :: ([] : List UInt8)) + lenL i.snd) ∧ nz (10 : Int) ∧ ∃ (j : Nat × List UInt8), (j.fst ≤ (9000000000000000 : Nat) ∧ digs j.fst ++ j.snd = digs k.toNat) ∧ j.fst < i.fst ∧ (wQuo IntKind.i64 (Int.ofNat i.fst) (10 : Int) = Int.ofNat j.fst ∧ catS (UInt8.ofNat (IntKind.u8.wrap (wAdd IntKind.i64 (48 : Int) (wRem (Int.ofNat i.fst) (10 : Int)))).toNat :: ([] : List UInt8)) i.snd = j.snd ∧ True) ∧ True ∧ True) ∧ (decide (Int.ofNat i.fst > (0 : Int)) = false → fits (lenL ((109 : UInt8) :: ([] : List UInt8)) + lenL i.snd) ∧ (catS ((109 : UInt8) :: ([] : List UInt8)) i.snd, ()) = (markText k, ()) ∧ () = ()))) (by kernel_rfl) ?_
  simp only [Nat.le_refl, Nat.succ_eq_add_one, Nat.reduceAdd, Nat.reduceLeDiff, Nat.zero_le, pair_unit, mk_eta, len_bne, eqD_bne, bne_iff_ne, bne_eq_false_iff_eq, beq_iff_eq, beq_eq_false_iff_ne, true_and, and_true, and_self, eq_self, lt_iff, nthI_nat, bnd_iff, decide_eq_true_eq, decide_eq_false_iff_not, Nat.sub_eq, nz, ne_eq, not_false_eq_true, Prod.mk.injEq, Int.reduceEq, Nat.reduceEqDiff, forall_const, implies_true, bne_self_eq_false, Bool.true_eq_false, Bool.false_eq_true, false_implies, reduceCtorEq, Bool.not_true, Bool.not_false, List.all_cons, List.all_nil, Bool.and_true, Bool.not_eq_true, Bool.not_eq_false, Bool.not_eq_true', Bool.not_eq_false', Decidable.not_not]; try simp only [lenL]
  refine ⟨fun h => (markText_neg h).symm, fun h => ⟨⟨(Int.toNat k, []), ⟨by omega, by simp⟩, mark_start h, rfl⟩, ?_⟩⟩
  rintro ⟨n, out⟩ ⟨hn, he⟩
  have hkn : Int.toNat k ≤ 9000000000000000 := by omega
  refine ⟨fun hpos => ?_, fun hz => ?_⟩
  · have hpos : 0 < n := by simpa using hpos
    rw [digit_eq, quo_eq hn]
    refine ⟨digs_bound hkn he _, (n / 10, UInt8.ofNat (48 + n % 10) :: out), ⟨by omega, ?_⟩, by omega, rfl, rfl⟩
    rw [← he, digs_pos hpos]; simp
  · have hz : n = 0 := by simpa using hz
    subst hz
    have he : out = digs (Int.toNat k) := by simpa [digs_zero] using he
    refine ⟨digs_bound (n := 0) hkn (by simpa [digs_zero] using he) _, ?_⟩
    rw [markText_pos h, ← he]; rfl
end Go.Proofs.YtolminmmnckpkaaGreatDoor
namespace Go.Proofs.YtolminmmnckpkaaGreatDoor
open Go.Ab Go.Fn
def s_markRecordS : FSpec := { ps := [.mo tRec, .v I], rs := [.v I], pre := fun x => kOK x.2.1, fn := fun x => (atD 5 x.2.1 (List.length (α := Fn.Rec) x.1), ()), upd := fun x => (markL markR 5 (List.length (α := Fn.Rec) x.1) x.2.1, ()) }
def L_markRecordS (xs : List Fn.Rec) (k : Int) : LoopAnn := { ι := Nat, inv := fun j => j ≤ xs.length, slots := fun j => [(5, .d I (Int.ofNat j)), (1, .d I (atD 5 k j))], objs := fun j => [(0, .arr tRec (markTo markR 5 xs k j) true)], μ := fun j => xs.length - j }
theorem fo_markRecordS : FO 21 s_markRecordS := by
  refine fo (specs := [(43, s_markText)]) (clos := []) (fun x => [(2, .lv [0, 1, 5] <| fun _ => L_markRecordS x.1 x.2.1)]) ⟨fo_markText, trivial⟩ trivial Tryz.func21 rfl rfl ?_
  rintro ⟨xs, k, ⟨⟩⟩ hp
  have hp : kOK k := hp
  refine vcOf ((∃ (i : Nat), i ≤ List.length xs ∧ ((0 : Nat) = (0 : Nat) ∧ k = atD (5 : Int) k i ∧ (0 : Int) = Int.ofNat i ∧ True) ∧ ((xs = markTo markR (5 : Int) xs k i ∧ true = true) ∧ True) ∧ True) ∧ ∀ (i : Nat), i ≤ List.length xs → fits (lenL (markTo markR (5 : Int) xs k i)) → (decide (Int.ofNat i < iOf (lenL (markTo markR (5 : Int) xs k i))) = true → bnd (Int.ofNat i) (lenL (markTo markR (5 : Int) xs k i)) ∧ (nat_lit 1 ≤ nat_lit 5 ∧ tN (Int.ofNat i) < lenL (markTo markR (5 : Int) xs k i)) ∧ ∀ (x : Int × List UInt8 × List UInt8 × Int × Bool × Unit), nth (markTo markR (5 : Int) xs k i) (tN (Int.ofNat i)) = some x → true = true ∧ wAdd IntKind.i64 (atD (5 : Int) k i) (1 : Int) ≤ (9000000000000000 : (PTy.v I).den) ∧ bnd (Int.ofNat i) (lenL ((markTo markR (5 : Int) xs k i).set (tN (Int.ofNat i)) (atD (5 : Int) k i, x.snd.fst, x.snd.snd.fst, x.snd.snd.snd.fst, x.snd.snd.snd.snd.fst, ()))) ∧ (nat_lit 2 ≤ nat_lit 5 ∧ tN (Int.ofNat i) < lenL ((markTo markR (5 : Int) xs k i).set (tN (Int.ofNat i)) (atD (5 : Int) k i, x.snd.fst, x.snd.snd.fst, x.snd.snd.snd.fst, x.snd.snd.snd.snd.fst, ()))) ∧ ∀ (x_1 : Int × List UInt8 × List UInt8 × Int × Bool × Unit), nth ((markTo markR (5 : Int) xs k i).set (tN (Int.ofNat i)) (atD (5 : Int) k i, x.snd.fst, x.snd.snd.fst, x.snd.snd.snd.fst, x.snd.snd.snd.snd.fst, ())) (tN (Int.ofNat i)) = some x_1 → true = true ∧ wAdd IntKind.i64 (wAdd IntKind.i64 (atD (5 : Int) k i) (1 : Int)) (1 : Int) ≤ (9000000000000000 : (PTy.v I).den) ∧ bnd (Int.ofNat i) (lenL (((markTo markR (5 : Int) xs k i).set (tN (Int.ofNat i)) (atD (5 : Int) k i, x.snd.fst, x.snd.snd.fst, x.snd.snd.snd.fst, x.snd.snd.snd.snd.fst, ())).set (tN (Int.ofNat i)) (x_1.fst, markText (wAdd IntKind.i64 (atD (5 : Int) k i) (1 : Int)), x_1.snd.snd.fst, x_1.snd.snd.snd.fst, x_1.snd.snd.snd.snd.fst, ()))) ∧ (nat_lit 3 ≤ nat_lit 5 ∧ tN (Int.ofNat i) < lenL (((markTo markR (5 : Int) xs k i).set (tN (Int.ofNat i)) (atD (5 : Int) k i, x.snd.fst, x.snd.snd.fst, x.snd.snd.snd.fst, x.snd.snd.snd.snd.fst, ())).set (tN (Int.ofNat i)) (x_1.fst, markText (wAdd IntKind.i64 (atD (5 : Int) k i) (1 : Int)), x_1.snd.snd.fst, x_1.snd.snd.snd.fst, x_1.snd.snd.snd.snd.fst, ()))) ∧ ∀ (x_2 : Int × List UInt8 × List UInt8 × Int × Bool × Unit), nth (((markTo markR (5 : Int) xs k i).set (tN (Int.ofNat i)) (atD (5 : Int) k i, x.snd.fst, x.snd.snd.fst, x.snd.snd.snd.fst, x.snd.snd.snd.snd.fst, ())).set (tN (Int.ofNat i)) (x_1.fst, markText (wAdd IntKind.i64 (atD (5 : Int) k i) (1 : Int)), x_1.snd.snd.fst, x_1.snd.snd.snd.fst, x_1.snd.snd.snd.snd.fst, ())) (tN (Int.ofNat i)) = some x_2 → bnd (Int.ofNat i) (lenL ((((markTo markR (5 : Int) xs k i).set (tN (Int.ofNat i)) (atD (5 : Int) k i, x.snd.fst, x.snd.snd.fst, x.snd.snd.snd.fst, x.snd.snd.snd.snd.fst, ())).set (tN (Int.ofNat i)) (x_1.fst, markText (wAdd IntKind.i64 (atD (5 : Int) k i) (1 : Int)), x_1.snd.snd.fst, x_1.snd.snd.snd.fst, x_1.snd.snd.snd.snd.fst, ())).set (tN (Int.ofNat i)) (x_2.fst, x_2.snd.fst, markText (wAdd IntKind.i64 (wAdd IntKind.i64 (atD (5 : Int) k i) (1 : Int)) (1 : Int)), x_2.snd.snd.snd.fst, x_2.snd.snd.snd.snd.fst, ()))) ∧ (nat_lit 4 ≤ nat_lit 5 ∧ tN (Int.ofNat i) < lenL ((((markTo markR (5 : Int) xs k i).set (tN (Int.ofNat i)) (atD (5 : Int) k i, x.snd.fst, x.snd.snd.fst, x.snd.snd.snd.fst, x.snd.snd.snd.snd.fst, ())).set (tN (Int.ofNat i)) (x_1.fst, markText (wAdd IntKind.i64 (atD (5 : Int) k i) (1 : Int)), x_1.snd.snd.fst, x_1.snd.snd.snd.fst, x_1.snd.snd.snd.snd.fst, ())).set (tN (Int.ofNat i)) (x_2.fst, x_2.snd.fst, markText (wAdd IntKind.i64 (wAdd IntKind.i64 (atD (5 : Int) k i) (1 : Int)) (1 : Int)), x_2.snd.snd.snd.fst, x_2.snd.snd.snd.snd.fst, ()))) ∧ ∀ (x_3 : Int × List UInt8 × List UInt8 × Int × Bool × Unit), nth ((((markTo markR (5 : Int) xs k i).set (tN (Int.ofNat i)) (atD (5 : Int) k i, x.snd.fst, x.snd.snd.fst, x.snd.snd.snd.fst, x.snd.snd.snd.snd.fst, ())).set (tN (Int.ofNat i)) (x_1.fst, markText (wAdd IntKind.i64 (atD (5 : Int) k i) (1 : Int)), x_1.snd.snd.fst, x_1.snd.snd.snd.fst, x_1.snd.snd.snd.snd.fst, ())).set (tN (Int.ofNat i)) (x_2.fst, x_2.snd.fst, markText (wAdd IntKind.i64 (wAdd IntKind.i64 (atD (5 : Int) k i) (1 : Int)) (1 : Int)), x_2.snd.snd.snd.fst, x_2.snd.snd.snd.snd.fst, ())) (tN (Int.ofNat i)) = some x_3 → nz (3 : Int) ∧ bnd (Int.ofNat i) (lenL (((((markTo markR (5 : Int) xs k i).set (tN (Int.ofNat i)) (atD (5 : Int) k i, x.snd.fst, x.snd.snd.fst, x.snd.snd.snd.fst, x.snd.snd.snd.snd.fst, ())).set (tN (Int.ofNat i)) (x_1.fst, markText (wAdd IntKind.i64 (atD (5 : Int) k i) (1 : Int)), x_1.snd.snd.fst, x_1.snd.snd.snd.fst, x_1.snd.snd.snd.snd.fst, ())).set (tN (Int.ofNat i)) (x_2.fst, x_2.snd.fst, markText (wAdd IntKind.i64 (wAdd IntKind.i64 (atD (5 : Int) k i) (1 : Int)) (1 : Int)), x_2.snd.snd.snd.fst, x_2.snd.snd.snd.snd.fst, ())).set (tN (Int.ofNat i)) (x_3.fst, x_3.snd.fst, x_3.snd.snd.fst, wAdd IntKind.i64 (wAdd IntKind.i64 (wAdd IntKind.i64 (atD (5 : Int) k i) (1 : Int)) (1 : Int)) (1 : Int), x_3.snd.snd.snd.snd.fst, ()))) ∧ (nat_lit 5 ≤ nat_lit 5 ∧ tN (Int.ofNat i) < lenL (((((markTo markR (5 : Int) xs k i).set (tN (Int.ofNat i)) (atD (5 : Int) k i, x.snd.fst, x.snd.snd.fst, x.snd.snd.snd.fst, x.snd.snd.snd.snd.fst, ())).set (tN (Int.ofNat i)) (x_1.fst, markText (wAdd IntKind.i64 (atD (5 : Int) k i) (1 : Int)), x_1.snd.snd.fst, x_1.snd.snd.snd.fst, x_1.snd.snd.snd.snd.fst, ())).set (tN (Int.ofNat i)) (x_2.fst, x_2.snd.fst, markText (wAdd IntKind.i64 (wAdd IntKind.i64 (atD (5 : Int) k i) (1 : Int)) (1 : Int)), x_2.snd.snd.snd.fst, x_2.snd.snd.snd.snd.fst, ())).set (tN (Int.ofNat i)) (x_3.fst, x_3.snd.fst, x_3.snd.snd.fst, wAdd IntKind.i64 (wAdd IntKind.i64 (wAdd IntKind.i64 (atD (5 : Int) k i) (1 : Int)) (1 : Int)) (1 : Int), x_3.snd.snd.snd.snd.fst, ()))) ∧ ∀ (x_4 : Int × List UInt8 × List UInt8 × Int × Bool × Unit), nth (((((markTo markR (5 : Int) xs k i).set (tN (Int.ofNat i)) (atD (5 : Int) k i, x.snd.fst, x.snd.snd.fst, x.snd.snd.snd.fst, x.snd.snd.snd.snd.fst, ())).set (tN (Int.ofNat i)) (x_1.fst, markText (wAdd IntKind.i64 (atD (5 : Int) k i) (1 : Int)), x_1.snd.snd.fst, x_1.snd.snd.snd.fst, x_1.snd.snd.snd.snd.fst, ())).set (tN (Int.ofNat i)) (x_2.fst, x_2.snd.fst, markText (wAdd IntKind.i64 (wAdd IntKind.i64 (atD (5 : Int) k i) (1 : Int)) (1 : Int)), x_2.snd.snd.snd.fst, x_2.snd.snd.snd.snd.fst, ())).set (tN (Int.ofNat i)) (x_3.fst, x_3.snd.fst, x_3.snd.snd.fst, wAdd IntKind.i64 (wAdd IntKind.i64 (wAdd IntKind.i64 (atD (5 : Int) k i) (1 : Int)) (1 : Int)) (1 : Int), x_3.snd.snd.snd.snd.fst, ())) (tN (Int.ofNat i)) = some x_4 → ∃ (j : Nat), j ≤ List.length xs ∧ (List.length xs).sub j < (List.length xs).sub i ∧ ((0 : Nat) = (0 : Nat) ∧ wAdd IntKind.i64 (wAdd IntKind.i64 (wAdd IntKind.i64 (wAdd IntKind.i64 (wAdd IntKind.i64 (atD (5 : Int) k i) (1 : Int)) (1 : Int)) (1 : Int)) (1 : Int)) (1 : Int) = atD (5 : Int) k j ∧ wAdd IntKind.i64 (Int.ofNat i) (1 : Int) = Int.ofNat j ∧ True) ∧ (((((((markTo markR (5 : Int) xs k i).set (tN (Int.ofNat i)) (atD (5 : Int) k i, x.snd.fst, x.snd.snd.fst, x.snd.snd.snd.fst, x.snd.snd.snd.snd.fst, ())).set (tN (Int.ofNat i)) (x_1.fst, markText (wAdd IntKind.i64 (atD (5 : Int) k i) (1 : Int)), x_1.snd.snd.fst, x_1.snd.snd.snd.fst, x_1.snd.snd.snd.snd.fst, ())).set (tN (Int.ofNat i)) (x_2.fst, x_2.snd.fst, markText (wAdd IntKind.i64 (wAdd IntKind.i64 (atD (5 : Int) k i) (1 : Int)) (1 : Int)), x_2.snd.snd.snd.fst, x_2.snd.snd.snd.snd.fst, ())).set (tN (Int.ofNat i)) (x_3.fst, x_3.snd.fst, x_3.snd.snd.fst, wAdd IntKind.i64 (wAdd IntKind.i64 (wAdd IntKind.i64 (atD (5 : Int) k i) (1 : Int)) (1 : Int)) (1 : Int), x_3.snd.snd.snd.snd.fst, ())).set (tN (Int.ofNat i)) (x_4.fst, x_4.snd.fst, x_4.snd.snd.fst, x_4.snd.snd.snd.fst, wRem (wAdd IntKind.i64 (wAdd IntKind.i64 (wAdd IntKind.i64 (wAdd IntKind.i64 (atD (5 : Int) k i) (1 : Int)) (1 : Int)) (1 : Int)) (1 : Int)) (3 : Int) == (0 : Int), ()) = markTo markR (5 : Int) xs k j ∧ true = true) ∧ True) ∧ True) ∧ (decide (Int.ofNat i < iOf (lenL (markTo markR (5 : Int) xs k i))) = false → (atD (5 : Int) k i, ()) = (atD (5 : Int) k (List.length xs), ()) ∧ (markTo markR (5 : Int) xs k i, ()) = (markL markR (5 : Int) (List.length xs) k, ()))) (by kernel_rfl) ?_
  simp only [Nat.le_refl, Nat.succ_eq_add_one, Nat.reduceAdd, Nat.reduceLeDiff, Nat.zero_le, pair_unit, mk_eta, len_bne, eqD_bne, bne_iff_ne, bne_eq_false_iff_eq, beq_iff_eq, beq_eq_false_iff_ne, true_and, and_true, and_self, eq_self, lt_iff, nthI_nat, bnd_iff, decide_eq_true_eq, decide_eq_false_iff_not, Nat.sub_eq, nz, ne_eq, not_false_eq_true, Prod.mk.injEq, Int.reduceEq, Nat.reduceEqDiff, forall_const, implies_true, bne_self_eq_false, Bool.true_eq_false, Bool.false_eq_true, false_implies, reduceCtorEq, Bool.not_true, Bool.not_false, List.all_cons, List.all_nil, Bool.and_true, Bool.not_eq_true, Bool.not_eq_false, Bool.not_eq_true', Bool.not_eq_false', Decidable.not_not]; try simp only [lenL]
  refine ⟨⟨0, Nat.zero_le _, ⟨atD_zero .., rfl⟩, (markTo_zero ..).symm⟩, fun j hj hf => ⟨fun hlt => ?_, fun hge => ?_⟩⟩
  · have e0 : (markTo markR 5 xs k j).length = List.length xs := markTo_len hj
    rw [e0] at hlt hf
    have hd : (0 : Int) ≤ 5 ∧ (5 : Int) ≤ 16 := by decide
    simp only [tN_nat, at_add0 hp hd hj hf, at_add1 hp hd hj hf, at_add2 hp hd hj hf, at_add3 hp hd hj hf, at_add4 hp hd hj hf]
    refine ⟨e0 ▸ hlt, e0 ▸ hlt, fun x hx => ⟨at_small hp hd hj hf, by simp only [List.length_set]; rw [e0]; exact hlt, by simp only [List.length_set]; rw [e0]; exact hlt, fun x1 h1 => ?_⟩⟩
    cases nth_set h1
    refine ⟨at_small2 hp hd hj hf, by simp only [List.length_set]; rw [e0]; exact hlt, by simp only [List.length_set]; rw [e0]; exact hlt, fun x2 h2 => ?_⟩
    cases nth_set h2
    refine ⟨by simp only [List.length_set]; rw [e0]; exact hlt, by simp only [List.length_set]; rw [e0]; exact hlt, fun x3 h3 => ?_⟩
    cases nth_set h3
    refine ⟨by simp only [List.length_set]; rw [e0]; exact hlt, by simp only [List.length_set]; rw [e0]; exact hlt, fun x4 h4 => ?_⟩
    cases nth_set h4
    refine ⟨j + 1, hlt, Nat.sub_lt_sub_left hlt (Nat.lt_succ_self j), ⟨atD_succ 5 k j, inc_in hf hj⟩, ?_⟩
    rw [List.set_set, List.set_set, List.set_set, List.set_set]
    exact markTo_set hlt
  · have hge : ¬ j < List.length xs := by rw [← markTo_len (f := markR) (d := 5) (k := k) hj]; exact hge
    have : j = List.length xs := by omega
    subst this
    exact ⟨rfl, markTo_end hj hge⟩
end Go.Proofs.YtolminmmnckpkaaGreatDoor
namespace Go.Proofs
open Go.Shelf
def Tryz.lays156_ren : Go.Shelf.Ren := ⟨fun | 156 => 115 | 165 => 147 | 166 => 148 | 169 => 149 | 240 => 177 | 241 => 178 | 276 => 205 | 277 => 206 | n => n, fun | 31 => 24 | 9 => 9 | 3 => 3 | 4 => 4 | 0 => 0 | 20 => 20 | 72 => 163 | 76 => 141 | 70 => 161 | 37 => 112 | 75 => 140 | 127 => 184 | 164 => 206 | 5 => 5 | 80 => 165 | n => n, fun | n => n⟩
theorem Tryz.lays156 : Go.Proofs.Lays.n156 Tryz.prog Tryz.lays156_ren := {
  mixed := by kernel_rfl
  f156 := Tryz.func115.trans (congrArg some (by kernel_rfl))
  f165 := Tryz.func147.trans (congrArg some (by kernel_rfl))
  f166 := Tryz.func148.trans (congrArg some (by kernel_rfl))
  f169 := Tryz.func149.trans (congrArg some (by kernel_rfl))
  f240 := Tryz.func177.trans (congrArg some (by kernel_rfl))
  f241 := Tryz.func178.trans (congrArg some (by kernel_rfl))
  f276 := Tryz.func205.trans (congrArg some (by kernel_rfl))
  f277 := Tryz.func206.trans (congrArg some (by kernel_rfl))
  t0 := Tryz.underlying0
  a0 := Tryz.isAgg0
  z0 := Tryz.sizeOf0
  v0 := Tryz.zeroValue0
  t3 := Tryz.underlying3
  a3 := Tryz.isAgg3
  z3 := Tryz.sizeOf3
  v3 := Tryz.zeroValue3
  t4 := Tryz.underlying4
  a4 := Tryz.isAgg4
  z4 := Tryz.sizeOf4
  v4 := Tryz.zeroValue4
  t9 := Tryz.underlying9
  a9 := Tryz.isAgg9
  z9 := Tryz.sizeOf9
  v9 := Tryz.zeroValue9
  t20 := Tryz.underlying20
  a20 := Tryz.isAgg20
  z20 := Tryz.sizeOf20
  v20 := Tryz.zeroValue20
  t31 := Tryz.underlying24
  a31 := Tryz.isAgg24
  z31 := Tryz.sizeOf24
  v31 := Tryz.zeroValue24
  t37 := Tryz.underlying112
  a37 := Tryz.isAgg112
  z37 := Tryz.sizeOf112
  v37 := Tryz.zeroValue112
  t70 := Tryz.underlying161
  a70 := Tryz.isAgg161
  z70 := Tryz.sizeOf161
  v70 := Tryz.zeroValue161
  t72 := Tryz.underlying163
  a72 := Tryz.isAgg163
  z72 := Tryz.sizeOf163
  v72 := Tryz.zeroValue163
  t75 := Tryz.underlying140
  a75 := Tryz.isAgg140
  z75 := Tryz.sizeOf140
  v75 := Tryz.zeroValue140
  t76 := Tryz.underlying141
  a76 := Tryz.isAgg141
  z76 := Tryz.sizeOf141
  v76 := Tryz.zeroValue141
  t127 := Tryz.underlying184
  a127 := Tryz.isAgg184
  z127 := Tryz.sizeOf184
  v127 := Tryz.zeroValue184
  t164 := Tryz.underlying206
  a164 := Tryz.isAgg206
  z164 := Tryz.sizeOf206
  v164 := Tryz.zeroValue206 }
theorem Tryz.Builder_Extra_156 : Builder.Extra Tryz.prog Tryz.lays156_ren := {
  sizeBuilder := by kernel_rfl
  liesBuilder := by kernel_rfl
  t5 := Tryz.underlying5
  a5 := Tryz.isAgg5
  z5 := Tryz.sizeOf5
  v5 := Tryz.zeroValue5
  infoByte := by kernel_rfl
  cellsByte := by kernel_rfl
  sizeByte := by kernel_rfl
  neB5 := by decide }
open Go.RowKit in
theorem Tryz.strings_Join_none (a : Option Addr) (c : Nat) (sep : ByteArray) (w : World) :
    Calls Tryz.prog 115 #[.slice a 0 c, .string sep] w fun e w' => e = .returned (.string ⟨#[]⟩) ∧ w' = w := Any.strings_Join_none Tryz.lays156 Tryz.Builder_Extra_156 a c sep w
open Go.RowKit in
theorem Tryz.strings_Join (bk o c : Nat) (xs : List ByteArray) (sep : ByteArray) (w : World) (hcells : ∀ (j : Nat) x, xs[j]? = some x → w.cell? ⟨bk, o + j, none⟩ = some (.string x)) (hbk : bk < w.heap.size) (hN : xs.length ≤ 140737488355328) (hcap : xs.length ≤ c) (hlen : (Lib.join (xs.map (·.data.toList)) sep.data.toList).length ≤ 140737488355328) :
    Calls Tryz.prog 115 #[.slice (some ⟨bk, o, none⟩) xs.length c, .string sep] w fun e w' => e = .returned (.string ⟨(Lib.join (xs.map (·.data.toList)) sep.data.toList).toArray⟩) ∧ Below w.heap.size w w' := Any.strings_Join Tryz.lays156 Tryz.Builder_Extra_156 bk o c xs sep w hcells hbk hN hcap hlen
def Tryz.laysM171_ren : Go.Shelf.Ren := ⟨fun | 171 => 137 | 243 => 167 | 246 => 197 | 283 => 213 | 284 => 214 | 285 => 215 | 286 => 216 | 129 => 196 | 317 => 224 | 318 => 225 | 319 => 226 | 320 => 227 | 337 => 232 | 338 => 233 | n => n, fun | 3 => 3 | 9 => 9 | 2 => 2 | 4 => 4 | 171 => 215 | 0 => 0 | 53 => 198 | 37 => 112 | 5 => 5 | 173 => 217 | 212 => 228 | 51 => 186 | 20 => 20 | 213 => 229 | 46 => 159 | 232 => 235 | 233 => 236 | n => n, fun | 17 => 3 | 18 => 6 | 19 => 7 | n => n⟩
theorem Tryz.laysM171 : Go.Proofs.LaysM.n171 Tryz.prog Tryz.laysM171_ren := {
  mixed := by kernel_rfl
  f129 := Tryz.func196.trans (congrArg some (by kernel_rfl))
  f171 := Tryz.func137.trans (congrArg some (by kernel_rfl))
  f243 := Tryz.func167.trans (congrArg some (by kernel_rfl))
  f246 := Tryz.func197.trans (congrArg some (by kernel_rfl))
  f283 := Tryz.func213.trans (congrArg some (by kernel_rfl))
  f284 := Tryz.func214.trans (congrArg some (by kernel_rfl))
  f285 := Tryz.func215.trans (congrArg some (by kernel_rfl))
  f286 := Tryz.func216.trans (congrArg some (by kernel_rfl))
  f317 := Tryz.func224.trans (congrArg some (by kernel_rfl))
  f318 := Tryz.func225.trans (congrArg some (by kernel_rfl))
  f319 := Tryz.func226.trans (congrArg some (by kernel_rfl))
  f320 := Tryz.func227.trans (congrArg some (by kernel_rfl))
  f337 := Tryz.func232.trans (congrArg some (by kernel_rfl))
  f338 := Tryz.func233.trans (congrArg some (by kernel_rfl))
  t0 := Tryz.underlying0
  a0 := Tryz.isAgg0
  z0 := Tryz.sizeOf0
  v0 := Tryz.zeroValue0
  t2 := Tryz.underlying2
  a2 := Tryz.isAgg2
  z2 := Tryz.sizeOf2
  v2 := Tryz.zeroValue2
  t3 := Tryz.underlying3
  a3 := Tryz.isAgg3
  z3 := Tryz.sizeOf3
  v3 := Tryz.zeroValue3
  t4 := Tryz.underlying4
  a4 := Tryz.isAgg4
  z4 := Tryz.sizeOf4
  v4 := Tryz.zeroValue4
  t5 := Tryz.underlying5
  a5 := Tryz.isAgg5
  z5 := Tryz.sizeOf5
  v5 := Tryz.zeroValue5
  t9 := Tryz.underlying9
  a9 := Tryz.isAgg9
  z9 := Tryz.sizeOf9
  v9 := Tryz.zeroValue9
  t20 := Tryz.underlying20
  a20 := Tryz.isAgg20
  z20 := Tryz.sizeOf20
  v20 := Tryz.zeroValue20
  t37 := Tryz.underlying112
  a37 := Tryz.isAgg112
  z37 := Tryz.sizeOf112
  v37 := Tryz.zeroValue112
  t46 := Tryz.underlying159
  a46 := Tryz.isAgg159
  z46 := Tryz.sizeOf159
  v46 := Tryz.zeroValue159
  t51 := Tryz.underlying186
  a51 := Tryz.isAgg186
  z51 := Tryz.sizeOf186
  v51 := Tryz.zeroValue186
  t53 := Tryz.underlying198
  a53 := Tryz.isAgg198
  z53 := Tryz.sizeOf198
  v53 := Tryz.zeroValue198
  t171 := Tryz.underlying215
  a171 := Tryz.isAgg215
  z171 := Tryz.sizeOf215
  v171 := Tryz.zeroValue215
  t173 := Tryz.underlying217
  a173 := Tryz.isAgg217
  z173 := Tryz.sizeOf217
  v173 := Tryz.zeroValue217
  t212 := Tryz.underlying228
  a212 := Tryz.isAgg228
  z212 := Tryz.sizeOf228
  v212 := Tryz.zeroValue228
  t213 := Tryz.underlying229
  a213 := Tryz.isAgg229
  z213 := Tryz.sizeOf229
  t232 := Tryz.underlying235
  a232 := Tryz.isAgg235
  z232 := Tryz.sizeOf235
  v232 := Tryz.zeroValue235
  t233 := Tryz.underlying236
  a233 := Tryz.isAgg236
  z233 := Tryz.sizeOf236
  v233 := Tryz.zeroValue236
  g17 := by kernel_rfl
  g18 := by kernel_rfl
  g19 := by kernel_rfl
  i0 := by kernel_rfl
  i2 := by kernel_rfl
  i3 := by kernel_rfl
  i4 := by kernel_rfl
  i5 := by kernel_rfl
  i9 := by kernel_rfl
  i20 := by kernel_rfl
  i37 := by kernel_rfl
  i46 := by kernel_rfl
  i51 := by kernel_rfl
  i53 := by kernel_rfl
  i171 := by kernel_rfl
  i173 := by kernel_rfl
  i212 := by kernel_rfl
  i232 := by kernel_rfl
  i233 := by kernel_rfl
  m17 := by kernel_rfl
  m18 := by kernel_rfl
  m19 := by kernel_rfl }
open Go.RowKit Go.Sort Go.Lib in
theorem Tryz.strconv_Itoa (n : Int) (h0 : -9223372036854775808 ≤ n) (h1 : n ≤ 9223372036854775807) (w : World) (htab : Lib.TabIs Tryz.prog w "internal/strconv.uint64pow10" .u64 Lib.pow10Tab) :
    Calls Tryz.prog 137 #[.int .i64 n] w fun e w' => e = .returned (.string ⟨(Lib.itoa n).toArray⟩) ∧ ∃ k os, w' = grow (w.drewN k) os := Any.strconv_Itoa Tryz.laysM171 n h0 h1 w htab
end Go.Proofs
namespace Go.Fn
open Go.Ab
def itoaS (n : Int) : List UInt8 := Lib.itoa n
def joinS (l : List (List UInt8)) (u : List UInt8) : List UInt8 := Lib.join l u
def inI (n : Int) : Prop := -9223372036854775808 ≤ n ∧ n ≤ 9223372036854775807
def dm (n : Int) : Nat := 2 * n.natAbs + (if n < 0 then 1 else 0)
theorem itoa_len {n : Int} (h : inI n) : (itoaS n).length ≤ 21 := Lib.itoa_length_le n h.1 h.2
theorem dig_neg {n : Int} (h : inI n) (hm : ¬ n = -9223372036854775808) (hn : n < 0) : wNeg .i64 n = -n ∧ inI (-n) ∧ dm (-n) < dm n ∧ catS [45] (itoaS (-n)) = itoaS n := by
  unfold inI at *
  refine ⟨?_, by omega, ?_, ?_⟩
  · unfold wNeg
    rw [IntKind.wrap_i64]
    omega
  · unfold dm
    rw [if_pos hn, if_neg (by omega)]
    omega
  · obtain ⟨u, rfl⟩ : ∃ u : Nat, n = -(u : Int) := ⟨n.natAbs, by omega⟩
    unfold itoaS catS
    rw [Int.neg_neg, Lib.itoa_nonneg, Lib.itoa_neg u (by omega)]
    rfl
theorem dig_min : ([45, 57, 50, 50, 51, 51, 55, 50, 48, 51, 54, 56, 53, 52, 55, 55, 53, 56, 48, 56] : List UInt8) = itoaS (-9223372036854775808) := by
  have e : (-9223372036854775808 : Int) = -((9223372036854775808 : Nat) : Int) := rfl
  unfold itoaS
  rw [e, Lib.itoa_neg _ (by decide)]
  simp [Lib.decDigits]
theorem dig_small {n : Int} (hn : ¬ n < 0) (h : n < 10) : [UInt8.ofNat (IntKind.u8.wrap (wAdd .i64 48 n)).toNat] = itoaS n := by
  obtain ⟨u, rfl⟩ : ∃ u : Nat, n = (u : Int) := ⟨n.toNat, by omega⟩
  unfold itoaS
  rw [Lib.itoa_nonneg, Lib.decDigits, dif_pos (by omega), wAdd_in (by omega), IntKind.wrap_u8]
  congr 2
  omega
theorem dig_big {n : Int} (h : inI n) (hn : ¬ n < 0) (h10 : ¬ n < 10) : wQuo .i64 n 10 = n / 10 ∧ inI (n / 10) ∧ dm (n / 10) < dm n ∧ catS (itoaS (n / 10)) [UInt8.ofNat (IntKind.u8.wrap (wAdd .i64 48 (wRem n 10))).toNat] = itoaS n := by
  unfold inI at *
  obtain ⟨u, rfl⟩ : ∃ u : Nat, n = (u : Int) := ⟨n.toNat, by omega⟩
  have hq : ((u : Int) / 10) = ((u / 10 : Nat) : Int) := by omega
  refine ⟨?_, by omega, ?_, ?_⟩
  · unfold wQuo
    rw [Int.tdiv_eq_ediv_of_nonneg (by omega), i64_in (by omega)]
  · unfold dm
    rw [if_neg hn, if_neg (by omega)]
    omega
  · unfold itoaS catS
    have e2 : wRem (u : Int) 10 = ((u % 10 : Nat) : Int) := rfl
    rw [hq, Lib.itoa_nonneg, Lib.itoa_nonneg, Lib.decDigits.eq_1 u, dif_neg (by omega), e2, wAdd_in (by omega), IntKind.wrap_u8]
    congr 3
    omega
end Go.Fn
namespace Go.Fn
open Go.Ab
def anyText : AnyV → Option (List UInt8)
  | .n x => some (itoaS x)
  | .s t => some t
  | .b _ => none
def texts (l : List AnyV) : List (List UInt8) := l.filterMap anyText
def said (l : List AnyV) : List UInt8 := joinS (texts l) [32]
def saidOK (l : List AnyV) : Prop := (∀ n, AnyV.n n ∈ l → inI n) ∧ (said l).length ≤ 100000000 ∧ l.length ≤ 100000000
theorem texts_zero (l : List AnyV) : texts (l.take 0) = [] := by simp [texts]
theorem texts_n {l : List AnyV} {k : Nat} {n : Int} (h : l[k]? = some (.n n)) : texts (l.take k) ++ [itoaS n] = texts (l.take (k + 1)) := by
  unfold texts; rw [List.take_add_one, h, List.filterMap_append]; rfl
theorem texts_s {l : List AnyV} {k : Nat} {s : List UInt8} (h : l[k]? = some (.s s)) : texts (l.take k) ++ [s] = texts (l.take (k + 1)) := by
  unfold texts; rw [List.take_add_one, h, List.filterMap_append]; rfl
theorem texts_b {l : List AnyV} {k : Nat} {x : AnyV} (h : l[k]? = some x) (h1 : ∀ a, x ≠ .n a) (h2 : ∀ a, x ≠ .s a) : texts (l.take k) = texts (l.take (k + 1)) := by
  unfold texts; rw [List.take_add_one, h, List.filterMap_append]
  cases x with
  | n a => exact absurd rfl (h1 a)
  | s a => exact absurd rfl (h2 a)
  | b a => simp [anyText]
theorem texts_end {l : List AnyV} {k : Nat} (h : ¬ k < l.length) : texts (l.take k) = texts l := by rw [List.take_of_length_le (by omega)]
theorem texts_len (l : List AnyV) (k : Nat) : (texts (l.take k)).length ≤ l.length := by
  unfold texts
  exact Nat.le_trans (List.length_filterMap_le _ _) (by rw [List.length_take]; omega)
end Go.Fn
namespace Go.Fn
open Go.Ab
def stpBad (k : Int) (a b c : List UInt8) : Bool := !(within k 1 5) || (decide ((a.length : Int) > 12) || (decide ((b.length : Int) > 12) || decide ((c.length : Int) > 4096)))
def stepT (s : Step) : List UInt8 := if s.1 = 1 then said [.s [119, 114, 105, 116, 101], .s s.2.1, .n (iOf (lenL s.2.2.2.1))] else if s.1 = 2 then said [.s [115, 121, 110, 99], .s s.2.1]
  else if s.1 = 3 then said [.s [114, 101, 110, 97, 109, 101], .s s.2.1, .s s.2.2.1] else if s.1 = 4 then said [.s [114, 101, 109, 111, 118, 101], .s s.2.1] else [115, 121, 110, 99, 100, 105, 114]
def stepC (s : Step) : Int := if stpBad s.1 s.2.1 s.2.2.1 s.2.2.2.1 = true then 1 else 0
def stepS (s : Step) : List UInt8 := if stpBad s.1 s.2.1 s.2.2.1 s.2.2.2.1 = true then [] else stepT s
theorem join2 (a b : List UInt8) : joinS [a, b] [32] = a ++ ([32] ++ b) := by simp [joinS, Lib.join, List.intercalate, List.intersperse]
theorem join3 (a b c : List UInt8) : joinS [a, b, c] [32] = a ++ ([32] ++ (b ++ ([32] ++ c))) := by simp [joinS, Lib.join, List.intercalate, List.intersperse]
theorem join4 (a b c d : List UInt8) : joinS [a, b, c, d] [32] = a ++ ([32] ++ (b ++ ([32] ++ (c ++ ([32] ++ d))))) := by simp [joinS, Lib.join, List.intercalate, List.intersperse]
theorem stpBad_no {k : Int} {a b c : List UInt8} (h : stpBad k a b c = false) : a.length ≤ 12 ∧ b.length ≤ 12 ∧ c.length ≤ 4096 := by
  unfold stpBad at h
  simp only [Bool.or_eq_false_iff, decide_eq_false_iff_not] at h
  omega
theorem stpBad_w {k : Int} {a b c : List UInt8} (h : within k 1 5 = false) : true = stpBad k a b c := by unfold stpBad; rw [h]; rfl
theorem stpBad_a {k : Int} {a b c : List UInt8} (h : iOf a.length > 12) : true = stpBad k a b c := by
  unfold stpBad; rw [decide_eq_true (p := (a.length : Int) > 12) h]; simp
theorem stpBad_b {k : Int} {a b c : List UInt8} (h : iOf b.length > 12) : true = stpBad k a b c := by
  unfold stpBad; rw [decide_eq_true (p := (b.length : Int) > 12) h]; simp
theorem stpBad_c {k : Int} {a b c : List UInt8} (hk : within k 1 5 = true) (h1 : ¬ iOf a.length > 12) (h2 : ¬ iOf b.length > 12) : decide (iOf c.length > 4096) = stpBad k a b c := by
  unfold stpBad; rw [hk, decide_eq_false (p := (a.length : Int) > 12) h1, decide_eq_false (p := (b.length : Int) > 12) h2]; rfl
theorem step_bad {s : Step} (h : stpBad s.1 s.2.1 s.2.2.1 s.2.2.2.1 = true) : [] = stepS s ∧ 1 = stepC s := by unfold stepS stepC; rw [if_pos h, if_pos h]; exact ⟨rfl, rfl⟩
theorem step_ok {s : Step} (h : stpBad s.1 s.2.1 s.2.2.1 s.2.2.2.1 = false) : stepT s = stepS s ∧ 0 = stepC s := by unfold stepS stepC; rw [if_neg (by rw [h]; exact Bool.false_ne_true), if_neg (by rw [h]; exact Bool.false_ne_true)]; exact ⟨rfl, rfl⟩
def szStep (s : Step) (n : Int) : Int := if wSub .i64 n (iOf (lenL s.2.1)) < 0 then -1 else if wSub .i64 (wSub .i64 n (iOf (lenL s.2.1))) (iOf (lenL s.2.2.1)) < 0 then -1 else if wSub .i64 (wSub .i64 (wSub .i64 n (iOf (lenL s.2.1))) (iOf (lenL s.2.2.1))) (iOf (lenL s.2.2.2.1)) < 0 then -1 else wSub .i64 (wSub .i64 (wSub .i64 n (iOf (lenL s.2.1))) (iOf (lenL s.2.2.1))) (iOf (lenL s.2.2.2.1))
theorem inI_len {n : Nat} (h : n < 1099511627776) : inI (iOf n) := by unfold inI iOf; omega
theorem said_ss (w a : List UInt8) : said [.s w, .s a] = w ++ ([32] ++ a) := join2 w a
theorem said_sss (w a b : List UInt8) : said [.s w, .s a, .s b] = w ++ ([32] ++ (a ++ ([32] ++ b))) := join3 w a b
theorem said_ssn (w a : List UInt8) (n : Int) : said [.s w, .s a, .n n] = w ++ ([32] ++ (a ++ ([32] ++ itoaS n))) := join3 w a (itoaS n)
theorem said_ssns (w a b : List UInt8) (n : Int) : said [.s w, .s a, .n n, .s b] = w ++ ([32] ++ (a ++ ([32] ++ (itoaS n ++ ([32] ++ b))))) := join4 w a (itoaS n) b
theorem sok_ss {w a : List UInt8} (h1 : w.length ≤ 100) (h2 : a.length ≤ 10000) : saidOK [.s w, .s a] := by
  refine ⟨fun n hn => by simp at hn, ?_, by simp⟩
  rw [said_ss]; simp; omega
theorem sok_sss {w a b : List UInt8} (h1 : w.length ≤ 100) (h2 : a.length ≤ 10000) (h3 : b.length ≤ 10000) : saidOK [.s w, .s a, .s b] := by
  refine ⟨fun n hn => by simp at hn, ?_, by simp⟩
  rw [said_sss]; simp; omega
theorem sok_ssn {w a : List UInt8} {n : Int} (h1 : w.length ≤ 100) (h2 : a.length ≤ 10000) (hn : inI n) : saidOK [.s w, .s a, .n n] := by
  refine ⟨fun m hm => by simp at hm; rw [hm]; exact hn, ?_, by simp⟩
  have := itoa_len hn
  rw [said_ssn]; simp; omega
theorem sok_ssns {w a b : List UInt8} {n : Int} (h1 : w.length ≤ 100) (h2 : a.length ≤ 10000) (hn : inI n) (h3 : b.length ≤ 10000) : saidOK [.s w, .s a, .n n, .s b] := by
  refine ⟨fun m hm => by simp at hm; rw [hm]; exact hn, ?_, by simp⟩
  have := itoa_len hn
  rw [said_ssns]; simp; omega
theorem f_cat {a b : List UInt8} (h : a.length + b.length ≤ 1000000) : fits (a.length + b.length) := by show _ < 1099511627776; omega
end Go.Fn
namespace Go.Proofs.YtolminmmnckpkaaGreatDoor
open Go.Ab Go.Fn
def tabP (w : World) : Prop := Lib.TabIs Tryz.prog w "internal/strconv.uint64pow10" .u64 Lib.pow10Tab
theorem gPow : Tryz.prog.globalNamed "internal/strconv.uint64pow10" = some 3 := by kernel_rfl
def mkT (specs : List (Nat × FSpec)) (clos : List (Nat × CSpec)) : Env := { tys := tys, specs := specs, clos := clos, anyB := 4, anyN := 3, anyS := 9, gl := 3 + 1, tab := tabP }
theorem tabT (specs clos) : TabS (mkT specs clos) := by
  intro w w' h hb
  have hb0 : w'.heap[3]? = w.heap[3]? := hb 3 (Nat.lt_succ_self _)
  have h : w.var? Tryz.prog "internal/strconv.uint64pow10" = _ := h
  show w'.var? Tryz.prog "internal/strconv.uint64pow10" = _
  rw [← h]
  unfold World.var?
  rw [gPow]
  simp only [Option.bind_some, hb0]
theorem envT (specs clos) : EnvOK Tryz.prog (mkT specs clos) :=
  { tys := (envOK specs clos []).tys, distinct := (envOK specs clos []).distinct, anyTys := (envOK specs clos []).anyTys, anyZ := (envOK specs clos []).anyZ }
def FT (f : Nat) (sp : FSpec) : Prop := FOK Tryz.prog (mkT [] []) f sp
theorem toT {f : Nat} {sp : FSpec} (h : FO f sp) : FT f sp := fok_env (E := E0) (E' := mkT [] []) ⟨rfl, rfl, rfl⟩ ⟨fun _ _ => trivial, Nat.zero_le _, fun _ _ _ _ => trivial⟩ h
def AllT : List (Nat × FSpec) → Prop
  | [] => True
  | (f, sp) :: r => FT f sp ∧ AllT r
theorem AllT.get : ∀ {l : List (Nat × FSpec)}, AllT l → ∀ {f sp} , Go.Ab.look l f = some sp → FT f sp
  | [], _, f, sp, h => by cases h
  | (k, x) :: r, ⟨h1, h2⟩, f, sp, h => by
    simp only [Go.Ab.look] at h
    cases hk : Nat.beq k f with
    | true => rw [hk] at h; cases h; rw [← Nat.eq_of_beq_eq_true hk]; exact h1
    | false => rw [hk] at h; exact AllT.get h2 h
theorem progT {specs clos} (h1 : AllT specs) (h2 : AllC clos) : ProgOK Tryz.prog (mkT specs clos) :=
  { env := envT specs clos, specs := fun f sp h => fok_env (E := mkT [] []) (E' := mkT specs clos) ⟨rfl, rfl, rfl⟩ ⟨fun _ h => h, Nat.le_refl _, tabT [] []⟩ (h1.get h), clos := fun f cl h => cok_env (E := E0) (E' := mkT specs clos) ⟨rfl, rfl, rfl⟩ (h2.get h), inl := fun f T h => (by cases h), mixed := by kernel_rfl }
theorem foT {specs clos f fn sp} (A : pdens sp.ps → List (Nat × (St → LoopAnn))) (h1 : AllT specs) (h2 : AllC clos) (hf : Tryz.prog.funcs[f]? = some fn) (hn : (fn.name == "runtime.NumGoroutine") = false) (hb : fn.body.isSome = true) (hv : ∀ x, sp.pre x → vc (mkT specs clos) (A x) fn sp x) : FT f sp :=
  fok_env (E := mkT specs clos) (E' := mkT [] []) ⟨rfl, rfl, rfl⟩ ⟨fun _ h => h, Nat.le_refl _, tabT specs clos⟩ (fok_of_vc (progT h1 h2) hf hn A hv hb)
end Go.Proofs.YtolminmmnckpkaaGreatDoor
namespace Go.Proofs.YtolminmmnckpkaaGreatDoor
open Go.Ab Go.Fn
def s_Itoa : FSpec := { ps := [.v I], rs := [.v .str], pre := fun x => Fn.inI x.1, fn := fun x => (Fn.itoaS x.1, ()), upd := fun _ => () }
theorem ft_Itoa : FT 137 s_Itoa := by
  refine fok_raw (ps := [.v I]) (fn := fun x => Fn.itoaS x.1) rfl ⟨_, Tryz.func137, rfl, rfl⟩ ?_
  rintro ⟨(n : Int), ⟨⟩⟩ c vs hE hT ⟨h1, h2⟩ hV
  have h1 : -9223372036854775808 ≤ n := h1
  have h2 : n ≤ 9223372036854775807 := h2
  have hV : VRelL c [.d (.int .i64) n] vs := hV
  simp only [VRelL] at hV
  obtain ⟨v, q, rfl, r, rfl⟩ := hV
  have hv := int_ok (k := .i64) (n := n) r
  subst hv
  refine Calls.mono (Tryz.strconv_Itoa n h1 h2 c.w hT) fun e w' he => ?_
  obtain ⟨rfl, k, os, rfl⟩ := he
  refine ⟨rfl, ?_, keep_of rfl rfl rfl ?_ ?_⟩
  · have := Lib.itoa_length_le n h1 h2
    show (Lib.itoa n).length < lim
    unfold lim
    omega
  · unfold Sort.grow World.drewN; simp
  · intro b hb
    unfold Sort.grow World.drewN
    simp only
    rw [Array.getElem?_append_left hb]
end Go.Proofs.YtolminmmnckpkaaGreatDoor
namespace Go.Proofs.YtolminmmnckpkaaGreatDoor
open Go.Ab Go.Fn
def s_Join : FSpec := { ps := [.v (.slice .str), .v .str], rs := [.v .str], pre := fun x => (Fn.joinS x.1 x.2.1).length ≤ 100000000 ∧ List.length (α := List UInt8) x.1 ≤ 100000000, fn := fun x => (Fn.joinS x.1 x.2.1, ()), upd := fun _ => () }
theorem fo_Join : FO 115 s_Join := by
  refine fok_raw (ps := [.v (.slice .str), .v .str]) (fn := fun x => Fn.joinS x.1 x.2.1) rfl ⟨_, Tryz.func115, rfl, rfl⟩ ?_
  rintro ⟨(l : List (List UInt8)), (u : List UInt8), ⟨⟩⟩ c vs hE - ⟨h1, h2⟩ hV
  have h1 : (Lib.join l u).length ≤ 100000000 := h1
  have h2 : l.length ≤ 100000000 := h2
  have hV : VRelL c [.d (.slice .str) l, .d .str u] vs := hV
  simp only [VRelL] at hV
  obtain ⟨v, q, rfl, r, v2, q2, rfl, r2, rfl⟩ := hV
  have hu := (str_ok (s := u) r2).1
  subst hu
  have r' : Rep c.E c.X c.w (.slice .str) l [v] := r.2
  obtain ⟨ad, n, cap, e, hn, hc, hlm, hr⟩ := r'
  simp only [List.cons.injEq, and_true] at e
  subst e
  have hn : n = l.length := hn
  subst hn
  have hlim : (Lib.join l u).length < lim := by unfold lim; omega
  rcases hr with hr | ⟨b, off, rfl, hb, hX, hr⟩
  · have hr : l = [] := hr
    subst hr
    refine Calls.mono (Tryz.strings_Join_none ad cap ⟨u.toArray⟩ c.w) fun e w' he => ?_
    obtain ⟨rfl, rfl⟩ := he
    exact ⟨rfl, hlim, Keep.refl _ _⟩
  · have hc : l.length ≤ cap := hc
    have e1 : (l.map fun s => (⟨s.toArray⟩ : ByteArray)).map (fun x => x.data.toList) = l := by
      rw [List.map_map]
      have : ((fun x : ByteArray => x.data.toList) ∘ fun s : List UInt8 => (⟨s.toArray⟩ : ByteArray)) = id := rfl
      rw [this, List.map_id]
    have := Tryz.strings_Join b off cap (l.map fun s => ⟨s.toArray⟩) ⟨u.toArray⟩ c.w (fun j x hx => ?_) hb (by rw [List.length_map]; omega) (by rw [List.length_map]; exact hc) (by rw [e1]; show (Lib.join l u).length ≤ _; omega)
    · rw [List.length_map, e1] at this
      refine Calls.mono this fun e w' he => ?_
      obtain ⟨rfl, hk⟩ := he
      exact ⟨rfl, hlim, keep_below hk⟩
    · rw [List.getElem?_map] at hx
      cases hj : l[j]? with
      | none => rw [hj] at hx; cases hx
      | some s =>
        rw [hj] at hx
        cases hx
        obtain ⟨cells, hc1, hc2⟩ := hr j s hj
        have hc2 : cells = [.string ⟨s.toArray⟩] ∧ s.length < lim := by simpa [Rep] using hc2
        have := hc1 0 _ (by rw [hc2.1]; rfl)
        simpa [Ty.size] using this
end Go.Proofs.YtolminmmnckpkaaGreatDoor
namespace Go.Proofs.YtolminmmnckpkaaGreatDoor
open Go.Ab Go.Fn
def s_dig (N : Nat) : FSpec := { ps := [.v I], rs := [.v .str], pre := fun x => Fn.inI x.1 ∧ Fn.dm x.1 < N, fn := fun x => (Fn.itoaS x.1, ()), upd := fun _ => () }
theorem fo_dig : ∀ N, FO 94 (s_dig N)
  | 0 => ⟨⟨_, Tryz.func94, rfl, rfl⟩, fun _ _ _ _ _ _ hp => absurd hp.2 (Nat.not_lt_zero _)⟩
  | N + 1 => by
    refine fo (specs := [(94, s_dig N)]) (clos := []) (fun x => []) ⟨fo_dig N, trivial⟩ trivial Tryz.func94 rfl rfl ?_
    rintro ⟨n, ⟨⟩⟩ ⟨hi, hd⟩
    refine vcOf (((n == (-9223372036854775808 : Int)) = true → ((45 : UInt8) :: (57 : UInt8) :: (50 : UInt8) :: (50 : UInt8) :: (51 : UInt8) :: (51 : UInt8) :: (55 : UInt8) :: (50 : UInt8) :: (48 : UInt8) :: (51 : UInt8) :: (54 : UInt8) :: (56 : UInt8) :: (53 : UInt8) :: (52 : UInt8) :: (55 : UInt8) :: (55 : UInt8) :: (53 : UInt8) :: (56 : UInt8) :: (48 : UInt8) :: (56 : UInt8) :: ([] : List UInt8), ()) = (itoaS n, ()) ∧ () = ()) ∧ ((n == (-9223372036854775808 : Int)) = false → (decide (n < (0 : Int)) = true → true = true ∧ (inI (wNeg IntKind.i64 n) ∧ dm (wNeg IntKind.i64 n) < N) ∧ fits (lenL ((45 : UInt8) :: ([] : List UInt8)) + lenL (itoaS (wNeg IntKind.i64 n))) ∧ (catS ((45 : UInt8) :: ([] : List UInt8)) (itoaS (wNeg IntKind.i64 n)), ()) = (itoaS n, ()) ∧ () = ()) ∧ (decide (n < (0 : Int)) = false → (decide (n < (10 : Int)) = true → (UInt8.ofNat (IntKind.u8.wrap (wAdd IntKind.i64 (48 : Int) n)).toNat :: ([] : List UInt8), ()) = (itoaS n, ()) ∧ () = ()) ∧ (decide (n < (10 : Int)) = false → nz (10 : Int) ∧ nz (10 : Int) ∧ (true = true ∧ (inI (wQuo IntKind.i64 n (10 : Int)) ∧ dm (wQuo IntKind.i64 n (10 : Int)) < N) ∧ fits (lenL (itoaS (wQuo IntKind.i64 n (10 : Int))) + lenL (UInt8.ofNat (IntKind.u8.wrap (wAdd IntKind.i64 (48 : Int) (wRem n (10 : Int)))).toNat :: ([] : List UInt8))) ∧ (catS (itoaS (wQuo IntKind.i64 n (10 : Int))) (UInt8.ofNat (IntKind.u8.wrap (wAdd IntKind.i64 (48 : Int) (wRem n (10 : Int)))).toNat :: ([] : List UInt8)), ()) = (itoaS n, ()) ∧ () = ()) ∧ true = true ∧ (inI (wQuo IntKind.i64 n (10 : Int)) ∧ dm (wQuo IntKind.i64 n (10 : Int)) < N) ∧ fits (lenL (itoaS (wQuo IntKind.i64 n (10 : Int))) + lenL (UInt8.ofNat (IntKind.u8.wrap (wAdd IntKind.i64 (48 : Int) (wRem n (10 : Int)))).toNat :: ([] : List UInt8))) ∧ (catS (itoaS (wQuo IntKind.i64 n (10 : Int))) (UInt8.ofNat (IntKind.u8.wrap (wAdd IntKind.i64 (48 : Int) (wRem n (10 : Int)))).toNat :: ([] : List UInt8)), ()) = (itoaS n, ()) ∧ () = ())))) (by kernel_rfl) ?_
    simp only [Nat.le_refl, Nat.succ_eq_add_one, Nat.reduceAdd, Nat.reduceLeDiff, Nat.zero_le, pair_unit, mk_eta, len_bne, eqD_bne, bne_iff_ne, bne_eq_false_iff_eq, beq_iff_eq, beq_eq_false_iff_ne, true_and, and_true, and_self, eq_self, lt_iff, nthI_nat, bnd_iff, decide_eq_true_eq, decide_eq_false_iff_not, Nat.sub_eq, nz, ne_eq, not_false_eq_true, Prod.mk.injEq, Int.reduceEq, Nat.reduceEqDiff, forall_const, implies_true, bne_self_eq_false, Bool.true_eq_false, Bool.false_eq_true, false_implies, reduceCtorEq, Bool.not_true, Bool.not_false, List.all_cons, List.all_nil, Bool.and_true, Bool.not_eq_true, Bool.not_eq_false, Bool.not_eq_true', Bool.not_eq_false', Decidable.not_not]; try simp only [lenL]
    have hi : Fn.inI n := hi
    have hd : Fn.dm n < N + 1 := hd
    refine ⟨fun h => by rw [h]; exact dig_min, fun hm => ⟨fun hn => ?_, fun hn => ⟨fun h10 => dig_small hn h10, fun h10 => ?_⟩⟩⟩
    · obtain ⟨e, h1, h2, h3⟩ := dig_neg hi hm hn
      rw [e]
      have := itoa_len h1
      exact ⟨⟨h1, by omega⟩, f_cat (by simp only [List.length_cons, List.length_nil]; omega), h3⟩
    · obtain ⟨e, h1, h2, h3⟩ := dig_big hi hn h10
      rw [e]
      have := itoa_len h1
      exact ⟨⟨h1, by omega⟩, f_cat (by simp only [List.length_cons, List.length_nil]; omega), h3⟩
def s_Digits : FSpec := { ps := [.v I], rs := [.v .str], pre := fun x => Fn.inI x.1, fn := fun x => (Fn.itoaS x.1, ()), upd := fun _ => () }
theorem fo_l00Digits : FO 94 s_Digits :=
  fok_pre (sp := s_Digits) ⟨_, Tryz.func94, rfl, rfl⟩ fun x hx => ⟨fun y => Fn.inI y.1 ∧ Fn.dm y.1 < Fn.dm x.1 + 1, ⟨hx, Nat.lt_succ_self _⟩, fo_dig (Fn.dm x.1 + 1)⟩
end Go.Proofs.YtolminmmnckpkaaGreatDoor
namespace Go.Proofs.YtolminmmnckpkaaGreatDoor
open Go.Ab Go.Fn
def s_said : FSpec := { ps := [.v (.slice .any)], rs := [.v .str], pre := fun x => Fn.saidOK x.1, fn := fun x => (Fn.said x.1, ()), upd := fun _ => () }
def L_said (l : List AnyV) : LoopAnn := { ι := Nat, inv := fun k => k ≤ l.length, slots := fun k => [(3, .os 0), (11, .d I (Int.ofNat k))], objs := fun k => [(0, .arr .str (Fn.texts (l.take k)) false)], μ := fun k => l.length - k }
theorem ft_said : FT 103 s_said := by
  refine foT (specs := [(137, s_Itoa), (115, s_Join)]) (clos := []) (fun x => [(3, .lv [3, 9, 10, 11] <| fun _ => L_said x.1)]) ⟨ft_Itoa, toT fo_Join, trivial⟩ trivial Tryz.func103 rfl rfl ?_
  rintro ⟨l, ⟨⟩⟩ hp
  refine vcOf (fits (lenL l) → (∃ (i : Nat), i ≤ List.length l ∧ (nat_lit 0 = (0 : Nat) ∧ l = l ∧ iOf (lenL l) = iOf (lenL l) ∧ (0 : Int) = Int.ofNat i ∧ True) ∧ ((([] : List (List UInt8)) = texts (List.take i l) ∧ false = false) ∧ True) ∧ True) ∧ ∀ (i : Nat), i ≤ List.length l → (decide (Int.ofNat i < iOf (lenL l)) = true → bnd (Int.ofNat i) (lenL l) ∧ ∀ (x : AnyV), nthI l (Int.ofNat i) = some x → nat_lit 1 ≤ nat_lit 1 ∧ (∀ (a : Int), x = AnyV.n a → true = true ∧ inI a ∧ fits (lenL (texts (List.take i l)) + lenL (itoaS a :: ([] : List (List UInt8)))) ∧ ∃ (j : Nat), j ≤ List.length l ∧ (List.length l).sub j < (List.length l).sub i ∧ ((0 : Nat) = (0 : Nat) ∧ l = l ∧ iOf (lenL l) = iOf (lenL l) ∧ wAdd IntKind.i64 (Int.ofNat i) (1 : Int) = Int.ofNat j ∧ True) ∧ ((texts (List.take i l) ++ itoaS a :: ([] : List (List UInt8)) = texts (List.take j l) ∧ false = false) ∧ True) ∧ True) ∧ ((∀ (a : Int), x ≠ AnyV.n a) → (∀ (a : List UInt8), x = AnyV.s a → fits (lenL (texts (List.take i l)) + lenL (a :: ([] : List (List UInt8)))) ∧ ∃ (j : Nat), j ≤ List.length l ∧ (List.length l).sub j < (List.length l).sub i ∧ ((0 : Nat) = (0 : Nat) ∧ l = l ∧ iOf (lenL l) = iOf (lenL l) ∧ wAdd IntKind.i64 (Int.ofNat i) (1 : Int) = Int.ofNat j ∧ True) ∧ ((texts (List.take i l) ++ a :: ([] : List (List UInt8)) = texts (List.take j l) ∧ false = false) ∧ True) ∧ True) ∧ ((∀ (a : List UInt8), x ≠ AnyV.s a) → ∃ (j : Nat), j ≤ List.length l ∧ (List.length l).sub j < (List.length l).sub i ∧ ((0 : Nat) = (0 : Nat) ∧ l = l ∧ iOf (lenL l) = iOf (lenL l) ∧ wAdd IntKind.i64 (Int.ofNat i) (1 : Int) = Int.ofNat j ∧ True) ∧ ((texts (List.take i l) = texts (List.take j l) ∧ false = false) ∧ True) ∧ True))) ∧ (decide (Int.ofNat i < iOf (lenL l)) = false → true = true ∧ ((joinS (texts (List.take i l)) ((32 : UInt8) :: ([] : List UInt8))).length ≤ (100000000 : Nat) ∧ (texts (List.take i l)).length ≤ (100000000 : Nat)) ∧ (joinS (texts (List.take i l)) ((32 : UInt8) :: ([] : List UInt8)), ()) = (said l, ()) ∧ () = ())) (by kernel_rfl) ?_
  simp only [Nat.le_refl, Nat.succ_eq_add_one, Nat.reduceAdd, Nat.reduceLeDiff, Nat.zero_le, pair_unit, mk_eta, len_bne, eqD_bne, bne_iff_ne, bne_eq_false_iff_eq, beq_iff_eq, beq_eq_false_iff_ne, true_and, and_true, and_self, eq_self, lt_iff, nthI_nat, bnd_iff, decide_eq_true_eq, decide_eq_false_iff_not, Nat.sub_eq, nz, ne_eq, not_false_eq_true, Prod.mk.injEq, Int.reduceEq, Nat.reduceEqDiff, forall_const, implies_true, bne_self_eq_false, Bool.true_eq_false, Bool.false_eq_true, false_implies, reduceCtorEq, Bool.not_true, Bool.not_false, List.all_cons, List.all_nil, Bool.and_true, Bool.not_eq_true, Bool.not_eq_false, Bool.not_eq_true', Bool.not_eq_false', Decidable.not_not]; try simp only [lenL]
  obtain ⟨hp1, hp2, hp3⟩ := hp
  have hp3 : List.length l ≤ 100000000 := hp3
  refine fun hf => ⟨⟨0, Nat.zero_le _, rfl, (texts_zero l).symm⟩, fun i hi => ⟨fun h => ⟨h, fun x hx => ⟨?_, fun hn => ⟨?_, fun hs => ⟨i + 1, h, Nat.sub_lt_sub_left h (Nat.lt_succ_self i), inc_in hf hi, texts_b hx hn hs⟩⟩⟩⟩, fun h => ?_⟩⟩
  · rintro a rfl
    have := texts_len l i
    have hf' : List.length l < 1099511627776 := hf
    refine ⟨hp1 a (List.mem_of_getElem? hx), by show (texts (l.take i)).length + 1 < 1099511627776; omega, i + 1, h, Nat.sub_lt_sub_left h (Nat.lt_succ_self i), inc_in hf hi, texts_n hx⟩
  · rintro a rfl
    have := texts_len l i
    refine ⟨by show (texts (l.take i)).length + 1 < 1099511627776; omega, i + 1, h, Nat.sub_lt_sub_left h (Nat.lt_succ_self i), inc_in hf hi, texts_s hx⟩
  · rw [texts_end h]
    have := texts_len l l.length
    rw [List.take_length] at this
    exact ⟨⟨hp2, by omega⟩, rfl⟩
end Go.Proofs.YtolminmmnckpkaaGreatDoor
namespace Go.Fn
open Go.Ab
def hexD (n : Nat) : UInt8 := [48, 49, 50, 51, 52, 53, 54, 55, 56, 57, 97, 98, 99, 100, 101, 102].getD n 48
def plainB (c : UInt8) (i : Nat) : Bool := decide (32 < c.toNat) && (decide (c.toNat < 127) && (!(decide (c = 37)) && (!(decide (c = 45)) || decide (0 < i))))
def hexB (c : UInt8) : List UInt8 := [37, hexD (c.toNat / 16), hexD (c.toNat % 16)]
def wordB (c : UInt8) (i : Nat) : List UInt8 := if plainB c i = true then [c] else hexB c
def wordTo (t : List UInt8) : Nat → List UInt8
  | 0 => []
  | k + 1 => wordTo t k ++ wordB (t.getD k 0) k
def word (t : List UInt8) : List UInt8 := if t = [] then [45] else wordTo t t.length
def plainAt (t : List UInt8) (i : Int) : Bool := plainB (t.getD i.toNat 0) i.toNat
theorem getD_at {t : List UInt8} {i : Nat} {c : UInt8} (h : t[i]? = some c) : t.getD i 0 = c := by rw [List.getD_eq_getElem?_getD, h]; rfl
theorem plainAt_at {t : List UInt8} {i : Nat} {c : UInt8} (h : t[i]? = some c) : plainAt t (Int.ofNat i) = plainB c i := by
  unfold plainAt; rw [show (Int.ofNat i).toNat = i from rfl, getD_at h]
theorem wordTo_at {t : List UInt8} {i : Nat} {c : UInt8} (h : t[i]? = some c) : wordTo t (i + 1) = wordTo t i ++ wordB c i := by
  show wordTo t i ++ wordB (t.getD i 0) i = _
  rw [getD_at h]
theorem wordTo_len (t : List UInt8) : ∀ k, (wordTo t k).length ≤ 3 * k
  | 0 => Nat.le_refl _
  | k + 1 => by
    have := wordTo_len t k
    show (wordTo t k ++ wordB (t.getD k 0) k).length ≤ _
    rw [List.length_append]
    have h2 : (wordB (t.getD k 0) k).length ≤ 3 := by
      unfold wordB hexB
      split <;> simp
    omega
theorem word_len {t : List UInt8} : (word t).length ≤ 3 * t.length + 1 := by
  unfold word
  split
  · simp
  · have := wordTo_len t t.length
    omega
theorem back_map (l : List UInt8) : (l.map fun c => Int.ofNat c.toNat).map (fun n => UInt8.ofNat n.toNat) = l := by
  rw [List.map_map]
  have : ((fun n : Int => UInt8.ofNat n.toNat) ∘ fun c : UInt8 => Int.ofNat c.toNat) = id := by funext c; simp
  rw [this, List.map_id]
theorem word_end {t : List UInt8} {i : Nat} (hi : i ≤ t.length) (h : ¬ i < t.length) (hn : ¬ t = []) : (((wordTo t i).map fun c => Int.ofNat c.toNat).map fun n => UInt8.ofNat n.toNat) = word t := by
  rw [back_map]
  unfold word
  rw [if_neg hn, show i = t.length by omega]
theorem word_plain {t : List UInt8} {i : Nat} {c : UInt8} (h : t[i]? = some c) (hp : plainAt t (Int.ofNat i) = true) : ((wordTo t i).map fun c => Int.ofNat c.toNat) ++ [Int.ofNat c.toNat] = (wordTo t (i + 1)).map fun c => Int.ofNat c.toNat := by
  rw [plainAt_at h] at hp
  rw [wordTo_at h, List.map_append]
  unfold wordB
  rw [if_pos hp]; rfl
theorem word_hex {t : List UInt8} {i : Nat} {c a b : UInt8} (h : t[i]? = some c) (hp : plainAt t (Int.ofNat i) = false) (ha : a = hexD (c.toNat / 16)) (hb : b = hexD (c.toNat % 16)) : ((wordTo t i).map fun c => Int.ofNat c.toNat) ++ [37, Int.ofNat a.toNat, Int.ofNat b.toNat] = (wordTo t (i + 1)).map fun c => Int.ofNat c.toNat := by
  rw [plainAt_at h] at hp
  rw [wordTo_at h, List.map_append]
  unfold wordB hexB
  rw [if_neg (by rw [hp]; exact Bool.false_ne_true), ha, hb]; rfl
theorem hex_quo (c : UInt8) : wQuo .u8 (Int.ofNat c.toNat) 16 = Int.ofNat (c.toNat / 16) := by
  have h := c.toNat_lt
  unfold wQuo
  rw [show Int.tdiv (Int.ofNat c.toNat) 16 = Int.ofNat (c.toNat / 16) from rfl, IntKind.wrap_u8]
  simp only [Int.ofNat_eq_natCast]
  omega
theorem hex_rem (c : UInt8) : wRem (Int.ofNat c.toNat) 16 = Int.ofNat (c.toNat % 16) := rfl
theorem hex_shr (c : UInt8) : wShr .u8 (Int.ofNat c.toNat) 4 = Int.ofNat (c.toNat / 16) := rfl
theorem hex_and (c : UInt8) : wBits .and .u8 (Int.ofNat c.toNat) 15 = Int.ofNat (c.toNat % 16) := by
  have h := c.toNat_lt
  show IntKind.u8.wrap ((BitVec.ofInt 8 ((c.toNat : Nat) : Int) &&& BitVec.ofInt 8 ((15 : Nat) : Int)).toNat : Int) = _
  rw [BitVec.ofInt_natCast, BitVec.ofInt_natCast, BitVec.toNat_and, BitVec.toNat_ofNat, BitVec.toNat_ofNat, Nat.mod_eq_of_lt (by omega), Nat.mod_eq_of_lt (by decide)]
  rw [show (15 : Nat) = 2 ^ 4 - 1 from rfl, Nat.and_two_pow_sub_one_eq_mod, IntKind.wrap_u8]
  simp only [Int.ofNat_eq_natCast]
  omega
theorem hexD_at {n : Nat} {d : UInt8} (h : [48, 49, 50, 51, 52, 53, 54, 55, 56, 57, 97, 98, 99, 100, 101, 102][n]? = some d) : d = hexD n := by
  unfold hexD; rw [List.getD_eq_getElem?_getD, h]; rfl
theorem pb_low {t : List UInt8} {i : Nat} {c : UInt8} (h : t[i]? = some c) (hc : ¬ Int.ofNat c.toNat > 32) : false = plainAt t (Int.ofNat i) := by
  rw [plainAt_at h]; unfold plainB; rw [decide_eq_false (p := 32 < c.toNat) (by simp only [Int.ofNat_eq_natCast] at hc; omega)]; rfl
theorem pb_high {t : List UInt8} {i : Nat} {c : UInt8} (h : t[i]? = some c) (hc : ¬ Int.ofNat c.toNat < 127) : false = plainAt t (Int.ofNat i) := by
  rw [plainAt_at h]; unfold plainB; rw [decide_eq_false (p := c.toNat < 127) (by simp only [Int.ofNat_eq_natCast] at hc; omega)]; simp
theorem b_iff {c d : UInt8} : (Int.ofNat c.toNat = Int.ofNat d.toNat) = (c = d) := propext ⟨fun h => UInt8.toNat_inj.1 (Int.ofNat.inj h), fun h => by rw [h]⟩
theorem pb_pct {t : List UInt8} {i : Nat} {c : UInt8} (h : t[i]? = some c) (hc : Int.ofNat c.toNat = 37) : false = plainAt t (Int.ofNat i) := by
  have hc : c = 37 := b_iff.mp (show Int.ofNat c.toNat = Int.ofNat (37 : UInt8).toNat from hc)
  rw [plainAt_at h, hc]; unfold plainB; simp
theorem pb_rest {t : List UInt8} {i : Nat} {c : UInt8} (h : t[i]? = some c) (h1 : Int.ofNat c.toNat > 32) (h2 : Int.ofNat c.toNat < 127) (h3 : ¬ Int.ofNat c.toNat = 37) : plainAt t (Int.ofNat i) = (!(decide (c = 45)) || decide (0 < i)) := by
  have h3 : ¬ c = 37 := fun e => h3 (by rw [e]; rfl)
  rw [plainAt_at h]; unfold plainB
  rw [decide_eq_true (p := 32 < c.toNat) (by simp only [Int.ofNat_eq_natCast] at h1; omega), decide_eq_true (p := c.toNat < 127) (by simp only [Int.ofNat_eq_natCast] at h2; omega), decide_eq_false h3]; rfl
theorem pb_dash {t : List UInt8} {i : Nat} {c : UInt8} (h : t[i]? = some c) (h1 : Int.ofNat c.toNat > 32) (h2 : Int.ofNat c.toNat < 127) (h3 : ¬ Int.ofNat c.toNat = 37) (h4 : Int.ofNat c.toNat = 45) : decide (Int.ofNat i > 0) = plainAt t (Int.ofNat i) := by
  have h4 : c = 45 := b_iff.mp (show Int.ofNat c.toNat = Int.ofNat (45 : UInt8).toNat from h4)
  rw [pb_rest h h1 h2 h3, h4]
  simp
theorem pb_ok {t : List UInt8} {i : Nat} {c : UInt8} (h : t[i]? = some c) (h1 : Int.ofNat c.toNat > 32) (h2 : Int.ofNat c.toNat < 127) (h3 : ¬ Int.ofNat c.toNat = 37) (h4 : ¬ Int.ofNat c.toNat = 45) : true = plainAt t (Int.ofNat i) := by
  have h4 : ¬ c = 45 := fun e => h4 (by rw [e]; rfl)
  rw [pb_rest h h1 h2 h3, decide_eq_false h4]; rfl
theorem in_33 {c : UInt8} (h : within (IntKind.i64.wrap (Int.ofNat c.toNat)) 33 126 = true) : Int.ofNat c.toNat > 32 ∧ Int.ofNat c.toNat < 127 := by
  rw [i64_byte] at h
  unfold within at h
  simp only [Bool.and_eq_true, decide_eq_true_eq] at h
  simp only [Int.ofNat_eq_natCast]
  omega
theorem out_33 {t : List UInt8} {i : Nat} {c : UInt8} (ht : t[i]? = some c) (h : within (IntKind.i64.wrap (Int.ofNat c.toNat)) 33 126 = false) : false = plainAt t (Int.ofNat i) := by
  rw [i64_byte] at h
  by_cases h1 : Int.ofNat c.toNat > 32
  · refine pb_high ht fun h2 => ?_
    unfold within at h
    simp only [Int.ofNat_eq_natCast] at h1 h2
    rw [decide_eq_true (p := (33 : Int) ≤ (c.toNat : Int)) (by omega), decide_eq_true (p := (c.toNat : Int) ≤ 126) (by omega)] at h
    cases h
  · exact pb_low ht h1
end Go.Fn
namespace Go.Fn
open Go.Ab
def recT (r : Rec) : List UInt8 := if r.1 = 1 then said [.s [102, 105, 108, 101], .s r.2.1, .n r.2.2.2.1, .s (word r.2.2.1)] else if r.1 = 2 then said [.s [108, 105, 110, 107], .s r.2.1, .s (word r.2.2.1)]
  else if r.1 = 4 then said [.s [119, 104, 105, 116, 101], .s r.2.1] else if r.2.2.2.2.1 = true then said [.s [111, 112, 97, 113, 117, 101], .s r.2.1, .n r.2.2.2.1] else said [.s [100, 105, 114], .s r.2.1, .n r.2.2.2.1]
theorem rt_opq {k : Int} {p b : List UInt8} {m : Int} (h1 : ¬k = 1) (h2 : ¬k = 2) (h3 : ¬k = 4) : recT (k, p, b, m, true, ()) = said [.s [111, 112, 97, 113, 117, 101], .s p, .n m] := by unfold recT; rw [if_neg h1, if_neg h2, if_neg h3]; rfl
theorem rt_dir {k : Int} {p b : List UInt8} {m : Int} (h1 : ¬k = 1) (h2 : ¬k = 2) (h3 : ¬k = 4) : recT (k, p, b, m, false, ()) = said [.s [100, 105, 114], .s p, .n m] := by unfold recT; rw [if_neg h1, if_neg h2, if_neg h3]; rfl
def recTS (r : Rec) : List UInt8 := if recFault r = 0 then recT r else []
def recTC (r : Rec) : Int := if recFault r = 0 then 0 else 1
theorem rt_no {r : Rec} (h : ¬ recFault r = 0) : [] = recTS r ∧ 1 = recTC r := by unfold recTS recTC; rw [if_neg h, if_neg h]; exact ⟨rfl, rfl⟩
theorem rt_yes {r : Rec} (h : recFault r = 0) : recFault r = 0 ∧ recT r = recTS r ∧ 0 = recTC r := by unfold recTS recTC; rw [if_pos h, if_pos h]; exact ⟨h, rfl, rfl⟩
end Go.Fn
namespace Go.Proofs.YtolminmmnckpkaaGreatDoor
open Go.Ab Go.Fn
def s_word : FSpec := { ps := [.v .str], rs := [.v .str], pre := fun x => List.length (α := UInt8) x.1 ≤ 100000000, fn := fun x => (Fn.word x.1, ()), upd := fun _ => () }
def L_hex (s : Nat) (t : List UInt8) : LoopAnn := { ι := Nat, inv := fun k => k ≤ t.length, slots := fun k => [(3, .os 0), (s, .d I (Int.ofNat k))], objs := fun k => [(0, .arr (.int .u8) ((Fn.wordTo t k).map fun c => Int.ofNat c.toNat) false)], μ := fun k => t.length - k }
theorem fo_l14Hex : FO 121 s_word := by
  refine fo (specs := []) (clos := []) (fun x => [(5, .lv [0, 3, 4] <| fun _ => L_hex 4 x.1), (1000007, .lv [0, 3, 4, 39] <| .ofCut fun s => [(39, .d .bool (Fn.plainAt x.1 (s.tI 4)))])]) trivial trivial Tryz.func121 rfl rfl ?_
  rintro ⟨t, ⟨⟩⟩ hl
  refine vcOf (((t == ([] : List UInt8)) = true → ((45 : UInt8) :: ([] : List UInt8), ()) = (word t, ()) ∧ () = ()) ∧ ((t == ([] : List UInt8)) = false → (∃ (i : Nat), i ≤ List.length t ∧ (t = t ∧ nat_lit 0 = (0 : Nat) ∧ (0 : Int) = Int.ofNat i ∧ True) ∧ ((([] : List Int) = List.map (fun (c : UInt8) => Int.ofNat c.toNat) (wordTo t i) ∧ false = false) ∧ True) ∧ True) ∧ ∀ (i : Nat), i ≤ List.length t → fits (lenL t) → (decide (Int.ofNat i < iOf (lenL t)) = true → (bnd (Int.ofNat i) (lenL t) ∧ ∀ (c : UInt8), nthI t (Int.ofNat i) = some c → (decide (Int.ofNat c.toNat > (32 : Int)) = true → bnd (Int.ofNat i) (lenL t) ∧ ∀ (c : UInt8), nthI t (Int.ofNat i) = some c → (decide (Int.ofNat c.toNat < (127 : Int)) = true → bnd (Int.ofNat i) (lenL t) ∧ ∀ (c : UInt8), nthI t (Int.ofNat i) = some c → ((Int.ofNat c.toNat != (37 : Int)) = true → bnd (Int.ofNat i) (lenL t) ∧ ∀ (c : UInt8), nthI t (Int.ofNat i) = some c → ((Int.ofNat c.toNat != (45 : Int)) = false → (t = t ∧ (0 : Nat) = (0 : Nat) ∧ Int.ofNat i = Int.ofNat i ∧ decide (Int.ofNat i > (0 : Int)) = plainAt t (Int.ofNat i) ∧ True) ∧ ((List.map (fun (c : UInt8) => Int.ofNat c.toNat) (wordTo t i) = List.map (fun (c : UInt8) => Int.ofNat c.toNat) (wordTo t i) ∧ false = false) ∧ True) ∧ True) ∧ ((Int.ofNat c.toNat != (45 : Int)) = true → (t = t ∧ (0 : Nat) = (0 : Nat) ∧ Int.ofNat i = Int.ofNat i ∧ true = plainAt t (Int.ofNat i) ∧ True) ∧ ((List.map (fun (c : UInt8) => Int.ofNat c.toNat) (wordTo t i) = List.map (fun (c : UInt8) => Int.ofNat c.toNat) (wordTo t i) ∧ false = false) ∧ True) ∧ True)) ∧ ((Int.ofNat c.toNat != (37 : Int)) = false → (t = t ∧ (0 : Nat) = (0 : Nat) ∧ Int.ofNat i = Int.ofNat i ∧ false = plainAt t (Int.ofNat i) ∧ True) ∧ ((List.map (fun (c : UInt8) => Int.ofNat c.toNat) (wordTo t i) = List.map (fun (c : UInt8) => Int.ofNat c.toNat) (wordTo t i) ∧ false = false) ∧ True) ∧ True)) ∧ (decide (Int.ofNat c.toNat < (127 : Int)) = false → (t = t ∧ (0 : Nat) = (0 : Nat) ∧ Int.ofNat i = Int.ofNat i ∧ false = plainAt t (Int.ofNat i) ∧ True) ∧ ((List.map (fun (c : UInt8) => Int.ofNat c.toNat) (wordTo t i) = List.map (fun (c : UInt8) => Int.ofNat c.toNat) (wordTo t i) ∧ false = false) ∧ True) ∧ True)) ∧ (decide (Int.ofNat c.toNat > (32 : Int)) = false → (t = t ∧ (0 : Nat) = (0 : Nat) ∧ Int.ofNat i = Int.ofNat i ∧ false = plainAt t (Int.ofNat i) ∧ True) ∧ ((List.map (fun (c : UInt8) => Int.ofNat c.toNat) (wordTo t i) = List.map (fun (c : UInt8) => Int.ofNat c.toNat) (wordTo t i) ∧ false = false) ∧ True) ∧ True)) ∧ (plainAt t (Int.ofNat i) = true → bnd (Int.ofNat i) (lenL t) ∧ ∀ (c : UInt8), nthI t (Int.ofNat i) = some c → fits (lenL (List.map (fun (c : UInt8) => Int.ofNat c.toNat) (wordTo t i)) + lenL (Int.ofNat c.toNat :: ([] : List Int))) ∧ ∃ (j : Nat), j ≤ List.length t ∧ (List.length t).sub j < (List.length t).sub i ∧ (t = t ∧ (0 : Nat) = (0 : Nat) ∧ wAdd IntKind.i64 (Int.ofNat i) (1 : Int) = Int.ofNat j ∧ True) ∧ ((List.map (fun (c : UInt8) => Int.ofNat c.toNat) (wordTo t i) ++ Int.ofNat c.toNat :: ([] : List Int) = List.map (fun (c : UInt8) => Int.ofNat c.toNat) (wordTo t j) ∧ false = false) ∧ True) ∧ True) ∧ (plainAt t (Int.ofNat i) = false → bnd (Int.ofNat i) (lenL t) ∧ ∀ (c : UInt8), nthI t (Int.ofNat i) = some c → nz (16 : Int) ∧ bnd (wQuo IntKind.u8 (Int.ofNat c.toNat) (16 : Int)) (lenL ((48 : UInt8) :: (49 : UInt8) :: (50 : UInt8) :: (51 : UInt8) :: (52 : UInt8) :: (53 : UInt8) :: (54 : UInt8) :: (55 : UInt8) :: (56 : UInt8) :: (57 : UInt8) :: (97 : UInt8) :: (98 : UInt8) :: (99 : UInt8) :: (100 : UInt8) :: (101 : UInt8) :: (102 : UInt8) :: ([] : List UInt8))) ∧ ∀ (c_1 : UInt8), nthI ((48 : UInt8) :: (49 : UInt8) :: (50 : UInt8) :: (51 : UInt8) :: (52 : UInt8) :: (53 : UInt8) :: (54 : UInt8) :: (55 : UInt8) :: (56 : UInt8) :: (57 : UInt8) :: (97 : UInt8) :: (98 : UInt8) :: (99 : UInt8) :: (100 : UInt8) :: (101 : UInt8) :: (102 : UInt8) :: ([] : List UInt8)) (wQuo IntKind.u8 (Int.ofNat c.toNat) (16 : Int)) = some c_1 → bnd (Int.ofNat i) (lenL t) ∧ ∀ (c : UInt8), nthI t (Int.ofNat i) = some c → nz (16 : Int) ∧ bnd (wRem (Int.ofNat c.toNat) (16 : Int)) (lenL ((48 : UInt8) :: (49 : UInt8) :: (50 : UInt8) :: (51 : UInt8) :: (52 : UInt8) :: (53 : UInt8) :: (54 : UInt8) :: (55 : UInt8) :: (56 : UInt8) :: (57 : UInt8) :: (97 : UInt8) :: (98 : UInt8) :: (99 : UInt8) :: (100 : UInt8) :: (101 : UInt8) :: (102 : UInt8) :: ([] : List UInt8))) ∧ ∀ (c_2 : UInt8), nthI ((48 : UInt8) :: (49 : UInt8) :: (50 : UInt8) :: (51 : UInt8) :: (52 : UInt8) :: (53 : UInt8) :: (54 : UInt8) :: (55 : UInt8) :: (56 : UInt8) :: (57 : UInt8) :: (97 : UInt8) :: (98 : UInt8) :: (99 : UInt8) :: (100 : UInt8) :: (101 : UInt8) :: (102 : UInt8) :: ([] : List UInt8)) (wRem (Int.ofNat c.toNat) (16 : Int)) = some c_2 → fits (lenL (List.map (fun (c : UInt8) => Int.ofNat c.toNat) (wordTo t i)) + lenL ((37 : Int) :: Int.ofNat c_1.toNat :: Int.ofNat c_2.toNat :: ([] : List Int))) ∧ ∃ (j : Nat), j ≤ List.length t ∧ (List.length t).sub j < (List.length t).sub i ∧ (t = t ∧ (0 : Nat) = (0 : Nat) ∧ wAdd IntKind.i64 (Int.ofNat i) (1 : Int) = Int.ofNat j ∧ True) ∧ ((List.map (fun (c : UInt8) => Int.ofNat c.toNat) (wordTo t i) ++ (37 : Int) :: Int.ofNat c_1.toNat :: Int.ofNat c_2.toNat :: ([] : List Int) = List.map (fun (c : UInt8) => Int.ofNat c.toNat) (wordTo t j) ∧ false = false) ∧ True) ∧ True)) ∧ (decide (Int.ofNat i < iOf (lenL t)) = false → (List.map (fun (n : Int) => UInt8.ofNat n.toNat) (List.map (fun (c : UInt8) => Int.ofNat c.toNat) (wordTo t i)), ()) = (word t, ()) ∧ () = ()))) (by kernel_rfl) ?_
  simp only [Nat.le_refl, Nat.succ_eq_add_one, Nat.reduceAdd, Nat.reduceLeDiff, Nat.zero_le, pair_unit, mk_eta, len_bne, eqD_bne, bne_iff_ne, bne_eq_false_iff_eq, beq_iff_eq, beq_eq_false_iff_ne, true_and, and_true, and_self, eq_self, lt_iff, nthI_nat, bnd_iff, decide_eq_true_eq, decide_eq_false_iff_not, Nat.sub_eq, nz, ne_eq, not_false_eq_true, Prod.mk.injEq, Int.reduceEq, Nat.reduceEqDiff, forall_const, implies_true, bne_self_eq_false, Bool.true_eq_false, Bool.false_eq_true, false_implies, reduceCtorEq, Bool.not_true, Bool.not_false, List.all_cons, List.all_nil, Bool.and_true, Bool.not_eq_true, Bool.not_eq_false, Bool.not_eq_true', Bool.not_eq_false', Decidable.not_not]; try simp only [lenL]
  have hl : List.length t ≤ 100000000 := hl
  refine ⟨fun h => by unfold Fn.word; rw [if_pos h], fun hne => ⟨⟨0, Nat.zero_le _, rfl, rfl⟩, fun i hi hf => ⟨fun h => ⟨⟨h, fun c hc => ⟨fun h1 => ⟨h, fun c2 hc2 => ?_⟩, fun h1 => pb_low hc h1⟩⟩, fun hp => ⟨h, fun c hc => ⟨?_, i + 1, h, Nat.sub_lt_sub_left h (Nat.lt_succ_self i), inc_in hf hi, word_plain hc hp⟩⟩, fun hp => ⟨h, fun c hc => ?_⟩⟩, fun h => word_end hi h hne⟩⟩⟩
  · rw [hc] at hc2; cases hc2
    refine ⟨fun h2 => ⟨h, fun c3 hc3 => ?_⟩, fun h2 => pb_high hc h2⟩
    rw [hc] at hc3; cases hc3
    refine ⟨fun h3 => ⟨h, fun c4 hc4 => ?_⟩, fun h3 => pb_pct hc h3⟩
    rw [hc] at hc4; cases hc4
    exact ⟨fun h4 => pb_dash hc h1 h2 h3 h4, fun h4 => pb_ok hc h1 h2 h3 h4⟩
  · have := wordTo_len t i
    show (List.map (fun c : UInt8 => Int.ofNat c.toNat) (wordTo t i)).length + 1 < 1099511627776
    rw [List.length_map]; omega
  · have hb := c.toNat_lt
    simp only [hex_quo, hex_rem]
    refine ⟨bnd_nat (by show c.toNat / 16 < 16; omega), fun a ha => ⟨h, fun c2 hc2 => ?_⟩⟩
    rw [hc] at hc2; cases hc2
    refine ⟨bnd_nat (by show c.toNat % 16 < 16; omega), fun b hb2 => ⟨?_, i + 1, h, Nat.sub_lt_sub_left h (Nat.lt_succ_self i), inc_in hf hi, word_hex hc hp (hexD_at ha) (hexD_at hb2)⟩⟩
    have := wordTo_len t i
    show (List.map (fun c : UInt8 => Int.ofNat c.toNat) (wordTo t i)).length + 3 < 1099511627776
    rw [List.length_map]; omega
end Go.Proofs.YtolminmmnckpkaaGreatDoor
namespace Go.Proofs.YtolminmmnckpkaaGreatDoor
open Go.Ab Go.Fn
theorem fo_bodyWord : FO 125 s_word := by
  refine fo (specs := [(97, s_within)]) (clos := []) (fun x => [(5, .lv [0, 3, 10, 11] <| fun _ => L_hex 11 x.1), (1000008, .lv [0, 3, 5, 10, 11, 32] <| .ofCut fun s => [(32, .d .bool (!(Fn.plainAt x.1 (s.tI 4))))])]) ⟨fo_within, trivial⟩ trivial Tryz.func125 rfl rfl ?_
  rintro ⟨t, ⟨⟩⟩ hl
  refine vcOf (((t == ([] : List UInt8)) = true → ((45 : UInt8) :: ([] : List UInt8), ()) = (word t, ()) ∧ () = ()) ∧ ((t == ([] : List UInt8)) = false → fits (lenL t) → (∃ (i : Nat), i ≤ List.length t ∧ (t = t ∧ nat_lit 0 = (0 : Nat) ∧ iOf (lenL t) = iOf (lenL t) ∧ (0 : Int) = Int.ofNat i ∧ True) ∧ ((([] : List Int) = List.map (fun (c : UInt8) => Int.ofNat c.toNat) (wordTo t i) ∧ false = false) ∧ True) ∧ True) ∧ ∀ (i : Nat), i ≤ List.length t → (decide (Int.ofNat i < iOf (lenL t)) = true → bnd (Int.ofNat i) (lenL t) ∧ ∀ (c : UInt8), nthI t (Int.ofNat i) = some c → (true = true ∧ True ∧ ((!within (IntKind.i64.wrap (Int.ofNat c.toNat)) (33 : Int) (126 : Int)) = false → ((Int.ofNat c.toNat == (37 : Int)) = false → ((Int.ofNat c.toNat == (45 : Int)) = true → (t = t ∧ (0 : Nat) = (0 : Nat) ∧ Int.ofNat c.toNat = Int.ofNat c.toNat ∧ iOf (lenL t) = iOf (lenL t) ∧ Int.ofNat i = Int.ofNat i ∧ (Int.ofNat i == (0 : Int)) = !plainAt t (Int.ofNat i) ∧ True) ∧ ((List.map (fun (c : UInt8) => Int.ofNat c.toNat) (wordTo t i) = List.map (fun (c : UInt8) => Int.ofNat c.toNat) (wordTo t i) ∧ false = false) ∧ True) ∧ True) ∧ ((Int.ofNat c.toNat == (45 : Int)) = false → (t = t ∧ (0 : Nat) = (0 : Nat) ∧ Int.ofNat c.toNat = Int.ofNat c.toNat ∧ iOf (lenL t) = iOf (lenL t) ∧ Int.ofNat i = Int.ofNat i ∧ false = !plainAt t (Int.ofNat i) ∧ True) ∧ ((List.map (fun (c : UInt8) => Int.ofNat c.toNat) (wordTo t i) = List.map (fun (c : UInt8) => Int.ofNat c.toNat) (wordTo t i) ∧ false = false) ∧ True) ∧ True)) ∧ ((Int.ofNat c.toNat == (37 : Int)) = true → (t = t ∧ (0 : Nat) = (0 : Nat) ∧ Int.ofNat c.toNat = Int.ofNat c.toNat ∧ iOf (lenL t) = iOf (lenL t) ∧ Int.ofNat i = Int.ofNat i ∧ true = !plainAt t (Int.ofNat i) ∧ True) ∧ ((List.map (fun (c : UInt8) => Int.ofNat c.toNat) (wordTo t i) = List.map (fun (c : UInt8) => Int.ofNat c.toNat) (wordTo t i) ∧ false = false) ∧ True) ∧ True)) ∧ ((!within (IntKind.i64.wrap (Int.ofNat c.toNat)) (33 : Int) (126 : Int)) = true → (t = t ∧ (0 : Nat) = (0 : Nat) ∧ Int.ofNat c.toNat = Int.ofNat c.toNat ∧ iOf (lenL t) = iOf (lenL t) ∧ Int.ofNat i = Int.ofNat i ∧ true = !plainAt t (Int.ofNat i) ∧ True) ∧ ((List.map (fun (c : UInt8) => Int.ofNat c.toNat) (wordTo t i) = List.map (fun (c : UInt8) => Int.ofNat c.toNat) (wordTo t i) ∧ false = false) ∧ True) ∧ True)) ∧ ((!plainAt t (Int.ofNat i)) = true → shOK (4 : Int) ∧ bnd (wShr IntKind.u8 (Int.ofNat c.toNat) (4 : Int)) (lenL ((48 : UInt8) :: (49 : UInt8) :: (50 : UInt8) :: (51 : UInt8) :: (52 : UInt8) :: (53 : UInt8) :: (54 : UInt8) :: (55 : UInt8) :: (56 : UInt8) :: (57 : UInt8) :: (97 : UInt8) :: (98 : UInt8) :: (99 : UInt8) :: (100 : UInt8) :: (101 : UInt8) :: (102 : UInt8) :: ([] : List UInt8))) ∧ ∀ (c_1 : UInt8), nthI ((48 : UInt8) :: (49 : UInt8) :: (50 : UInt8) :: (51 : UInt8) :: (52 : UInt8) :: (53 : UInt8) :: (54 : UInt8) :: (55 : UInt8) :: (56 : UInt8) :: (57 : UInt8) :: (97 : UInt8) :: (98 : UInt8) :: (99 : UInt8) :: (100 : UInt8) :: (101 : UInt8) :: (102 : UInt8) :: ([] : List UInt8)) (wShr IntKind.u8 (Int.ofNat c.toNat) (4 : Int)) = some c_1 → bnd (wBits BinOp.and IntKind.u8 (Int.ofNat c.toNat) (15 : Int)) (lenL ((48 : UInt8) :: (49 : UInt8) :: (50 : UInt8) :: (51 : UInt8) :: (52 : UInt8) :: (53 : UInt8) :: (54 : UInt8) :: (55 : UInt8) :: (56 : UInt8) :: (57 : UInt8) :: (97 : UInt8) :: (98 : UInt8) :: (99 : UInt8) :: (100 : UInt8) :: (101 : UInt8) :: (102 : UInt8) :: ([] : List UInt8))) ∧ ∀ (c_2 : UInt8), nthI ((48 : UInt8) :: (49 : UInt8) :: (50 : UInt8) :: (51 : UInt8) :: (52 : UInt8) :: (53 : UInt8) :: (54 : UInt8) :: (55 : UInt8) :: (56 : UInt8) :: (57 : UInt8) :: (97 : UInt8) :: (98 : UInt8) :: (99 : UInt8) :: (100 : UInt8) :: (101 : UInt8) :: (102 : UInt8) :: ([] : List UInt8)) (wBits BinOp.and IntKind.u8 (Int.ofNat c.toNat) (15 : Int)) = some c_2 → fits (lenL (List.map (fun (c : UInt8) => Int.ofNat c.toNat) (wordTo t i)) + lenL ((37 : Int) :: Int.ofNat c_1.toNat :: Int.ofNat c_2.toNat :: ([] : List Int))) ∧ ∃ (j : Nat), j ≤ List.length t ∧ (List.length t).sub j < (List.length t).sub i ∧ (t = t ∧ (0 : Nat) = (0 : Nat) ∧ iOf (lenL t) = iOf (lenL t) ∧ wAdd IntKind.i64 (Int.ofNat i) (1 : Int) = Int.ofNat j ∧ True) ∧ ((List.map (fun (c : UInt8) => Int.ofNat c.toNat) (wordTo t i) ++ (37 : Int) :: Int.ofNat c_1.toNat :: Int.ofNat c_2.toNat :: ([] : List Int) = List.map (fun (c : UInt8) => Int.ofNat c.toNat) (wordTo t j) ∧ false = false) ∧ True) ∧ True) ∧ ((!plainAt t (Int.ofNat i)) = false → fits (lenL (List.map (fun (c : UInt8) => Int.ofNat c.toNat) (wordTo t i)) + lenL (Int.ofNat c.toNat :: ([] : List Int))) ∧ ∃ (j : Nat), j ≤ List.length t ∧ (List.length t).sub j < (List.length t).sub i ∧ (t = t ∧ (0 : Nat) = (0 : Nat) ∧ iOf (lenL t) = iOf (lenL t) ∧ wAdd IntKind.i64 (Int.ofNat i) (1 : Int) = Int.ofNat j ∧ True) ∧ ((List.map (fun (c : UInt8) => Int.ofNat c.toNat) (wordTo t i) ++ Int.ofNat c.toNat :: ([] : List Int) = List.map (fun (c : UInt8) => Int.ofNat c.toNat) (wordTo t j) ∧ false = false) ∧ True) ∧ True)) ∧ (decide (Int.ofNat i < iOf (lenL t)) = false → (List.map (fun (n : Int) => UInt8.ofNat n.toNat) (List.map (fun (c : UInt8) => Int.ofNat c.toNat) (wordTo t i)), ()) = (word t, ()) ∧ () = ()))) (by kernel_rfl) ?_
  simp only [Nat.le_refl, Nat.succ_eq_add_one, Nat.reduceAdd, Nat.reduceLeDiff, Nat.zero_le, pair_unit, mk_eta, len_bne, eqD_bne, bne_iff_ne, bne_eq_false_iff_eq, beq_iff_eq, beq_eq_false_iff_ne, true_and, and_true, and_self, eq_self, lt_iff, nthI_nat, bnd_iff, decide_eq_true_eq, decide_eq_false_iff_not, Nat.sub_eq, nz, ne_eq, not_false_eq_true, Prod.mk.injEq, Int.reduceEq, Nat.reduceEqDiff, forall_const, implies_true, bne_self_eq_false, Bool.true_eq_false, Bool.false_eq_true, false_implies, reduceCtorEq, Bool.not_true, Bool.not_false, List.all_cons, List.all_nil, Bool.and_true, Bool.not_eq_true, Bool.not_eq_false, Bool.not_eq_true', Bool.not_eq_false', Decidable.not_not]; try simp only [lenL]
  have hl : List.length t ≤ 100000000 := hl
  refine ⟨fun h => by unfold Fn.word; rw [if_pos h], fun hne hf => ⟨⟨0, Nat.zero_le _, rfl, rfl⟩, fun i hi => ⟨fun h => ⟨h, fun c hc => ⟨⟨fun hw => ?_, fun hw => by rw [← out_33 hc hw]; rfl⟩, fun hp => ?_, fun hp => ⟨?_, i + 1, h, Nat.sub_lt_sub_left h (Nat.lt_succ_self i), inc_in hf hi, word_plain hc hp⟩⟩⟩, fun h => word_end hi h hne⟩⟩⟩
  · obtain ⟨h1, h2⟩ := in_33 hw
    refine ⟨fun h3 => ⟨fun h4 => ?_, fun h4 => by rw [← pb_ok hc h1 h2 h3 h4]; rfl⟩, fun h3 => by rw [← pb_pct hc h3]; rfl⟩
    rw [← pb_dash hc h1 h2 h3 h4]
    cases i with
    | zero => rfl
    | succ i => simp; omega
  · have hb := c.toNat_lt
    simp only [hex_shr, hex_and]
    refine ⟨by show (0 : Int) ≤ 4; decide, bnd_nat (by show c.toNat / 16 < 16; omega), fun a ha => ⟨bnd_nat (by show c.toNat % 16 < 16; omega), fun b hb2 => ⟨?_, i + 1, h, Nat.sub_lt_sub_left h (Nat.lt_succ_self i), inc_in hf hi, word_hex hc hp (hexD_at ha) (hexD_at hb2)⟩⟩⟩
    have := wordTo_len t i
    show (List.map (fun c : UInt8 => Int.ofNat c.toNat) (wordTo t i)).length + 3 < 1099511627776
    rw [List.length_map]; omega
  · have := wordTo_len t i
    show (List.map (fun c : UInt8 => Int.ofNat c.toNat) (wordTo t i)).length + 1 < 1099511627776
    rw [List.length_map]; omega
end Go.Proofs.YtolminmmnckpkaaGreatDoor
namespace Go.Proofs.YtolminmmnckpkaaGreatDoor
open Go.Ab Go.Fn
def s_recT : FSpec := { ps := [.v tRec], rs := [.v .str], pre := fun x => Fn.recFault x.1 = 0, fn := fun x => (Fn.recT x.1, ()), upd := fun _ => () }
theorem fo_l14Record : FO 78 s_recT := by
  refine fo (specs := [(94, s_Digits), (121, s_word)]) (clos := []) (fun x => []) ⟨fo_l00Digits, fo_l14Hex, trivial⟩ trivial Tryz.func78 rfl rfl ?_
  rintro ⟨⟨k, p, b, m, o, ⟨⟩⟩, ⟨⟩⟩ hr
  refine vcOf (nat_lit 1 ≤ (Nat.succ (nat_lit 1)).succ.succ.succ ∧ ((k == (1 : Int)) = true → nat_lit 2 ≤ (Nat.succ (nat_lit 1)).succ.succ.succ ∧ fits (lenL ((102 : UInt8) :: (105 : UInt8) :: (108 : UInt8) :: (101 : UInt8) :: (32 : UInt8) :: ([] : List UInt8)) + lenL p) ∧ fits (lenL (catS ((102 : UInt8) :: (105 : UInt8) :: (108 : UInt8) :: (101 : UInt8) :: (32 : UInt8) :: ([] : List UInt8)) p) + lenL ((32 : UInt8) :: ([] : List UInt8))) ∧ nat_lit 4 ≤ (Nat.succ (nat_lit 1)).succ.succ.succ ∧ nat_lit 3 ≤ (Nat.succ (nat_lit 1)).succ.succ.succ ∧ true = true ∧ inI m ∧ fits (lenL (catS (catS ((102 : UInt8) :: (105 : UInt8) :: (108 : UInt8) :: (101 : UInt8) :: (32 : UInt8) :: ([] : List UInt8)) p) ((32 : UInt8) :: ([] : List UInt8))) + lenL (itoaS m)) ∧ fits (lenL (catS (catS (catS ((102 : UInt8) :: (105 : UInt8) :: (108 : UInt8) :: (101 : UInt8) :: (32 : UInt8) :: ([] : List UInt8)) p) ((32 : UInt8) :: ([] : List UInt8))) (itoaS m)) + lenL ((32 : UInt8) :: ([] : List UInt8))) ∧ true = true ∧ List.length b ≤ (100000000 : Nat) ∧ fits (lenL (catS (catS (catS (catS ((102 : UInt8) :: (105 : UInt8) :: (108 : UInt8) :: (101 : UInt8) :: (32 : UInt8) :: ([] : List UInt8)) p) ((32 : UInt8) :: ([] : List UInt8))) (itoaS m)) ((32 : UInt8) :: ([] : List UInt8))) + lenL (word b)) ∧ (catS (catS (catS (catS (catS ((102 : UInt8) :: (105 : UInt8) :: (108 : UInt8) :: (101 : UInt8) :: (32 : UInt8) :: ([] : List UInt8)) p) ((32 : UInt8) :: ([] : List UInt8))) (itoaS m)) ((32 : UInt8) :: ([] : List UInt8))) (word b), ()) = (recT (k, p, b, m, o, ()), ()) ∧ () = ()) ∧ ((k == (1 : Int)) = false → nat_lit 1 ≤ (Nat.succ (nat_lit 1)).succ.succ.succ ∧ ((k == (2 : Int)) = true → nat_lit 2 ≤ (Nat.succ (nat_lit 1)).succ.succ.succ ∧ fits (lenL ((108 : UInt8) :: (105 : UInt8) :: (110 : UInt8) :: (107 : UInt8) :: (32 : UInt8) :: ([] : List UInt8)) + lenL p) ∧ fits (lenL (catS ((108 : UInt8) :: (105 : UInt8) :: (110 : UInt8) :: (107 : UInt8) :: (32 : UInt8) :: ([] : List UInt8)) p) + lenL ((32 : UInt8) :: ([] : List UInt8))) ∧ nat_lit 3 ≤ (Nat.succ (nat_lit 1)).succ.succ.succ ∧ true = true ∧ List.length b ≤ (100000000 : Nat) ∧ fits (lenL (catS (catS ((108 : UInt8) :: (105 : UInt8) :: (110 : UInt8) :: (107 : UInt8) :: (32 : UInt8) :: ([] : List UInt8)) p) ((32 : UInt8) :: ([] : List UInt8))) + lenL (word b)) ∧ (catS (catS (catS ((108 : UInt8) :: (105 : UInt8) :: (110 : UInt8) :: (107 : UInt8) :: (32 : UInt8) :: ([] : List UInt8)) p) ((32 : UInt8) :: ([] : List UInt8))) (word b), ()) = (recT (k, p, b, m, o, ()), ()) ∧ () = ()) ∧ ((k == (2 : Int)) = false → nat_lit 1 ≤ (Nat.succ (nat_lit 1)).succ.succ.succ ∧ ((k == (4 : Int)) = true → nat_lit 2 ≤ (Nat.succ (nat_lit 1)).succ.succ.succ ∧ fits (lenL ((119 : UInt8) :: (104 : UInt8) :: (105 : UInt8) :: (116 : UInt8) :: (101 : UInt8) :: (32 : UInt8) :: ([] : List UInt8)) + lenL p) ∧ (catS ((119 : UInt8) :: (104 : UInt8) :: (105 : UInt8) :: (116 : UInt8) :: (101 : UInt8) :: (32 : UInt8) :: ([] : List UInt8)) p, ()) = (recT (k, p, b, m, o, ()), ()) ∧ () = ()) ∧ ((k == (4 : Int)) = false → nat_lit 5 ≤ (Nat.succ (nat_lit 1)).succ.succ.succ ∧ (o = true → nat_lit 2 ≤ (Nat.succ (nat_lit 1)).succ.succ.succ ∧ fits (lenL ((111 : UInt8) :: (112 : UInt8) :: (97 : UInt8) :: (113 : UInt8) :: (117 : UInt8) :: (101 : UInt8) :: (32 : UInt8) :: ([] : List UInt8)) + lenL p) ∧ fits (lenL (catS ((111 : UInt8) :: (112 : UInt8) :: (97 : UInt8) :: (113 : UInt8) :: (117 : UInt8) :: (101 : UInt8) :: (32 : UInt8) :: ([] : List UInt8)) p) + lenL ((32 : UInt8) :: ([] : List UInt8))) ∧ nat_lit 4 ≤ (Nat.succ (nat_lit 1)).succ.succ.succ ∧ true = true ∧ inI m ∧ fits (lenL (catS (catS ((111 : UInt8) :: (112 : UInt8) :: (97 : UInt8) :: (113 : UInt8) :: (117 : UInt8) :: (101 : UInt8) :: (32 : UInt8) :: ([] : List UInt8)) p) ((32 : UInt8) :: ([] : List UInt8))) + lenL (itoaS m)) ∧ (catS (catS (catS ((111 : UInt8) :: (112 : UInt8) :: (97 : UInt8) :: (113 : UInt8) :: (117 : UInt8) :: (101 : UInt8) :: (32 : UInt8) :: ([] : List UInt8)) p) ((32 : UInt8) :: ([] : List UInt8))) (itoaS m), ()) = (recT (k, p, b, m, o, ()), ()) ∧ () = ()) ∧ (o = false → nat_lit 2 ≤ (Nat.succ (nat_lit 1)).succ.succ.succ ∧ fits (lenL ((100 : UInt8) :: (105 : UInt8) :: (114 : UInt8) :: (32 : UInt8) :: ([] : List UInt8)) + lenL p) ∧ fits (lenL (catS ((100 : UInt8) :: (105 : UInt8) :: (114 : UInt8) :: (32 : UInt8) :: ([] : List UInt8)) p) + lenL ((32 : UInt8) :: ([] : List UInt8))) ∧ nat_lit 4 ≤ (Nat.succ (nat_lit 1)).succ.succ.succ ∧ true = true ∧ inI m ∧ fits (lenL (catS (catS ((100 : UInt8) :: (105 : UInt8) :: (114 : UInt8) :: (32 : UInt8) :: ([] : List UInt8)) p) ((32 : UInt8) :: ([] : List UInt8))) + lenL (itoaS m)) ∧ (catS (catS (catS ((100 : UInt8) :: (105 : UInt8) :: (114 : UInt8) :: (32 : UInt8) :: ([] : List UInt8)) p) ((32 : UInt8) :: ([] : List UInt8))) (itoaS m), ()) = (recT (k, p, b, m, o, ()), ()) ∧ () = ()))))) (by kernel_rfl) ?_
  simp only [Nat.le_refl, Nat.succ_eq_add_one, Nat.reduceAdd, Nat.reduceLeDiff, Nat.zero_le, pair_unit, mk_eta, len_bne, eqD_bne, bne_iff_ne, bne_eq_false_iff_eq, beq_iff_eq, beq_eq_false_iff_ne, true_and, and_true, and_self, eq_self, lt_iff, nthI_nat, bnd_iff, decide_eq_true_eq, decide_eq_false_iff_not, Nat.sub_eq, nz, ne_eq, not_false_eq_true, Prod.mk.injEq, Int.reduceEq, Nat.reduceEqDiff, forall_const, implies_true, bne_self_eq_false, Bool.true_eq_false, Bool.false_eq_true, false_implies, reduceCtorEq, Bool.not_true, Bool.not_false, List.all_cons, List.all_nil, Bool.and_true, Bool.not_eq_true, Bool.not_eq_false, Bool.not_eq_true', Bool.not_eq_false', Decidable.not_not]; try simp only [lenL]
  have hr : recFault (k, p, b, m, o, ()) = 0 := hr
  obtain ⟨hp, h8, -, h4, -⟩ := rec_ok hr
  have lp := path_len hp
  have lb := body_len h8
  have hm := mode_in h4
  have hi : inI m := by unfold inI; omega
  have hit := itoa_len hi
  have hw := word_len (t := b)
  refine ⟨fun h => ?_, fun h1 => ⟨fun h => ?_, fun h2 => ⟨fun h => ?_, fun h3 => ⟨fun h => ?_, fun h => ?_⟩⟩⟩⟩
  · subst h
    refine ⟨f_cat (by simp only [catS, List.length_append, List.length_cons, List.length_nil]; omega), f_cat (by simp only [catS, List.length_append, List.length_cons, List.length_nil]; omega), hi, f_cat (by simp only [catS, List.length_append, List.length_cons, List.length_nil]; omega), f_cat (by simp only [catS, List.length_append, List.length_cons, List.length_nil]; omega), by omega, f_cat (by simp only [catS, List.length_append, List.length_cons, List.length_nil]; omega), ?_⟩
    show _ = said [.s [102, 105, 108, 101], .s p, .n m, .s (word b)]
    rw [said_ssns]
    simp [catS]
  · subst h
    refine ⟨f_cat (by simp only [catS, List.length_append, List.length_cons, List.length_nil]; omega), f_cat (by simp only [catS, List.length_append, List.length_cons, List.length_nil]; omega), by omega, f_cat (by simp only [catS, List.length_append, List.length_cons, List.length_nil]; omega), ?_⟩
    show _ = said [.s [108, 105, 110, 107], .s p, .s (word b)]
    rw [said_sss]
    simp [catS]
  · subst h
    refine ⟨f_cat (by simp only [catS, List.length_append, List.length_cons, List.length_nil]; omega), ?_⟩
    show _ = said [.s [119, 104, 105, 116, 101], .s p]
    rw [said_ss]
    simp [catS]
  · subst h
    refine ⟨f_cat (by simp only [catS, List.length_append, List.length_cons, List.length_nil]; omega), f_cat (by simp only [catS, List.length_append, List.length_cons, List.length_nil]; omega), hi, f_cat (by simp only [catS, List.length_append, List.length_cons, List.length_nil]; omega), ?_⟩
    rw [rt_opq h1 h2 h3, said_ssn]
    simp [catS]
  · have h : o = false := by cases o <;> simp_all
    subst h
    refine ⟨f_cat (by simp only [catS, List.length_append, List.length_cons, List.length_nil]; omega), f_cat (by simp only [catS, List.length_append, List.length_cons, List.length_nil]; omega), hi, f_cat (by simp only [catS, List.length_append, List.length_cons, List.length_nil]; omega), ?_⟩
    rw [rt_dir h1 h2 h3, said_ssn]
    simp [catS]
theorem ft_recordText : FT 83 s_recT := by
  refine foT (specs := [(103, s_said), (125, s_word)]) (clos := []) (fun x => []) ⟨ft_said, toT fo_bodyWord, trivial⟩ trivial Tryz.func83 rfl rfl ?_
  rintro ⟨⟨k, p, b, m, o, ⟨⟩⟩, ⟨⟩⟩ hr
  refine vcOf (nat_lit 1 ≤ (Nat.succ (nat_lit 1)).succ.succ.succ ∧ ((k == (1 : Int)) = true → nat_lit 2 ≤ (Nat.succ (nat_lit 1)).succ.succ.succ ∧ nat_lit 4 ≤ (Nat.succ (nat_lit 1)).succ.succ.succ ∧ nat_lit 3 ≤ (Nat.succ (nat_lit 1)).succ.succ.succ ∧ true = true ∧ List.length b ≤ (100000000 : Nat) ∧ true = true ∧ saidOK (AnyV.s ((102 : UInt8) :: (105 : UInt8) :: (108 : UInt8) :: (101 : UInt8) :: ([] : List UInt8)) :: AnyV.s p :: AnyV.n m :: AnyV.s (word b) :: ([] : List AnyV)) ∧ (said (AnyV.s ((102 : UInt8) :: (105 : UInt8) :: (108 : UInt8) :: (101 : UInt8) :: ([] : List UInt8)) :: AnyV.s p :: AnyV.n m :: AnyV.s (word b) :: ([] : List AnyV)), ()) = (recT (k, p, b, m, o, ()), ()) ∧ () = ()) ∧ ((k == (1 : Int)) = false → nat_lit 1 ≤ (Nat.succ (nat_lit 1)).succ.succ.succ ∧ ((k == (2 : Int)) = true → nat_lit 2 ≤ (Nat.succ (nat_lit 1)).succ.succ.succ ∧ nat_lit 3 ≤ (Nat.succ (nat_lit 1)).succ.succ.succ ∧ true = true ∧ List.length b ≤ (100000000 : Nat) ∧ true = true ∧ saidOK (AnyV.s ((108 : UInt8) :: (105 : UInt8) :: (110 : UInt8) :: (107 : UInt8) :: ([] : List UInt8)) :: AnyV.s p :: AnyV.s (word b) :: ([] : List AnyV)) ∧ (said (AnyV.s ((108 : UInt8) :: (105 : UInt8) :: (110 : UInt8) :: (107 : UInt8) :: ([] : List UInt8)) :: AnyV.s p :: AnyV.s (word b) :: ([] : List AnyV)), ()) = (recT (k, p, b, m, o, ()), ()) ∧ () = ()) ∧ ((k == (2 : Int)) = false → nat_lit 1 ≤ (Nat.succ (nat_lit 1)).succ.succ.succ ∧ ((k == (4 : Int)) = true → nat_lit 2 ≤ (Nat.succ (nat_lit 1)).succ.succ.succ ∧ true = true ∧ saidOK (AnyV.s ((119 : UInt8) :: (104 : UInt8) :: (105 : UInt8) :: (116 : UInt8) :: (101 : UInt8) :: ([] : List UInt8)) :: AnyV.s p :: ([] : List AnyV)) ∧ (said (AnyV.s ((119 : UInt8) :: (104 : UInt8) :: (105 : UInt8) :: (116 : UInt8) :: (101 : UInt8) :: ([] : List UInt8)) :: AnyV.s p :: ([] : List AnyV)), ()) = (recT (k, p, b, m, o, ()), ()) ∧ () = ()) ∧ ((k == (4 : Int)) = false → nat_lit 5 ≤ (Nat.succ (nat_lit 1)).succ.succ.succ ∧ (o = true → nat_lit 2 ≤ (Nat.succ (nat_lit 1)).succ.succ.succ ∧ nat_lit 4 ≤ (Nat.succ (nat_lit 1)).succ.succ.succ ∧ true = true ∧ saidOK (AnyV.s ((111 : UInt8) :: (112 : UInt8) :: (97 : UInt8) :: (113 : UInt8) :: (117 : UInt8) :: (101 : UInt8) :: ([] : List UInt8)) :: AnyV.s p :: AnyV.n m :: ([] : List AnyV)) ∧ (said (AnyV.s ((111 : UInt8) :: (112 : UInt8) :: (97 : UInt8) :: (113 : UInt8) :: (117 : UInt8) :: (101 : UInt8) :: ([] : List UInt8)) :: AnyV.s p :: AnyV.n m :: ([] : List AnyV)), ()) = (recT (k, p, b, m, o, ()), ()) ∧ () = ()) ∧ (o = false → nat_lit 2 ≤ (Nat.succ (nat_lit 1)).succ.succ.succ ∧ nat_lit 4 ≤ (Nat.succ (nat_lit 1)).succ.succ.succ ∧ true = true ∧ saidOK (AnyV.s ((100 : UInt8) :: (105 : UInt8) :: (114 : UInt8) :: ([] : List UInt8)) :: AnyV.s p :: AnyV.n m :: ([] : List AnyV)) ∧ (said (AnyV.s ((100 : UInt8) :: (105 : UInt8) :: (114 : UInt8) :: ([] : List UInt8)) :: AnyV.s p :: AnyV.n m :: ([] : List AnyV)), ()) = (recT (k, p, b, m, o, ()), ()) ∧ () = ()))))) (by kernel_rfl) ?_
  simp only [Nat.le_refl, Nat.succ_eq_add_one, Nat.reduceAdd, Nat.reduceLeDiff, Nat.zero_le, pair_unit, mk_eta, len_bne, eqD_bne, bne_iff_ne, bne_eq_false_iff_eq, beq_iff_eq, beq_eq_false_iff_ne, true_and, and_true, and_self, eq_self, lt_iff, nthI_nat, bnd_iff, decide_eq_true_eq, decide_eq_false_iff_not, Nat.sub_eq, nz, ne_eq, not_false_eq_true, Prod.mk.injEq, Int.reduceEq, Nat.reduceEqDiff, forall_const, implies_true, bne_self_eq_false, Bool.true_eq_false, Bool.false_eq_true, false_implies, reduceCtorEq, Bool.not_true, Bool.not_false, List.all_cons, List.all_nil, Bool.and_true, Bool.not_eq_true, Bool.not_eq_false, Bool.not_eq_true', Bool.not_eq_false', Decidable.not_not]; try simp only [lenL]
  have hr : recFault (k, p, b, m, o, ()) = 0 := hr
  obtain ⟨hp, h8, -, h4, -⟩ := rec_ok hr
  have lp := path_len hp
  have lb := body_len h8
  have hm := mode_in h4
  have hi : inI m := by unfold inI; omega
  have hit := itoa_len hi
  have hw := word_len (t := b)
  refine ⟨fun h => ?_, fun h1 => ⟨fun h => ?_, fun h2 => ⟨fun h => ?_, fun h3 => ⟨fun h => ?_, fun h => ?_⟩⟩⟩⟩
  · subst h
    exact ⟨by omega, sok_ssns (by decide) (by omega) hi (by omega), rfl⟩
  · subst h
    exact ⟨by omega, sok_sss (by decide) (by omega) (by omega), rfl⟩
  · subst h
    exact ⟨sok_ss (by decide) (by omega), rfl⟩
  · subst h
    exact ⟨sok_ssn (by decide) (by omega) hi, (rt_opq h1 h2 h3).symm⟩
  · have h : o = false := by cases o <;> simp_all
    subst h
    exact ⟨sok_ssn (by decide) (by omega) hi, (rt_dir h1 h2 h3).symm⟩
end Go.Proofs.YtolminmmnckpkaaGreatDoor
namespace Go.Fn
open Go.Ab
theorem map_take {α β : Type} {f : α → β} {l : List α} {k : Nat} {x : α} (hx : l[k]? = some x) : (l.take k).map f ++ [f x] = (l.take (k + 1)).map f := by
  rw [List.take_add_one, hx]; simp
theorem map_end {α β : Type} {f : α → β} {l : List α} {k : Nat} (h : ¬ k < l.length) : (l.take k).map f = l.map f := by
  rw [List.take_of_length_le (by omega)]
theorem map_fit {α β : Type} {f : α → β} {l : List α} {k : Nat} (hk : k < l.length) (hf : fits l.length) : fits (((l.take k).map f).length + 1) := by
  unfold fits at *
  rw [List.length_map, List.length_take]; omega
def lls (l : List Rec) : List (List UInt8) := if encLayC l = 0 then l.map recT else []
theorem ll_long {l : List Rec} (h : iOf l.length > 4096) : [] = lls l ∧ 2 = encLayC l := by
  have e := (el_long h).2
  unfold lls
  rw [if_neg (by rw [← e]; decide)]
  exact ⟨rfl, e⟩
theorem ll_bad {l : List Rec} (h : ¬ iOf l.length > 4096) (hc : ¬ layC l = 0) : [] = lls l ∧ 1 = encLayC l := by
  have e := (el_bad h hc).2
  unfold lls
  rw [if_neg (by rw [← e]; decide)]
  exact ⟨rfl, e⟩
theorem ll_ok {l : List Rec} (h : ¬ iOf l.length > 4096) (hc : layC l = 0) : OKto l l.length ∧ l.map recT = lls l ∧ 0 = encLayC l := by
  have e := el_ok h hc
  refine ⟨e.1, ?_, e.2.2⟩
  unfold lls
  rw [if_pos e.2.2.symm]
theorem ll_no {l : List Rec} (h : ¬ encLayC l = 0) : [] = lls l := by unfold lls; rw [if_neg h]
theorem ll_first {l : List Rec} (h : encLayC l = 0) : OKto l l.length ∧ l.map recT = lls l ∧ 0 = encLayC l := by
  have h2 : ¬ iOf l.length > 4096 := fun hg => by
    have := (el_long (l := l) hg).2
    rw [h] at this
    exact absurd this (by decide)
  exact ll_ok h2 (Classical.byContradiction fun hn => by
    have := (el_bad h2 hn).2
    rw [h] at this
    exact absurd this (by decide))
end Go.Fn
namespace Go.Fn
open Go.Ab
def heldT (xs : List (List UInt8)) (k : Int) : Int := heldL markText 1 xs k
theorem heldT_mark {n : Nat} : heldT (markL markText 1 n 1) 1 = atD 1 1 n := held_mark markText 1 n 1
theorem atD1_pos {n : Nat} : ¬ atD 1 1 n < 0 := by unfold atD; simp only [Int.ofNat_eq_natCast]; omega
end Go.Fn
namespace Go.Proofs.YtolminmmnckpkaaGreatDoor
open Go.Ab Go.Fn
def s_markStringS : FSpec := { ps := [.mo .str, .v I], rs := [.v I], pre := fun x => kOK x.2.1, fn := fun x => (atD 1 x.2.1 (List.length (α := List UInt8) x.1), ()), upd := fun x => (markL markText 1 (List.length (α := List UInt8) x.1) x.2.1, ()) }
def L_markStringS (xs : List (List UInt8)) (k : Int) : LoopAnn := { ι := Nat, inv := fun j => j ≤ xs.length, slots := fun j => [(5, .d I (Int.ofNat j)), (1, .d I (atD 1 k j))], objs := fun j => [(0, .arr .str (markTo markText 1 xs k j) true)], μ := fun j => xs.length - j }
theorem fo_markStringS : FO 14 s_markStringS := by
  refine fo (specs := [(43, s_markText)]) (clos := []) (fun x => [(2, .lv [0, 1, 5] <| fun _ => L_markStringS x.1 x.2.1)]) ⟨fo_markText, trivial⟩ trivial Tryz.func14 rfl rfl ?_
  rintro ⟨xs, k, ⟨⟩⟩ hp
  have hp : kOK k := hp
  refine vcOf ((∃ (i : Nat), i ≤ List.length xs ∧ ((0 : Nat) = (0 : Nat) ∧ k = atD (1 : Int) k i ∧ (0 : Int) = Int.ofNat i ∧ True) ∧ ((xs = markTo markText (1 : Int) xs k i ∧ true = true) ∧ True) ∧ True) ∧ ∀ (i : Nat), i ≤ List.length xs → fits (lenL (markTo markText (1 : Int) xs k i)) → (decide (Int.ofNat i < iOf (lenL (markTo markText (1 : Int) xs k i))) = true → true = true ∧ atD (1 : Int) k i ≤ (9000000000000000 : (PTy.v I).den) ∧ bnd (Int.ofNat i) (lenL (markTo markText (1 : Int) xs k i)) ∧ ((0 : Nat) = (0 : Nat) ∧ tN (Int.ofNat i) < lenL (markTo markText (1 : Int) xs k i)) ∧ ∃ (j : Nat), j ≤ List.length xs ∧ (List.length xs).sub j < (List.length xs).sub i ∧ ((0 : Nat) = (0 : Nat) ∧ wAdd IntKind.i64 (atD (1 : Int) k i) (1 : Int) = atD (1 : Int) k j ∧ wAdd IntKind.i64 (Int.ofNat i) (1 : Int) = Int.ofNat j ∧ True) ∧ (((markTo markText (1 : Int) xs k i).set (tN (Int.ofNat i)) (markText (atD (1 : Int) k i)) = markTo markText (1 : Int) xs k j ∧ true = true) ∧ True) ∧ True) ∧ (decide (Int.ofNat i < iOf (lenL (markTo markText (1 : Int) xs k i))) = false → (atD (1 : Int) k i, ()) = (atD (1 : Int) k (List.length xs), ()) ∧ (markTo markText (1 : Int) xs k i, ()) = (markL markText (1 : Int) (List.length xs) k, ()))) (by kernel_rfl) ?_
  simp only [Nat.le_refl, Nat.succ_eq_add_one, Nat.reduceAdd, Nat.reduceLeDiff, Nat.zero_le, pair_unit, mk_eta, len_bne, eqD_bne, bne_iff_ne, bne_eq_false_iff_eq, beq_iff_eq, beq_eq_false_iff_ne, true_and, and_true, and_self, eq_self, lt_iff, nthI_nat, bnd_iff, decide_eq_true_eq, decide_eq_false_iff_not, Nat.sub_eq, nz, ne_eq, not_false_eq_true, Prod.mk.injEq, Int.reduceEq, Nat.reduceEqDiff, forall_const, implies_true, bne_self_eq_false, Bool.true_eq_false, Bool.false_eq_true, false_implies, reduceCtorEq, Bool.not_true, Bool.not_false, List.all_cons, List.all_nil, Bool.and_true, Bool.not_eq_true, Bool.not_eq_false, Bool.not_eq_true', Bool.not_eq_false', Decidable.not_not]; try simp only [lenL]
  refine ⟨⟨0, Nat.zero_le _, ⟨atD_zero .., rfl⟩, (markTo_zero ..).symm⟩, fun j hj hf => ⟨fun hlt => ?_, fun hge => ?_⟩⟩
  · have e0 : (markTo markText 1 xs k j).length = List.length xs := markTo_len hj
    rw [e0] at hlt hf
    have hd : (0 : Int) ≤ 1 ∧ (1 : Int) ≤ 16 := by decide
    simp only [tN_nat, at_add0 hp hd hj hf]
    exact ⟨at_le hp hd hj hf, e0 ▸ hlt, e0 ▸ hlt, j + 1, hlt, Nat.sub_lt_sub_left hlt (Nat.lt_succ_self j), ⟨atD_succ 1 k j, inc_in hf hj⟩, markTo_set hlt⟩
  · have hge : ¬ j < List.length xs := by rw [← markTo_len (f := markText) (d := 1) (k := k) hj]; exact hge
    have : j = List.length xs := by omega
    subst this
    exact ⟨rfl, markTo_end hj hge⟩
end Go.Proofs.YtolminmmnckpkaaGreatDoor
namespace Go.Proofs.YtolminmmnckpkaaGreatDoor
open Go.Ab Go.Fn
def s_heldStringS : FSpec := { ps := [.v (.slice .str), .v I], rs := [.v I], pre := fun x => kOK x.2.1, fn := fun x => (heldT x.1 x.2.1, ()), upd := fun x => () }
def L_heldStringS (xs : List (List UInt8)) (k : Int) : LoopAnn := { ι := Nat, inv := fun j => j ≤ xs.length ∧ xs.take j = markL markText 1 j k, slots := fun j => [(5, .d I (Int.ofNat j)), (1, .d I (atD 1 k j))], objs := fun j => [], μ := fun j => xs.length - j }
theorem fo_heldStringS : FO 15 s_heldStringS := by
  refine fo (specs := [(43, s_markText)]) (clos := []) (fun x => [(2, .lv [0, 1, 5] <| fun _ => L_heldStringS x.1 x.2.1)]) ⟨fo_markText, trivial⟩ trivial Tryz.func15 rfl rfl ?_
  rintro ⟨xs, k, ⟨⟩⟩ hp
  have hp : kOK k := hp
  refine vcOf ((∃ (i : Nat), (i ≤ List.length xs ∧ List.take i xs = markL markText (1 : Int) i k) ∧ (xs = xs ∧ k = atD (1 : Int) k i ∧ (0 : Int) = Int.ofNat i ∧ True) ∧ True ∧ True) ∧ ∀ (i : Nat), i ≤ List.length xs ∧ List.take i xs = markL markText (1 : Int) i k → fits (lenL xs) → (decide (Int.ofNat i < iOf (lenL xs)) = true → bnd (Int.ofNat i) (lenL xs) ∧ ∀ (x : List UInt8), nthI xs (Int.ofNat i) = some x → nat_lit 1 ≤ nat_lit 1 ∧ true = true ∧ atD (1 : Int) k i ≤ (9000000000000000 : (PTy.v I).den) ∧ ((!x == markText (atD (1 : Int) k i)) = true → ((-1 : Int), ()) = (heldT xs k, ()) ∧ () = ()) ∧ ((!x == markText (atD (1 : Int) k i)) = false → ∃ (j : Nat), (j ≤ List.length xs ∧ List.take j xs = markL markText (1 : Int) j k) ∧ (List.length xs).sub j < (List.length xs).sub i ∧ (xs = xs ∧ wAdd IntKind.i64 (atD (1 : Int) k i) (1 : Int) = atD (1 : Int) k j ∧ wAdd IntKind.i64 (Int.ofNat i) (1 : Int) = Int.ofNat j ∧ True) ∧ True ∧ True)) ∧ (decide (Int.ofNat i < iOf (lenL xs)) = false → (atD (1 : Int) k i, ()) = (heldT xs k, ()) ∧ () = ())) (by kernel_rfl) ?_
  simp only [Nat.le_refl, Nat.succ_eq_add_one, Nat.reduceAdd, Nat.reduceLeDiff, Nat.zero_le, pair_unit, mk_eta, len_bne, eqD_bne, bne_iff_ne, bne_eq_false_iff_eq, beq_iff_eq, beq_eq_false_iff_ne, true_and, and_true, and_self, eq_self, lt_iff, nthI_nat, bnd_iff, decide_eq_true_eq, decide_eq_false_iff_not, Nat.sub_eq, nz, ne_eq, not_false_eq_true, Prod.mk.injEq, Int.reduceEq, Nat.reduceEqDiff, forall_const, implies_true, bne_self_eq_false, Bool.true_eq_false, Bool.false_eq_true, false_implies, reduceCtorEq, Bool.not_true, Bool.not_false, List.all_cons, List.all_nil, Bool.and_true, Bool.not_eq_true, Bool.not_eq_false, Bool.not_eq_true', Bool.not_eq_false', Decidable.not_not]; try simp only [lenL]
  have hd : (0 : Int) ≤ 1 ∧ (1 : Int) ≤ 16 := by decide
  refine ⟨⟨0, ⟨Nat.zero_le _, rfl⟩, atD_zero .., rfl⟩, fun j ⟨hj, ht⟩ hf => ⟨fun hlt => ?_, fun hge => held_end hj hge ht⟩⟩
  simp only [at_add0 hp hd hj hf]
  refine ⟨hlt, fun x hx => ⟨at_le hp hd hj hf, fun h => held_bad hx h, fun h1 => ⟨j + 1, ⟨hlt, held_step ht hx h1⟩, Nat.sub_lt_sub_left hlt (Nat.lt_succ_self j), atD_succ 1 k j, inc_in hf hj⟩⟩⟩
end Go.Proofs.YtolminmmnckpkaaGreatDoor
namespace Go.Proofs.YtolminmmnckpkaaGreatDoor
open Go.Ab Go.Fn
def s_eqStringS : FSpec := { ps := [.v (.slice .str), .v (.slice .str)], rs := [.v .bool], pre := fun _ => True, fn := fun x => (eqL x.1 x.2.1, ()), upd := fun _ => () }
def L_eqStringS (xs ys : List (.str : Ty).den) : LoopAnn := { ι := Nat, inv := fun k => k ≤ xs.length ∧ xs.length = ys.length ∧ xs.take k = ys.take k, slots := fun k => [(5, .d I (Int.ofNat k))], objs := fun _ => [], μ := fun k => xs.length - k }
theorem fo_eqStringS : FO 11 s_eqStringS := by
  refine fo (specs := []) (clos := []) (fun x => [(4, .lv [0, 1, 5] <| fun _ => L_eqStringS x.1 x.2.1)]) trivial trivial Tryz.func11 rfl rfl ?_
  rintro ⟨xs, ys, ⟨⟩⟩ -
  refine vcOf (fits (lenL xs) → fits (lenL ys) → ((iOf (lenL xs) != iOf (lenL ys)) = true → (false, ()) = (eqL xs ys, ()) ∧ () = ()) ∧ ((iOf (lenL xs) != iOf (lenL ys)) = false → (∃ (i : Nat), (i ≤ List.length xs ∧ List.length xs = List.length ys ∧ List.take i xs = List.take i ys) ∧ (xs = xs ∧ ys = ys ∧ (0 : Int) = Int.ofNat i ∧ True) ∧ True ∧ True) ∧ ∀ (i : Nat), i ≤ List.length xs ∧ List.length xs = List.length ys ∧ List.take i xs = List.take i ys → fits (lenL xs) → (decide (Int.ofNat i < iOf (lenL xs)) = true → bnd (Int.ofNat i) (lenL xs) ∧ ∀ (x : List UInt8), nthI xs (Int.ofNat i) = some x → nat_lit 1 ≤ nat_lit 1 ∧ bnd (Int.ofNat i) (lenL ys) ∧ ∀ (x_1 : List UInt8), nthI ys (Int.ofNat i) = some x_1 → nat_lit 1 ≤ nat_lit 1 ∧ ((!x == x_1) = true → (false, ()) = (eqL xs ys, ()) ∧ () = ()) ∧ ((!x == x_1) = false → ∃ (j : Nat), (j ≤ List.length xs ∧ List.length xs = List.length ys ∧ List.take j xs = List.take j ys) ∧ (List.length xs).sub j < (List.length xs).sub i ∧ (xs = xs ∧ ys = ys ∧ wAdd IntKind.i64 (Int.ofNat i) (1 : Int) = Int.ofNat j ∧ True) ∧ True ∧ True)) ∧ (decide (Int.ofNat i < iOf (lenL xs)) = false → (true, ()) = (eqL xs ys, ()) ∧ () = ()))) (by kernel_rfl) ?_
  simp only [Nat.le_refl, Nat.succ_eq_add_one, Nat.reduceAdd, Nat.reduceLeDiff, Nat.zero_le, pair_unit, mk_eta, len_bne, eqD_bne, bne_iff_ne, bne_eq_false_iff_eq, beq_iff_eq, beq_eq_false_iff_ne, true_and, and_true, and_self, eq_self, lt_iff, nthI_nat, bnd_iff, decide_eq_true_eq, decide_eq_false_iff_not, Nat.sub_eq, nz, ne_eq, not_false_eq_true, Prod.mk.injEq, Int.reduceEq, Nat.reduceEqDiff, forall_const, implies_true, bne_self_eq_false, Bool.true_eq_false, Bool.false_eq_true, false_implies, reduceCtorEq, Bool.not_true, Bool.not_false, List.all_cons, List.all_nil, Bool.and_true, Bool.not_eq_true, Bool.not_eq_false, Bool.not_eq_true', Bool.not_eq_false', Decidable.not_not]; try simp only [lenL]
  exact fun hf1 hf2 => ⟨fun h => eqL_len h, fun h => ⟨⟨0, ⟨Nat.zero_le _, h, rfl⟩, rfl⟩, fun k ⟨hk, _, ht⟩ _ => ⟨fun hlt => ⟨hlt, fun x hx => ⟨h ▸ hlt, fun y hy => ⟨fun hne => eqL_ne hx hy hne, fun he => ⟨k + 1, ⟨hlt, h, take_eq_succ hx hy ht he⟩, Nat.sub_lt_sub_left hlt (Nat.lt_succ_self k), inc_in hf1 hk⟩⟩⟩⟩, fun hge => eqL_end hge h ht⟩⟩⟩
end Go.Proofs.YtolminmmnckpkaaGreatDoor
namespace Go.Proofs.YtolminmmnckpkaaGreatDoor
open Go.Ab Go.Fn
def s_lines : FSpec := { ps := [.v (.slice tRec)], rs := [.o (.slice .str)], pre := fun x => ∀ r ∈ x.1, Fn.recFault r = 0, fn := fun x => (List.map Fn.recT x.1, ()), upd := fun _ => () }
def L_lines (a i : Nat) (l : List Rec) : LoopAnn := { ι := Nat, inv := fun k => k ≤ l.length, slots := fun k => [(a, .os 1), (i, .d I (Int.ofNat k))], objs := fun k => [(1, .arr .str (List.map Fn.recT (l.take k)) false)], μ := fun k => l.length - k }
theorem fo_l14Layer : FO 46 s_lines := by
  refine fo (specs := [(78, s_recT)]) (clos := []) (fun x => [(3, .lv [0, 3, 4] <| fun _ => L_lines 3 4 x.1)]) ⟨fo_l14Record, trivial⟩ trivial Tryz.func46 rfl rfl ?_
  rintro ⟨l, ⟨⟩⟩ hl
  refine vcOf ((∃ (i : Nat), i ≤ List.length l ∧ (l = l ∧ nat_lit 1 = (1 : Nat) ∧ (0 : Int) = Int.ofNat i ∧ True) ∧ ((([] : List (List UInt8)) = ([] : List (List UInt8)) ∧ false = false) ∧ (([] : List (List UInt8)) = List.map recT (List.take i l) ∧ false = false) ∧ True) ∧ True) ∧ ∀ (i : Nat), i ≤ List.length l → fits (lenL l) → (decide (Int.ofNat i < iOf (lenL l)) = true → bnd (Int.ofNat i) (lenL l) ∧ ∀ (x : Int × List UInt8 × List UInt8 × Int × Bool × Unit), nthI l (Int.ofNat i) = some x → nat_lit 5 ≤ (Nat.succ (nat_lit 1)).succ.succ.succ ∧ true = true ∧ recFault (x.fst, x.snd.fst, x.snd.snd.fst, x.snd.snd.snd.fst, x.snd.snd.snd.snd.fst, ()) = (0 : Int) ∧ fits (lenL (List.map recT (List.take i l)) + lenL (recT (x.fst, x.snd.fst, x.snd.snd.fst, x.snd.snd.snd.fst, x.snd.snd.snd.snd.fst, ()) :: ([] : List (List UInt8)))) ∧ ∃ (j : Nat), j ≤ List.length l ∧ (List.length l).sub j < (List.length l).sub i ∧ (l = l ∧ (1 : Nat) = (1 : Nat) ∧ wAdd IntKind.i64 (Int.ofNat i) (1 : Int) = Int.ofNat j ∧ True) ∧ ((([] : List (List UInt8)) = ([] : List (List UInt8)) ∧ false = false) ∧ (List.map recT (List.take i l) ++ recT (x.fst, x.snd.fst, x.snd.snd.fst, x.snd.snd.snd.fst, x.snd.snd.snd.snd.fst, ()) :: ([] : List (List UInt8)) = List.map recT (List.take j l) ∧ false = false) ∧ True) ∧ True) ∧ (decide (Int.ofNat i < iOf (lenL l)) = false → (List.map recT (List.take i l), ()) = (List.map recT l, ()) ∧ () = ())) (by kernel_rfl) ?_
  simp only [Nat.le_refl, Nat.succ_eq_add_one, Nat.reduceAdd, Nat.reduceLeDiff, Nat.zero_le, pair_unit, mk_eta, len_bne, eqD_bne, bne_iff_ne, bne_eq_false_iff_eq, beq_iff_eq, beq_eq_false_iff_ne, true_and, and_true, and_self, eq_self, lt_iff, nthI_nat, bnd_iff, decide_eq_true_eq, decide_eq_false_iff_not, Nat.sub_eq, nz, ne_eq, not_false_eq_true, Prod.mk.injEq, Int.reduceEq, Nat.reduceEqDiff, forall_const, implies_true, bne_self_eq_false, Bool.true_eq_false, Bool.false_eq_true, false_implies, reduceCtorEq, Bool.not_true, Bool.not_false, List.all_cons, List.all_nil, Bool.and_true, Bool.not_eq_true, Bool.not_eq_false, Bool.not_eq_true', Bool.not_eq_false', Decidable.not_not]; try simp only [lenL]
  exact ⟨⟨0, Nat.zero_le _, rfl, rfl⟩, fun i hi hf => ⟨fun h => ⟨h, fun x hx => ⟨hl x (List.mem_of_getElem? hx), map_fit h hf, i + 1, h, Nat.sub_lt_sub_left h (Nat.lt_succ_self i), inc_in hf hi, map_take hx⟩⟩, fun h => map_end h⟩⟩
theorem ft_recordLines : FT 40 s_lines := by
  refine foT (specs := [(83, s_recT)]) (clos := []) (fun x => [(3, .lv [3, 7, 8, 9] <| fun _ => L_lines 3 9 x.1)]) ⟨ft_recordText, trivial⟩ trivial Tryz.func40 rfl rfl ?_
  rintro ⟨l, ⟨⟩⟩ hl
  refine vcOf (fits (lenL l) → (∃ (i : Nat), i ≤ List.length l ∧ (nat_lit 1 = (1 : Nat) ∧ l = l ∧ iOf (lenL l) = iOf (lenL l) ∧ (0 : Int) = Int.ofNat i ∧ True) ∧ ((([] : List (List UInt8)) = ([] : List (List UInt8)) ∧ false = false) ∧ (([] : List (List UInt8)) = List.map recT (List.take i l) ∧ false = false) ∧ True) ∧ True) ∧ ∀ (i : Nat), i ≤ List.length l → (decide (Int.ofNat i < iOf (lenL l)) = true → bnd (Int.ofNat i) (lenL l) ∧ ∀ (x : Int × List UInt8 × List UInt8 × Int × Bool × Unit), nthI l (Int.ofNat i) = some x → nat_lit 5 ≤ (Nat.succ (nat_lit 1)).succ.succ.succ ∧ nat_lit 5 ≤ nat_lit 5 ∧ nat_lit 5 ≤ (Nat.succ (nat_lit 1)).succ.succ.succ ∧ true = true ∧ recFault (x.fst, x.snd.fst, x.snd.snd.fst, x.snd.snd.snd.fst, x.snd.snd.snd.snd.fst, ()) = (0 : Int) ∧ fits (lenL (List.map recT (List.take i l)) + lenL (recT (x.fst, x.snd.fst, x.snd.snd.fst, x.snd.snd.snd.fst, x.snd.snd.snd.snd.fst, ()) :: ([] : List (List UInt8)))) ∧ ∃ (j : Nat), j ≤ List.length l ∧ (List.length l).sub j < (List.length l).sub i ∧ ((1 : Nat) = (1 : Nat) ∧ l = l ∧ iOf (lenL l) = iOf (lenL l) ∧ wAdd IntKind.i64 (Int.ofNat i) (1 : Int) = Int.ofNat j ∧ True) ∧ ((([] : List (List UInt8)) = ([] : List (List UInt8)) ∧ false = false) ∧ (List.map recT (List.take i l) ++ recT (x.fst, x.snd.fst, x.snd.snd.fst, x.snd.snd.snd.fst, x.snd.snd.snd.snd.fst, ()) :: ([] : List (List UInt8)) = List.map recT (List.take j l) ∧ false = false) ∧ True) ∧ True) ∧ (decide (Int.ofNat i < iOf (lenL l)) = false → (List.map recT (List.take i l), ()) = (List.map recT l, ()) ∧ () = ())) (by kernel_rfl) ?_
  simp only [Nat.le_refl, Nat.succ_eq_add_one, Nat.reduceAdd, Nat.reduceLeDiff, Nat.zero_le, pair_unit, mk_eta, len_bne, eqD_bne, bne_iff_ne, bne_eq_false_iff_eq, beq_iff_eq, beq_eq_false_iff_ne, true_and, and_true, and_self, eq_self, lt_iff, nthI_nat, bnd_iff, decide_eq_true_eq, decide_eq_false_iff_not, Nat.sub_eq, nz, ne_eq, not_false_eq_true, Prod.mk.injEq, Int.reduceEq, Nat.reduceEqDiff, forall_const, implies_true, bne_self_eq_false, Bool.true_eq_false, Bool.false_eq_true, false_implies, reduceCtorEq, Bool.not_true, Bool.not_false, List.all_cons, List.all_nil, Bool.and_true, Bool.not_eq_true, Bool.not_eq_false, Bool.not_eq_true', Bool.not_eq_false', Decidable.not_not]; try simp only [lenL]
  exact fun hf => ⟨⟨0, Nat.zero_le _, rfl, rfl⟩, fun i hi => ⟨fun h => ⟨h, fun x hx => ⟨hl x (List.mem_of_getElem? hx), map_fit h hf, i + 1, h, Nat.sub_lt_sub_left h (Nat.lt_succ_self i), inc_in hf hi, map_take hx⟩⟩, fun h => map_end h⟩⟩
end Go.Proofs.YtolminmmnckpkaaGreatDoor
namespace Go.Proofs.YtolminmmnckpkaaGreatDoor
open Go.Ab Go.Fn
def s_LayerLines : FSpec := { ps := [.v (.slice tRec)], rs := [.o (.slice .str), .v I], pre := fun x => okL x.1, fn := fun x => (Fn.lls x.1, Fn.encLayC x.1, ()), upd := fun _ => () }
theorem fo_sLayerLines : FO 17 s_LayerLines := by
  refine fo (specs := [(45, s_layOK), (46, s_lines)]) (clos := []) (fun x => []) ⟨fo_l03OK, fo_l14Layer, trivial⟩ trivial Tryz.func17 rfl rfl ?_
  rintro ⟨l, ⟨⟩⟩ hl
  refine vcOf (fits (lenL l) → (decide (iOf (lenL l) > (4096 : Int)) = true → (([] : List (List UInt8)), (2 : Int), ()) = (lls l, encLayC l, ()) ∧ () = ()) ∧ (decide (iOf (lenL l) > (4096 : Int)) = false → true = true ∧ okL l ∧ ((!decide (layC l = (0 : Int))) = true → (([] : List (List UInt8)), (1 : Int), ()) = (lls l, encLayC l, ()) ∧ () = ()) ∧ ((!decide (layC l = (0 : Int))) = false → true = true ∧ (∀ (r : Int × List UInt8 × List UInt8 × Int × Bool × Unit), r ∈ l → recFault r = (0 : Int)) ∧ (List.map recT l, (0 : Int), ()) = (lls l, encLayC l, ()) ∧ () = ()))) (by kernel_rfl) ?_
  simp only [Nat.le_refl, Nat.succ_eq_add_one, Nat.reduceAdd, Nat.reduceLeDiff, Nat.zero_le, pair_unit, mk_eta, len_bne, eqD_bne, bne_iff_ne, bne_eq_false_iff_eq, beq_iff_eq, beq_eq_false_iff_ne, true_and, and_true, and_self, eq_self, lt_iff, nthI_nat, bnd_iff, decide_eq_true_eq, decide_eq_false_iff_not, Nat.sub_eq, nz, ne_eq, not_false_eq_true, Prod.mk.injEq, Int.reduceEq, Nat.reduceEqDiff, forall_const, implies_true, bne_self_eq_false, Bool.true_eq_false, Bool.false_eq_true, false_implies, reduceCtorEq, Bool.not_true, Bool.not_false, List.all_cons, List.all_nil, Bool.and_true, Bool.not_eq_true, Bool.not_eq_false, Bool.not_eq_true', Bool.not_eq_false', Decidable.not_not]; try simp only [lenL]
  exact fun _ => ⟨fun h => ll_long h, fun h => ⟨hl, fun hc => ll_bad h hc, fun hc => ⟨okto_all (ll_ok h hc).1, (ll_ok h hc).2⟩⟩⟩
theorem ft_LayerLines : FT 19 s_LayerLines := by
  refine foT (specs := [(48, s_isLongRec), (49, s_LayerOK), (37, s_first), (40, s_lines)]) (clos := []) (fun x => []) ⟨toT fo_isLongRec, toT fo_LayerOK, toT fo_first, ft_recordLines, trivial⟩ trivial Tryz.func19 rfl rfl ?_
  rintro ⟨l, ⟨⟩⟩ hl
  refine vcOf (true = true ∧ True ∧ true = true ∧ okL l ∧ true = true ∧ True ∧ ((first (AnyV.b (decide (iOf (List.length l) > (4096 : Int))) :: AnyV.n (2 : Int) :: (AnyV.b !decide (layFC l = (0 : Int))) :: AnyV.n (1 : Int) :: ([] : List AnyV)) != (0 : Int)) = true → (([] : List (List UInt8)), first (AnyV.b (decide (iOf (List.length l) > (4096 : Int))) :: AnyV.n (2 : Int) :: (AnyV.b !decide (layFC l = (0 : Int))) :: AnyV.n (1 : Int) :: ([] : List AnyV)), ()) = (lls l, encLayC l, ()) ∧ () = ()) ∧ ((first (AnyV.b (decide (iOf (List.length l) > (4096 : Int))) :: AnyV.n (2 : Int) :: (AnyV.b !decide (layFC l = (0 : Int))) :: AnyV.n (1 : Int) :: ([] : List AnyV)) != (0 : Int)) = false → true = true ∧ (∀ (r : Int × List UInt8 × List UInt8 × Int × Bool × Unit), r ∈ l → recFault r = (0 : Int)) ∧ (List.map recT l, (0 : Int), ()) = (lls l, encLayC l, ()) ∧ () = ())) (by kernel_rfl) ?_
  simp only [Nat.le_refl, Nat.succ_eq_add_one, Nat.reduceAdd, Nat.reduceLeDiff, Nat.zero_le, pair_unit, mk_eta, len_bne, eqD_bne, bne_iff_ne, bne_eq_false_iff_eq, beq_iff_eq, beq_eq_false_iff_ne, true_and, and_true, and_self, eq_self, lt_iff, nthI_nat, bnd_iff, decide_eq_true_eq, decide_eq_false_iff_not, Nat.sub_eq, nz, ne_eq, not_false_eq_true, Prod.mk.injEq, Int.reduceEq, Nat.reduceEqDiff, forall_const, implies_true, bne_self_eq_false, Bool.true_eq_false, Bool.false_eq_true, false_implies, reduceCtorEq, Bool.not_true, Bool.not_false, List.all_cons, List.all_nil, Bool.and_true, Bool.not_eq_true, Bool.not_eq_false, Bool.not_eq_true', Bool.not_eq_false', Decidable.not_not]; try simp only [lenL]
  rw [first_lay]
  exact ⟨hl, fun h => ⟨ll_no h, rfl⟩, fun h => ⟨okto_all (ll_first h).1, (ll_first h).2⟩⟩
end Go.Proofs.YtolminmmnckpkaaGreatDoor
namespace Go.Proofs.YtolminmmnckpkaaGreatDoor
open Go.Ab Go.Fn
theorem ft_law_FnExactLayerLines : FT 4 (lawSpec [.slice tRec] 1048576) := by
  refine foT (specs := [(16, s_szRecordS), (18, s_toRecordS), (17, s_LayerLines), (19, s_LayerLines), (11, s_eqStringS), (20, s_eqRecordS), (21, s_markRecordS), (14, s_markStringS), (15, s_heldStringS)]) (clos := []) (fun x => []) ⟨toT fo_szRecordS, toT fo_toRecordS, toT fo_sLayerLines, ft_LayerLines, toT fo_eqStringS, toT fo_eqRecordS, toT fo_markRecordS, toT fo_markStringS, toT fo_heldStringS, trivial⟩ trivial Tryz.func4 rfl rfl ?_
  rintro ⟨l, ⟨⟩⟩ hl
  refine vcOf (true = true ∧ ((0 : (PTy.v I).den) ≤ (1048576 : Int) ∧ (1048576 : Int) ≤ (1048576 : (PTy.v I).den)) ∧ (decide (szList szRec l (1048576 : Int) < (0 : Int)) = true → (true, ()) = (true, ()) ∧ () = ()) ∧ (decide (szList szRec l (1048576 : Int) < (0 : Int)) = false → true = true ∧ True ∧ true = true ∧ okL l ∧ true = true ∧ True ∧ true = true ∧ okL l ∧ true = true ∧ True ∧ ((!eqL (lls l) (lls l)) = false → ((encLayC l != encLayC l) = true → (false, ()) = (true, ()) ∧ () = ()) ∧ ((encLayC l != encLayC l) = false → true = true ∧ True ∧ true = true ∧ True ∧ ((!eqL l l) = true → (false, ()) = (true, ()) ∧ () = ()) ∧ ((!eqL l l) = false → true = true ∧ kOK (1 : Int) ∧ (decide (atD (5 : Int) (1 : Int) (List.length l) < (0 : Int)) = false → true = true ∧ True ∧ ((!eqL (lls l) (lls l)) = false → ((encLayC l != encLayC l) = true → (false, ()) = (true, ()) ∧ () = ()) ∧ ((encLayC l != encLayC l) = false → true = true ∧ kOK (1 : Int) ∧ true = true ∧ kOK (1 : Int) ∧ (decide (heldT (markL markText (1 : Int) (lls l).length (1 : Int)) (1 : Int) < (0 : Int)) = true → (false, ()) = (true, ()) ∧ () = ()) ∧ (decide (heldT (markL markText (1 : Int) (lls l).length (1 : Int)) (1 : Int) < (0 : Int)) = false → ((heldT (markL markText (1 : Int) (lls l).length (1 : Int)) (1 : Int) != atD (1 : Int) (1 : Int) (lls l).length) = true → (false, ()) = (true, ()) ∧ () = ()) ∧ ((heldT (markL markText (1 : Int) (lls l).length (1 : Int)) (1 : Int) != atD (1 : Int) (1 : Int) (lls l).length) = false → true = true ∧ True ∧ true = true ∧ okL l ∧ true = true ∧ True ∧ ((!eqL (lls l) (lls l)) = false → ((encLayC l != encLayC l) = true → (false, ()) = (true, ()) ∧ () = ()) ∧ ((encLayC l != encLayC l) = false → true = true ∧ kOK (1 : Int) ∧ (decide (heldT (markL markText (1 : Int) (lls l).length (1 : Int)) (1 : Int) < (0 : Int)) = true → (false, ()) = (true, ()) ∧ () = ()) ∧ (decide (heldT (markL markText (1 : Int) (lls l).length (1 : Int)) (1 : Int) < (0 : Int)) = false → ((heldT (markL markText (1 : Int) (lls l).length (1 : Int)) (1 : Int) != atD (1 : Int) (1 : Int) (lls l).length) = true → (false, ()) = (true, ()) ∧ () = ()) ∧ ((heldT (markL markText (1 : Int) (lls l).length (1 : Int)) (1 : Int) != atD (1 : Int) (1 : Int) (lls l).length) = false → (true, ()) = (true, ()) ∧ () = ())))) ∧ ((!eqL (lls l) (lls l)) = true → (false, ()) = (true, ()) ∧ () = ()))))) ∧ ((!eqL (lls l) (lls l)) = true → (false, ()) = (true, ()) ∧ () = ())) ∧ (decide (atD (5 : Int) (1 : Int) (List.length l) < (0 : Int)) = true → (false, ()) = (true, ()) ∧ () = ())))) ∧ ((!eqL (lls l) (lls l)) = true → (false, ()) = (true, ()) ∧ () = ()))) (by kernel_rfl) ?_
  simp only [Nat.le_refl, Nat.succ_eq_add_one, Nat.reduceAdd, Nat.reduceLeDiff, Nat.zero_le, pair_unit, mk_eta, len_bne, eqD_bne, bne_iff_ne, bne_eq_false_iff_eq, beq_iff_eq, beq_eq_false_iff_ne, true_and, and_true, and_self, eq_self, lt_iff, nthI_nat, bnd_iff, decide_eq_true_eq, decide_eq_false_iff_not, Nat.sub_eq, nz, ne_eq, not_false_eq_true, Prod.mk.injEq, Int.reduceEq, Nat.reduceEqDiff, forall_const, implies_true, bne_self_eq_false, Bool.true_eq_false, Bool.false_eq_true, false_implies, reduceCtorEq, Bool.not_true, Bool.not_false, List.all_cons, List.all_nil, Bool.and_true, Bool.not_eq_true, Bool.not_eq_false, Bool.not_eq_true', Bool.not_eq_false', Decidable.not_not]; try simp only [lenL]
  refine ⟨by constructor <;> decide, fun h => ?_⟩
  have ho := szL_small h
  have e1 : ∀ n, heldT (markL markText 1 n 1) 1 = atD 1 1 n := fun n => heldT_mark
  have e2 : eqL (lls l) (lls l) = true := eqL_self _
  have e3 : eqL l l = true := eqL_self _
  simp only [e1, e2, e3]
  exact ⟨ho, ho, fun _ => ⟨fun h => Bool.noConfusion h, fun _ => ⟨kOK_one, fun _ => ⟨fun _ => ⟨kOK_one, kOK_one, fun h => absurd h atD1_pos, fun _ => ⟨fun h => h trivial, fun _ => ⟨ho, fun _ => ⟨kOK_one, fun h => absurd h atD1_pos, fun _ h => h trivial⟩, fun h => Bool.noConfusion h⟩⟩⟩, fun h => Bool.noConfusion h⟩, fun h => absurd h atD_pos⟩⟩, fun h => Bool.noConfusion h⟩
end Go.Proofs.YtolminmmnckpkaaGreatDoor
namespace Go.Proofs.YtolminmmnckpkaaGreatDoor
open Go.Ab Go.Fn
theorem met_tail {P : Program} {x : String × DataW Unit} {r : List (String × DataW Unit)} {W : World} (h : laidMet P (x :: r) W) : laidMet P r W := by
  obtain ⟨ps, ⟨g, t, cs, fuel, p, q, h1, h2, h3, h4, h5, h6⟩, hn, hc⟩ := h
  subst h6
  exact ⟨q, h5, (List.nodup_append.1 hn).2.1, fun b off hb => hc b off (List.mem_append_right _ hb)⟩
theorem tab_head {rest : List (String × DataW Unit)} {W : World} (h : laidMet Tryz.prog (("internal/strconv.uint64pow10", Rows.laid_internal_strconv_uint64pow10) :: rest) W) : tabP W :=
  Lib.tabIs_of_head (t := 228) (e := 198) (n := 20) gPow (by kernel_rfl) Tryz.underlying228 Tryz.underlying198 (by kernel_rfl) (by kernel_rfl) h
theorem tab_lt {W : World} (h : tabP W) {b : Nat} (hb : b < 3 + 1) : b < W.heap.size := by
  have h : W.var? Tryz.prog "internal/strconv.uint64pow10" = _ := h
  unfold World.var? at h
  rw [gPow] at h
  simp only [Option.bind_some] at h
  split at h
  · rename_i hh
    exact Nat.lt_of_lt_of_le hb (Array.getElem?_eq_some_iff.1 hh).1
  · cases h
end Go.Proofs.YtolminmmnckpkaaGreatDoor
namespace Go.Proofs.YtolminmmnckpkaaGreatDoor
open Go.Ab Go.Fn Go.ChangeShapes Go.WideShapes Go.ChangeAt Go.RowKit
theorem bulk {H : Type} : Bulk (Rows.uptoBulk (H := H)) Rows.uptoBulkAll := by
  constructor <;> intros <;> simp [Rows.uptoBulk, Rows.uptoBulkAll]
theorem own : ownKnob Tryz.prog.godebug = none := by kernel_rfl
def valsOf : Nat → DataW Unit → List Value
  | _, .lit (.int k v) => [.int k v]
  | n + 1, .agg l => l.flatMap (valsOf n)
  | _, _ => []
def layAt (h : Array _root_.Go.Obj) (b : Nat) (d : DataW Unit) : Array _root_.Go.Obj := h.modify b fun
  | .cells _ t frozen => .cells (valsOf 3 d).toArray t frozen
  | o => o
noncomputable def laidWorld (os : Os) : World :=
  { World.holding Tryz.prog os ⟨#[], #[], []⟩ with heap := layAt (layAt (layAt (layAt (layAt (World.holding Tryz.prog os ⟨#[], #[], []⟩).heap 6 Rows.laid_math_bits_deBruijn32tab) 7 Rows.laid_math_bits_deBruijn64tab) 3 Rows.laid_internal_strconv_uint64pow10) 5 Rows.laid_unicode_utf8_acceptRanges) 4 Rows.laid_unicode_utf8_first }
theorem laid_met (os : Os) : laidMet Tryz.prog Rows.fnExactLayerLinesUptoRow.laid ((laidWorld os).forCall (fun _ _ => 0) ⟨#[], #[.slice none 0 0], []⟩).memory :=
  laidMet_of_run3 8 (by kernel_rfl) (by kernel_rfl) (by kernel_rfl)
theorem reads (os : Os) {H : Type} (enc : TypeId × Value → H) : ∃ places, DataW.whole enc Tryz.prog ((laidWorld os).forCall (fun _ _ => 0) ⟨#[], #[.slice none 0 0], []⟩).memory Tryz.f4.params.toList Rows.fnExactLayerLinesSpec.vars false (#[.slice none 0 0] : Array Value).toList 8 = some ([.nil], [], places) :=
  ⟨[], by kernel_rfl⟩
set_option maxRecDepth 100000 in
theorem fnExactLayerLines_lifted (os : Os) (started : os.Started) (H : Type) (enc : TypeId × Value → H) (F : Stop.Interp) :
    ReturnsInHanded {} Tryz.checked os 4 .any ((Rows.OpenSpec.upto Rows.fnExactLayerLinesSpec).preRow enc Tryz.prog Tryz.f4 Rows.fnExactLayerLinesUptoRow.domain false Rows.fnExactLayerLinesUptoRow.laid) (((Rows.OpenSpec.upto Rows.fnExactLayerLinesSpec).at F).post enc Tryz.prog Tryz.f4 false true false false) := by
  obtain ⟨places, hx⟩ := reads os enc
  refine returnsInHanded_of_row (C := Tryz.checked) (s := Rows.OpenSpec.upto Rows.fnExactLayerLinesSpec) own started (by kernel_rfl) Tryz.func4
    (witness_row_at (enc := enc) (C := Tryz.checked) false (laidWorld os) #[.slice none 0 0] rfl (by kernel_rfl) (by kernel_rfl) (by kernel_rfl)
      (OpenSpec.preRow_of_cond 8 hx (by kernel_rfl) (fun k hk => by cases hk; kernel_rfl) (by kernel_rfl) (laid_met os))) ?_
  intro W base args ds gs before hval hW _ hk _ hL _ _
  have hT : tabP W := tab_head (met_tail (met_tail hL))
  refine law_contractT bulk ft_law_FnExactLayerLines (by kernel_rfl) rfl ?_ (tb := 4) rfl (by kernel_rfl) hT (fun b hb => tab_lt hT (show b < 3 + 1 from hb)) (tabT [] []) hval hW (of_decide_eq_true (hk _ rfl))
  intro ds hl
  match ds, hl with
  | [_], _ => rfl
theorem fnExactLayerLines_said : Rows.FnExactLayerLinesUptoSaid :=
  OpenClaim.holds_of_cond 4 Tryz.f4 rfl rfl rfl rfl rfl rfl rfl ⟨rfl, rfl, rfl, rfl, rfl⟩ rfl rfl rfl rfl rfl (by kernel_rfl) Tryz.func4 (by kernel_rfl)
    (of_decide_eq_true (by kernel_rfl)) (by unfold Func.isWrapper; first | (rw [if_pos (by decide +kernel)]; kernel_rfl) | (rw [if_neg (by decide +kernel)]; exact ⟨rfl, rfl⟩))
    (fun os started H enc _ F => by rw [OpenClaim.pre_eq_preRow]; exact fnExactLayerLines_lifted os started H enc F)
theorem noStandIn : (Tryz.f4.params.toList.all fun t => !(Tryz.pinned.checked.prog.wantsStandIn t)) = true := by kernel_rfl
theorem fnExactLayerLines_plain (f : FuncId) (fn : Func) (hf : Tryz.pinned.checked.prog.funcNamed "loop.example/g00798/laws.FnExactLayerLines" = some f) (hfn : Tryz.pinned.checked.prog.funcs[f]? = some fn) :
    true = Tryz.pinned.checked.prog.looks [] ∧ ∀ (j : Nat) t, fn.params[j]? = some t → Tryz.pinned.checked.prog.wantsStandIn t = false := by
  obtain rfl : f = 4 := Option.some.inj ((show Tryz.prog.funcNamed "loop.example/g00798/laws.FnExactLayerLines" = some 4 by kernel_rfl).symm.trans hf) |>.symm
  obtain rfl : fn = Tryz.f4 := (Option.some.inj (Tryz.func4.symm.trans hfn)).symm
  refine ⟨by kernel_rfl, fun j t ht => ?_⟩
  have h := List.all_eq_true.1 noStandIn t (by simpa using Array.mem_of_getElem? ht)
  simpa using h
theorem fnExactLayerLines_holds : Rows.FnExactLayerLinesUptoCardSaid :=
  Claim7.holds_tied_plain_at .later [] _ _ _ _ fnExactLayerLines_said (fun _ h => by cases h) (by kernel_rfl) (fun _ h => by cases h) fnExactLayerLinesUpto_row_tie rfl ⟨rfl, rfl⟩ (by kernel_rfl) rfl fnExactLayerLines_plain (by kernel_rfl)
end Go.Proofs.YtolminmmnckpkaaGreatDoor
