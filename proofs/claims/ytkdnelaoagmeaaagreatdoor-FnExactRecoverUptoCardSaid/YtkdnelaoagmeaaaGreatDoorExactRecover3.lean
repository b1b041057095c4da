/- Every function that the law FnExactRecover reaches does what its specification (a function on plain data) says; the law answers true wherever what it reads is of bulk at most 1048576. Conditions: that bound. -/
import Derived.Test.YtkdnelaoagmeaaaGreatDoorAb2
import Derived.Deep.DeepHandedRow
import Derived.Deep.DeepLaidRun
import Derived.Laws.BitsLemmas
import Derived.Lib.Bytealg
import Derived.Lib.ItoaLen
import Derived.Lib.ItoaMem
import Derived.Lib.Join
import Derived.Lib.LaidTab
import Derived.OpenShut
import Derived.ProofKit
import Derived.Shelf.GgSortFunc.RowK
import Derived.Shelf.LaysC
import Derived.Shelf.LaysM
import Derived.Shelf.SlLaysF0
import Derived.Shelf.SlLaysM
import Derived.Shelf.SlLaysN
import Derived.Shelf.SlicesG.CompactS
import Derived.Shelf.SortM.Plain
import Derived.Shelf.SortM.SortNone
import Derived.Shelf.Strconv.AtoiAll
import Derived.Shelf.Strconv.Itoa3
import Derived.Shelf.Strings.OnBuilder
import Derived.Sort.Walk0
import Derived.Test.YtkdnelaoagmeaaaGreatDoorCards
import Derived.Test.YtkdnelaoagmeaaaGreatDoorRows
import Derived.Test.YtkdnelaoagmeaaaGreatDoorTie
import Derived.WalkKit
import Derived.Test.YtkdnelaoagmeaaaGreatDoorExactRecover2
set_option autoImplicit true
set_option relaxedAutoImplicit true
set_option maxHeartbeats 4000000
set_option maxRecDepth 4000
set_option linter.unusedVariables false
set_option linter.unusedSimpArgs false
namespace Go.Proofs.YtkdnelaoagmeaaaGreatDoor
open Go.Ab Go.Fn
theorem rv_disk {d : Fn.Disk} (h : rpC d = 0) : diskOK d = true := by
 cases hd : diskOK d with
 | true => rfl
 | false => unfold rpC at h; rw [if_pos hd] at h; exact absurd h (by decide)
theorem rv_bad {d : Fn.Disk} {f : Int} (h : diskOK d = false) : zeroDisk = rvD d f /\ 0 = rvT d f /\ rpC d = rvC d := by
 have e : ¬ rpC d = 0 := fun h2 => by rw [rv_disk h2] at h; cases h
 unfold rvD rvT rvC
 rw [if_pos h, if_pos e]
 exact ⟨rfl, rfl, rfl⟩
theorem rv_stop {d : Fn.Disk} {f : Int} (hd : diskOK d = true) (h : ¬ rpC d = 0) : d = rvD d f /\ 0 = rvT d f /\ rpC d = rvC d := by
 unfold rvD rvT rvC
 rw [if_neg (by rw [hd]; decide), if_pos h, if_pos h]
 exact ⟨rfl, rfl, rfl⟩
theorem rv_go {d : Fn.Disk} {f : Int} (h : rpC d = 0) : (runF f 0 d (rpS d) 0).1 = rvD d f /\ (if (runF f 0 d (rpS d) 0).2.2 = true then 16 else 0) = rvT d f /\ 0 = rvC d := by
 have hd := rv_disk h
 unfold rvD rvT rvC
 rw [if_neg (by rw [hd]; decide), if_neg (show ¬ ¬ rpC d = 0 from fun x => x h), if_neg (show ¬ ¬ rpC d = 0 from fun x => x h)]
 exact ⟨rfl, rfl, h.symm⟩
end Go.Proofs.YtkdnelaoagmeaaaGreatDoor
namespace Go.Proofs.YtkdnelaoagmeaaaGreatDoor
open Go.Ab Go.Fn
def s_Rv : FSpec := { ps := [.v tDisk, .v I], rs := [.o tDisk, .v I, .v I], pre := fun _ => True, fn := fun x => (Fn.rvD x.1 x.2.1, Fn.rvT x.1 x.2.1, Fn.rvC x.1, ()), upd := fun _ => () }
theorem ft_iRecover : FT 12 s_Rv := by
 refine foT (specs := [(47, s_RP), (48, s_DiskOK), (49, s_copied), (50, s_exec), (51, s_first)]) (clos := []) (fun x => []) ⟨ft_RecoverPlan, toT fo_DiskOK, toT fo_copied, toT fo_execute, toT fo_first, trivial⟩ trivial Tryz.func12 rfl rfl ?_
 rintro ⟨⟨a, b, c, d, ⟨⟩⟩, f, ⟨⟩⟩ -
 refine vcOf (4 <= (4) /\ true = true /\ True /\ ((rpC (a, b, c, d, ()) != (0 : Int)) = true -> 4 <= (4) /\ true = true /\ True /\ ((!diskOK (a, b, c, d, ())) = true -> 4 <= 4 /\ ((([] : List (Int × List UInt8 × Bool × Unit)), ([] : List (List UInt8 × Int × Unit)), ([] : List (List UInt8 × Int × Unit)), (0 : (Ty.int .i64).den), ()), (0 : Int), rpC (a, b, c, d, ()), ()) = (rvD (a, b, c, d, ()) f, rvT (a, b, c, d, ()) f, rvC (a, b, c, d, ()), ()) /\ () = ()) /\ ((!diskOK (a, b, c, d, ())) = false -> 4 <= (4) /\ true = true /\ True /\ 4 <= 4 /\ ((a, b, c, d, ()), (0 : Int), rpC (a, b, c, d, ()), ()) = (rvD (a, b, c, d, ()) f, rvT (a, b, c, d, ()) f, rvC (a, b, c, d, ()), ()) /\ () = ())) /\ ((rpC (a, b, c, d, ()) != (0 : Int)) = false -> 4 <= (4) /\ true = true /\ (diskOK (a, b, c, d, ()) = true /\ ∀ (s : Int × List UInt8 × List UInt8 × List UInt8 × Unit), s ∈ rpS (a, b, c, d, ()) -> stOK s) /\ 4 <= 4 /\ 4 <= (4) /\ true = true /\ True /\ true = true /\ True /\ 4 <= 4 /\ (((runF f (0 : Int) (a, b, c, d, ()) (rpS (a, b, c, d, ())) (0 : Nat)).fst.fst, (runF f (0 : Int) (a, b, c, d, ()) (rpS (a, b, c, d, ())) (0 : Nat)).fst.snd.fst, (runF f (0 : Int) (a, b, c, d, ()) (rpS (a, b, c, d, ())) (0 : Nat)).fst.snd.snd.fst, (runF f (0 : Int) (a, b, c, d, ()) (rpS (a, b, c, d, ())) (0 : Nat)).fst.snd.snd.snd.fst, ()), first (AnyV.b (runF f (0 : Int) (a, b, c, d, ()) (rpS (a, b, c, d, ())) (0 : Nat)).snd.snd :: AnyV.n (16 : Int) :: ([] : List AnyV)), (0 : Int), ()) = (rvD (a, b, c, d, ()) f, rvT (a, b, c, d, ()) f, rvC (a, b, c, d, ()), ()) /\ () = ())) (by kernel_rfl) ?_
 simp only [NS, eq_self, ne_eq, forall_const, implies_true, Nat.reduceAdd, Nat.reduceLeDiff, nz, Int.reduceEq, Nat.reduceEqDiff, reduceCtorEq]; try simp only [lenL]
 refine ⟨fun h => ⟨fun h0 => rv_bad h0, fun h1 => rv_stop h1 h⟩, fun h => ?_⟩
 have hd := rv_disk h
 obtain ⟨e1, e2, e3⟩ := rv_go (f := f) h
 refine ⟨⟨hd, rp_steps⟩, e1, ?_, e3⟩
 rw [<- e2]
 cases (runF f 0 (a, b, c, d, ()) (rpS (a, b, c, d, ())) 0).2.2 <;> rfl
theorem fo_sRecover : FO 10 s_Rv := by
 refine fo (specs := [(41, s_DiskOK), (42, s_rec), (43, s_l11Tidy), (44, s_l12Run)]) (clos := []) (fun x => []) ⟨fo_l11OK, fo_l12Recover, fo_l11Tidy, fo_l12Run, trivial⟩ trivial Tryz.func10 rfl rfl ?_
 rintro ⟨⟨a, b, c, d, ⟨⟩⟩, f, ⟨⟩⟩ -
 refine vcOf (4 <= (4) /\ true = true /\ True /\ ((!diskOK (a, b, c, d, ())) = true -> 4 <= 4 /\ ((([] : List (Int × List UInt8 × Bool × Unit)), ([] : List (List UInt8 × Int × Unit)), ([] : List (List UInt8 × Int × Unit)), (0 : (Ty.int .i64).den), ()), (0 : Int), (1 : Int), ()) = (rvD (a, b, c, d, ()) f, rvT (a, b, c, d, ()) f, rvC (a, b, c, d, ()), ()) /\ () = ()) /\ ((!diskOK (a, b, c, d, ())) = false -> 4 <= (4) /\ true = true /\ diskOK (a, b, c, d, ()) = true /\ ((rpC (a, b, c, d, ()) != (0 : Int)) = true -> 4 <= (4) /\ true = true /\ True /\ 4 <= 4 /\ (((tidy (a, b, c, d, ())).fst, (tidy (a, b, c, d, ())).snd.fst, (tidy (a, b, c, d, ())).snd.snd.fst, (tidy (a, b, c, d, ())).snd.snd.snd.fst, ()), (0 : Int), rpC (a, b, c, d, ()), ()) = (rvD (a, b, c, d, ()) f, rvT (a, b, c, d, ()) f, rvC (a, b, c, d, ()), ()) /\ () = ()) /\ ((rpC (a, b, c, d, ()) != (0 : Int)) = false -> 4 <= (4) /\ true = true /\ (diskOK (a, b, c, d, ()) = true /\ ∀ (s : Int × List UInt8 × List UInt8 × List UInt8 × Unit), s ∈ rpS (a, b, c, d, ()) -> stOK s) /\ 4 <= 4 /\ (decide ((if (runF f (0 : Int) (a, b, c, d, ()) (rpS (a, b, c, d, ())) (0 : Nat)).snd.snd = true then Int.ofNat ((runF f (0 : Int) (a, b, c, d, ()) (rpS (a, b, c, d, ())) (0 : Nat)).snd.fst.add (0)).succ else (0 : (RTy.v I).ty.den)) > (0 : Int)) = true -> 4 <= (4) /\ true = true /\ True /\ 4 <= 4 /\ (((tidy ((runF f (0 : Int) (a, b, c, d, ()) (rpS (a, b, c, d, ())) (0 : Nat)).fst.fst, (runF f (0 : Int) (a, b, c, d, ()) (rpS (a, b, c, d, ())) (0 : Nat)).fst.snd.fst, (runF f (0 : Int) (a, b, c, d, ()) (rpS (a, b, c, d, ())) (0 : Nat)).fst.snd.snd.fst, (runF f (0 : Int) (a, b, c, d, ()) (rpS (a, b, c, d, ())) (0 : Nat)).fst.snd.snd.snd.fst, ())).fst, (tidy ((runF f (0 : Int) (a, b, c, d, ()) (rpS (a, b, c, d, ())) (0 : Nat)).fst.fst, (runF f (0 : Int) (a, b, c, d, ()) (rpS (a, b, c, d, ())) (0 : Nat)).fst.snd.fst, (runF f (0 : Int) (a, b, c, d, ()) (rpS (a, b, c, d, ())) (0 : Nat)).fst.snd.snd.fst, (runF f (0 : Int) (a, b, c, d, ()) (rpS (a, b, c, d, ())) (0 : Nat)).fst.snd.snd.snd.fst, ())).snd.fst, (tidy ((runF f (0 : Int) (a, b, c, d, ()) (rpS (a, b, c, d, ())) (0 : Nat)).fst.fst, (runF f (0 : Int) (a, b, c, d, ()) (rpS (a, b, c, d, ())) (0 : Nat)).fst.snd.fst, (runF f (0 : Int) (a, b, c, d, ()) (rpS (a, b, c, d, ())) (0 : Nat)).fst.snd.snd.fst, (runF f (0 : Int) (a, b, c, d, ()) (rpS (a, b, c, d, ())) (0 : Nat)).fst.snd.snd.snd.fst, ())).snd.snd.fst, (tidy ((runF f (0 : Int) (a, b, c, d, ()) (rpS (a, b, c, d, ())) (0 : Nat)).fst.fst, (runF f (0 : Int) (a, b, c, d, ()) (rpS (a, b, c, d, ())) (0 : Nat)).fst.snd.fst, (runF f (0 : Int) (a, b, c, d, ()) (rpS (a, b, c, d, ())) (0 : Nat)).fst.snd.snd.fst, (runF f (0 : Int) (a, b, c, d, ()) (rpS (a, b, c, d, ())) (0 : Nat)).fst.snd.snd.snd.fst, ())).snd.snd.snd.fst, ()), (16 : Int), (0 : Int), ()) = (rvD (a, b, c, d, ()) f, rvT (a, b, c, d, ()) f, rvC (a, b, c, d, ()), ()) /\ () = ()) /\ (decide ((if (runF f (0 : Int) (a, b, c, d, ()) (rpS (a, b, c, d, ())) (0 : Nat)).snd.snd = true then Int.ofNat ((runF f (0 : Int) (a, b, c, d, ()) (rpS (a, b, c, d, ())) (0 : Nat)).snd.fst.add (0)).succ else (0 : (RTy.v I).ty.den)) > (0 : Int)) = false -> 4 <= (4) /\ true = true /\ True /\ 4 <= 4 /\ (((tidy ((runF f (0 : Int) (a, b, c, d, ()) (rpS (a, b, c, d, ())) (0 : Nat)).fst.fst, (runF f (0 : Int) (a, b, c, d, ()) (rpS (a, b, c, d, ())) (0 : Nat)).fst.snd.fst, (runF f (0 : Int) (a, b, c, d, ()) (rpS (a, b, c, d, ())) (0 : Nat)).fst.snd.snd.fst, (runF f (0 : Int) (a, b, c, d, ()) (rpS (a, b, c, d, ())) (0 : Nat)).fst.snd.snd.snd.fst, ())).fst, (tidy ((runF f (0 : Int) (a, b, c, d, ()) (rpS (a, b, c, d, ())) (0 : Nat)).fst.fst, (runF f (0 : Int) (a, b, c, d, ()) (rpS (a, b, c, d, ())) (0 : Nat)).fst.snd.fst, (runF f (0 : Int) (a, b, c, d, ()) (rpS (a, b, c, d, ())) (0 : Nat)).fst.snd.snd.fst, (runF f (0 : Int) (a, b, c, d, ()) (rpS (a, b, c, d, ())) (0 : Nat)).fst.snd.snd.snd.fst, ())).snd.fst, (tidy ((runF f (0 : Int) (a, b, c, d, ()) (rpS (a, b, c, d, ())) (0 : Nat)).fst.fst, (runF f (0 : Int) (a, b, c, d, ()) (rpS (a, b, c, d, ())) (0 : Nat)).fst.snd.fst, (runF f (0 : Int) (a, b, c, d, ()) (rpS (a, b, c, d, ())) (0 : Nat)).fst.snd.snd.fst, (runF f (0 : Int) (a, b, c, d, ()) (rpS (a, b, c, d, ())) (0 : Nat)).fst.snd.snd.snd.fst, ())).snd.snd.fst, (tidy ((runF f (0 : Int) (a, b, c, d, ()) (rpS (a, b, c, d, ())) (0 : Nat)).fst.fst, (runF f (0 : Int) (a, b, c, d, ()) (rpS (a, b, c, d, ())) (0 : Nat)).fst.snd.fst, (runF f (0 : Int) (a, b, c, d, ()) (rpS (a, b, c, d, ())) (0 : Nat)).fst.snd.snd.fst, (runF f (0 : Int) (a, b, c, d, ()) (rpS (a, b, c, d, ())) (0 : Nat)).fst.snd.snd.snd.fst, ())).snd.snd.snd.fst, ()), (0 : Int), (0 : Int), ()) = (rvD (a, b, c, d, ()) f, rvT (a, b, c, d, ()) f, rvC (a, b, c, d, ()), ()) /\ () = ())))) (by kernel_rfl) ?_
 simp only [NS, eq_self, ne_eq, forall_const, implies_true, Nat.reduceAdd, Nat.reduceLeDiff, nz, Int.reduceEq, Nat.reduceEqDiff, reduceCtorEq]; try simp only [lenL]
 refine ⟨fun h0 => ?_, fun hd => ⟨hd, fun h => ?_, fun h => ?_⟩⟩
 · obtain ⟨e1, e2, e3⟩ := rv_bad (f := f) h0
   exact ⟨e1, e2, by rw [<- e3]; unfold rpC; rw [if_pos h0]⟩
 · rw [tidy_ok hd]
   exact rv_stop hd h
 · obtain ⟨e1, e2, e3⟩ := rv_go (f := f) h
   rw [tidy_ok (ok_run f 0 _ _ _ hd)]
   refine ⟨⟨hd, rp_steps⟩, fun hp => ⟨e1, ?_, e3⟩, fun hp => ⟨e1, ?_, e3⟩⟩
   · rw [<- e2]
     revert hp
     cases (runF f 0 (a, b, c, d, ()) (rpS (a, b, c, d, ())) 0).2.2 with
     | true => exact fun _ => rfl
     | false => exact fun hp => by simp at hp
   · rw [<- e2]
     revert hp
     cases (runF f 0 (a, b, c, d, ()) (rpS (a, b, c, d, ())) 0).2.2 with
     | true => exact fun hp => absurd (Int.natCast_pos.2 (Nat.succ_pos _)) hp
     | false => exact fun _ => rfl
end Go.Proofs.YtkdnelaoagmeaaaGreatDoor
namespace Go.Proofs.YtkdnelaoagmeaaaGreatDoor
open Go.Ab Go.Fn
theorem ft_law_FnExactRecover : FT 3 (lawSpec [tDisk, I] 1048576) := by
 refine foTI (specs := [(9, s_szDisk), (11, s_toDisk), (13, s_eqDisk), (10, s_Rv), (12, s_Rv), (15, s_heldDisk)]) (clos := []) (inl := [(14, i_markDisk)]) (fun x => []) ⟨toT fo_szDisk, toT fo_toDisk, toT fo_eqDisk, toT fo_sRecover, ft_iRecover, toT fo_heldDisk, trivial⟩ trivial ⟨inT (fun _ _ => []) ⟨fo_markInodeS, fo_markSlotS, trivial⟩ trivial trivial Tryz.func14 rfl rfl, trivial⟩ Tryz.func3 rfl rfl ?_
 rintro ⟨⟨a, b, c, d, ⟨⟩⟩, f, ⟨⟩⟩ -
 refine vcOf (4 <= (4) /\ true = true /\ ((0 : (PTy.v I).den) <= (1048576 : Int) /\ (1048576 : Int) <= (1048576 : (PTy.v I).den)) /\ (decide (szDisk (a, b, c, d, ()) (1048576 : Int) < (0 : Int)) = true -> (true, ()) = (true, ()) /\ () = ()) /\ (decide (szDisk (a, b, c, d, ()) (1048576 : Int) < (0 : Int)) = false -> 4 <= (4) /\ true = true /\ True /\ true = true /\ True /\ 4 <= 4 /\ 4 <= (4) /\ true = true /\ True /\ 4 <= 4 /\ 4 <= (4) /\ true = true /\ True /\ 4 <= 4 /\ 4 <= (4) /\ 4 <= (4) /\ true = true /\ True /\ ((!eqDisk ((rvD (a, b, c, d, ()) f).fst, (rvD (a, b, c, d, ()) f).snd.fst, (rvD (a, b, c, d, ()) f).snd.snd.fst, (rvD (a, b, c, d, ()) f).snd.snd.snd.fst, ()) ((rvD (a, b, c, d, ()) f).fst, (rvD (a, b, c, d, ()) f).snd.fst, (rvD (a, b, c, d, ()) f).snd.snd.fst, (rvD (a, b, c, d, ()) f).snd.snd.snd.fst, ())) = false -> ((rvT (a, b, c, d, ()) f != rvT (a, b, c, d, ()) f) = false -> ((rvC (a, b, c, d, ()) != rvC (a, b, c, d, ())) = true -> (false, ()) = (true, ()) /\ () = ()) /\ ((rvC (a, b, c, d, ()) != rvC (a, b, c, d, ())) = false -> 4 <= (4) /\ 4 <= (4) /\ true = true /\ True /\ true = true /\ True /\ ((!eqDisk (a, b, c, d, ()) (a, b, c, d, ())) = true -> (false, ()) = (true, ()) /\ () = ()) /\ ((!eqDisk (a, b, c, d, ()) (a, b, c, d, ())) = false -> 4 <= (4) /\ 1 <= (4) /\ true = true /\ kOK (1 : Int) /\ 2 <= (4) /\ true = true /\ kOK (atD (3 : Int) (1 : Int) (List.length a)) /\ 3 <= (4) /\ true = true /\ kOK (atD (2 : Int) (atD (3 : Int) (1 : Int) (List.length a)) (List.length b)) /\ (decide (atD (2 : Int) (atD (2 : Int) (atD (3 : Int) (1 : Int) (List.length a)) (List.length b)) (List.length c) < (0 : Int)) = false -> 4 <= (4) /\ 4 <= (4) /\ true = true /\ True /\ ((!eqDisk ((rvD (a, b, c, d, ()) f).fst, (rvD (a, b, c, d, ()) f).snd.fst, (rvD (a, b, c, d, ()) f).snd.snd.fst, (rvD (a, b, c, d, ()) f).snd.snd.snd.fst, ()) ((rvD (a, b, c, d, ()) f).fst, (rvD (a, b, c, d, ()) f).snd.fst, (rvD (a, b, c, d, ()) f).snd.snd.fst, (rvD (a, b, c, d, ()) f).snd.snd.snd.fst, ())) = false -> ((rvT (a, b, c, d, ()) f != rvT (a, b, c, d, ()) f) = false -> ((rvC (a, b, c, d, ()) != rvC (a, b, c, d, ())) = true -> (false, ()) = (true, ()) /\ () = ()) /\ ((rvC (a, b, c, d, ()) != rvC (a, b, c, d, ())) = false -> 4 <= (4) /\ 1 <= (4) /\ true = true /\ kOK (1 : Int) /\ 2 <= (4) /\ true = true /\ kOK (atD (3 : Int) (1 : Int) (rvD (a, b, c, d, ()) f).fst.length) /\ 3 <= (4) /\ true = true /\ kOK (atD (2 : Int) (atD (3 : Int) (1 : Int) (rvD (a, b, c, d, ()) f).fst.length) (rvD (a, b, c, d, ()) f).snd.fst.length) /\ 4 <= (4) /\ true = true /\ ((1 : Int) = 1 /\ smallD (markL markI (3 : Int) (rvD (a, b, c, d, ()) f).fst.length (1 : Int), markL markS (2 : Int) (rvD (a, b, c, d, ()) f).snd.fst.length (atD (3 : Int) (1 : Int) (rvD (a, b, c, d, ()) f).fst.length), markL markS (2 : Int) (rvD (a, b, c, d, ()) f).snd.snd.fst.length (atD (2 : Int) (atD (3 : Int) (1 : Int) (rvD (a, b, c, d, ()) f).fst.length) (rvD (a, b, c, d, ()) f).snd.fst.length), (rvD (a, b, c, d, ()) f).snd.snd.snd.fst, ())) /\ (decide (heldD (markL markI (3 : Int) (rvD (a, b, c, d, ()) f).fst.length (1 : Int), markL markS (2 : Int) (rvD (a, b, c, d, ()) f).snd.fst.length (atD (3 : Int) (1 : Int) (rvD (a, b, c, d, ()) f).fst.length), markL markS (2 : Int) (rvD (a, b, c, d, ()) f).snd.snd.fst.length (atD (2 : Int) (atD (3 : Int) (1 : Int) (rvD (a, b, c, d, ()) f).fst.length) (rvD (a, b, c, d, ()) f).snd.fst.length), (rvD (a, b, c, d, ()) f).snd.snd.snd.fst, ()) (1 : Int) < (0 : Int)) = true -> (false, ()) = (true, ()) /\ () = ()) /\ (decide (heldD (markL markI (3 : Int) (rvD (a, b, c, d, ()) f).fst.length (1 : Int), markL markS (2 : Int) (rvD (a, b, c, d, ()) f).snd.fst.length (atD (3 : Int) (1 : Int) (rvD (a, b, c, d, ()) f).fst.length), markL markS (2 : Int) (rvD (a, b, c, d, ()) f).snd.snd.fst.length (atD (2 : Int) (atD (3 : Int) (1 : Int) (rvD (a, b, c, d, ()) f).fst.length) (rvD (a, b, c, d, ()) f).snd.fst.length), (rvD (a, b, c, d, ()) f).snd.snd.snd.fst, ()) (1 : Int) < (0 : Int)) = false -> ((heldD (markL markI (3 : Int) (rvD (a, b, c, d, ()) f).fst.length (1 : Int), markL markS (2 : Int) (rvD (a, b, c, d, ()) f).snd.fst.length (atD (3 : Int) (1 : Int) (rvD (a, b, c, d, ()) f).fst.length), markL markS (2 : Int) (rvD (a, b, c, d, ()) f).snd.snd.fst.length (atD (2 : Int) (atD (3 : Int) (1 : Int) (rvD (a, b, c, d, ()) f).fst.length) (rvD (a, b, c, d, ()) f).snd.fst.length), (rvD (a, b, c, d, ()) f).snd.snd.snd.fst, ()) (1 : Int) != atD (2 : Int) (atD (2 : Int) (atD (3 : Int) (1 : Int) (rvD (a, b, c, d, ()) f).fst.length) (rvD (a, b, c, d, ()) f).snd.fst.length) (rvD (a, b, c, d, ()) f).snd.snd.fst.length) = true -> (false, ()) = (true, ()) /\ () = ()) /\ ((heldD (markL markI (3 : Int) (rvD (a, b, c, d, ()) f).fst.length (1 : Int), markL markS (2 : Int) (rvD (a, b, c, d, ()) f).snd.fst.length (atD (3 : Int) (1 : Int) (rvD (a, b, c, d, ()) f).fst.length), markL markS (2 : Int) (rvD (a, b, c, d, ()) f).snd.snd.fst.length (atD (2 : Int) (atD (3 : Int) (1 : Int) (rvD (a, b, c, d, ()) f).fst.length) (rvD (a, b, c, d, ()) f).snd.fst.length), (rvD (a, b, c, d, ()) f).snd.snd.snd.fst, ()) (1 : Int) != atD (2 : Int) (atD (2 : Int) (atD (3 : Int) (1 : Int) (rvD (a, b, c, d, ()) f).fst.length) (rvD (a, b, c, d, ()) f).snd.fst.length) (rvD (a, b, c, d, ()) f).snd.snd.fst.length) = false -> 4 <= (4) /\ true = true /\ True /\ true = true /\ True /\ 4 <= 4 /\ 4 <= (4) /\ 4 <= (4) /\ true = true /\ True /\ ((!eqDisk ((rvD (a, b, c, d, ()) f).fst, (rvD (a, b, c, d, ()) f).snd.fst, (rvD (a, b, c, d, ()) f).snd.snd.fst, (rvD (a, b, c, d, ()) f).snd.snd.snd.fst, ()) ((rvD (a, b, c, d, ()) f).fst, (rvD (a, b, c, d, ()) f).snd.fst, (rvD (a, b, c, d, ()) f).snd.snd.fst, (rvD (a, b, c, d, ()) f).snd.snd.snd.fst, ())) = false -> ((rvT (a, b, c, d, ()) f != rvT (a, b, c, d, ()) f) = false -> ((rvC (a, b, c, d, ()) != rvC (a, b, c, d, ())) = true -> (false, ()) = (true, ()) /\ () = ()) /\ ((rvC (a, b, c, d, ()) != rvC (a, b, c, d, ())) = false -> 4 <= (4) /\ true = true /\ ((1 : Int) = 1 /\ smallD (markL markI (3 : Int) (rvD (a, b, c, d, ()) f).fst.length (1 : Int), markL markS (2 : Int) (rvD (a, b, c, d, ()) f).snd.fst.length (atD (3 : Int) (1 : Int) (rvD (a, b, c, d, ()) f).fst.length), markL markS (2 : Int) (rvD (a, b, c, d, ()) f).snd.snd.fst.length (atD (2 : Int) (atD (3 : Int) (1 : Int) (rvD (a, b, c, d, ()) f).fst.length) (rvD (a, b, c, d, ()) f).snd.fst.length), (rvD (a, b, c, d, ()) f).snd.snd.snd.fst, ())) /\ (decide (heldD (markL markI (3 : Int) (rvD (a, b, c, d, ()) f).fst.length (1 : Int), markL markS (2 : Int) (rvD (a, b, c, d, ()) f).snd.fst.length (atD (3 : Int) (1 : Int) (rvD (a, b, c, d, ()) f).fst.length), markL markS (2 : Int) (rvD (a, b, c, d, ()) f).snd.snd.fst.length (atD (2 : Int) (atD (3 : Int) (1 : Int) (rvD (a, b, c, d, ()) f).fst.length) (rvD (a, b, c, d, ()) f).snd.fst.length), (rvD (a, b, c, d, ()) f).snd.snd.snd.fst, ()) (1 : Int) < (0 : Int)) = true -> (false, ()) = (true, ()) /\ () = ()) /\ (decide (heldD (markL markI (3 : Int) (rvD (a, b, c, d, ()) f).fst.length (1 : Int), markL markS (2 : Int) (rvD (a, b, c, d, ()) f).snd.fst.length (atD (3 : Int) (1 : Int) (rvD (a, b, c, d, ()) f).fst.length), markL markS (2 : Int) (rvD (a, b, c, d, ()) f).snd.snd.fst.length (atD (2 : Int) (atD (3 : Int) (1 : Int) (rvD (a, b, c, d, ()) f).fst.length) (rvD (a, b, c, d, ()) f).snd.fst.length), (rvD (a, b, c, d, ()) f).snd.snd.snd.fst, ()) (1 : Int) < (0 : Int)) = false -> ((heldD (markL markI (3 : Int) (rvD (a, b, c, d, ()) f).fst.length (1 : Int), markL markS (2 : Int) (rvD (a, b, c, d, ()) f).snd.fst.length (atD (3 : Int) (1 : Int) (rvD (a, b, c, d, ()) f).fst.length), markL markS (2 : Int) (rvD (a, b, c, d, ()) f).snd.snd.fst.length (atD (2 : Int) (atD (3 : Int) (1 : Int) (rvD (a, b, c, d, ()) f).fst.length) (rvD (a, b, c, d, ()) f).snd.fst.length), (rvD (a, b, c, d, ()) f).snd.snd.snd.fst, ()) (1 : Int) != atD (2 : Int) (atD (2 : Int) (atD (3 : Int) (1 : Int) (rvD (a, b, c, d, ()) f).fst.length) (rvD (a, b, c, d, ()) f).snd.fst.length) (rvD (a, b, c, d, ()) f).snd.snd.fst.length) = true -> (false, ()) = (true, ()) /\ () = ()) /\ ((heldD (markL markI (3 : Int) (rvD (a, b, c, d, ()) f).fst.length (1 : Int), markL markS (2 : Int) (rvD (a, b, c, d, ()) f).snd.fst.length (atD (3 : Int) (1 : Int) (rvD (a, b, c, d, ()) f).fst.length), markL markS (2 : Int) (rvD (a, b, c, d, ()) f).snd.snd.fst.length (atD (2 : Int) (atD (3 : Int) (1 : Int) (rvD (a, b, c, d, ()) f).fst.length) (rvD (a, b, c, d, ()) f).snd.fst.length), (rvD (a, b, c, d, ()) f).snd.snd.snd.fst, ()) (1 : Int) != atD (2 : Int) (atD (2 : Int) (atD (3 : Int) (1 : Int) (rvD (a, b, c, d, ()) f).fst.length) (rvD (a, b, c, d, ()) f).snd.fst.length) (rvD (a, b, c, d, ()) f).snd.snd.fst.length) = false -> (true, ()) = (true, ()) /\ () = ())))) /\ ((rvT (a, b, c, d, ()) f != rvT (a, b, c, d, ()) f) = true -> (false, ()) = (true, ()) /\ () = ())) /\ ((!eqDisk ((rvD (a, b, c, d, ()) f).fst, (rvD (a, b, c, d, ()) f).snd.fst, (rvD (a, b, c, d, ()) f).snd.snd.fst, (rvD (a, b, c, d, ()) f).snd.snd.snd.fst, ()) ((rvD (a, b, c, d, ()) f).fst, (rvD (a, b, c, d, ()) f).snd.fst, (rvD (a, b, c, d, ()) f).snd.snd.fst, (rvD (a, b, c, d, ()) f).snd.snd.snd.fst, ())) = true -> (false, ()) = (true, ()) /\ () = ()))))) /\ ((rvT (a, b, c, d, ()) f != rvT (a, b, c, d, ()) f) = true -> (false, ()) = (true, ()) /\ () = ())) /\ ((!eqDisk ((rvD (a, b, c, d, ()) f).fst, (rvD (a, b, c, d, ()) f).snd.fst, (rvD (a, b, c, d, ()) f).snd.snd.fst, (rvD (a, b, c, d, ()) f).snd.snd.snd.fst, ()) ((rvD (a, b, c, d, ()) f).fst, (rvD (a, b, c, d, ()) f).snd.fst, (rvD (a, b, c, d, ()) f).snd.snd.fst, (rvD (a, b, c, d, ()) f).snd.snd.snd.fst, ())) = true -> (false, ()) = (true, ()) /\ () = ())) /\ (decide (atD (2 : Int) (atD (2 : Int) (atD (3 : Int) (1 : Int) (List.length a)) (List.length b)) (List.length c) < (0 : Int)) = true -> (false, ()) = (true, ()) /\ () = ())))) /\ ((rvT (a, b, c, d, ()) f != rvT (a, b, c, d, ()) f) = true -> (false, ()) = (true, ()) /\ () = ())) /\ ((!eqDisk ((rvD (a, b, c, d, ()) f).fst, (rvD (a, b, c, d, ()) f).snd.fst, (rvD (a, b, c, d, ()) f).snd.snd.fst, (rvD (a, b, c, d, ()) f).snd.snd.snd.fst, ()) ((rvD (a, b, c, d, ()) f).fst, (rvD (a, b, c, d, ()) f).snd.fst, (rvD (a, b, c, d, ()) f).snd.snd.fst, (rvD (a, b, c, d, ()) f).snd.snd.snd.fst, ())) = true -> (false, ()) = (true, ()) /\ () = ()))) (by kernel_rfl) ?_
 simp only [NS, eq_self, ne_eq, forall_const, implies_true, Nat.reduceAdd, Nat.reduceLeDiff, nz, Int.reduceEq, Nat.reduceEqDiff, reduceCtorEq]; try simp only [lenL]
 refine ⟨by constructor <;> decide, fun hs => ?_⟩
 have hS := sz_small hs
 have hT := small_rv (d := (a, b, c, d, ())) (f := f)
 generalize rvD (a, b, c, d, ()) f = g at *; obtain ⟨a', b', c', e', ⟨⟩⟩ := g; have em : heldD (markL markI 3 a'.length 1, markL markS 2 b'.length (atD 3 1 a'.length), markL markS 2 c'.length (atD 2 (atD 3 1 a'.length) b'.length), e', ()) 1 = markN (a', b', c', e', ()) := heldD_mark hT; have eg : smallD (markL markI 3 a'.length 1, markL markS 2 b'.length (atD 3 1 a'.length), markL markS 2 c'.length (atD 2 (atD 3 1 a'.length) b'.length), e', ()) := small_markD hT; simp only [eqDisk_self, em, eg, kOK_one, atD_kOK1 hS.1, atD_kOK1 hT.1, atD_kOK2 hS.1 hS.2.1, atD_kOK2 hT.1 hT.2.1, markN_pos hT, forall_const, true_and, and_true, Bool.true_eq_false, false_implies, not_false_eq_true, implies_true]
 exact ⟨fun _ => ⟨fun h => h rfl, fun _ h => h rfl⟩, fun h => markN_pos hS h⟩
end Go.Proofs.YtkdnelaoagmeaaaGreatDoor
namespace Go.Proofs.YtkdnelaoagmeaaaGreatDoor
open Go.Ab Go.Fn Go.ChangeShapes Go.WideShapes Go.ChangeAt Go.RowKit
theorem bulk {H : Type} : Bulk (Rows.uptoBulk (H := H)) Rows.uptoBulkAll := by
 constructor <;> intros <;> simp [Rows.uptoBulk, Rows.uptoBulkAll]
theorem own : ownKnob Tryz.prog.godebug = none := by kernel_rfl
def valsOf : Nat -> DataW Unit -> List Value
 | _, .lit (.int k v) => [.int k v]
 | n + 1, .agg l => l.flatMap (valsOf n)
 | _, _ => []
def layAt (h : Array _root_.Go.Obj) (b : Nat) (d : DataW Unit) : Array _root_.Go.Obj := h.modify b fun
 | .cells _ t frozen => .cells (valsOf 3 d).toArray t frozen
 | o => o
noncomputable def laidWorld (os : Os) : World :=
 { World.holding Tryz.prog os ⟨#[], #[], []⟩ with heap := layAt (layAt (layAt (layAt (layAt (World.holding Tryz.prog os ⟨#[], #[], []⟩).heap 6 Rows.laid_math_bits_deBruijn32tab) 7 Rows.laid_math_bits_deBruijn64tab) 3 Rows.laid_internal_strconv_uint64pow10) 5 Rows.laid_unicode_utf8_acceptRanges) 4 Rows.laid_unicode_utf8_first }
theorem laid_met (os : Os) : laidMet Tryz.prog Rows.fnExactRecoverUptoRow.laid ((laidWorld os).forCall (fun _ _ => 0) ⟨#[], #[.agg #[.slice none 0 0, .slice none 0 0, .slice none 0 0, .int .i64 0], .int .i64 0], []⟩).memory :=
 laidMet_of_run3 8 (by kernel_rfl) (by kernel_rfl) (by kernel_rfl)
theorem reads (os : Os) {H : Type} (enc : TypeId × Value -> H) : ∃ places, DataW.whole enc Tryz.prog ((laidWorld os).forCall (fun _ _ => 0) ⟨#[], #[.agg #[.slice none 0 0, .slice none 0 0, .slice none 0 0, .int .i64 0], .int .i64 0], []⟩).memory Tryz.f3.params.toList Rows.fnExactRecoverSpec.vars false (#[.agg #[.slice none 0 0, .slice none 0 0, .slice none 0 0, .int .i64 0], .int .i64 0] : Array Value).toList 8 = some ([.agg [.nil, .nil, .nil, .lit (.int .i64 0)], .lit (.int .i64 0)], [], places) :=
 ⟨[], by kernel_rfl⟩
set_option maxRecDepth 100000 in
theorem fnExactRecover_lifted (os : Os) (started : os.Started) (H : Type) (enc : TypeId × Value -> H) (F : Stop.Interp) :
   ReturnsInHanded {} Tryz.checked os 3 .any ((Rows.OpenSpec.upto Rows.fnExactRecoverSpec).preRow enc Tryz.prog Tryz.f3 Rows.fnExactRecoverUptoRow.domain false Rows.fnExactRecoverUptoRow.laid) (((Rows.OpenSpec.upto Rows.fnExactRecoverSpec).at F).post enc Tryz.prog Tryz.f3 false true false false) := by
 obtain ⟨places, hx⟩ := reads os enc
 refine returnsInHanded_of_row (C := Tryz.checked) (s := Rows.OpenSpec.upto Rows.fnExactRecoverSpec) own started (by kernel_rfl) Tryz.func3
   (witness_row_at (enc := enc) (C := Tryz.checked) false (laidWorld os) #[.agg #[.slice none 0 0, .slice none 0 0, .slice none 0 0, .int .i64 0], .int .i64 0] rfl (by kernel_rfl) (by kernel_rfl) (by kernel_rfl)
     (OpenSpec.preRow_of_cond 8 hx (by kernel_rfl) (fun k hk => by cases hk; kernel_rfl) (by kernel_rfl) (laid_met os))) ?_
 intro W base args ds gs before hval hW _ hk _ hL _ _
 have hT : tabP W := tab_head (met_tail (met_tail hL))
 refine law_contractT bulk ft_law_FnExactRecover (by kernel_rfl) rfl ?_ (tb := 4) rfl (by kernel_rfl) hT (fun b hb => tab_lt hT (show b < 3 + 1 from hb)) (tabT [] []) hval hW (of_decide_eq_true (hk _ rfl))
 intro ds hl
 match ds, hl with
 | [_, _], _ => rfl
theorem and_of {a b : Bool} (ha : a = true) (hb : b = true) : (a && b) = true := by rw [ha, hb]; rfl
theorem fnExactRecover_closed : joinedFacts Tryz.pinned.checked.prog 3 Tryz.f3 (Rows.OpenSpec.upto Rows.fnExactRecoverSpec).bare Rows.fnExactRecoverUptoRow = true := by
 unfold joinedFacts
 repeat' with_reducible apply and_of
 all_goals decide +kernel
theorem fnExactRecover_inst : Func.isInstance Tryz.pinned.checked.prog Tryz.f3 Rows.fnExactRecoverUptoRow.origin Rows.fnExactRecoverUptoRow.targs := of_decide_eq_true (by kernel_rfl)
theorem fnExactRecover_wrap : Func.isWrapper Tryz.pinned.checked.prog Tryz.f3 Rows.fnExactRecoverUptoRow.wrapper Rows.fnExactRecoverUptoRow.mainSum := by unfold Func.isWrapper; first | (rw [if_pos (by decide +kernel)]; kernel_rfl) | (rw [if_neg (by decide +kernel)]; exact ⟨rfl, rfl⟩)
theorem fnExactRecover_said : Rows.FnExactRecoverUptoSaid :=
 OpenClaim.holds_of_cond 3 Tryz.f3 rfl rfl rfl rfl rfl rfl rfl ⟨rfl, rfl, rfl, rfl, rfl⟩ rfl rfl rfl rfl rfl (by kernel_rfl) Tryz.func3 fnExactRecover_closed fnExactRecover_inst fnExactRecover_wrap
   (fun os started H enc _ F => by rw [OpenClaim.pre_eq_preRow]; exact fnExactRecover_lifted os started H enc F)
theorem noStandIn : (Tryz.f3.params.toList.all fun t => !(Tryz.pinned.checked.prog.wantsStandIn t)) = true := by kernel_rfl
theorem fnExactRecover_plain (f : FuncId) (fn : Func) (hf : Tryz.pinned.checked.prog.funcNamed "loop.example/g00798/laws.FnExactRecover" = some f) (hfn : Tryz.pinned.checked.prog.funcs[f]? = some fn) :
   true = Tryz.pinned.checked.prog.looks [] /\ ∀ (j : Nat) t, fn.params[j]? = some t -> Tryz.pinned.checked.prog.wantsStandIn t = false := by
 obtain rfl : f = 3 := Option.some.inj ((show Tryz.prog.funcNamed "loop.example/g00798/laws.FnExactRecover" = some 3 by kernel_rfl).symm.trans hf) |>.symm
 obtain rfl : fn = Tryz.f3 := (Option.some.inj (Tryz.func3.symm.trans hfn)).symm
 refine ⟨by kernel_rfl, fun j t ht => ?_⟩
 have h := List.all_eq_true.1 noStandIn t (by simpa using Array.mem_of_getElem? ht)
 simpa using h
theorem fnExactRecover_holds : Rows.FnExactRecoverUptoCardSaid :=
 Claim7.holds_tied_plain_at .later [] _ _ _ _ fnExactRecover_said (fun _ h => by cases h) (by kernel_rfl) (fun _ h => by cases h) fnExactRecoverUpto_row_tie rfl ⟨rfl, rfl⟩ (by kernel_rfl) rfl fnExactRecover_plain (by kernel_rfl)
end Go.Proofs.YtkdnelaoagmeaaaGreatDoor
