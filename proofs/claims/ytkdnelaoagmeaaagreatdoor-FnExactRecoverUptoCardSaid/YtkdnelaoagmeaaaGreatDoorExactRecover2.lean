/- Every function that the law FnExactRecover reaches does what its specification (a function on plain data) says; the law answers true wherever what it reads is of bulk at most 1048576. Conditions: that bound. -/
import Derived.Test.YtkdnelaoagmeaaaGreatDoorAb2
import Derived.Deep.DeepHandedRow
import Derived.Deep.DeepLaidRun
import Derived.Laws.BitsLemmas
import Derived.Lib.Bytealg
import Derived.Lib.ItoaLen
import Derived.Lib.ItoaMem
import Derived.Lib.Join
import Derived.Lib.LaidTab
import Derived.OpenShut
import Derived.ProofKit
import Derived.Shelf.GgSortFunc.RowK
import Derived.Shelf.LaysC
import Derived.Shelf.LaysM
import Derived.Shelf.SlLaysF0
import Derived.Shelf.SlLaysM
import Derived.Shelf.SlLaysN
import Derived.Shelf.SlicesG.CompactS
import Derived.Shelf.SortM.Plain
import Derived.Shelf.SortM.SortNone
import Derived.Shelf.Strconv.AtoiAll
import Derived.Shelf.Strconv.Itoa3
import Derived.Shelf.Strings.OnBuilder
import Derived.Sort.Walk0
import Derived.Test.YtkdnelaoagmeaaaGreatDoorCards
import Derived.Test.YtkdnelaoagmeaaaGreatDoorRows
import Derived.Test.YtkdnelaoagmeaaaGreatDoorTie
import Derived.WalkKit
import Derived.Test.YtkdnelaoagmeaaaGreatDoorExactRecover1
set_option autoImplicit true
set_option relaxedAutoImplicit true
set_option maxHeartbeats 4000000
set_option maxRecDepth 4000
set_option linter.unusedVariables false
set_option linter.unusedSimpArgs false
namespace Go.Proofs.YtkdnelaoagmeaaaGreatDoor
open Go.Ab Go.Fn
def s_l11Slots : FSpec := { ps := [.v tDisk, .v (.slice tSlot)], rs := [.v .bool], pre := fun x => True, fn := fun x => (Fn.slotsOK24 x.1.1 x.2.1, ()), upd := fun _ => () }
theorem fo_l11Slots : FO 94 s_l11Slots := by
 refine fo (specs := [(161, s_NameOK), (162, s_inode)]) (clos := []) (fun x => [(4, .lv [1, 2, 5] <| fun _ => L_slotsOK x.1.1 x.2.1 5), (1000006, .lv [1, 2, 5, 49] <| .ofCut fun s => [(49, .d .bool (Fn.badSlotAt x.1.1 x.2.1 (s.tI 5)))])]) ⟨fo_l00Word, fo_l11Inode, trivial⟩ trivial Tryz.func94 rfl rfl ?_
 rintro ⟨⟨a, b, c, d, ⟨⟩⟩, l, ⟨⟩⟩ -
 refine vcOf (fits (lenL l) -> (decide (iOf (lenL l) > (24 : Int)) = true -> (false, ()) = (slotsOK24 a l, ()) /\ () = ()) /\ (decide (iOf (lenL l) > (24 : Int)) = false -> (∃ (i : Nat), (i <= List.length l /\ ∀ (j : Nat) (s : Slot), j < i -> l[j]? = some s -> (!badSlot a l (Int.ofNat j) s.fst s.snd.fst) = true) /\ (l = l /\ (0 = 0 /\ (0 : Nat) = 0) /\ (0 : Int) = Int.ofNat i /\ True) /\ ((a = a /\ b = b /\ c = c /\ d = d /\ True) /\ True) /\ True) /\ ∀ (i : Nat), (i <= List.length l /\ ∀ (j : Nat) (s : Slot), j < i -> l[j]? = some s -> (!badSlot a l (Int.ofNat j) s.fst s.snd.fst) = true) -> fits (lenL l) -> (decide (Int.ofNat i < iOf (lenL l)) = true -> (bnd (Int.ofNat i) (lenL l) /\ ∀ (x : List UInt8 × Int × Unit), nthI l (Int.ofNat i) = some x -> 1 <= Nat.succ (1) /\ true = true /\ True /\ ((!nameOK x.fst) = false -> (decide (Int.ofNat i > (0 : Int)) = true -> bnd (Int.ofNat i) (lenL l) /\ ∀ (x : List UInt8 × Int × Unit), nthI l (Int.ofNat i) = some x -> 1 <= Nat.succ (1) /\ bnd (wSub .i64 (Int.ofNat i) (1 : Int)) (lenL l) /\ ∀ (x_1 : List UInt8 × Int × Unit), nthI l (wSub .i64 (Int.ofNat i) (1 : Int)) = some x_1 -> 1 <= Nat.succ (1) /\ ((Op.bytesLess x.fst x_1.fst || x.fst == x_1.fst) = false -> 4 <= (4) /\ bnd (Int.ofNat i) (lenL l) /\ ∀ (x : List UInt8 × Int × Unit), nthI l (Int.ofNat i) = some x -> 1 <= 1 /\ true = true /\ True /\ (l = l /\ (0 = 0 /\ (0 : Nat) = 0) /\ Int.ofNat i = Int.ofNat i /\ decide (inodeAt a x.snd.fst < (0 : Int)) = badSlotAt a l (Int.ofNat i) /\ True) /\ ((a = a /\ b = b /\ c = c /\ d = d /\ True) /\ True) /\ True) /\ ((Op.bytesLess x.fst x_1.fst || x.fst == x_1.fst) = true -> (l = l /\ (0 = 0 /\ (0 : Nat) = 0) /\ Int.ofNat i = Int.ofNat i /\ true = badSlotAt a l (Int.ofNat i) /\ True) /\ ((a = a /\ b = b /\ c = c /\ d = d /\ True) /\ True) /\ True)) /\ (decide (Int.ofNat i > (0 : Int)) = false -> 4 <= (4) /\ bnd (Int.ofNat i) (lenL l) /\ ∀ (x : List UInt8 × Int × Unit), nthI l (Int.ofNat i) = some x -> 1 <= 1 /\ true = true /\ True /\ (l = l /\ (0 = 0 /\ (0 : Nat) = 0) /\ Int.ofNat i = Int.ofNat i /\ decide (inodeAt a x.snd.fst < (0 : Int)) = badSlotAt a l (Int.ofNat i) /\ True) /\ ((a = a /\ b = b /\ c = c /\ d = d /\ True) /\ True) /\ True)) /\ ((!nameOK x.fst) = true -> (l = l /\ (0 = 0 /\ (0 : Nat) = 0) /\ Int.ofNat i = Int.ofNat i /\ true = badSlotAt a l (Int.ofNat i) /\ True) /\ ((a = a /\ b = b /\ c = c /\ d = d /\ True) /\ True) /\ True)) /\ (badSlotAt a l (Int.ofNat i) = true -> (false, ()) = (slotsOK24 a l, ()) /\ () = ()) /\ (badSlotAt a l (Int.ofNat i) = false -> ∃ (j : Nat), (j <= List.length l /\ ∀ (j_1 : Nat) (s : Slot), j_1 < j -> l[j_1]? = some s -> (!badSlot a l (Int.ofNat j_1) s.fst s.snd.fst) = true) /\ (List.length l).sub j < (List.length l).sub i /\ (l = l /\ (0 = 0 /\ (0 : Nat) = 0) /\ wAdd .i64 (Int.ofNat i) (1 : Int) = Int.ofNat j /\ True) /\ ((a = a /\ b = b /\ c = c /\ d = d /\ True) /\ True) /\ True)) /\ (decide (Int.ofNat i < iOf (lenL l)) = false -> (true, ()) = (slotsOK24 a l, ()) /\ () = ()))) (by kernel_rfl) ?_
 simp only [NS, eq_self, ne_eq, forall_const, implies_true, Nat.reduceAdd, Nat.reduceLeDiff, nz, Int.reduceEq, Nat.reduceEqDiff, reduceCtorEq]; try simp only [lenL]
 refine fun hf => ⟨fun h => slots24_long h, fun h24 => ⟨⟨0, ⟨Nat.zero_le _, fun j c hj => absurd hj (Nat.not_lt_zero _)⟩, rfl⟩, fun k ⟨hk, hi⟩ _ => ⟨fun hlt => ⟨⟨hlt, fun x hx => ?_⟩, fun h => ?_, fun h => ?_⟩, fun hge => ?_⟩⟩⟩
 · have hf' : l.length < 1099511627776 := hf
   have e0 : badSlotAt a l (Int.ofNat k) = badSlot a l (Int.ofNat k) x.1 x.2.1 := by unfold badSlotAt; rw [nthI_nat, hx]
   rw [e0]
   refine ⟨fun h1 => ⟨fun h2 => ⟨hlt, fun x' hx' => ?_⟩, fun h2 => ⟨hlt, fun x' hx' => ?_⟩⟩, fun h1 => ?_⟩
   · rw [hx] at hx'; cases hx'
     have hk0 : 0 < k := by simpa using h2
     rw [dec_in hk0 (by omega)]
     refine ⟨bnd_pred hk0 hk, fun y hy => ?_⟩
     have e : prevSlot l (Int.ofNat k) x.1 = leS x.1 y.1 := by unfold prevSlot; rw [hy]
     unfold badSlot
     rw [h1, e, decide_eq_true h2]
     unfold leS
     refine ⟨fun h => ⟨hlt, fun x' hx' => ?_⟩, fun h => by rw [h]; simp⟩
     rw [hx] at hx'; cases hx'
     rw [h]; simp
   · rw [hx] at hx'; cases hx'
     unfold badSlot; rw [h1, decide_eq_false h2]; simp
   · unfold badSlot; rw [h1]; simp
 · have hx := List.getElem?_eq_getElem hlt
   have e0 : badSlotAt a l (Int.ofNat k) = badSlot a l (Int.ofNat k) l[k].1 l[k].2.1 := by unfold badSlotAt; rw [nthI_nat, hx]
   unfold slotsOK24; rw [<- slotsOK_bad hx (e0 ▸ h), Bool.and_false]
 · have hx := List.getElem?_eq_getElem hlt
   have e0 : badSlotAt a l (Int.ofNat k) = badSlot a l (Int.ofNat k) l[k].1 l[k].2.1 := by unfold badSlotAt; rw [nthI_nat, hx]
   exact ⟨k + 1, ⟨hlt, below_succ2 (P := fun j (s : Fn.Slot) => badSlot a l (Int.ofNat j) s.1 s.2.1 = false) hi hx (e0 ▸ h)⟩, by omega, inc_in hf hk⟩
 · unfold slotsOK24; rw [<- slotsOK_end hi hge, decide_eq_true (p := (l.length : Int) <= 24) (Int.not_lt.1 h24)]; rfl
end Go.Proofs.YtkdnelaoagmeaaaGreatDoor
namespace Go.Proofs.YtkdnelaoagmeaaaGreatDoor
open Go.Ab Go.Fn
def s_l11Tidy : FSpec := { ps := [.v tDisk], rs := [.o tDisk], pre := fun x => True, fn := fun x => (Fn.tidy x.1, ()), upd := fun _ => () }
def L_tidy (d : Fn.Disk) : LoopAnn := { ι := Nat, inv := fun k => k <= d.1.length, slots := fun k => [(3, .os 2), (4, .d I (Int.ofNat k))], objs := fun k => [(2, .arr tInode (Fn.tidyTo d k) false)], μ := fun k => d.1.length - k }
def L_tidyNow (d : Fn.Disk) (i : Int) : LoopAnn := { ι := Nat, inv := fun k => k <= d.2.1.length, slots := fun k => [(6, .d I (Int.ofNat k)), (5, .d .bool (Fn.has (d.2.1.take k) (Fn.idAt d.1 i)))], objs := fun k => [], μ := fun k => d.2.1.length - k }
def L_tidySafe (d : Fn.Disk) (i : Int) : LoopAnn := { ι := Nat, inv := fun k => k <= d.2.2.1.length, slots := fun k => [(7, .d I (Int.ofNat k)), (5, .d .bool (Fn.orB (Fn.has d.2.1 (Fn.idAt d.1 i)) (Fn.has (d.2.2.1.take k) (Fn.idAt d.1 i))))], objs := fun k => [], μ := fun k => d.2.2.1.length - k }
theorem fo_l11Tidy : FO 43 s_l11Tidy := by
 refine fo (specs := []) (clos := []) (fun x => [(3, .lv [1, 2, 3, 4] <| fun _ => L_tidy x.1), (7, .lv [1, 2, 3, 4, 5, 6] <| fun s => L_tidyNow x.1 (s.tI 4)), (11, .lv [1, 2, 3, 4, 5, 7] <| fun s => L_tidySafe x.1 (s.tI 4))]) trivial trivial Tryz.func43 rfl rfl ?_
 rintro ⟨⟨a, b, c, d, ⟨⟩⟩, ⟨⟩⟩ -
 refine vcOf ((∃ (i : Nat), i <= List.length a /\ ((0 = 0 /\ (0 : Nat) = 0) /\ (1 = 1 /\ (0 : Nat) = 0) /\ 2 = (2 : Nat) /\ (0 : Int) = Int.ofNat i /\ True) /\ ((a = a /\ b = b /\ c = c /\ d = d /\ True) /\ (true = true /\ true = true /\ true = true /\ (0 : (Ty.int .i64).den) = (0 : (Ty.int .i64).den) /\ True) /\ (([] : List (Int × List UInt8 × Bool × Unit)) = tidyTo (a, b, c, d, ()) i /\ false = false) /\ True) /\ True) /\ ∀ (i : Nat), i <= List.length a -> 1 <= (4) /\ (fits (lenL a) -> (decide (Int.ofNat i < iOf (lenL a)) = true -> (∃ (i_1 : Nat), i_1 <= List.length b /\ ((0 = 0 /\ (0 : Nat) = 0) /\ (1 = 1 /\ (0 : Nat) = 0) /\ (2 : Nat) = 2 /\ Int.ofNat i = Int.ofNat i /\ false = has (List.take i_1 b) (idAt a (Int.ofNat i)) /\ (0 : Int) = Int.ofNat i_1 /\ True) /\ ((a = a /\ b = b /\ c = c /\ d = d /\ True) /\ (true = true /\ true = true /\ true = true /\ (0 : (Ty.int .i64).den) = (0 : (Ty.int .i64).den) /\ True) /\ (tidyTo (a, b, c, d, ()) i = tidyTo (a, b, c, d, ()) i /\ false = false) /\ True) /\ True) /\ ∀ (i_1 : Nat), i_1 <= List.length b -> 2 <= (4) /\ (fits (lenL b) -> (decide (Int.ofNat i_1 < iOf (lenL b)) = true -> (has (List.take i_1 b) (idAt a (Int.ofNat i)) = false -> 2 <= (4) /\ bnd (Int.ofNat i_1) (lenL b) /\ ∀ (x : List UInt8 × Int × Unit), nthI b (Int.ofNat i_1) = some x -> 1 <= 1 /\ 1 <= (4) /\ bnd (Int.ofNat i) (lenL a) /\ ∀ (x_1 : Int × List UInt8 × Bool × Unit), nthI a (Int.ofNat i) = some x_1 -> 1 <= (3) /\ ∃ (j : Nat), j <= List.length b /\ (List.length b).sub j < (List.length b).sub i_1 /\ ((0 = 0 /\ (0 : Nat) = 0) /\ (1 = 1 /\ (0 : Nat) = 0) /\ (2 : Nat) = 2 /\ Int.ofNat i = Int.ofNat i /\ (x.snd.fst == x_1.fst) = has (List.take j b) (idAt a (Int.ofNat i)) /\ wAdd .i64 (Int.ofNat i_1) (1 : Int) = Int.ofNat j /\ True) /\ ((a = a /\ b = b /\ c = c /\ d = d /\ True) /\ (true = true /\ true = true /\ true = true /\ (0 : (Ty.int .i64).den) = (0 : (Ty.int .i64).den) /\ True) /\ (tidyTo (a, b, c, d, ()) i = tidyTo (a, b, c, d, ()) i /\ false = false) /\ True) /\ True) /\ (has (List.take i_1 b) (idAt a (Int.ofNat i)) = true -> ∃ (j : Nat), j <= List.length b /\ (List.length b).sub j < (List.length b).sub i_1 /\ ((0 = 0 /\ (0 : Nat) = 0) /\ (1 = 1 /\ (0 : Nat) = 0) /\ (2 : Nat) = 2 /\ Int.ofNat i = Int.ofNat i /\ true = has (List.take j b) (idAt a (Int.ofNat i)) /\ wAdd .i64 (Int.ofNat i_1) (1 : Int) = Int.ofNat j /\ True) /\ ((a = a /\ b = b /\ c = c /\ d = d /\ True) /\ (true = true /\ true = true /\ true = true /\ (0 : (Ty.int .i64).den) = (0 : (Ty.int .i64).den) /\ True) /\ (tidyTo (a, b, c, d, ()) i = tidyTo (a, b, c, d, ()) i /\ false = false) /\ True) /\ True)) /\ (decide (Int.ofNat i_1 < iOf (lenL b)) = false -> (∃ (i_2 : Nat), i_2 <= List.length c /\ ((0 = 0 /\ (0 : Nat) = 0) /\ (1 = 1 /\ (0 : Nat) = 0) /\ (2 : Nat) = 2 /\ Int.ofNat i = Int.ofNat i /\ has (List.take i_1 b) (idAt a (Int.ofNat i)) = orB (has b (idAt a (Int.ofNat i))) (has (List.take i_2 c) (idAt a (Int.ofNat i))) /\ (0 : Int) = Int.ofNat i_2 /\ True) /\ ((a = a /\ b = b /\ c = c /\ d = d /\ True) /\ (true = true /\ true = true /\ true = true /\ (0 : (Ty.int .i64).den) = (0 : (Ty.int .i64).den) /\ True) /\ (tidyTo (a, b, c, d, ()) i = tidyTo (a, b, c, d, ()) i /\ false = false) /\ True) /\ True) /\ ∀ (i_2 : Nat), i_2 <= List.length c -> 3 <= (4) /\ (fits (lenL c) -> (decide (Int.ofNat i_2 < iOf (lenL c)) = true -> (orB (has b (idAt a (Int.ofNat i))) (has (List.take i_2 c) (idAt a (Int.ofNat i))) = false -> 3 <= (4) /\ bnd (Int.ofNat i_2) (lenL c) /\ ∀ (x : List UInt8 × Int × Unit), nthI c (Int.ofNat i_2) = some x -> 1 <= 1 /\ 1 <= (4) /\ bnd (Int.ofNat i) (lenL a) /\ ∀ (x_1 : Int × List UInt8 × Bool × Unit), nthI a (Int.ofNat i) = some x_1 -> 1 <= (3) /\ ∃ (j : Nat), j <= List.length c /\ (List.length c).sub j < (List.length c).sub i_2 /\ ((0 = 0 /\ (0 : Nat) = 0) /\ (1 = 1 /\ (0 : Nat) = 0) /\ (2 : Nat) = 2 /\ Int.ofNat i = Int.ofNat i /\ (x.snd.fst == x_1.fst) = orB (has b (idAt a (Int.ofNat i))) (has (List.take j c) (idAt a (Int.ofNat i))) /\ wAdd .i64 (Int.ofNat i_2) (1 : Int) = Int.ofNat j /\ True) /\ ((a = a /\ b = b /\ c = c /\ d = d /\ True) /\ (true = true /\ true = true /\ true = true /\ (0 : (Ty.int .i64).den) = (0 : (Ty.int .i64).den) /\ True) /\ (tidyTo (a, b, c, d, ()) i = tidyTo (a, b, c, d, ()) i /\ false = false) /\ True) /\ True) /\ (orB (has b (idAt a (Int.ofNat i))) (has (List.take i_2 c) (idAt a (Int.ofNat i))) = true -> ∃ (j : Nat), j <= List.length c /\ (List.length c).sub j < (List.length c).sub i_2 /\ ((0 = 0 /\ (0 : Nat) = 0) /\ (1 = 1 /\ (0 : Nat) = 0) /\ (2 : Nat) = 2 /\ Int.ofNat i = Int.ofNat i /\ true = orB (has b (idAt a (Int.ofNat i))) (has (List.take j c) (idAt a (Int.ofNat i))) /\ wAdd .i64 (Int.ofNat i_2) (1 : Int) = Int.ofNat j /\ True) /\ ((a = a /\ b = b /\ c = c /\ d = d /\ True) /\ (true = true /\ true = true /\ true = true /\ (0 : (Ty.int .i64).den) = (0 : (Ty.int .i64).den) /\ True) /\ (tidyTo (a, b, c, d, ()) i = tidyTo (a, b, c, d, ()) i /\ false = false) /\ True) /\ True)) /\ (decide (Int.ofNat i_2 < iOf (lenL c)) = false -> (orB (has b (idAt a (Int.ofNat i))) (has (List.take i_2 c) (idAt a (Int.ofNat i))) = true -> 1 <= (4) /\ bnd (Int.ofNat i) (lenL a) /\ ∀ (x : Int × List UInt8 × Bool × Unit), nthI a (Int.ofNat i) = some x -> 3 <= (3) /\ fits (lenL (tidyTo (a, b, c, d, ()) i) + lenL ((x.fst, x.snd.fst, x.snd.snd.fst, ()) :: ([] : List (Int × List UInt8 × Bool × Unit)))) /\ ∃ (j : Nat), j <= List.length a /\ (List.length a).sub j < (List.length a).sub i /\ ((0 = 0 /\ (0 : Nat) = 0) /\ (1 = 1 /\ (0 : Nat) = 0) /\ (2 : Nat) = 2 /\ wAdd .i64 (Int.ofNat i) (1 : Int) = Int.ofNat j /\ True) /\ ((a = a /\ b = b /\ c = c /\ d = d /\ True) /\ (true = true /\ true = true /\ true = true /\ (0 : (Ty.int .i64).den) = (0 : (Ty.int .i64).den) /\ True) /\ (tidyTo (a, b, c, d, ()) i ++ (x.fst, x.snd.fst, x.snd.snd.fst, ()) :: ([] : List (Int × List UInt8 × Bool × Unit)) = tidyTo (a, b, c, d, ()) j /\ false = false) /\ True) /\ True) /\ (orB (has b (idAt a (Int.ofNat i))) (has (List.take i_2 c) (idAt a (Int.ofNat i))) = false -> ∃ (j : Nat), j <= List.length a /\ (List.length a).sub j < (List.length a).sub i /\ ((0 = 0 /\ (0 : Nat) = 0) /\ (1 = 1 /\ (0 : Nat) = 0) /\ (2 : Nat) = 2 /\ wAdd .i64 (Int.ofNat i) (1 : Int) = Int.ofNat j /\ True) /\ ((a = a /\ b = b /\ c = c /\ d = d /\ True) /\ (true = true /\ true = true /\ true = true /\ (0 : (Ty.int .i64).den) = (0 : (Ty.int .i64).den) /\ True) /\ (tidyTo (a, b, c, d, ()) i = tidyTo (a, b, c, d, ()) j /\ false = false) /\ True) /\ True)))))) /\ (decide (Int.ofNat i < iOf (lenL a)) = false -> 2 <= (4) /\ 3 <= (4) /\ 4 <= (4) /\ ((fits (lenL b) -> fits (lenL c) -> 4 <= 4 /\ ((tidyTo (a, b, c, d, ()) i, b, c, d, ()), ()) = (tidy (a, b, c, d, ()), ()) /\ () = ()) /\ (fits (lenL b) -> fits (lenL c) -> 4 <= 4 /\ ((tidyTo (a, b, c, d, ()) i, b, c, d, ()), ()) = (tidy (a, b, c, d, ()), ()) /\ () = ())) /\ (fits (lenL b) -> fits (lenL c) -> 4 <= 4 /\ ((tidyTo (a, b, c, d, ()) i, b, c, d, ()), ()) = (tidy (a, b, c, d, ()), ()) /\ () = ())))) (by kernel_rfl) ?_
 simp only [NS, eq_self, ne_eq, forall_const, implies_true, Nat.reduceAdd, Nat.reduceLeDiff, nz, Int.reduceEq, Nat.reduceEqDiff, reduceCtorEq]; try simp only [lenL]
 refine ⟨⟨0, Nat.zero_le _, rfl, rfl⟩, fun i hi hf => ⟨fun hlt => ⟨⟨0, Nat.zero_le _, rfl, rfl⟩, fun j hj hfb => ⟨fun hjb => ⟨fun hn => ⟨hjb, fun y hy => ⟨hlt, fun x hx => ⟨j + 1, hjb, by omega, ?_, inc_in hfb hj⟩⟩⟩, fun hn => ⟨j + 1, hjb, by omega, ?_, inc_in hfb hj⟩⟩, fun hje => ⟨⟨0, Nat.zero_le _, ?_, rfl⟩, fun m hm hfc => ⟨fun hmc => ⟨fun hn => ⟨hmc, fun y hy => ⟨hlt, fun x hx => ⟨m + 1, hmc, by omega, ?_, inc_in hfc hm⟩⟩⟩, fun hn => ⟨m + 1, hmc, by omega, ?_, inc_in hfc hm⟩⟩, fun hme => ⟨fun hu => ⟨hlt, fun x hx => ⟨?_, i + 1, hlt, by omega, inc_in hf hi, ?_⟩⟩, fun hu => ⟨i + 1, hlt, by omega, inc_in hf hi, ?_⟩⟩⟩⟩⟩⟩, fun hie _ _ => ?_⟩⟩
 · rw [has_step hy, hn, idAt_eq hx, Bool.false_or, eqI_dec]
 · rw [has_more hjb, hn]; rfl
 · rw [has_end hje]; unfold orB; simp [has]
 · rw [has_step hy, <- orB_assoc, hn, idAt_eq hx, Bool.false_or, eqI_dec]
 · rw [has_more hmc, <- orB_assoc, hn]; rfl
 · exact tidy_fits hf hi hlt
 · rw [has_end hme, idAt_eq hx] at hu; exact (tidyTo_used (d := (a, b, c, d, ())) hx hu).symm
 · have hx := List.getElem?_eq_getElem hlt
   rw [has_end hme, idAt_eq hx] at hu; exact (tidyTo_not (d := (a, b, c, d, ())) hx hu).symm
 · exact tidyTo_end (d := (a, b, c, d, ())) hie
end Go.Proofs.YtkdnelaoagmeaaaGreatDoor
namespace Go.Proofs.YtkdnelaoagmeaaaGreatDoor
open Go.Ab Go.Fn
def L_l11OK (d : Fn.Disk) : LoopAnn := { ι := Nat, inv := fun k => k <= d.1.length /\ ∀ (j : Nat) (x : Fn.Inode), j < k -> d.1[j]? = some x -> Fn.badInode d (Int.ofNat j) x = false, slots := fun k => [(3, .d I (Int.ofNat k))], objs := fun _ => [], μ := fun k => d.1.length - k }
theorem fo_l11OK : FO 41 s_DiskOK := by
 refine fo (specs := [(93, s_within), (94, s_l11Slots), (43, s_l11Tidy)]) (clos := []) (fun x => [(4, .lv [1, 3] <| fun _ => L_l11OK x.1), (1000001, .lv [1, 14] <| .ofCut fun s => [(14, .d .bool (Fn.badHead2 x.1))]), (1000007, .lv [1, 3, 55] <| .ofCut fun s => [(55, .d .bool (Fn.badInode x.1 (s.tI 3) ((s.cellOf 4 0).getI, (s.cellOf 4 1).getS, (s.cellOf 4 2).getB, ())))])]) ⟨fo_l01In, fo_l11Slots, fo_l11Tidy, trivial⟩ trivial Tryz.func41 rfl rfl ?_
 rintro ⟨⟨a, b, c, d, ⟨⟩⟩, ⟨⟩⟩ -
 refine vcOf ((1 <= (4) /\ (fits (lenL a) -> (decide (iOf (lenL a) > (4096 : Int)) = false -> 4 <= (4) /\ true = true /\ True /\ ((0 = 0 /\ (0 : Nat) = 0) /\ (!within d (1 : Int) (1000000 : Int)) = badHead2 (a, b, c, d, ()) /\ True) /\ ((a = a /\ b = b /\ c = c /\ d = d /\ True) /\ True) /\ True) /\ (decide (iOf (lenL a) > (4096 : Int)) = true -> ((0 = 0 /\ (0 : Nat) = 0) /\ true = badHead2 (a, b, c, d, ()) /\ True) /\ ((a = a /\ b = b /\ c = c /\ d = d /\ True) /\ True) /\ True))) /\ (badHead2 (a, b, c, d, ()) = true -> (false, ()) = (diskOK (a, b, c, d, ()), ()) /\ () = ()) /\ (badHead2 (a, b, c, d, ()) = false -> (∃ (i : Nat), (i <= List.length a /\ ∀ (j : Nat) (x : Inode), j < i -> a[j]? = some x -> badInode (a, b, c, d, ()) (Int.ofNat j) x = false) /\ ((0 = 0 /\ (0 : Nat) = 0) /\ (0 : Int) = Int.ofNat i /\ True) /\ ((a = a /\ b = b /\ c = c /\ d = d /\ True) /\ True) /\ True) /\ ∀ (i : Nat), (i <= List.length a /\ ∀ (j : Nat) (x : Inode), j < i -> a[j]? = some x -> badInode (a, b, c, d, ()) (Int.ofNat j) x = false) -> 1 <= (4) /\ (fits (lenL a) -> (decide (Int.ofNat i < iOf (lenL a)) = true -> 1 <= (4) /\ bnd (Int.ofNat i) (lenL a) /\ ∀ (x : Int × List UInt8 × Bool × Unit), nthI a (Int.ofNat i) = some x -> 3 <= (3) /\ 3 <= 3 /\ (1 <= (3) /\ 4 <= (4) /\ true = true /\ True /\ ((!within x.fst (1 : Int) (wSub .i64 d (1 : Int))) = false -> 2 <= (3) /\ (fits (lenL x.snd.fst) -> (decide (iOf (lenL x.snd.fst) > (4096 : Int)) = false -> (decide (Int.ofNat i > (0 : Int)) = true -> 1 <= (3) /\ 1 <= (4) /\ bnd (wSub .i64 (Int.ofNat i) (1 : Int)) (lenL a) /\ ∀ (x_1 : Int × List UInt8 × Bool × Unit), nthI a (wSub .i64 (Int.ofNat i) (1 : Int)) = some x_1 -> 1 <= (3) /\ ((0 = 0 /\ (0 : Nat) = 0) /\ Int.ofNat i = Int.ofNat i /\ decide (x.fst <= x_1.fst) = badInode (a, b, c, d, ()) (Int.ofNat i) (x.fst, x.snd.fst, x.snd.snd.fst, ()) /\ True) /\ ((a = a /\ b = b /\ c = c /\ d = d /\ True) /\ (x.fst = x.fst /\ x.snd.fst = x.snd.fst /\ x.snd.snd.fst = x.snd.snd.fst /\ True) /\ True) /\ True) /\ (decide (Int.ofNat i > (0 : Int)) = false -> ((0 = 0 /\ (0 : Nat) = 0) /\ Int.ofNat i = Int.ofNat i /\ false = badInode (a, b, c, d, ()) (Int.ofNat i) (x.fst, x.snd.fst, x.snd.snd.fst, ()) /\ True) /\ ((a = a /\ b = b /\ c = c /\ d = d /\ True) /\ (x.fst = x.fst /\ x.snd.fst = x.snd.fst /\ x.snd.snd.fst = x.snd.snd.fst /\ True) /\ True) /\ True)) /\ (decide (iOf (lenL x.snd.fst) > (4096 : Int)) = true -> ((0 = 0 /\ (0 : Nat) = 0) /\ Int.ofNat i = Int.ofNat i /\ true = badInode (a, b, c, d, ()) (Int.ofNat i) (x.fst, x.snd.fst, x.snd.snd.fst, ()) /\ True) /\ ((a = a /\ b = b /\ c = c /\ d = d /\ True) /\ (x.fst = x.fst /\ x.snd.fst = x.snd.fst /\ x.snd.snd.fst = x.snd.snd.fst /\ True) /\ True) /\ True))) /\ ((!within x.fst (1 : Int) (wSub .i64 d (1 : Int))) = true -> ((0 = 0 /\ (0 : Nat) = 0) /\ Int.ofNat i = Int.ofNat i /\ true = badInode (a, b, c, d, ()) (Int.ofNat i) (x.fst, x.snd.fst, x.snd.snd.fst, ()) /\ True) /\ ((a = a /\ b = b /\ c = c /\ d = d /\ True) /\ (x.fst = x.fst /\ x.snd.fst = x.snd.fst /\ x.snd.snd.fst = x.snd.snd.fst /\ True) /\ True) /\ True)) /\ (badInode (a, b, c, d, ()) (Int.ofNat i) (x.fst, x.snd.fst, x.snd.snd.fst, ()) = true -> (false, ()) = (diskOK (a, b, c, d, ()), ()) /\ () = ()) /\ (badInode (a, b, c, d, ()) (Int.ofNat i) (x.fst, x.snd.fst, x.snd.snd.fst, ()) = false -> ∃ (j : Nat), (j <= List.length a /\ ∀ (j_1 : Nat) (x : Inode), j_1 < j -> a[j_1]? = some x -> badInode (a, b, c, d, ()) (Int.ofNat j_1) x = false) /\ (List.length a).sub j < (List.length a).sub i /\ ((0 = 0 /\ (0 : Nat) = 0) /\ wAdd .i64 (Int.ofNat i) (1 : Int) = Int.ofNat j /\ True) /\ ((a = a /\ b = b /\ c = c /\ d = d /\ True) /\ True) /\ True)) /\ (decide (Int.ofNat i < iOf (lenL a)) = false -> 4 <= (4) /\ 2 <= (4) /\ true = true /\ True /\ (slotsOK24 a b = true -> 4 <= (4) /\ 3 <= (4) /\ true = true /\ True /\ (slotsOK24 a c = true -> 4 <= (4) /\ 1 <= (4) /\ (fits (lenL a) -> true = true /\ True /\ 1 <= (4) /\ (fits (lenL (tidy (a, b, c, d, ())).fst) -> (iOf (lenL (tidy (a, b, c, d, ())).fst) == iOf (lenL a), ()) = (diskOK (a, b, c, d, ()), ()) /\ () = ()))) /\ (slotsOK24 a c = false -> (false, ()) = (diskOK (a, b, c, d, ()), ()) /\ () = ())) /\ (slotsOK24 a b = false -> (false, ()) = (diskOK (a, b, c, d, ()), ()) /\ () = ()))))) (by kernel_rfl) ?_
 simp only [NS, eq_self, ne_eq, forall_const, implies_true, Nat.reduceAdd, Nat.reduceLeDiff, nz, Int.reduceEq, Nat.reduceEqDiff, reduceCtorEq]; try simp only [lenL]
 simp only [<- diskOK2_eq]
 refine ⟨fun _ => ⟨fun h => badHead2_at h, fun h => badHead2_long h⟩, fun h => ?_, fun hhd => ⟨⟨0, ⟨Nat.zero_le _, fun j c hj => absurd hj (Nat.not_lt_zero _)⟩, rfl⟩, fun k ⟨hk, hi⟩ hf => ⟨fun hlt => ⟨hlt, fun x hx => ⟨?_, fun h => diskOK2_bad hx h, fun h => ⟨k + 1, ⟨hlt, below_succ2 (P := fun j (x : Fn.Inode) => badInode (a, b, c, d, ()) (Int.ofNat j) x = false) hi hx h⟩, by omega, inc_in hf hk⟩⟩⟩, fun hge => ?_⟩⟩⟩
 · unfold diskOK2; rw [h]; rfl
 · have hw := within_le (badHead2_in hhd)
   have hf' : a.length < 1099511627776 := hf
   rw [wSub_in (a := d) (b := 1) (by omega)]
   refine ⟨fun h1 _ => ⟨fun h4 => ⟨fun h2 => ?_, fun h2 => ?_⟩, fun h4 => ?_⟩, fun h1 => ?_⟩
   · have hk0 : 0 < k := by simpa using h2
     rw [dec_in hk0 (by omega)]
     refine ⟨bnd_pred hk0 hk, fun y hy => ?_⟩
     have e : prevInode a (Int.ofNat k) x.1 = decide (x.1 <= y.1) := by unfold prevInode; rw [hy]
     unfold badInode
     rw [h1, e, decide_eq_true h2, decide_eq_false (p := (x.2.1.length : Int) > 4096) h4]
     simp
   · unfold badInode
     rw [h1, decide_eq_false h2, decide_eq_false (p := (x.2.1.length : Int) > 4096) h4]
     rfl
   · unfold badInode
     rw [decide_eq_true (p := (x.2.1.length : Int) > 4096) h4]; simp
   · unfold badInode; rw [h1]; simp
 · rw [diskOK2_end hhd hi hge]
   refine ⟨fun h => ⟨fun h2 _ _ => ?_, fun h2 => by rw [h, h2]; rfl⟩, fun h => by rw [h]; rfl⟩
   rw [h, h2, iOf_beq]; rfl
end Go.Proofs.YtkdnelaoagmeaaaGreatDoor
namespace Go.Proofs.YtkdnelaoagmeaaaGreatDoor
open Go.Ab Go.Fn
def s_szInode : FSpec := { ps := [.v tInode, .v I], rs := [.v I], pre := fun x => 0 <= (x.2.1 : Int) /\ (x.2.1 : Int) <= 1048576, fn := fun x => (Fn.szInode x.1 x.2.1, ()), upd := fun _ => () }
theorem fo_szInode : FO 91 s_szInode := by
 refine fo (specs := []) (clos := []) (fun x => []) trivial trivial Tryz.func91 rfl rfl ?_
 rintro ⟨a, n, ⟨⟩⟩ ⟨hp1, hp2⟩
 refine vcOf (2 <= (3) /\ (fits (lenL a.snd.fst) -> (decide (wSub .i64 n (iOf (lenL a.snd.fst)) < (0 : Int)) = true -> ((-1 : Int), ()) = (szInode a n, ()) /\ () = ()) /\ (decide (wSub .i64 n (iOf (lenL a.snd.fst)) < (0 : Int)) = false -> (wSub .i64 n (iOf (lenL a.snd.fst)), ()) = (szInode a n, ()) /\ () = ()))) (by kernel_rfl) ?_
 simp only [NS, eq_self, ne_eq, forall_const, implies_true, Nat.reduceAdd, Nat.reduceLeDiff, nz, Int.reduceEq, Nat.reduceEqDiff, reduceCtorEq]; try simp only [lenL]
 intro hf
 rw [wSub_len hp1 hp2 hf]
 exact ⟨fun h => (if_pos h).symm, fun h => (if_neg h).symm⟩
end Go.Proofs.YtkdnelaoagmeaaaGreatDoor
namespace Go.Proofs.YtkdnelaoagmeaaaGreatDoor
open Go.Ab Go.Fn
def s_szInodeS : FSpec := { ps := [.v (.slice tInode), .v I], rs := [.v I], pre := fun x => 0 <= (x.2.1 : Int) /\ (x.2.1 : Int) <= 1048576, fn := fun x => (szList Fn.szInode x.1 x.2.1, ()), upd := fun _ => () }
def L_szInodeS (xs : List (tInode : Ty).den) (l0 : Int) : LoopAnn := { ι := Nat × Int, inv := fun p => p.1 <= xs.length /\ (0 <= p.2 /\ p.2 <= 1048576) /\ szGo Fn.szInode (xs.drop p.1) p.2 = szGo Fn.szInode xs (l0 - xs.length), slots := fun p => [(5, .d I (Int.ofNat p.1)), (1, .d I p.2)], objs := fun _ => [], μ := fun p => xs.length - p.1 }
theorem fo_szInodeS : FO 39 s_szInodeS := by
 refine fo (specs := [(91, s_szInode)]) (clos := []) (fun x => [(5, .lv [0, 1, 5] <| fun _ => L_szInodeS x.1 x.2.1)]) ⟨fo_szInode, trivial⟩ trivial Tryz.func39 rfl rfl ?_
 rintro ⟨xs, n, ⟨⟩⟩ ⟨hp1, hp2⟩
 have hp1 : (0 : Int) <= n := hp1
 have hp2 : (n : Int) <= 1048576 := hp2
 refine vcOf (fits (lenL xs) -> (decide (wSub .i64 n (iOf (lenL xs)) < (0 : Int)) = true -> ((-1 : Int), ()) = (szList szInode xs n, ()) /\ () = ()) /\ (decide (wSub .i64 n (iOf (lenL xs)) < (0 : Int)) = false -> (∃ (i : Nat × Int), (i.fst <= List.length xs /\ ((0 : Int) <= i.snd /\ i.snd <= (1048576 : Int)) /\ szGo szInode (List.drop i.fst xs) i.snd = szGo szInode xs (n - Int.ofNat (List.length xs))) /\ (xs = xs /\ wSub .i64 n (iOf (lenL xs)) = i.snd /\ (0 : Int) = Int.ofNat i.fst /\ True) /\ True /\ True) /\ ∀ (i : Nat × Int), i.fst <= List.length xs /\ ((0 : Int) <= i.snd /\ i.snd <= (1048576 : Int)) /\ szGo szInode (List.drop i.fst xs) i.snd = szGo szInode xs (n - Int.ofNat (List.length xs)) -> fits (lenL xs) -> (decide (Int.ofNat i.fst < iOf (lenL xs)) = true -> bnd (Int.ofNat i.fst) (lenL xs) /\ ∀ (x : Int × List UInt8 × Bool × Unit), nthI xs (Int.ofNat i.fst) = some x -> 3 <= (3) /\ true = true /\ ((0 : (PTy.v I).den) <= i.snd /\ i.snd <= (1048576 : (PTy.v I).den)) /\ (decide (szInode (x.fst, x.snd.fst, x.snd.snd.fst, ()) i.snd < (0 : Int)) = true -> ((-1 : Int), ()) = (szList szInode xs n, ()) /\ () = ()) /\ (decide (szInode (x.fst, x.snd.fst, x.snd.snd.fst, ()) i.snd < (0 : Int)) = false -> ∃ (j : Nat × Int), (j.fst <= List.length xs /\ ((0 : Int) <= j.snd /\ j.snd <= (1048576 : Int)) /\ szGo szInode (List.drop j.fst xs) j.snd = szGo szInode xs (n - Int.ofNat (List.length xs))) /\ (List.length xs).sub j.fst < (List.length xs).sub i.fst /\ (xs = xs /\ szInode (x.fst, x.snd.fst, x.snd.snd.fst, ()) i.snd = j.snd /\ wAdd .i64 (Int.ofNat i.fst) (1 : Int) = Int.ofNat j.fst /\ True) /\ True /\ True)) /\ (decide (Int.ofNat i.fst < iOf (lenL xs)) = false -> (i.snd, ()) = (szList szInode xs n, ()) /\ () = ()))) (by kernel_rfl) ?_
 simp only [NS, eq_self, ne_eq, forall_const, implies_true, Nat.reduceAdd, Nat.reduceLeDiff, nz, Int.reduceEq, Nat.reduceEqDiff, reduceCtorEq]; try simp only [lenL]
 intro hf
 rw [wSub_len hp1 hp2 hf]
 refine ⟨fun h => (if_pos h).symm, fun h => ⟨⟨(0, n - (xs.length : Int)), ⟨Nat.zero_le _, ⟨Int.not_lt.1 h, Int.le_trans (Int.sub_le_self _ (Int.natCast_nonneg _)) hp2⟩, rfl⟩, rfl, rfl⟩, ?_⟩⟩
 have e0 : szList Fn.szInode xs n = szGo Fn.szInode xs (n - (xs.length : Int)) := if_neg h
 rw [e0]
 rintro ⟨k, m⟩ ⟨hk, ⟨hm1, hm2⟩, he⟩ -
 have hm1 : (0 : Int) <= m := hm1
 have hm2 : (m : Int) <= 1048576 := hm2
 have he : szGo Fn.szInode (xs.drop k) m = szGo Fn.szInode xs (n - (xs.length : Int)) := he
 refine ⟨fun hlt => ⟨hlt, fun x hx => ⟨⟨hm1, hm2⟩, fun h1 => ?_, fun h1 => ?_⟩⟩, fun hge => ?_⟩
 · rw [<- he, szGo_at hx]; exact (if_pos h1).symm
 · have h2 := szInode_le x m hm1
   rw [szGo_at hx] at he
   exact ⟨(k + 1, Fn.szInode x m), ⟨hlt, ⟨Int.not_lt.1 h1, Int.le_trans h2 hm2⟩, (if_neg h1).symm.trans he⟩, Nat.sub_lt_sub_left hlt (Nat.lt_succ_self k), rfl, inc_in hf hk⟩
 · rw [<- he, szGo_end hge]
end Go.Proofs.YtkdnelaoagmeaaaGreatDoor
namespace Go.Proofs.YtkdnelaoagmeaaaGreatDoor
open Go.Ab Go.Fn
def s_toInode : FSpec := { ps := [.v tInode], rs := [.v tInode], pre := fun x => True, fn := fun x => (x.1, ()), upd := fun _ => () }
theorem fo_toInode : FO 98 s_toInode := by
 refine fo (specs := []) (clos := []) (fun x => []) trivial trivial Tryz.func98 rfl rfl ?_
 rintro ⟨⟨a, b, c, ⟨⟩⟩, ⟨⟩⟩ -
 refine vcOf (1 <= (3) /\ 1 <= 3 /\ 2 <= (3) /\ 2 <= 3 /\ 3 <= (3) /\ 3 <= Nat.succ (2) /\ 3 <= (3) /\ 3 <= 3 /\ ((a, b, c, ()), ()) = ((a, b, c, ()), ()) /\ () = ()) (by kernel_rfl) ?_
 simp only [NS, eq_self, ne_eq, forall_const, implies_true, Nat.reduceAdd, Nat.reduceLeDiff, nz, Int.reduceEq, Nat.reduceEqDiff, reduceCtorEq]; try simp only [lenL]
end Go.Proofs.YtkdnelaoagmeaaaGreatDoor
namespace Go.Proofs.YtkdnelaoagmeaaaGreatDoor
open Go.Ab Go.Fn
def s_toInodeS : FSpec := { ps := [.v (.slice tInode)], rs := [.o (.slice tInode)], pre := fun _ => True, fn := fun x => (x.1, ()), upd := fun _ => () }
def L_toInodeS (xs : List (tInode : Ty).den) : LoopAnn := { ι := Nat, inv := fun k => k <= xs.length, slots := fun k => [(4, .d I (Int.ofNat k))], objs := fun k => [(1, .arr tInode (fillTo xs k (0, [], false, ())) false)], μ := fun k => xs.length - k }
theorem fo_toInodeS : FO 45 s_toInodeS := by
 refine fo (specs := [(98, s_toInode)]) (clos := []) (fun x => [(3, .lv [0, 3, 4] <| fun _ => L_toInodeS x.1)]) ⟨fo_toInode, trivial⟩ trivial Tryz.func45 rfl rfl ?_
 rintro ⟨xs, ⟨⟩⟩ -
 refine vcOf (fits (lenL xs) -> mkOK (iOf (lenL xs)) (iOf (lenL xs)) /\ (∃ (i : Nat), i <= List.length xs /\ (xs = xs /\ 1 = 1 /\ (0 : Int) = Int.ofNat i /\ True) /\ ((([] : List (Int × List UInt8 × Bool × Unit)) = ([] : List (Int × List UInt8 × Bool × Unit)) /\ false = false) /\ (List.replicate (tN (iOf (lenL xs))) ((0 : (Ty.int .i64).den), ([] : List UInt8), false, ()) = fillTo xs i ((0 : I.den), ([] : List UInt8), false, ()) /\ false = false) /\ True) /\ True) /\ ∀ (i : Nat), i <= List.length xs -> fits (lenL xs) -> (decide (Int.ofNat i < iOf (lenL xs)) = true -> bnd (Int.ofNat i) (lenL xs) /\ ∀ (x : Int × List UInt8 × Bool × Unit), nthI xs (Int.ofNat i) = some x -> 3 <= (3) /\ true = true /\ True /\ bnd (Int.ofNat i) (lenL (fillTo xs i ((0 : I.den), ([] : List UInt8), false, ()))) /\ ((0 : Nat) = 0 /\ tN (Int.ofNat i) < lenL (fillTo xs i ((0 : I.den), ([] : List UInt8), false, ()))) /\ ∃ (j : Nat), j <= List.length xs /\ (List.length xs).sub j < (List.length xs).sub i /\ (xs = xs /\ 1 = 1 /\ wAdd .i64 (Int.ofNat i) (1 : Int) = Int.ofNat j /\ True) /\ ((([] : List (Int × List UInt8 × Bool × Unit)) = ([] : List (Int × List UInt8 × Bool × Unit)) /\ false = false) /\ ((fillTo xs i ((0 : I.den), ([] : List UInt8), false, ())).set (tN (Int.ofNat i)) (x.fst, x.snd.fst, x.snd.snd.fst, ()) = fillTo xs j ((0 : I.den), ([] : List UInt8), false, ()) /\ false = false) /\ True) /\ True) /\ (decide (Int.ofNat i < iOf (lenL xs)) = false -> (fillTo xs i ((0 : I.den), ([] : List UInt8), false, ()), ()) = (xs, ()) /\ () = ())) (by kernel_rfl) ?_
 simp only [NS, eq_self, ne_eq, forall_const, implies_true, Nat.reduceAdd, Nat.reduceLeDiff, nz, Int.reduceEq, Nat.reduceEqDiff, reduceCtorEq]; try simp only [lenL]
 exact fun hf => ⟨mkOK_len hf, ⟨0, Nat.zero_le _, rfl, rfl⟩, fun k hk _ => ⟨fun h => ⟨h, fun x hx => ⟨by rw [fill_len hk]; exact h, by rw [fill_len hk]; exact h, k + 1, h, Nat.sub_lt_sub_left h (Nat.lt_succ_self k), inc_in hf hk, fill_set hx⟩⟩, fun h => fill_end h⟩⟩
end Go.Proofs.YtkdnelaoagmeaaaGreatDoor
namespace Go.Proofs.YtkdnelaoagmeaaaGreatDoor
open Go.Ab Go.Fn
def s_eqInode : FSpec := { ps := [.v tInode, .v tInode], rs := [.v .bool], pre := fun x => True, fn := fun x => (eqD x.1 x.2.1, ()), upd := fun _ => () }
theorem fo_eqInode : FO 108 s_eqInode := by
 refine fo (specs := []) (clos := []) (fun x => []) trivial trivial Tryz.func108 rfl rfl ?_
 rintro ⟨⟨a, b, c, ⟨⟩⟩, ⟨a', b', c', ⟨⟩⟩, ⟨⟩⟩ -
 refine vcOf (1 <= (3) /\ 1 <= (3) /\ ((a != a') = true -> (false, ()) = (eqD (a, b, c, ()) (a', b', c', ()), ()) /\ () = ()) /\ ((a != a') = false -> 2 <= (3) /\ 2 <= (3) /\ ((!b == b') = true -> (false, ()) = (eqD (a, b, c, ()) (a', b', c', ()), ()) /\ () = ()) /\ ((!b == b') = false -> 3 <= (3) /\ 3 <= (3) /\ (nBool c c' = true -> (false, ()) = (eqD (a, b, c, ()) (a', b', c', ()), ()) /\ () = ()) /\ (nBool c c' = false -> (true, ()) = (eqD (a, b, c, ()) (a', b', c', ()), ()) /\ () = ())))) (by kernel_rfl) ?_
 simp only [NS, eq_self, ne_eq, forall_const, implies_true, Nat.reduceAdd, Nat.reduceLeDiff, nz, Int.reduceEq, Nat.reduceEqDiff, reduceCtorEq]; try simp only [lenL]
 by_cases h1 : a = a' <;> by_cases h2 : b = b' <;> by_cases h3 : c = c' <;> simp [h1, h2, h3, eqD, nBool]
end Go.Proofs.YtkdnelaoagmeaaaGreatDoor
namespace Go.Proofs.YtkdnelaoagmeaaaGreatDoor
open Go.Ab Go.Fn
def s_eqInodeS : FSpec := { ps := [.v (.slice tInode), .v (.slice tInode)], rs := [.v .bool], pre := fun _ => True, fn := fun x => (eqL x.1 x.2.1, ()), upd := fun _ => () }
def L_eqInodeS (xs ys : List (tInode : Ty).den) : LoopAnn := { ι := Nat, inv := fun k => k <= xs.length /\ xs.length = ys.length /\ xs.take k = ys.take k, slots := fun k => [(5, .d I (Int.ofNat k))], objs := fun _ => [], μ := fun k => xs.length - k }
theorem fo_eqInodeS : FO 52 s_eqInodeS := by
 refine fo (specs := [(108, s_eqInode)]) (clos := []) (fun x => [(4, .lv [0, 1, 5] <| fun _ => L_eqInodeS x.1 x.2.1)]) ⟨fo_eqInode, trivial⟩ trivial Tryz.func52 rfl rfl ?_
 rintro ⟨xs, ys, ⟨⟩⟩ -
 refine vcOf (fits (lenL xs) -> fits (lenL ys) -> ((iOf (lenL xs) != iOf (lenL ys)) = true -> (false, ()) = (eqL xs ys, ()) /\ () = ()) /\ ((iOf (lenL xs) != iOf (lenL ys)) = false -> (∃ (i : Nat), (i <= List.length xs /\ List.length xs = List.length ys /\ List.take i xs = List.take i ys) /\ (xs = xs /\ ys = ys /\ (0 : Int) = Int.ofNat i /\ True) /\ True /\ True) /\ ∀ (i : Nat), i <= List.length xs /\ List.length xs = List.length ys /\ List.take i xs = List.take i ys -> fits (lenL xs) -> (decide (Int.ofNat i < iOf (lenL xs)) = true -> bnd (Int.ofNat i) (lenL xs) /\ ∀ (x : Int × List UInt8 × Bool × Unit), nthI xs (Int.ofNat i) = some x -> 3 <= (3) /\ bnd (Int.ofNat i) (lenL ys) /\ ∀ (x_1 : Int × List UInt8 × Bool × Unit), nthI ys (Int.ofNat i) = some x_1 -> 3 <= (3) /\ true = true /\ True /\ ((!eqD (x.fst, x.snd.fst, x.snd.snd.fst, ()) (x_1.fst, x_1.snd.fst, x_1.snd.snd.fst, ())) = true -> (false, ()) = (eqL xs ys, ()) /\ () = ()) /\ ((!eqD (x.fst, x.snd.fst, x.snd.snd.fst, ()) (x_1.fst, x_1.snd.fst, x_1.snd.snd.fst, ())) = false -> ∃ (j : Nat), (j <= List.length xs /\ List.length xs = List.length ys /\ List.take j xs = List.take j ys) /\ (List.length xs).sub j < (List.length xs).sub i /\ (xs = xs /\ ys = ys /\ wAdd .i64 (Int.ofNat i) (1 : Int) = Int.ofNat j /\ True) /\ True /\ True)) /\ (decide (Int.ofNat i < iOf (lenL xs)) = false -> (true, ()) = (eqL xs ys, ()) /\ () = ()))) (by kernel_rfl) ?_
 simp only [NS, eq_self, ne_eq, forall_const, implies_true, Nat.reduceAdd, Nat.reduceLeDiff, nz, Int.reduceEq, Nat.reduceEqDiff, reduceCtorEq]; try simp only [lenL]
 exact fun hf1 hf2 => ⟨fun h => eqL_len h, fun h => ⟨⟨0, ⟨Nat.zero_le _, h, rfl⟩, rfl⟩, fun k ⟨hk, _, ht⟩ _ => ⟨fun hlt => ⟨hlt, fun x hx => ⟨h ▸ hlt, fun y hy => ⟨fun hne => eqL_ne hx hy hne, fun he => ⟨k + 1, ⟨hlt, h, take_eq_succ hx hy ht he⟩, Nat.sub_lt_sub_left hlt (Nat.lt_succ_self k), inc_in hf1 hk⟩⟩⟩⟩, fun hge => eqL_end hge h ht⟩⟩⟩
end Go.Proofs.YtkdnelaoagmeaaaGreatDoor
namespace Go.Proofs.YtkdnelaoagmeaaaGreatDoor
open Go.Ab Go.Fn
def s_szSlot : FSpec := { ps := [.v tSlot, .v I], rs := [.v I], pre := fun x => 0 <= (x.2.1 : Int) /\ (x.2.1 : Int) <= 1048576, fn := fun x => (Fn.szSlot x.1 x.2.1, ()), upd := fun _ => () }
theorem fo_szSlot : FO 92 s_szSlot := by
 refine fo (specs := []) (clos := []) (fun x => []) trivial trivial Tryz.func92 rfl rfl ?_
 rintro ⟨a, n, ⟨⟩⟩ ⟨hp1, hp2⟩
 refine vcOf (1 <= Nat.succ (1) /\ (fits (lenL a.fst) -> (decide (wSub .i64 n (iOf (lenL a.fst)) < (0 : Int)) = true -> ((-1 : Int), ()) = (szSlot a n, ()) /\ () = ()) /\ (decide (wSub .i64 n (iOf (lenL a.fst)) < (0 : Int)) = false -> (wSub .i64 n (iOf (lenL a.fst)), ()) = (szSlot a n, ()) /\ () = ()))) (by kernel_rfl) ?_
 simp only [NS, eq_self, ne_eq, forall_const, implies_true, Nat.reduceAdd, Nat.reduceLeDiff, nz, Int.reduceEq, Nat.reduceEqDiff, reduceCtorEq]; try simp only [lenL]
 intro hf
 rw [wSub_len hp1 hp2 hf]
 exact ⟨fun h => (if_pos h).symm, fun h => (if_neg h).symm⟩
end Go.Proofs.YtkdnelaoagmeaaaGreatDoor
namespace Go.Proofs.YtkdnelaoagmeaaaGreatDoor
open Go.Ab Go.Fn
def s_szSlotS : FSpec := { ps := [.v (.slice tSlot), .v I], rs := [.v I], pre := fun x => 0 <= (x.2.1 : Int) /\ (x.2.1 : Int) <= 1048576, fn := fun x => (szList Fn.szSlot x.1 x.2.1, ()), upd := fun _ => () }
def L_szSlotS (xs : List (tSlot : Ty).den) (l0 : Int) : LoopAnn := { ι := Nat × Int, inv := fun p => p.1 <= xs.length /\ (0 <= p.2 /\ p.2 <= 1048576) /\ szGo Fn.szSlot (xs.drop p.1) p.2 = szGo Fn.szSlot xs (l0 - xs.length), slots := fun p => [(5, .d I (Int.ofNat p.1)), (1, .d I p.2)], objs := fun _ => [], μ := fun p => xs.length - p.1 }
theorem fo_szSlotS : FO 40 s_szSlotS := by
 refine fo (specs := [(92, s_szSlot)]) (clos := []) (fun x => [(5, .lv [0, 1, 5] <| fun _ => L_szSlotS x.1 x.2.1)]) ⟨fo_szSlot, trivial⟩ trivial Tryz.func40 rfl rfl ?_
 rintro ⟨xs, n, ⟨⟩⟩ ⟨hp1, hp2⟩
 have hp1 : (0 : Int) <= n := hp1
 have hp2 : (n : Int) <= 1048576 := hp2
 refine vcOf (fits (lenL xs) -> (decide (wSub .i64 n (iOf (lenL xs)) < (0 : Int)) = true -> ((-1 : Int), ()) = (szList szSlot xs n, ()) /\ () = ()) /\ (decide (wSub .i64 n (iOf (lenL xs)) < (0 : Int)) = false -> (∃ (i : Nat × Int), (i.fst <= List.length xs /\ ((0 : Int) <= i.snd /\ i.snd <= (1048576 : Int)) /\ szGo szSlot (List.drop i.fst xs) i.snd = szGo szSlot xs (n - Int.ofNat (List.length xs))) /\ (xs = xs /\ wSub .i64 n (iOf (lenL xs)) = i.snd /\ (0 : Int) = Int.ofNat i.fst /\ True) /\ True /\ True) /\ ∀ (i : Nat × Int), i.fst <= List.length xs /\ ((0 : Int) <= i.snd /\ i.snd <= (1048576 : Int)) /\ szGo szSlot (List.drop i.fst xs) i.snd = szGo szSlot xs (n - Int.ofNat (List.length xs)) -> fits (lenL xs) -> (decide (Int.ofNat i.fst < iOf (lenL xs)) = true -> bnd (Int.ofNat i.fst) (lenL xs) /\ ∀ (x : List UInt8 × Int × Unit), nthI xs (Int.ofNat i.fst) = some x -> 2 <= Nat.succ (1) /\ true = true /\ ((0 : (PTy.v I).den) <= i.snd /\ i.snd <= (1048576 : (PTy.v I).den)) /\ (decide (szSlot (x.fst, x.snd.fst, ()) i.snd < (0 : Int)) = true -> ((-1 : Int), ()) = (szList szSlot xs n, ()) /\ () = ()) /\ (decide (szSlot (x.fst, x.snd.fst, ()) i.snd < (0 : Int)) = false -> ∃ (j : Nat × Int), (j.fst <= List.length xs /\ ((0 : Int) <= j.snd /\ j.snd <= (1048576 : Int)) /\ szGo szSlot (List.drop j.fst xs) j.snd = szGo szSlot xs (n - Int.ofNat (List.length xs))) /\ (List.length xs).sub j.fst < (List.length xs).sub i.fst /\ (xs = xs /\ szSlot (x.fst, x.snd.fst, ()) i.snd = j.snd /\ wAdd .i64 (Int.ofNat i.fst) (1 : Int) = Int.ofNat j.fst /\ True) /\ True /\ True)) /\ (decide (Int.ofNat i.fst < iOf (lenL xs)) = false -> (i.snd, ()) = (szList szSlot xs n, ()) /\ () = ()))) (by kernel_rfl) ?_
 simp only [NS, eq_self, ne_eq, forall_const, implies_true, Nat.reduceAdd, Nat.reduceLeDiff, nz, Int.reduceEq, Nat.reduceEqDiff, reduceCtorEq]; try simp only [lenL]
 intro hf
 rw [wSub_len hp1 hp2 hf]
 refine ⟨fun h => (if_pos h).symm, fun h => ⟨⟨(0, n - (xs.length : Int)), ⟨Nat.zero_le _, ⟨Int.not_lt.1 h, Int.le_trans (Int.sub_le_self _ (Int.natCast_nonneg _)) hp2⟩, rfl⟩, rfl, rfl⟩, ?_⟩⟩
 have e0 : szList Fn.szSlot xs n = szGo Fn.szSlot xs (n - (xs.length : Int)) := if_neg h
 rw [e0]
 rintro ⟨k, m⟩ ⟨hk, ⟨hm1, hm2⟩, he⟩ -
 have hm1 : (0 : Int) <= m := hm1
 have hm2 : (m : Int) <= 1048576 := hm2
 have he : szGo Fn.szSlot (xs.drop k) m = szGo Fn.szSlot xs (n - (xs.length : Int)) := he
 refine ⟨fun hlt => ⟨hlt, fun x hx => ⟨⟨hm1, hm2⟩, fun h1 => ?_, fun h1 => ?_⟩⟩, fun hge => ?_⟩
 · rw [<- he, szGo_at hx]; exact (if_pos h1).symm
 · have h2 := szSlot_le x m hm1
   rw [szGo_at hx] at he
   exact ⟨(k + 1, Fn.szSlot x m), ⟨hlt, ⟨Int.not_lt.1 h1, Int.le_trans h2 hm2⟩, (if_neg h1).symm.trans he⟩, Nat.sub_lt_sub_left hlt (Nat.lt_succ_self k), rfl, inc_in hf hk⟩
 · rw [<- he, szGo_end hge]
end Go.Proofs.YtkdnelaoagmeaaaGreatDoor
namespace Go.Proofs.YtkdnelaoagmeaaaGreatDoor
open Go.Ab Go.Fn
def s_toSlot : FSpec := { ps := [.v tSlot], rs := [.v tSlot], pre := fun x => True, fn := fun x => (x.1, ()), upd := fun _ => () }
theorem fo_toSlot : FO 99 s_toSlot := by
 refine fo (specs := []) (clos := []) (fun x => []) trivial trivial Tryz.func99 rfl rfl ?_
 rintro ⟨⟨a, b, ⟨⟩⟩, ⟨⟩⟩ -
 refine vcOf (1 <= Nat.succ (1) /\ 1 <= 2 /\ 2 <= Nat.succ (1) /\ 2 <= 2 /\ 2 <= Nat.succ (1) /\ 2 <= 2 /\ ((a, b, ()), ()) = ((a, b, ()), ()) /\ () = ()) (by kernel_rfl) ?_
 simp only [NS, eq_self, ne_eq, forall_const, implies_true, Nat.reduceAdd, Nat.reduceLeDiff, nz, Int.reduceEq, Nat.reduceEqDiff, reduceCtorEq]; try simp only [lenL]
end Go.Proofs.YtkdnelaoagmeaaaGreatDoor
namespace Go.Proofs.YtkdnelaoagmeaaaGreatDoor
open Go.Ab Go.Fn
def s_toSlotS : FSpec := { ps := [.v (.slice tSlot)], rs := [.o (.slice tSlot)], pre := fun _ => True, fn := fun x => (x.1, ()), upd := fun _ => () }
def L_toSlotS (xs : List (tSlot : Ty).den) : LoopAnn := { ι := Nat, inv := fun k => k <= xs.length, slots := fun k => [(4, .d I (Int.ofNat k))], objs := fun k => [(1, .arr tSlot (fillTo xs k ([], 0, ())) false)], μ := fun k => xs.length - k }
theorem fo_toSlotS : FO 46 s_toSlotS := by
 refine fo (specs := [(99, s_toSlot)]) (clos := []) (fun x => [(3, .lv [0, 3, 4] <| fun _ => L_toSlotS x.1)]) ⟨fo_toSlot, trivial⟩ trivial Tryz.func46 rfl rfl ?_
 rintro ⟨xs, ⟨⟩⟩ -
 refine vcOf (fits (lenL xs) -> mkOK (iOf (lenL xs)) (iOf (lenL xs)) /\ (∃ (i : Nat), i <= List.length xs /\ (xs = xs /\ 1 = 1 /\ (0 : Int) = Int.ofNat i /\ True) /\ ((([] : List (List UInt8 × Int × Unit)) = ([] : List (List UInt8 × Int × Unit)) /\ false = false) /\ (List.replicate (tN (iOf (lenL xs))) (([] : List UInt8), (0 : (Ty.int .i64).den), ()) = fillTo xs i (([] : List UInt8), (0 : I.den), ()) /\ false = false) /\ True) /\ True) /\ ∀ (i : Nat), i <= List.length xs -> fits (lenL xs) -> (decide (Int.ofNat i < iOf (lenL xs)) = true -> bnd (Int.ofNat i) (lenL xs) /\ ∀ (x : List UInt8 × Int × Unit), nthI xs (Int.ofNat i) = some x -> 2 <= Nat.succ (1) /\ true = true /\ True /\ bnd (Int.ofNat i) (lenL (fillTo xs i (([] : List UInt8), (0 : I.den), ()))) /\ ((0 : Nat) = 0 /\ tN (Int.ofNat i) < lenL (fillTo xs i (([] : List UInt8), (0 : I.den), ()))) /\ ∃ (j : Nat), j <= List.length xs /\ (List.length xs).sub j < (List.length xs).sub i /\ (xs = xs /\ 1 = 1 /\ wAdd .i64 (Int.ofNat i) (1 : Int) = Int.ofNat j /\ True) /\ ((([] : List (List UInt8 × Int × Unit)) = ([] : List (List UInt8 × Int × Unit)) /\ false = false) /\ ((fillTo xs i (([] : List UInt8), (0 : I.den), ())).set (tN (Int.ofNat i)) (x.fst, x.snd.fst, ()) = fillTo xs j (([] : List UInt8), (0 : I.den), ()) /\ false = false) /\ True) /\ True) /\ (decide (Int.ofNat i < iOf (lenL xs)) = false -> (fillTo xs i (([] : List UInt8), (0 : I.den), ()), ()) = (xs, ()) /\ () = ())) (by kernel_rfl) ?_
 simp only [NS, eq_self, ne_eq, forall_const, implies_true, Nat.reduceAdd, Nat.reduceLeDiff, nz, Int.reduceEq, Nat.reduceEqDiff, reduceCtorEq]; try simp only [lenL]
 exact fun hf => ⟨mkOK_len hf, ⟨0, Nat.zero_le _, rfl, rfl⟩, fun k hk _ => ⟨fun h => ⟨h, fun x hx => ⟨by rw [fill_len hk]; exact h, by rw [fill_len hk]; exact h, k + 1, h, Nat.sub_lt_sub_left h (Nat.lt_succ_self k), inc_in hf hk, fill_set hx⟩⟩, fun h => fill_end h⟩⟩
end Go.Proofs.YtkdnelaoagmeaaaGreatDoor
namespace Go.Proofs.YtkdnelaoagmeaaaGreatDoor
open Go.Ab Go.Fn
def s_eqSlot : FSpec := { ps := [.v tSlot, .v tSlot], rs := [.v .bool], pre := fun x => True, fn := fun x => (eqD x.1 x.2.1, ()), upd := fun _ => () }
theorem fo_eqSlot : FO 109 s_eqSlot := by
 refine fo (specs := []) (clos := []) (fun x => []) trivial trivial Tryz.func109 rfl rfl ?_
 rintro ⟨⟨a, b, ⟨⟩⟩, ⟨a', b', ⟨⟩⟩, ⟨⟩⟩ -
 refine vcOf (1 <= Nat.succ (1) /\ 1 <= Nat.succ (1) /\ ((!a == a') = true -> (false, ()) = (eqD (a, b, ()) (a', b', ()), ()) /\ () = ()) /\ ((!a == a') = false -> 2 <= Nat.succ (1) /\ 2 <= Nat.succ (1) /\ ((b != b') = true -> (false, ()) = (eqD (a, b, ()) (a', b', ()), ()) /\ () = ()) /\ ((b != b') = false -> (true, ()) = (eqD (a, b, ()) (a', b', ()), ()) /\ () = ()))) (by kernel_rfl) ?_
 simp only [NS, eq_self, ne_eq, forall_const, implies_true, Nat.reduceAdd, Nat.reduceLeDiff, nz, Int.reduceEq, Nat.reduceEqDiff, reduceCtorEq]; try simp only [lenL]
 by_cases h1 : a = a' <;> by_cases h2 : b = b' <;> simp [h1, h2, eqD, nBool]
end Go.Proofs.YtkdnelaoagmeaaaGreatDoor
namespace Go.Proofs.YtkdnelaoagmeaaaGreatDoor
open Go.Ab Go.Fn
def s_eqSlotS : FSpec := { ps := [.v (.slice tSlot), .v (.slice tSlot)], rs := [.v .bool], pre := fun _ => True, fn := fun x => (eqL x.1 x.2.1, ()), upd := fun _ => () }
def L_eqSlotS (xs ys : List (tSlot : Ty).den) : LoopAnn := { ι := Nat, inv := fun k => k <= xs.length /\ xs.length = ys.length /\ xs.take k = ys.take k, slots := fun k => [(5, .d I (Int.ofNat k))], objs := fun _ => [], μ := fun k => xs.length - k }
theorem fo_eqSlotS : FO 53 s_eqSlotS := by
 refine fo (specs := [(109, s_eqSlot)]) (clos := []) (fun x => [(4, .lv [0, 1, 5] <| fun _ => L_eqSlotS x.1 x.2.1)]) ⟨fo_eqSlot, trivial⟩ trivial Tryz.func53 rfl rfl ?_
 rintro ⟨xs, ys, ⟨⟩⟩ -
 refine vcOf (fits (lenL xs) -> fits (lenL ys) -> ((iOf (lenL xs) != iOf (lenL ys)) = true -> (false, ()) = (eqL xs ys, ()) /\ () = ()) /\ ((iOf (lenL xs) != iOf (lenL ys)) = false -> (∃ (i : Nat), (i <= List.length xs /\ List.length xs = List.length ys /\ List.take i xs = List.take i ys) /\ (xs = xs /\ ys = ys /\ (0 : Int) = Int.ofNat i /\ True) /\ True /\ True) /\ ∀ (i : Nat), i <= List.length xs /\ List.length xs = List.length ys /\ List.take i xs = List.take i ys -> fits (lenL xs) -> (decide (Int.ofNat i < iOf (lenL xs)) = true -> bnd (Int.ofNat i) (lenL xs) /\ ∀ (x : List UInt8 × Int × Unit), nthI xs (Int.ofNat i) = some x -> 2 <= Nat.succ (1) /\ bnd (Int.ofNat i) (lenL ys) /\ ∀ (x_1 : List UInt8 × Int × Unit), nthI ys (Int.ofNat i) = some x_1 -> 2 <= Nat.succ (1) /\ true = true /\ True /\ ((!eqD (x.fst, x.snd.fst, ()) (x_1.fst, x_1.snd.fst, ())) = true -> (false, ()) = (eqL xs ys, ()) /\ () = ()) /\ ((!eqD (x.fst, x.snd.fst, ()) (x_1.fst, x_1.snd.fst, ())) = false -> ∃ (j : Nat), (j <= List.length xs /\ List.length xs = List.length ys /\ List.take j xs = List.take j ys) /\ (List.length xs).sub j < (List.length xs).sub i /\ (xs = xs /\ ys = ys /\ wAdd .i64 (Int.ofNat i) (1 : Int) = Int.ofNat j /\ True) /\ True /\ True)) /\ (decide (Int.ofNat i < iOf (lenL xs)) = false -> (true, ()) = (eqL xs ys, ()) /\ () = ()))) (by kernel_rfl) ?_
 simp only [NS, eq_self, ne_eq, forall_const, implies_true, Nat.reduceAdd, Nat.reduceLeDiff, nz, Int.reduceEq, Nat.reduceEqDiff, reduceCtorEq]; try simp only [lenL]
 exact fun hf1 hf2 => ⟨fun h => eqL_len h, fun h => ⟨⟨0, ⟨Nat.zero_le _, h, rfl⟩, rfl⟩, fun k ⟨hk, _, ht⟩ _ => ⟨fun hlt => ⟨hlt, fun x hx => ⟨h ▸ hlt, fun y hy => ⟨fun hne => eqL_ne hx hy hne, fun he => ⟨k + 1, ⟨hlt, h, take_eq_succ hx hy ht he⟩, Nat.sub_lt_sub_left hlt (Nat.lt_succ_self k), inc_in hf1 hk⟩⟩⟩⟩, fun hge => eqL_end hge h ht⟩⟩⟩
end Go.Proofs.YtkdnelaoagmeaaaGreatDoor
namespace Go.Proofs.YtkdnelaoagmeaaaGreatDoor
open Go.Ab Go.Fn
def s_szDisk : FSpec := { ps := [.v tDisk, .v I], rs := [.v I], pre := fun x => 0 <= (x.2.1 : Int) /\ (x.2.1 : Int) <= 1048576, fn := fun x => (Fn.szDisk x.1 x.2.1, ()), upd := fun _ => () }
theorem fo_szDisk : FO 9 s_szDisk := by
 refine fo (specs := [(39, s_szInodeS), (40, s_szSlotS)]) (clos := []) (fun x => []) ⟨fo_szInodeS, fo_szSlotS, trivial⟩ trivial Tryz.func9 rfl rfl ?_
 rintro ⟨⟨a, b, c, d, ⟨⟩⟩, n, ⟨⟩⟩ ⟨hp1, hp2⟩
 refine vcOf (1 <= (4) /\ true = true /\ ((0 : (PTy.v I).den) <= n /\ n <= (1048576 : (PTy.v I).den)) /\ (decide (szList szInode a n < (0 : Int)) = true -> ((-1 : Int), ()) = (szDisk (a, b, c, d, ()) n, ()) /\ () = ()) /\ (decide (szList szInode a n < (0 : Int)) = false -> 2 <= (4) /\ true = true /\ ((0 : (PTy.v I).den) <= szList szInode a n /\ szList szInode a n <= (1048576 : (PTy.v I).den)) /\ (decide (szList szSlot b (szList szInode a n) < (0 : Int)) = true -> ((-1 : Int), ()) = (szDisk (a, b, c, d, ()) n, ()) /\ () = ()) /\ (decide (szList szSlot b (szList szInode a n) < (0 : Int)) = false -> 3 <= (4) /\ true = true /\ ((0 : (PTy.v I).den) <= szList szSlot b (szList szInode a n) /\ szList szSlot b (szList szInode a n) <= (1048576 : (PTy.v I).den)) /\ (decide (szList szSlot c (szList szSlot b (szList szInode a n)) < (0 : Int)) = true -> ((-1 : Int), ()) = (szDisk (a, b, c, d, ()) n, ()) /\ () = ()) /\ (decide (szList szSlot c (szList szSlot b (szList szInode a n)) < (0 : Int)) = false -> (szList szSlot c (szList szSlot b (szList szInode a n)), ()) = (szDisk (a, b, c, d, ()) n, ()) /\ () = ())))) (by kernel_rfl) ?_
 simp only [NS, eq_self, ne_eq, forall_const, implies_true, Nat.reduceAdd, Nat.reduceLeDiff, nz, Int.reduceEq, Nat.reduceEqDiff, reduceCtorEq]; try simp only [lenL]
 have hp1 : (0 : Int) <= n := hp1
 have hp2 : (n : Int) <= 1048576 := hp2
 have q1 := szList_le szInode_le a n hp1
 refine ⟨⟨hp1, hp2⟩, fun h => ?_, fun h1 => ?_⟩
 · unfold Fn.szDisk; rw [if_pos h]
 have q2 := szList_le szSlot_le b _ (Int.not_lt.1 h1)
 refine ⟨⟨Int.not_lt.1 h1, Int.le_trans q1 hp2⟩, fun h => ?_, fun h2 => ⟨⟨Int.not_lt.1 h2, Int.le_trans q2 (Int.le_trans q1 hp2)⟩, fun h => ?_, fun h3 => ?_⟩⟩
 · unfold Fn.szDisk; rw [if_neg h1, if_pos h]
 · unfold Fn.szDisk; rw [if_neg h1, if_neg h2, if_pos h]
 · unfold Fn.szDisk; rw [if_neg h1, if_neg h2, if_neg h3]
end Go.Proofs.YtkdnelaoagmeaaaGreatDoor
namespace Go.Proofs.YtkdnelaoagmeaaaGreatDoor
open Go.Ab Go.Fn
def s_toDisk : FSpec := { ps := [.v tDisk], rs := [.o tDisk], pre := fun x => True, fn := fun x => (x.1, ()), upd := fun _ => () }
theorem fo_toDisk : FO 11 s_toDisk := by
 refine fo (specs := [(45, s_toInodeS), (46, s_toSlotS)]) (clos := []) (fun x => []) ⟨fo_toInodeS, fo_toSlotS, trivial⟩ trivial Tryz.func11 rfl rfl ?_
 rintro ⟨⟨a, b, c, d, ⟨⟩⟩, ⟨⟩⟩ -
 refine vcOf (1 <= (4) /\ true = true /\ True /\ 1 <= 4 /\ 2 <= (4) /\ true = true /\ True /\ 2 <= 4 /\ 3 <= (4) /\ true = true /\ True /\ 3 <= 4 /\ 4 <= (4) /\ 4 <= 4 /\ 4 <= (4) /\ 4 <= 4 /\ ((a, b, c, d, ()), ()) = ((a, b, c, d, ()), ()) /\ () = ()) (by kernel_rfl) ?_
 simp only [NS, eq_self, ne_eq, forall_const, implies_true, Nat.reduceAdd, Nat.reduceLeDiff, nz, Int.reduceEq, Nat.reduceEqDiff, reduceCtorEq]; try simp only [lenL]
end Go.Proofs.YtkdnelaoagmeaaaGreatDoor
namespace Go.Proofs.YtkdnelaoagmeaaaGreatDoor
open Go.Ab Go.Fn
def s_eqDisk : FSpec := { ps := [.v tDisk, .v tDisk], rs := [.v .bool], pre := fun x => True, fn := fun x => (Fn.eqDisk x.1 x.2.1, ()), upd := fun _ => () }
theorem fo_eqDisk : FO 13 s_eqDisk := by
 refine fo (specs := [(52, s_eqInodeS), (53, s_eqSlotS)]) (clos := []) (fun x => []) ⟨fo_eqInodeS, fo_eqSlotS, trivial⟩ trivial Tryz.func13 rfl rfl ?_
 rintro ⟨⟨a, b, c, d, ⟨⟩⟩, ⟨a', b', c', d', ⟨⟩⟩, ⟨⟩⟩ -
 refine vcOf (1 <= (4) /\ 1 <= (4) /\ true = true /\ True /\ ((!eqL a a') = true -> (false, ()) = (eqDisk (a, b, c, d, ()) (a', b', c', d', ()), ()) /\ () = ()) /\ ((!eqL a a') = false -> 2 <= (4) /\ 2 <= (4) /\ true = true /\ True /\ ((!eqL b b') = true -> (false, ()) = (eqDisk (a, b, c, d, ()) (a', b', c', d', ()), ()) /\ () = ()) /\ ((!eqL b b') = false -> 3 <= (4) /\ 3 <= (4) /\ true = true /\ True /\ ((!eqL c c') = true -> (false, ()) = (eqDisk (a, b, c, d, ()) (a', b', c', d', ()), ()) /\ () = ()) /\ ((!eqL c c') = false -> 4 <= (4) /\ 4 <= (4) /\ ((d != d') = true -> (false, ()) = (eqDisk (a, b, c, d, ()) (a', b', c', d', ()), ()) /\ () = ()) /\ ((d != d') = false -> (true, ()) = (eqDisk (a, b, c, d, ()) (a', b', c', d', ()), ()) /\ () = ()))))) (by kernel_rfl) ?_
 simp only [NS, eq_self, ne_eq, forall_const, implies_true, Nat.reduceAdd, Nat.reduceLeDiff, nz, Int.reduceEq, Nat.reduceEqDiff, reduceCtorEq]; try simp only [lenL]
 by_cases h1 : a = a' <;> by_cases h2 : b = b' <;> by_cases h3 : c = c' <;> by_cases h4 : d = d' <;> simp [h1, h2, h3, h4, Fn.eqDisk, eqD, eqL]
end Go.Proofs.YtkdnelaoagmeaaaGreatDoor
namespace Go.Proofs.YtkdnelaoagmeaaaGreatDoor
open Go.Ab Go.Fn
def s_read : FSpec := { ps := [.v tDisk, .v .str], rs := [.v .str, .v .bool], pre := fun x => Fn.diskOK x.1 = true, fn := fun x => (Fn.readT x.1 x.2.1, Fn.readB x.1 x.2.1, ()), upd := fun _ => () }
theorem fo_iread : FO 145 s_read := by
 refine fo (specs := [(204, s_slot), (172, s_inode)]) (clos := []) (fun x => []) ⟨fo_slot, fo_inode, trivial⟩ trivial Tryz.func145 rfl rfl ?_
 rintro ⟨⟨a, b, c, d, ⟨⟩⟩, n, ⟨⟩⟩ hp
 refine vcOf (2 <= (4) /\ true = true /\ True /\ (decide (slotAt b n < (0 : Int)) = true -> (([] : List UInt8), false, ()) = (readT (a, b, c, d, ()) n, readB (a, b, c, d, ()) n, ()) /\ () = ()) /\ (decide (slotAt b n < (0 : Int)) = false -> 1 <= (4) /\ 4 <= (4) /\ 2 <= (4) /\ bnd (slotAt b n) (lenL b) /\ ∀ (x : List UInt8 × Int × Unit), nthI b (slotAt b n) = some x -> 1 <= 1 /\ true = true /\ True /\ bnd (inodeAt a x.snd.fst) (lenL a) /\ ∀ (x_1 : Int × List UInt8 × Bool × Unit), nthI a (inodeAt a x.snd.fst) = some x_1 -> 1 <= Nat.succ (1) /\ (x_1.snd.fst, true, ()) = (readT (a, b, c, d, ()) n, readB (a, b, c, d, ()) n, ()) /\ () = ())) (by kernel_rfl) ?_
 simp only [NS, eq_self, ne_eq, forall_const, implies_true, Nat.reduceAdd, Nat.reduceLeDiff, nz, Int.reduceEq, Nat.reduceEqDiff, reduceCtorEq]; try simp only [lenL]
 have hp : diskOK (a, b, c, d, ()) = true := hp
 refine ⟨fun h => read_none h, fun h => ⟨idx_bnd h, fun x hx => ⟨idx_bnd (slots_in (diskOK_parts hp).1 hx), fun y hy => read_some (d := (a, b, c, d, ())) h hx hy⟩⟩⟩
theorem fo_l11Read : FO 143 s_read := by
 refine fo (specs := [(164, s_slot), (162, s_inode)]) (clos := []) (fun x => []) ⟨fo_l11At, fo_l11Inode, trivial⟩ trivial Tryz.func143 rfl rfl ?_
 rintro ⟨⟨a, b, c, d, ⟨⟩⟩, n, ⟨⟩⟩ hp
 refine vcOf (2 <= (4) /\ true = true /\ True /\ (decide (slotAt b n < (0 : Int)) = true -> (([] : List UInt8), false, ()) = (readT (a, b, c, d, ()) n, readB (a, b, c, d, ()) n, ()) /\ () = ()) /\ (decide (slotAt b n < (0 : Int)) = false -> 1 <= (4) /\ 4 <= (4) /\ 2 <= (4) /\ bnd (slotAt b n) (lenL b) /\ ∀ (x : List UInt8 × Int × Unit), nthI b (slotAt b n) = some x -> 1 <= 1 /\ true = true /\ True /\ bnd (inodeAt a x.snd.fst) (lenL a) /\ ∀ (x_1 : Int × List UInt8 × Bool × Unit), nthI a (inodeAt a x.snd.fst) = some x_1 -> 1 <= Nat.succ (1) /\ (x_1.snd.fst, true, ()) = (readT (a, b, c, d, ()) n, readB (a, b, c, d, ()) n, ()) /\ () = ())) (by kernel_rfl) ?_
 simp only [NS, eq_self, ne_eq, forall_const, implies_true, Nat.reduceAdd, Nat.reduceLeDiff, nz, Int.reduceEq, Nat.reduceEqDiff, reduceCtorEq]; try simp only [lenL]
 have hp : diskOK (a, b, c, d, ()) = true := hp
 refine ⟨fun h => read_none h, fun h => ⟨idx_bnd h, fun x hx => ⟨idx_bnd (slots_in (diskOK_parts hp).1 hx), fun y hy => read_some (d := (a, b, c, d, ())) h hx hy⟩⟩⟩
end Go.Proofs.YtkdnelaoagmeaaaGreatDoor
namespace Go.Fn
open Go.Ab
def idOf (l : List Slot) (n : List UInt8) : Int := if slotAt l n < 0 then 0 else slotId l n
theorem idOf_at {l : List Slot} {n : List UInt8} (h : ¬ slotAt l n < 0) {x : Slot} (hx : nthI l (slotAt l n) = some x) : x.2.1 = idOf l n := by unfold idOf slotId; rw [if_neg h, hx]
theorem slot_name {ino : List Inode} {l : List Slot} (h : slotsOK ino l = true) {x : Slot} (hx : x ∈ l) : x.1.length <= 12 := by
 unfold slotsOK at h
 obtain ⟨k, hk⟩ := List.mem_iff_getElem?.1 hx
 have := allI_iff.1 h k x hk
 unfold badSlot at this
 simp only [Bool.not_eq_true', Bool.or_eq_false_iff, Bool.not_eq_false'] at this
 have hn := this.1.1
 unfold nameOK within at hn
 simp only [Bool.and_eq_true, decide_eq_true_eq] at hn
 omega
theorem ino_facts {d : Disk} (h : diskOK d = true) {x : Inode} (hx : x ∈ d.1) : 1 <= x.1 /\ x.1 <= 1000000 /\ x.2.1.length <= 4096 := by
 have hd := disk_next h
 unfold diskOK at h
 simp only [Bool.and_eq_true] at h
 obtain ⟨k, hk⟩ := List.mem_iff_getElem?.1 hx
 have := allI_iff.1 h.1.2 k x hk
 unfold badInode within at this
 simp only [Bool.not_eq_true', Bool.or_eq_false_iff, Bool.not_eq_false', Bool.and_eq_true, decide_eq_true_eq, decide_eq_false_iff_not] at this
 obtain ⟨⟨⟨⟨h1, h2⟩, _⟩, h3⟩, _⟩ := this
 exact ⟨h1, by omega, by omega⟩
theorem ino_at {a : List Inode} {i : Int} (h : ¬ inodeAt a i < 0) : ∃ x, nthI a (inodeAt a i) = some x /\ x ∈ a /\ x.1 = i := by
 obtain ⟨k, x, e, hx, hp, _⟩ := idx_some (p := inodeIs i) (xs := a) (fun e => h (by unfold inodeAt; rw [e]; decide))
 refine ⟨x, ?_, List.mem_of_getElem? hx, of_decide_eq_true hp⟩
 unfold inodeAt nthI
 rw [e]; exact hx
theorem slot_at {l : List Slot} {n : List UInt8} (h : ¬ slotAt l n < 0) : ∃ x, nthI l (slotAt l n) = some x /\ x ∈ l /\ x.1 = n := by
 obtain ⟨k, x, e, hx, hp, _⟩ := idx_some (p := nameIs n) (xs := l) (fun e => h (by unfold slotAt; rw [e]; decide))
 refine ⟨x, ?_, List.mem_of_getElem? hx, by unfold nameIs at hp; simpa using hp⟩
 unfold slotAt nthI
 rw [e]; exact hx
theorem slot_ino {d : Disk} {l : List Slot} (h : slotsOK d.1 l = true) {x : Slot} (hx : x ∈ l) : ¬ inodeAt d.1 x.2.1 < 0 := by
 obtain ⟨k, hk⟩ := List.mem_iff_getElem?.1 hx
 exact slots_in h hk
theorem id_ok {d : Disk} (h : diskOK d = true) {l : List Slot} (hl : slotsOK d.1 l = true) {n : List UInt8} (hn : ¬ slotAt l n < 0) : (1 <= idOf l n /\ idOf l n <= 1000000) /\ ¬ inodeAt d.1 (idOf l n) < 0 := by
 obtain ⟨x, e, hx, _⟩ := slot_at hn
 rw [<- idOf_at hn e]
 have h1 := slot_ino hl hx
 obtain ⟨y, _, hy, e2⟩ := ino_at h1
 have := ino_facts h hy
 exact ⟨by omega, h1⟩
end Go.Fn
namespace Go.Fn
open Go.Ab
def manN : List UInt8 := [77, 65, 78, 73, 70, 69, 83, 84]
def nmC (d : Disk) : Int := if readB d manN = false then 5 else rmC (readT d manN)
def nmS (d : Disk) : List (List UInt8) := if readB d manN = false then [] else rmS (readT d manN)
theorem readT_len {d : Disk} (hd : diskOK d = true) (n : List UInt8) : (readT d n).length <= 4096 := by
 unfold readT
 split
 · simp
 · rename_i hs
   obtain ⟨x, e, _, _⟩ := slot_at hs
   have e1 := idOf_at hs e
   have hi := (id_ok hd (diskOK_parts hd).1 hs).2
   have e2 : slotId d.2.1 n = idOf d.2.1 n := by unfold idOf; rw [if_neg hs]
   obtain ⟨y, ey, hy, _⟩ := ino_at hi
   rw [e2, ey]
   exact (ino_facts hd hy).2.2
theorem nm_none {d : Disk} (h : readB d manN = false) : [] = nmS d /\ 5 = nmC d := by
 unfold nmS nmC; rw [if_pos h, if_pos h]; exact ⟨rfl, rfl⟩
theorem nm_some {d : Disk} (h : readB d manN = true) : rmS (readT d manN) = nmS d /\ rmC (readT d manN) = nmC d := by
 unfold nmS nmC; rw [h]; exact ⟨rfl, rfl⟩
end Go.Fn
namespace Go.Fn
open Go.Ab
def inNames (names : List (List UInt8)) (s : Slot) : Bool := decide (s.1 = manN) || names.any (fun y => decide (y = s.1))
theorem in_man {ns : List (List UInt8)} {x : Slot} (h : x.1 = [77, 65, 78, 73, 70, 69, 83, 84]) : inNames ns x = true := by
 unfold inNames; rw [h]; rfl
theorem in_none {ns : List (List UInt8)} {x : Slot} (h : ¬ x.1 = [77, 65, 78, 73, 70, 69, 83, 84]) (hn : (ns.any fun y => decide (y = x.1)) = false) : inNames ns x = false := by
 unfold inNames; rw [hn, show decide (x.1 = manN) = false from decide_eq_false h]; rfl
theorem in_any {ns : List (List UInt8)} {x : Slot} (hn : (ns.any fun y => decide (y = x.1)) = true) : inNames ns x = true := by
 unfold inNames; rw [hn, Bool.or_true]
end Go.Fn
namespace Go.Proofs.YtkdnelaoagmeaaaGreatDoor
open Go.Ab Go.Fn
def s_nm : FSpec := { ps := [.v tDisk], rs := [.o (.slice .str), .v I], pre := fun x => Fn.diskOK x.1 = true, fn := fun x => (Fn.nmS x.1, Fn.nmC x.1, ()), upd := fun _ => () }
theorem ft_stackNames : FT 100 s_nm := by
 refine foT (specs := [(145, s_read), (167, s_readM)]) (clos := []) (fun x => []) ⟨toT fo_iread, ft_readManifest, trivial⟩ trivial Tryz.func100 rfl rfl ?_
 rintro ⟨⟨a, b, c, d, ⟨⟩⟩, ⟨⟩⟩ hd
 refine vcOf (4 <= (4) /\ true = true /\ diskOK (a, b, c, d, ()) = true /\ ((!readB (a, b, c, d, ()) (([77, 65, 78, 73, 70, 69, 83, 84] : List UInt8))) = true -> (([] : List (List UInt8)), (5 : Int), ()) = (nmS (a, b, c, d, ()), nmC (a, b, c, d, ()), ()) /\ () = ()) /\ ((!readB (a, b, c, d, ()) (([77, 65, 78, 73, 70, 69, 83, 84] : List UInt8))) = false -> true = true /\ (readT (a, b, c, d, ()) (([77, 65, 78, 73, 70, 69, 83, 84] : List UInt8))).length <= (65536 : Nat) /\ (rmS (readT (a, b, c, d, ()) (([77, 65, 78, 73, 70, 69, 83, 84] : List UInt8))), rmC (readT (a, b, c, d, ()) (([77, 65, 78, 73, 70, 69, 83, 84] : List UInt8))), ()) = (nmS (a, b, c, d, ()), nmC (a, b, c, d, ()), ()) /\ () = ())) (by kernel_rfl) ?_
 simp only [NS, eq_self, ne_eq, forall_const, implies_true, Nat.reduceAdd, Nat.reduceLeDiff, nz, Int.reduceEq, Nat.reduceEqDiff, reduceCtorEq]; try simp only [lenL]
 have hd : diskOK (a, b, c, d, ()) = true := hd
 exact ⟨hd, fun h => nm_none h, fun h => ⟨Nat.le_trans (readT_len hd _) (by decide), nm_some h⟩⟩
theorem fo_l12Names : FO 95 s_nm := by
 refine fo (specs := [(143, s_read), (163, s_readM)]) (clos := []) (fun x => []) ⟨fo_l11Read, fo_l12ReadManifest, trivial⟩ trivial Tryz.func95 rfl rfl ?_
 rintro ⟨⟨a, b, c, d, ⟨⟩⟩, ⟨⟩⟩ hd
 refine vcOf (4 <= (4) /\ true = true /\ diskOK (a, b, c, d, ()) = true /\ ((!readB (a, b, c, d, ()) (([77, 65, 78, 73, 70, 69, 83, 84] : List UInt8))) = true -> (([] : List (List UInt8)), (5 : Int), ()) = (nmS (a, b, c, d, ()), nmC (a, b, c, d, ()), ()) /\ () = ()) /\ ((!readB (a, b, c, d, ()) (([77, 65, 78, 73, 70, 69, 83, 84] : List UInt8))) = false -> true = true /\ (readT (a, b, c, d, ()) (([77, 65, 78, 73, 70, 69, 83, 84] : List UInt8))).length <= (65536 : Nat) /\ (rmS (readT (a, b, c, d, ()) (([77, 65, 78, 73, 70, 69, 83, 84] : List UInt8))), rmC (readT (a, b, c, d, ()) (([77, 65, 78, 73, 70, 69, 83, 84] : List UInt8))), ()) = (nmS (a, b, c, d, ()), nmC (a, b, c, d, ()), ()) /\ () = ())) (by kernel_rfl) ?_
 simp only [NS, eq_self, ne_eq, forall_const, implies_true, Nat.reduceAdd, Nat.reduceLeDiff, nz, Int.reduceEq, Nat.reduceEqDiff, reduceCtorEq]; try simp only [lenL]
 have hd : diskOK (a, b, c, d, ()) = true := hd
 exact ⟨hd, fun h => nm_none h, fun h => ⟨Nat.le_trans (readT_len hd _) (by decide), nm_some h⟩⟩
end Go.Proofs.YtkdnelaoagmeaaaGreatDoor
namespace Go.Fn
open Go.Ab
def firstBad : List Int -> Int
 | [] => 0
 | c :: r => if c = 0 then firstBad r else c
theorem fb_at {α : Type} {f : α -> Int} : ∀ {l : List α} {k : Nat} {x : α}, (∀ j y, j < k -> l[j]? = some y -> f y = 0) -> l[k]? = some x -> ¬ f x = 0 -> firstBad (l.map f) = f x
 | [], k, x, _, hk, _ => by simp at hk
 | y :: r, 0, x, _, hk, hx => by
   simp only [List.getElem?_cons_zero, Option.some.injEq] at hk; subst hk
   show (if f y = 0 then _ else _) = _
   rw [if_neg hx]
 | y :: r, k + 1, x, h, hk, hx => by
   show (if f y = 0 then firstBad (r.map f) else f y) = _
   rw [if_pos (h 0 y (Nat.succ_pos _) rfl)]
   exact fb_at (fun j z hj hz => h (j + 1) z (Nat.succ_lt_succ hj) (by simpa using hz)) (by simpa using hk) hx
theorem fb_end {α : Type} {f : α -> Int} {l : List α} (h : ∀ x, x ∈ l -> f x = 0) : firstBad (l.map f) = 0 := by
 induction l with
 | nil => rfl
 | cons y r ih =>
   show (if f y = 0 then firstBad (r.map f) else f y) = _
   rw [if_pos (h y List.mem_cons_self)]
   exact ih fun x hx => h x (List.mem_cons_of_mem _ hx)
def ldOne (d : Disk) (n : List UInt8) : Int := if readB d n = false then 10 else wholeC (readT d n)
def ldC (d : Disk) : Int := if nmC d = 0 then firstBad ((nmS d).map (ldOne d)) else nmC d
def ldS (d : Disk) : List (List Rec) := if ldC d = 0 then (nmS d).map (fun n => wholeL (readT d n)) else []
def LdInv (d : Disk) (q : Nat × List (List Rec)) : Prop := q.1 <= (nmS d).length /\ q.2 = ((nmS d).take q.1).map (fun n => wholeL (readT d n)) /\ ∀ (j : Nat) (n : List UInt8), j < q.1 -> (nmS d)[j]? = some n -> ldOne d n = 0
theorem ld_nm {d : Disk} (h : ¬ nmC d = 0) : [] = ldS d /\ nmC d = ldC d := by
 have e : ldC d = nmC d := by unfold ldC; rw [if_neg h]
 exact ⟨by unfold ldS; rw [if_neg (by rw [e]; exact h)], e.symm⟩
theorem ld_start {d : Disk} : LdInv d (0, []) := ⟨Nat.zero_le _, rfl, fun j _ hj => absurd hj (Nat.not_lt_zero j)⟩
theorem ld_bad {d : Disk} {q : Nat × List (List Rec)} {n : List UInt8} (h0 : nmC d = 0) (hI : LdInv d q) (hn : (nmS d)[q.1]? = some n) (hb : ¬ ldOne d n = 0) : [] = ldS d /\ ldOne d n = ldC d := by
 have e : ldC d = ldOne d n := by unfold ldC; rw [if_pos h0]; exact fb_at hI.2.2 hn hb
 exact ⟨by unfold ldS; rw [if_neg (by rw [e]; exact hb)], e.symm⟩
theorem ld_none {d : Disk} {q : Nat × List (List Rec)} {n : List UInt8} (h0 : nmC d = 0) (hI : LdInv d q) (hn : (nmS d)[q.1]? = some n) (h : readB d n = false) : [] = ldS d /\ 10 = ldC d := by
 have e : ldOne d n = 10 := by unfold ldOne; rw [if_pos h]
 have := ld_bad h0 hI hn (by rw [e]; decide)
 rwa [e] at this
theorem ld_code {d : Disk} {q : Nat × List (List Rec)} {n : List UInt8} (h0 : nmC d = 0) (hI : LdInv d q) (hn : (nmS d)[q.1]? = some n) (h : readB d n = true) (hc : ¬ wholeC (readT d n) = 0) : [] = ldS d /\ wholeC (readT d n) = ldC d := by
 have e : ldOne d n = wholeC (readT d n) := by unfold ldOne; rw [h]; rfl
 have := ld_bad h0 hI hn (by rw [e]; exact hc)
 rwa [e] at this
theorem ld_step {d : Disk} {k : Nat} {out : List (List Rec)} {n : List UInt8} (hI : LdInv d (k, out)) (hn : (nmS d)[k]? = some n) (h : readB d n = true) (hc : wholeC (readT d n) = 0) : LdInv d (k + 1, out ++ [wholeL (readT d n)]) := by
 have hl := (List.getElem?_eq_some_iff.1 hn).1
 refine ⟨hl, ?_, below_succ (P := fun n => ldOne d n = 0) hI.2.2 hn (by unfold ldOne; rw [h]; exact hc)⟩
 have e : out = ((nmS d).take k).map (fun n => wholeL (readT d n)) := hI.2.1
 show out ++ [wholeL (readT d n)] = ((nmS d).take (k + 1)).map (fun n => wholeL (readT d n))
 rw [e, List.take_add_one, hn]; simp
theorem ld_end {d : Disk} {k : Nat} {out : List (List Rec)} (h0 : nmC d = 0) (hI : LdInv d (k, out)) (hk : ¬ k < (nmS d).length) : out = ldS d /\ 0 = ldC d := by
 have e : ldC d = 0 := by
   unfold ldC; rw [if_pos h0]
   refine fb_end fun x hx => ?_
   obtain ⟨j, hj⟩ := List.mem_iff_getElem?.1 hx
   have := (List.getElem?_eq_some_iff.1 hj).1
   exact hI.2.2 j x (by show j < k; omega) hj
 refine ⟨?_, e.symm⟩
 have e2 : out = ((nmS d).take k).map (fun n => wholeL (readT d n)) := hI.2.1
 unfold ldS; rw [if_pos e, e2, List.take_of_length_le (by omega)]
end Go.Fn
namespace Go.Fn
open Go.Ab
abbrev StepV := Int × List UInt8 × List UInt8 × List UInt8 × Unit
def stSync (n : List UInt8) : StepV := (2, n, [], [], ())
def stRm (n : List UInt8) : StepV := (4, n, [], [], ())
def stDir : StepV := (5, [], [], [], ())
def rmOf (d : Disk) (k : Nat) : List StepV := ((d.2.1.take k).filter (fun s => !inNames (nmS d) s)).map (fun s => stRm s.1)
def rpHead (d : Disk) : List StepV := (nmS d).map stSync ++ [stSync manN, stDir]
def rpB (d : Disk) : List StepV := rpHead d ++ rmOf d d.2.1.length ++ [stDir]
def rpC (d : Disk) : Int := if diskOK d = false then 1 else ldC d
def rpS (d : Disk) : List StepV := if rpC d = 0 then rpB d else []
theorem rp_bad {d : Disk} (h : diskOK d = false) : [] = rpS d /\ 1 = rpC d := by
 have e : rpC d = 1 := by unfold rpC; rw [if_pos h]
 exact ⟨by unfold rpS; rw [if_neg (by rw [e]; decide)], e.symm⟩
theorem rp_code {d : Disk} (h : diskOK d = true) (hc : ¬ ldC d = 0) : [] = rpS d /\ ldC d = rpC d := by
 have e : rpC d = ldC d := by unfold rpC; rw [h]; rfl
 exact ⟨by unfold rpS; rw [if_neg (by rw [e]; exact hc)], e.symm⟩
theorem rp_ok {d : Disk} (h : diskOK d = true) (hc : ldC d = 0) : rpB d = rpS d /\ 0 = rpC d := by
 have e : rpC d = 0 := by unfold rpC; rw [h]; exact hc
 exact ⟨by unfold rpS; rw [if_pos e], e.symm⟩
theorem rm_none {d : Disk} {k : Nat} {s : Slot} (hs : d.2.1[k]? = some s) (h : inNames (nmS d) s = true) : rmOf d (k + 1) = rmOf d k := by
 unfold rmOf; rw [List.take_add_one, hs]; simp [List.filter_append, h]
theorem rm_some {d : Disk} {k : Nat} {s : Slot} (hs : d.2.1[k]? = some s) (h : inNames (nmS d) s = false) : rmOf d (k + 1) = rmOf d k ++ [stRm s.1] := by
 unfold rmOf; rw [List.take_add_one, hs]; simp [List.filter_append, h]
theorem rm_end {d : Disk} {k : Nat} (hk : k <= d.2.1.length) (h : ¬ k < d.2.1.length) : rmOf d k = rmOf d d.2.1.length := by
 rw [show k = d.2.1.length from by omega]
theorem any_own {ns : List (List UInt8)} {s : Slot} : ((ns ++ [manN]).any fun y => decide (y = s.1)) = inNames ns s := by
 unfold inNames
 rw [List.any_append, Bool.or_comm]
 congr 1
 simp only [List.any_cons, List.any_nil, Bool.or_false]
 exact decide_eq_decide.2 ⟨Eq.symm, Eq.symm⟩
end Go.Fn
namespace Go.Fn
open Go.Ab
def lsC (d : Disk) : Int := if diskOK d = false then 1 else ldC d
def lsS (d : Disk) : List (List Rec) := if diskOK d = false then [] else ldS d
theorem ls_bad {d : Disk} (h : diskOK d = false) : [] = lsS d /\ 1 = lsC d := by
 unfold lsS lsC; rw [if_pos h, if_pos h]; exact ⟨rfl, rfl⟩
theorem ls_ok {d : Disk} (h : diskOK d = true) : ldS d = lsS d /\ ldC d = lsC d := by
 unfold lsS lsC; rw [h]; exact ⟨rfl, rfl⟩
theorem ls_zero {d : Disk} (h : lsC d = 0) : diskOK d = true := by
 cases hd : diskOK d with
 | true => rfl
 | false => rw [<- (ls_bad hd).2] at h; cases h
theorem rp_not {d : Disk} (hc : ¬ lsC d = 0) : [] = rpS d /\ lsC d = rpC d := by
 cases hd : diskOK d with
 | true => rw [<- (ls_ok hd).2] at hc ⊢; exact rp_code hd hc
 | false => rw [<- (ls_bad hd).2]; exact rp_bad hd
end Go.Fn
namespace Go.Fn
open Go.Ab
theorem nm_five (d : Disk) : (nmS d).length <= 5 := by
 unfold nmS
 split
 · simp
 · unfold rmS
   split
   · rename_i h
     unfold rmC at h
     split at h
     · cases h
     · rename_i hf
       have hf : formOK (readT d manN) = true := by
         cases hq : formOK (readT d manN) with
         | true => rfl
         | false => exact absurd hq hf
       unfold formOK at hf
       simp only [Bool.and_eq_true] at hf
       exact (names_ok hf.2.2.1).1
   · simp
theorem slots_24 {d : Disk} (h : diskOK d = true) : d.2.1.length <= 24 := by
 unfold diskOK badHead at h
 simp only [Bool.and_eq_true, Bool.not_eq_true', Bool.or_eq_false_iff, decide_eq_false_iff_not] at h
 omega
theorem sync_step {l : List (List UInt8)} {k : Nat} {x : List UInt8} (hx : l[k]? = some x) : (l.take k).map stSync ++ [(2, x, [], [], ())] = (l.take (k + 1)).map stSync := by
 rw [List.take_add_one, hx]; simp [stSync]
theorem sync_len {l : List (List UInt8)} {k : Nat} (h : l.length <= 6) : fits (((l.take k).map stSync).length + 1) := by
 unfold fits; rw [List.length_map, List.length_take]; omega
theorem sync_len2 {l : List (List UInt8)} {k : Nat} (h : l.length <= 6) : fits (((l.take k).map stSync).length + 2) := by
 unfold fits; rw [List.length_map, List.length_take]; omega
theorem rm_zero (d : Disk) : rmOf d 0 = [] := rfl
theorem rm_len (d : Disk) (k : Nat) : (rmOf d k).length <= k := by
 unfold rmOf
 rw [List.length_map]
 exact Nat.le_trans (List.length_filter_le _ _) (List.length_take_le _ _)
theorem rh_len (d : Disk) : (rpHead d).length <= 7 := by
 unfold rpHead; have := nm_five d
 simp only [List.length_append, List.length_map, List.length_cons, List.length_nil]; omega
theorem rp_len {d : Disk} {k : Nat} (hk : k <= d.2.1.length) (h : diskOK d = true) : fits ((rpHead d ++ rmOf d k).length + 1) := by
 unfold fits; rw [List.length_append]
 have := rm_len d k; have := rh_len d; have := slots_24 h
 omega
theorem rp_mid {d : Disk} {k : Nat} (hk : ¬ k < (nmS d).length) : ((nmS d).take k).map stSync ++ [(2, [77, 65, 78, 73, 70, 69, 83, 84], [], [], ()), (5, [], [], [], ())] = rpHead d ++ rmOf d 0 := by
 rw [List.take_of_length_le (by omega), rm_zero, List.append_nil]; rfl
theorem rp_mid2 {d : Disk} {k : Nat} (hk : ¬ k < (nmS d ++ [manN]).length) : ((nmS d ++ [manN]).take k).map stSync ++ [(5, [], [], [], ())] = rpHead d ++ rmOf d 0 := by
 rw [List.take_of_length_le (by omega), rm_zero, List.append_nil, List.map_append, List.append_assoc]; rfl
theorem rp_rm {d : Disk} {k : Nat} {s : Slot} (hs : d.2.1[k]? = some s) (h : inNames (nmS d) s = false) : rpHead d ++ rmOf d k ++ [(4, s.1, [], [], ())] = rpHead d ++ rmOf d (k + 1) := by
 rw [rm_some hs h, List.append_assoc]; rfl
theorem rp_keep {d : Disk} {k : Nat} {s : Slot} (hs : d.2.1[k]? = some s) (h : inNames (nmS d) s = true) : rpHead d ++ rmOf d k = rpHead d ++ rmOf d (k + 1) := by
 rw [rm_none hs h]
theorem rp_fin {d : Disk} {k : Nat} (hd : diskOK d = true) (hc : ldC d = 0) (hk : k <= d.2.1.length) (h : ¬ k < d.2.1.length) : rpHead d ++ rmOf d k ++ [(5, [], [], [], ())] = rpS d /\ 0 = rpC d := by
 rw [rm_end hk h]; exact rp_ok hd hc
end Go.Fn
namespace Go.Proofs.YtkdnelaoagmeaaaGreatDoor
open Go.Ab Go.Fn
def s_load : FSpec := { ps := [.v tDisk], rs := [.o (.slice (.slice tRec)), .v I], pre := fun x => Fn.diskOK x.1 = true, fn := fun x => (Fn.ldS x.1, Fn.ldC x.1, ()), upd := fun _ => () }
def L_l12Load (d : Fn.Disk) : LoopAnn := { ι := Nat × List (List Fn.Rec), inv := fun q => Fn.LdInv d q, slots := fun q => [(7, .d I (Int.ofNat q.1)), (4, .d (.slice .str) (Fn.nmS d)), (6, .os 3)], objs := fun q => [(3, .arr (.slice tRec) q.2 false)], μ := fun q => (Fn.nmS d).length - q.1, fz := [4] }
theorem fo_l12Load : FO 78 s_load := by
 refine fo (specs := [(95, s_nm), (143, s_read), (144, s_wholeV)]) (clos := []) (fun x => [(6, .lv [1, 4, 6, 7] <| fun _ => L_l12Load x.1)]) ⟨fo_l12Names, fo_l11Read, fo_l09WholeV, trivial⟩ trivial Tryz.func78 rfl rfl ?_
 rintro ⟨⟨a, b, c, d, ⟨⟩⟩, ⟨⟩⟩ hd
 refine vcOf (4 <= (4) /\ true = true /\ diskOK (a, b, c, d, ()) = true /\ ((nmC (a, b, c, d, ()) != (0 : Int)) = true -> (([] : List (List (Int × List UInt8 × List UInt8 × Int × Bool × Unit))), nmC (a, b, c, d, ()), ()) = (ldS (a, b, c, d, ()), ldC (a, b, c, d, ()), ()) /\ () = ()) /\ ((nmC (a, b, c, d, ()) != (0 : Int)) = false -> (∃ (i : Nat × List (List Rec)), LdInv (a, b, c, d, ()) i /\ ((0 = 0 /\ (0 : Nat) = 0) /\ nmS (a, b, c, d, ()) = nmS (a, b, c, d, ()) /\ (3) = (3 : Nat) /\ (0 : Int) = Int.ofNat i.fst /\ True) /\ ((a = a /\ b = b /\ c = c /\ d = d /\ True) /\ (([] : List (List (Int × List UInt8 × List UInt8 × Int × Bool × Unit))) = ([] : List (List (Int × List UInt8 × List UInt8 × Int × Bool × Unit))) /\ false = false) /\ True /\ (([] : List (List (Int × List UInt8 × List UInt8 × Int × Bool × Unit))) = i.snd /\ false = false) /\ True) /\ True) /\ ∀ (i : Nat × List (List Rec)), LdInv (a, b, c, d, ()) i -> fits (lenL (nmS (a, b, c, d, ()))) -> (decide (Int.ofNat i.fst < iOf (lenL (nmS (a, b, c, d, ())))) = true -> 4 <= (4) /\ bnd (Int.ofNat i.fst) (lenL (nmS (a, b, c, d, ()))) /\ ∀ (x : List UInt8), nthI (nmS (a, b, c, d, ())) (Int.ofNat i.fst) = some x -> 1 <= 1 /\ true = true /\ diskOK (a, b, c, d, ()) = true /\ ((!readB (a, b, c, d, ()) x) = true -> (([] : List (List (Int × List UInt8 × List UInt8 × Int × Bool × Unit))), (10 : Int), ()) = (ldS (a, b, c, d, ()), ldC (a, b, c, d, ()), ()) /\ () = ()) /\ ((!readB (a, b, c, d, ()) x) = false -> true = true /\ (readT (a, b, c, d, ()) x).length <= (100000000 : Nat) /\ ((wholeC (readT (a, b, c, d, ()) x) != (0 : Int)) = true -> (([] : List (List (Int × List UInt8 × List UInt8 × Int × Bool × Unit))), wholeC (readT (a, b, c, d, ()) x), ()) = (ldS (a, b, c, d, ()), ldC (a, b, c, d, ()), ()) /\ () = ()) /\ ((wholeC (readT (a, b, c, d, ()) x) != (0 : Int)) = false -> fits (lenL i.snd + lenL (wholeL (readT (a, b, c, d, ()) x) :: ([] : List (List (Int × List UInt8 × List UInt8 × Int × Bool × Unit))))) /\ ∃ (j : Nat × List (List Rec)), LdInv (a, b, c, d, ()) j /\ (nmS (a, b, c, d, ())).length.sub j.fst < (nmS (a, b, c, d, ())).length.sub i.fst /\ ((0 = 0 /\ (0 : Nat) = 0) /\ nmS (a, b, c, d, ()) = nmS (a, b, c, d, ()) /\ (3 : Nat) = 3 /\ wAdd .i64 (Int.ofNat i.fst) (1 : Int) = Int.ofNat j.fst /\ True) /\ ((a = a /\ b = b /\ c = c /\ d = d /\ True) /\ (([] : List (List (Int × List UInt8 × List UInt8 × Int × Bool × Unit))) = ([] : List (List (Int × List UInt8 × List UInt8 × Int × Bool × Unit))) /\ false = false) /\ True /\ (i.snd ++ wholeL (readT (a, b, c, d, ()) x) :: ([] : List (List (Int × List UInt8 × List UInt8 × Int × Bool × Unit))) = j.snd /\ false = false) /\ True) /\ True))) /\ (decide (Int.ofNat i.fst < iOf (lenL (nmS (a, b, c, d, ())))) = false -> (i.snd, (0 : Int), ()) = (ldS (a, b, c, d, ()), ldC (a, b, c, d, ()), ()) /\ () = ()))) (by kernel_rfl) ?_
 simp only [NS, eq_self, ne_eq, forall_const, implies_true, Nat.reduceAdd, Nat.reduceLeDiff, nz, Int.reduceEq, Nat.reduceEqDiff, reduceCtorEq]; try simp only [lenL]
 have hd : diskOK (a, b, c, d, ()) = true := hd
 refine ⟨hd, fun h => ld_nm h, fun h0 => ⟨⟨(0, []), ld_start, rfl, rfl⟩, ?_⟩⟩
 rintro ⟨k, out⟩ hI hf
 have hk : k <= (nmS (a, b, c, d, ())).length := hI.1
 have ho : out.length <= k := by
   have e : out = ((nmS (a, b, c, d, ())).take k).map (fun n => wholeL (readT (a, b, c, d, ()) n)) := hI.2.1
   rw [e, List.length_map, List.length_take]; exact Nat.min_le_left _ _
 refine ⟨fun hlt => ⟨hlt, fun x hx => ⟨hd, fun hr => ld_none (q := (k, out)) h0 hI hx hr, fun hr => ⟨Nat.le_trans (readT_len hd _) (by decide), fun hc => ld_code (q := (k, out)) h0 hI hx hr hc, fun hc => ⟨?_, (k + 1, out ++ [wholeL (readT (a, b, c, d, ()) x)]), ld_step hI hx hr hc, Nat.sub_lt_sub_left hlt (Nat.lt_succ_self k), inc_in hf hk, rfl⟩⟩⟩⟩, fun hge => ld_end h0 hI hge⟩
 have hf : (nmS (a, b, c, d, ())).length < 1099511627776 := hf
 have hlt : k < (nmS (a, b, c, d, ())).length := hlt
 show out.length + 1 < 1099511627776
 omega
end Go.Proofs.YtkdnelaoagmeaaaGreatDoor
namespace Go.Proofs.YtkdnelaoagmeaaaGreatDoor
open Go.Ab Go.Fn
def L_load (d : Fn.Disk) : LoopAnn := { ι := Nat × List (List Fn.Rec), inv := fun q => Fn.LdInv d q, slots := fun q => [(25, .d I (Int.ofNat q.1)), (23, .d (.slice .str) (Fn.nmS d)), (6, .os 3)], objs := fun q => [(3, .arr (.slice tRec) q.2 false)], μ := fun q => (Fn.nmS d).length - q.1, fz := [4] }
theorem ft_load : FT 79 s_load := by
 refine foT (specs := [(100, s_nm), (145, s_read), (146, s_wholeV)]) (clos := []) (fun x => [(6, .lv [1, 6, 23, 24, 25] <| fun _ => L_load x.1)]) ⟨ft_stackNames, toT fo_iread, toT fo_readLayerV, trivial⟩ trivial Tryz.func79 rfl rfl ?_
 rintro ⟨⟨a, b, c, d, ⟨⟩⟩, ⟨⟩⟩ hd
 refine vcOf (4 <= (4) /\ true = true /\ diskOK (a, b, c, d, ()) = true /\ ((nmC (a, b, c, d, ()) != (0 : Int)) = true -> (([] : List (List (Int × List UInt8 × List UInt8 × Int × Bool × Unit))), nmC (a, b, c, d, ()), ()) = (ldS (a, b, c, d, ()), ldC (a, b, c, d, ()), ()) /\ () = ()) /\ ((nmC (a, b, c, d, ()) != (0 : Int)) = false -> fits (lenL (nmS (a, b, c, d, ()))) -> (∃ (i : Nat × List (List Rec)), LdInv (a, b, c, d, ()) i /\ ((0 = 0 /\ (0 : Nat) = 0) /\ (3) = (3 : Nat) /\ nmS (a, b, c, d, ()) = nmS (a, b, c, d, ()) /\ iOf (lenL (nmS (a, b, c, d, ()))) = iOf (lenL (nmS (a, b, c, d, ()))) /\ (0 : Int) = Int.ofNat i.fst /\ True) /\ ((a = a /\ b = b /\ c = c /\ d = d /\ True) /\ (([] : List (List (Int × List UInt8 × List UInt8 × Int × Bool × Unit))) = ([] : List (List (Int × List UInt8 × List UInt8 × Int × Bool × Unit))) /\ false = false) /\ True /\ (([] : List (List (Int × List UInt8 × List UInt8 × Int × Bool × Unit))) = i.snd /\ false = false) /\ True) /\ True) /\ ∀ (i : Nat × List (List Rec)), LdInv (a, b, c, d, ()) i -> (decide (Int.ofNat i.fst < iOf (lenL (nmS (a, b, c, d, ())))) = true -> bnd (Int.ofNat i.fst) (lenL (nmS (a, b, c, d, ()))) /\ ∀ (x : List UInt8), nthI (nmS (a, b, c, d, ())) (Int.ofNat i.fst) = some x -> 1 <= 1 /\ 4 <= (4) /\ true = true /\ diskOK (a, b, c, d, ()) = true /\ ((!readB (a, b, c, d, ()) x) = true -> (([] : List (List (Int × List UInt8 × List UInt8 × Int × Bool × Unit))), (10 : Int), ()) = (ldS (a, b, c, d, ()), ldC (a, b, c, d, ()), ()) /\ () = ()) /\ ((!readB (a, b, c, d, ()) x) = false -> true = true /\ (readT (a, b, c, d, ()) x).length <= (100000000 : Nat) /\ ((wholeC (readT (a, b, c, d, ()) x) != (0 : Int)) = true -> (([] : List (List (Int × List UInt8 × List UInt8 × Int × Bool × Unit))), wholeC (readT (a, b, c, d, ()) x), ()) = (ldS (a, b, c, d, ()), ldC (a, b, c, d, ()), ()) /\ () = ()) /\ ((wholeC (readT (a, b, c, d, ()) x) != (0 : Int)) = false -> fits (lenL i.snd + lenL (wholeL (readT (a, b, c, d, ()) x) :: ([] : List (List (Int × List UInt8 × List UInt8 × Int × Bool × Unit))))) /\ ∃ (j : Nat × List (List Rec)), LdInv (a, b, c, d, ()) j /\ (nmS (a, b, c, d, ())).length.sub j.fst < (nmS (a, b, c, d, ())).length.sub i.fst /\ ((0 = 0 /\ (0 : Nat) = 0) /\ (3 : Nat) = 3 /\ nmS (a, b, c, d, ()) = nmS (a, b, c, d, ()) /\ iOf (lenL (nmS (a, b, c, d, ()))) = iOf (lenL (nmS (a, b, c, d, ()))) /\ wAdd .i64 (Int.ofNat i.fst) (1 : Int) = Int.ofNat j.fst /\ True) /\ ((a = a /\ b = b /\ c = c /\ d = d /\ True) /\ (([] : List (List (Int × List UInt8 × List UInt8 × Int × Bool × Unit))) = ([] : List (List (Int × List UInt8 × List UInt8 × Int × Bool × Unit))) /\ false = false) /\ True /\ (i.snd ++ wholeL (readT (a, b, c, d, ()) x) :: ([] : List (List (Int × List UInt8 × List UInt8 × Int × Bool × Unit))) = j.snd /\ false = false) /\ True) /\ True))) /\ (decide (Int.ofNat i.fst < iOf (lenL (nmS (a, b, c, d, ())))) = false -> (i.snd, (0 : Int), ()) = (ldS (a, b, c, d, ()), ldC (a, b, c, d, ()), ()) /\ () = ()))) (by kernel_rfl) ?_
 simp only [NS, eq_self, ne_eq, forall_const, implies_true, Nat.reduceAdd, Nat.reduceLeDiff, nz, Int.reduceEq, Nat.reduceEqDiff, reduceCtorEq]; try simp only [lenL]
 have hd : diskOK (a, b, c, d, ()) = true := hd
 refine ⟨hd, fun h => ld_nm h, fun h0 => fun hf => ⟨⟨(0, []), ld_start, rfl, rfl⟩, ?_⟩⟩
 rintro ⟨k, out⟩ hI
 have hk : k <= (nmS (a, b, c, d, ())).length := hI.1
 have ho : out.length <= k := by
   have e : out = ((nmS (a, b, c, d, ())).take k).map (fun n => wholeL (readT (a, b, c, d, ()) n)) := hI.2.1
   rw [e, List.length_map, List.length_take]; exact Nat.min_le_left _ _
 refine ⟨fun hlt => ⟨hlt, fun x hx => ⟨hd, fun hr => ld_none (q := (k, out)) h0 hI hx hr, fun hr => ⟨Nat.le_trans (readT_len hd _) (by decide), fun hc => ld_code (q := (k, out)) h0 hI hx hr hc, fun hc => ⟨?_, (k + 1, out ++ [wholeL (readT (a, b, c, d, ()) x)]), ld_step hI hx hr hc, Nat.sub_lt_sub_left hlt (Nat.lt_succ_self k), inc_in hf hk, rfl⟩⟩⟩⟩, fun hge => ld_end h0 hI hge⟩
 have hf : (nmS (a, b, c, d, ())).length < 1099511627776 := hf
 have hlt : k < (nmS (a, b, c, d, ())).length := hlt
 show out.length + 1 < 1099511627776
 omega
end Go.Proofs.YtkdnelaoagmeaaaGreatDoor
namespace Go.Proofs.YtkdnelaoagmeaaaGreatDoor
open Go.Ab Go.Fn
def s_Clone_Slot : FSpec := { ps := [.v (.slice tSlot)], rs := [.o (.slice tSlot)], pre := fun _ => True, fn := fun x => (x.1, ()), upd := fun _ => () }
theorem fo_Clone_Slot : FO 106 s_Clone_Slot := by
 refine fo (specs := []) (clos := []) (fun x => []) trivial trivial Tryz.func106 rfl rfl ?_
 rintro ⟨xs, ⟨⟩⟩ -
 refine vcOf (∀ (b : Bool), (b = true -> xs = ([] : List (List UInt8 × Int × Unit))) -> (b = true -> (([] : List (List UInt8 × Int × Unit)), ()) = (xs, ()) /\ () = ()) /\ (b = false -> fits (lenL xs) -> (xs, ()) = (xs, ()) /\ () = ())) (by kernel_rfl) ?_
 simp only [NS, eq_self, ne_eq, forall_const, implies_true, Nat.reduceAdd, Nat.reduceLeDiff, nz, Int.reduceEq, Nat.reduceEqDiff, reduceCtorEq]; try simp only [lenL]
 exact fun b h hb => (h hb).symm
end Go.Proofs.YtkdnelaoagmeaaaGreatDoor
namespace Go.Proofs.YtkdnelaoagmeaaaGreatDoor
open Go.Ab Go.Fn
def s_Clone_Inode : FSpec := { ps := [.v (.slice tInode)], rs := [.o (.slice tInode)], pre := fun _ => True, fn := fun x => (x.1, ()), upd := fun _ => () }
theorem fo_Clone_Inode : FO 105 s_Clone_Inode := by
 refine fo (specs := []) (clos := []) (fun x => []) trivial trivial Tryz.func105 rfl rfl ?_
 rintro ⟨xs, ⟨⟩⟩ -
 refine vcOf (∀ (b : Bool), (b = true -> xs = ([] : List (Int × List UInt8 × Bool × Unit))) -> (b = true -> (([] : List (Int × List UInt8 × Bool × Unit)), ()) = (xs, ()) /\ () = ()) /\ (b = false -> fits (lenL xs) -> (xs, ()) = (xs, ()) /\ () = ())) (by kernel_rfl) ?_
 simp only [NS, eq_self, ne_eq, forall_const, implies_true, Nat.reduceAdd, Nat.reduceLeDiff, nz, Int.reduceEq, Nat.reduceEqDiff, reduceCtorEq]; try simp only [lenL]
 exact fun b h hb => (h hb).symm
end Go.Proofs.YtkdnelaoagmeaaaGreatDoor
namespace Go.Proofs.YtkdnelaoagmeaaaGreatDoor
open Go.Ab Go.Fn
def s_copied : FSpec := { ps := [.v tDisk], rs := [.o tDisk], pre := fun _ => True, fn := fun x => (x.1, ()), upd := fun _ => () }
theorem fo_copied : FO 49 s_copied := by
 refine fo (specs := [(106, s_Clone_Slot), (105, s_Clone_Inode)]) (clos := []) (fun x => []) ⟨fo_Clone_Slot, fo_Clone_Inode, trivial⟩ trivial Tryz.func49 rfl rfl ?_
 rintro ⟨⟨a, b, c, d, ⟨⟩⟩, ⟨⟩⟩ -
 refine vcOf (1 <= (4) /\ 2 <= (4) /\ 3 <= (4) /\ 4 <= (4) /\ true = true /\ True /\ true = true /\ True /\ true = true /\ True /\ 4 <= 4 /\ ((a, b, c, d, ()), ()) = ((a, b, c, d, ()), ()) /\ () = ()) (by kernel_rfl) ?_
 simp only [NS, eq_self, ne_eq, forall_const, implies_true, Nat.reduceAdd, Nat.reduceLeDiff, nz, Int.reduceEq, Nat.reduceEqDiff, reduceCtorEq]; try simp only [lenL]
end Go.Proofs.YtkdnelaoagmeaaaGreatDoor
namespace Go.Proofs.YtkdnelaoagmeaaaGreatDoor
open Go.Ab Go.Fn
def s_l11SyncDir : FSpec := { ps := [.v tDisk], rs := [.o tDisk], pre := fun _ => True, fn := fun x => (tidy (x.1.1, x.1.2.1, x.1.2.1, x.1.2.2.2.1, ()), ()), upd := fun _ => () }
theorem fo_l11SyncDir : FO 135 s_l11SyncDir := by
 refine fo (specs := [(43, s_l11Tidy)]) (clos := []) (fun x => []) ⟨fo_l11Tidy, trivial⟩ trivial Tryz.func135 rfl rfl ?_
 rintro ⟨⟨a, b, c, d, ⟨⟩⟩, ⟨⟩⟩ -
 refine vcOf (2 <= (4) /\ (fits (lenL b) -> 3 <= (4) /\ 4 <= (4) /\ true = true /\ True /\ 4 <= 4 /\ (((tidy (a, b, b, d, ())).fst, (tidy (a, b, b, d, ())).snd.fst, (tidy (a, b, b, d, ())).snd.snd.fst, (tidy (a, b, b, d, ())).snd.snd.snd.fst, ()), ()) = (tidy (a, b, b, d, ()), ()) /\ () = ())) (by kernel_rfl) ?_
 simp only [NS, eq_self, ne_eq, forall_const, implies_true, Nat.reduceAdd, Nat.reduceLeDiff, nz, Int.reduceEq, Nat.reduceEqDiff, reduceCtorEq]; try simp only [lenL]
end Go.Proofs.YtkdnelaoagmeaaaGreatDoor
namespace Go.Proofs.YtkdnelaoagmeaaaGreatDoor
open Go.Ab Go.Fn
def s_markInodeS : FSpec := { ps := [.mo tInode, .v I], rs := [.v I], pre := fun x => kOK x.2.1, fn := fun x => (atD 3 x.2.1 (List.length (α := Fn.Inode) x.1), ()), upd := fun x => (markL markI 3 (List.length (α := Fn.Inode) x.1) x.2.1, ()) }
def L_markInodeS (xs : List Fn.Inode) (k : Int) : LoopAnn := { ι := Nat, inv := fun j => j <= xs.length, slots := fun j => [(5, .d I (Int.ofNat j)), (1, .d I (atD 3 k j))], objs := fun j => [(0, .arr tInode (markTo markI 3 xs k j) true)], μ := fun j => xs.length - j }
theorem fo_markInodeS : FO 54 s_markInodeS := by
 refine fo (specs := [(69, s_markText)]) (clos := []) (fun x => [(2, .lv [0, 1, 5] <| fun _ => L_markInodeS x.1 x.2.1)]) ⟨fo_markText, trivial⟩ trivial Tryz.func54 rfl rfl ?_
 rintro ⟨xs, k, ⟨⟩⟩ hp
 have hp : kOK k := hp
 refine vcOf ((∃ (i : Nat), i <= List.length xs /\ ((0 : Nat) = 0 /\ k = atD (3 : Int) k i /\ (0 : Int) = Int.ofNat i /\ True) /\ ((xs = markTo markI (3 : Int) xs k i /\ true = true) /\ True) /\ True) /\ ∀ (i : Nat), i <= List.length xs -> fits (lenL (markTo markI (3 : Int) xs k i)) -> (decide (Int.ofNat i < iOf (lenL (markTo markI (3 : Int) xs k i))) = true -> bnd (Int.ofNat i) (lenL (markTo markI (3 : Int) xs k i)) /\ (1 <= 3 /\ tN (Int.ofNat i) < lenL (markTo markI (3 : Int) xs k i)) /\ ∀ (x : Int × List UInt8 × Bool × Unit), nth (markTo markI (3 : Int) xs k i) (tN (Int.ofNat i)) = some x -> true = true /\ wAdd .i64 (atD (3 : Int) k i) (1 : Int) <= (9000000000000000 : (PTy.v I).den) /\ bnd (Int.ofNat i) (lenL ((markTo markI (3 : Int) xs k i).set (tN (Int.ofNat i)) (atD (3 : Int) k i, x.snd.fst, x.snd.snd.fst, ()))) /\ (2 <= 3 /\ tN (Int.ofNat i) < lenL ((markTo markI (3 : Int) xs k i).set (tN (Int.ofNat i)) (atD (3 : Int) k i, x.snd.fst, x.snd.snd.fst, ()))) /\ ∀ (x_1 : Int × List UInt8 × Bool × Unit), nth ((markTo markI (3 : Int) xs k i).set (tN (Int.ofNat i)) (atD (3 : Int) k i, x.snd.fst, x.snd.snd.fst, ())) (tN (Int.ofNat i)) = some x_1 -> nz (3 : Int) /\ bnd (Int.ofNat i) (lenL (((markTo markI (3 : Int) xs k i).set (tN (Int.ofNat i)) (atD (3 : Int) k i, x.snd.fst, x.snd.snd.fst, ())).set (tN (Int.ofNat i)) (x_1.fst, markText (wAdd .i64 (atD (3 : Int) k i) (1 : Int)), x_1.snd.snd.fst, ()))) /\ (3 <= 3 /\ tN (Int.ofNat i) < lenL (((markTo markI (3 : Int) xs k i).set (tN (Int.ofNat i)) (atD (3 : Int) k i, x.snd.fst, x.snd.snd.fst, ())).set (tN (Int.ofNat i)) (x_1.fst, markText (wAdd .i64 (atD (3 : Int) k i) (1 : Int)), x_1.snd.snd.fst, ()))) /\ ∀ (x_2 : Int × List UInt8 × Bool × Unit), nth (((markTo markI (3 : Int) xs k i).set (tN (Int.ofNat i)) (atD (3 : Int) k i, x.snd.fst, x.snd.snd.fst, ())).set (tN (Int.ofNat i)) (x_1.fst, markText (wAdd .i64 (atD (3 : Int) k i) (1 : Int)), x_1.snd.snd.fst, ())) (tN (Int.ofNat i)) = some x_2 -> ∃ (j : Nat), j <= List.length xs /\ (List.length xs).sub j < (List.length xs).sub i /\ ((0 : Nat) = 0 /\ wAdd .i64 (wAdd .i64 (wAdd .i64 (atD (3 : Int) k i) (1 : Int)) (1 : Int)) (1 : Int) = atD (3 : Int) k j /\ wAdd .i64 (Int.ofNat i) (1 : Int) = Int.ofNat j /\ True) /\ (((((markTo markI (3 : Int) xs k i).set (tN (Int.ofNat i)) (atD (3 : Int) k i, x.snd.fst, x.snd.snd.fst, ())).set (tN (Int.ofNat i)) (x_1.fst, markText (wAdd .i64 (atD (3 : Int) k i) (1 : Int)), x_1.snd.snd.fst, ())).set (tN (Int.ofNat i)) (x_2.fst, x_2.snd.fst, wRem (wAdd .i64 (wAdd .i64 (atD (3 : Int) k i) (1 : Int)) (1 : Int)) (3 : Int) == (0 : Int), ()) = markTo markI (3 : Int) xs k j /\ true = true) /\ True) /\ True) /\ (decide (Int.ofNat i < iOf (lenL (markTo markI (3 : Int) xs k i))) = false -> (atD (3 : Int) k i, ()) = (atD (3 : Int) k (List.length xs), ()) /\ (markTo markI (3 : Int) xs k i, ()) = (markL markI (3 : Int) (List.length xs) k, ()))) (by kernel_rfl) ?_
 simp only [NS, eq_self, ne_eq, forall_const, implies_true, Nat.reduceAdd, Nat.reduceLeDiff, nz, Int.reduceEq, Nat.reduceEqDiff, reduceCtorEq]; try simp only [lenL]
 refine ⟨⟨0, Nat.zero_le _, ⟨atD_zero .., rfl⟩, (markTo_zero ..).symm⟩, fun j hj hf => ⟨fun hlt => ?_, fun hge => ?_⟩⟩
 · have e0 : (markTo markI 3 xs k j).length = List.length xs := markTo_len hj
   have e1 : ∀ y : Fn.Inode, ((markTo markI 3 xs k j).set j y).length = List.length xs := fun y => by rw [List.length_set]; exact e0
   have e2 : ∀ y z : Fn.Inode, (((markTo markI 3 xs k j).set j y).set j z).length = List.length xs := fun y z => by rw [List.length_set]; exact e1 y
   rw [e0] at hlt hf
   have hd : (0 : Int) <= 3 /\ (3 : Int) <= 16 := by decide
   simp only [tN_nat, at_add0 hp hd hj hf, at_add1 hp hd hj hf, at_add2 hp hd hj hf]
   refine ⟨e0 ▸ hlt, e0 ▸ hlt, fun x hx => ⟨at_small hp hd hj hf, (e1 _) ▸ hlt, (e1 _) ▸ hlt, fun x1 h1 => ?_⟩⟩
   cases nth_set h1
   refine ⟨(e2 _ _) ▸ hlt, (e2 _ _) ▸ hlt, fun x2 h2 => ?_⟩
   cases nth_set h2
   refine ⟨j + 1, hlt, by omega, ⟨atD_succ 3 k j, inc_in hf hj⟩, ?_⟩
   rw [List.set_set, List.set_set]
   exact markTo_set hlt
 · have hge : ¬ j < List.length xs := by rw [<- markTo_len (f := markI) (d := 3) (k := k) hj]; exact hge
   have : j = List.length xs := by omega
   subst this
   exact ⟨rfl, markTo_end hj hge⟩
end Go.Proofs.YtkdnelaoagmeaaaGreatDoor
namespace Go.Proofs.YtkdnelaoagmeaaaGreatDoor
open Go.Ab Go.Fn
def s_markSlotS : FSpec := { ps := [.mo tSlot, .v I], rs := [.v I], pre := fun x => kOK x.2.1, fn := fun x => (atD 2 x.2.1 (List.length (α := Fn.Slot) x.1), ()), upd := fun x => (markL markS 2 (List.length (α := Fn.Slot) x.1) x.2.1, ()) }
def L_markSlotS (xs : List Fn.Slot) (k : Int) : LoopAnn := { ι := Nat, inv := fun j => j <= xs.length, slots := fun j => [(5, .d I (Int.ofNat j)), (1, .d I (atD 2 k j))], objs := fun j => [(0, .arr tSlot (markTo markS 2 xs k j) true)], μ := fun j => xs.length - j }
theorem fo_markSlotS : FO 55 s_markSlotS := by
 refine fo (specs := [(69, s_markText)]) (clos := []) (fun x => [(2, .lv [0, 1, 5] <| fun _ => L_markSlotS x.1 x.2.1)]) ⟨fo_markText, trivial⟩ trivial Tryz.func55 rfl rfl ?_
 rintro ⟨xs, k, ⟨⟩⟩ hp
 have hp : kOK k := hp
 refine vcOf ((∃ (i : Nat), i <= List.length xs /\ ((0 : Nat) = 0 /\ k = atD (2 : Int) k i /\ (0 : Int) = Int.ofNat i /\ True) /\ ((xs = markTo markS (2 : Int) xs k i /\ true = true) /\ True) /\ True) /\ ∀ (i : Nat), i <= List.length xs -> fits (lenL (markTo markS (2 : Int) xs k i)) -> (decide (Int.ofNat i < iOf (lenL (markTo markS (2 : Int) xs k i))) = true -> true = true /\ atD (2 : Int) k i <= (9000000000000000 : (PTy.v I).den) /\ bnd (Int.ofNat i) (lenL (markTo markS (2 : Int) xs k i)) /\ (1 <= 2 /\ tN (Int.ofNat i) < lenL (markTo markS (2 : Int) xs k i)) /\ ∀ (x : List UInt8 × Int × Unit), nth (markTo markS (2 : Int) xs k i) (tN (Int.ofNat i)) = some x -> bnd (Int.ofNat i) (lenL ((markTo markS (2 : Int) xs k i).set (tN (Int.ofNat i)) (markText (atD (2 : Int) k i), x.snd.fst, ()))) /\ (2 <= 2 /\ tN (Int.ofNat i) < lenL ((markTo markS (2 : Int) xs k i).set (tN (Int.ofNat i)) (markText (atD (2 : Int) k i), x.snd.fst, ()))) /\ ∀ (x_1 : List UInt8 × Int × Unit), nth ((markTo markS (2 : Int) xs k i).set (tN (Int.ofNat i)) (markText (atD (2 : Int) k i), x.snd.fst, ())) (tN (Int.ofNat i)) = some x_1 -> ∃ (j : Nat), j <= List.length xs /\ (List.length xs).sub j < (List.length xs).sub i /\ ((0 : Nat) = 0 /\ wAdd .i64 (wAdd .i64 (atD (2 : Int) k i) (1 : Int)) (1 : Int) = atD (2 : Int) k j /\ wAdd .i64 (Int.ofNat i) (1 : Int) = Int.ofNat j /\ True) /\ ((((markTo markS (2 : Int) xs k i).set (tN (Int.ofNat i)) (markText (atD (2 : Int) k i), x.snd.fst, ())).set (tN (Int.ofNat i)) (x_1.fst, wAdd .i64 (atD (2 : Int) k i) (1 : Int), ()) = markTo markS (2 : Int) xs k j /\ true = true) /\ True) /\ True) /\ (decide (Int.ofNat i < iOf (lenL (markTo markS (2 : Int) xs k i))) = false -> (atD (2 : Int) k i, ()) = (atD (2 : Int) k (List.length xs), ()) /\ (markTo markS (2 : Int) xs k i, ()) = (markL markS (2 : Int) (List.length xs) k, ()))) (by kernel_rfl) ?_
 simp only [NS, eq_self, ne_eq, forall_const, implies_true, Nat.reduceAdd, Nat.reduceLeDiff, nz, Int.reduceEq, Nat.reduceEqDiff, reduceCtorEq]; try simp only [lenL]
 refine ⟨⟨0, Nat.zero_le _, ⟨atD_zero .., rfl⟩, (markTo_zero ..).symm⟩, fun j hj hf => ⟨fun hlt => ?_, fun hge => ?_⟩⟩
 · have e0 : (markTo markS 2 xs k j).length = List.length xs := markTo_len hj
   have e1 : ∀ y : Fn.Slot, ((markTo markS 2 xs k j).set j y).length = List.length xs := fun y => by rw [List.length_set]; exact e0
   rw [e0] at hlt hf
   have hd : (0 : Int) <= 2 /\ (2 : Int) <= 16 := by decide
   simp only [tN_nat, at_add0 hp hd hj hf, at_add1 hp hd hj hf]
   refine ⟨at_le hp hd hj hf, e0 ▸ hlt, e0 ▸ hlt, fun x hx => ⟨(e1 _) ▸ hlt, (e1 _) ▸ hlt, fun x1 h1 => ?_⟩⟩
   cases nth_set h1
   refine ⟨j + 1, hlt, by omega, ⟨atD_succ 2 k j, inc_in hf hj⟩, ?_⟩
   rw [List.set_set]
   exact markTo_set hlt
 · have hge : ¬ j < List.length xs := by rw [<- markTo_len (f := markS) (d := 2) (k := k) hj]; exact hge
   have : j = List.length xs := by omega
   subst this
   exact ⟨rfl, markTo_end hj hge⟩
end Go.Proofs.YtkdnelaoagmeaaaGreatDoor
namespace Go.Proofs.YtkdnelaoagmeaaaGreatDoor
open Go.Ab Go.Fn
def s_heldInodeS : FSpec := { ps := [.v (.slice tInode), .v I], rs := [.v I], pre := fun x => kOK x.2.1, fn := fun x => (heldI x.1 x.2.1, ()), upd := fun x => () }
def L_heldInodeS (xs : List Fn.Inode) (k : Int) : LoopAnn := { ι := Nat, inv := fun j => j <= xs.length /\ xs.take j = markL markI 3 j k, slots := fun j => [(5, .d I (Int.ofNat j)), (1, .d I (atD 3 k j))], objs := fun j => [], μ := fun j => xs.length - j }
theorem fo_heldInodeS : FO 56 s_heldInodeS := by
 refine fo (specs := [(69, s_markText)]) (clos := []) (fun x => [(2, .lv [0, 1, 5] <| fun _ => L_heldInodeS x.1 x.2.1)]) ⟨fo_markText, trivial⟩ trivial Tryz.func56 rfl rfl ?_
 rintro ⟨xs, k, ⟨⟩⟩ hp
 have hp : kOK k := hp
 refine vcOf ((∃ (i : Nat), (i <= List.length xs /\ List.take i xs = markL markI (3 : Int) i k) /\ (xs = xs /\ k = atD (3 : Int) k i /\ (0 : Int) = Int.ofNat i /\ True) /\ True /\ True) /\ ∀ (i : Nat), i <= List.length xs /\ List.take i xs = markL markI (3 : Int) i k -> fits (lenL xs) -> (decide (Int.ofNat i < iOf (lenL xs)) = true -> bnd (Int.ofNat i) (lenL xs) /\ ∀ (x : Int × List UInt8 × Bool × Unit), nthI xs (Int.ofNat i) = some x -> 1 <= (3) /\ ((x.fst != atD (3 : Int) k i) = true -> ((-1 : Int), ()) = (heldI xs k, ()) /\ () = ()) /\ ((x.fst != atD (3 : Int) k i) = false -> bnd (Int.ofNat i) (lenL xs) /\ ∀ (x : Int × List UInt8 × Bool × Unit), nthI xs (Int.ofNat i) = some x -> 1 <= Nat.succ (1) /\ true = true /\ wAdd .i64 (atD (3 : Int) k i) (1 : Int) <= (9000000000000000 : (PTy.v I).den) /\ ((!x.snd.fst == markText (wAdd .i64 (atD (3 : Int) k i) (1 : Int))) = true -> ((-1 : Int), ()) = (heldI xs k, ()) /\ () = ()) /\ ((!x.snd.fst == markText (wAdd .i64 (atD (3 : Int) k i) (1 : Int))) = false -> bnd (Int.ofNat i) (lenL xs) /\ ∀ (x : Int × List UInt8 × Bool × Unit), nthI xs (Int.ofNat i) = some x -> 1 <= 1 /\ nz (3 : Int) /\ (nBool x.snd.snd.fst (wRem (wAdd .i64 (wAdd .i64 (atD (3 : Int) k i) (1 : Int)) (1 : Int)) (3 : Int) == (0 : Int)) = true -> ((-1 : Int), ()) = (heldI xs k, ()) /\ () = ()) /\ (nBool x.snd.snd.fst (wRem (wAdd .i64 (wAdd .i64 (atD (3 : Int) k i) (1 : Int)) (1 : Int)) (3 : Int) == (0 : Int)) = false -> ∃ (j : Nat), (j <= List.length xs /\ List.take j xs = markL markI (3 : Int) j k) /\ (List.length xs).sub j < (List.length xs).sub i /\ (xs = xs /\ wAdd .i64 (wAdd .i64 (wAdd .i64 (atD (3 : Int) k i) (1 : Int)) (1 : Int)) (1 : Int) = atD (3 : Int) k j /\ wAdd .i64 (Int.ofNat i) (1 : Int) = Int.ofNat j /\ True) /\ True /\ True)))) /\ (decide (Int.ofNat i < iOf (lenL xs)) = false -> (atD (3 : Int) k i, ()) = (heldI xs k, ()) /\ () = ())) (by kernel_rfl) ?_
 simp only [NS, eq_self, ne_eq, forall_const, implies_true, Nat.reduceAdd, Nat.reduceLeDiff, nz, Int.reduceEq, Nat.reduceEqDiff, reduceCtorEq]; try simp only [lenL]
 have hd : (0 : Int) <= 3 /\ (3 : Int) <= 16 := by decide
 refine ⟨⟨0, ⟨Nat.zero_le _, rfl⟩, atD_zero .., rfl⟩, fun j ⟨hj, ht⟩ hf => ⟨fun hlt => ?_, fun hge => held_end hj hge ht⟩⟩
 simp only [at_add0 hp hd hj hf, at_add1 hp hd hj hf, at_add2 hp hd hj hf]
 refine ⟨hlt, fun x hx => ⟨fun h => held_bad hx (fun e => h (by rw [e]; rfl)), fun h1 => ⟨hlt, fun x2 hx2 => ?_⟩⟩⟩
 rw [hx] at hx2; cases hx2
 refine ⟨at_small hp hd hj hf, fun h => held_bad hx (fun e => h (by rw [e]; rfl)), fun h2 => ⟨hlt, fun x3 hx3 => ?_⟩⟩
 rw [hx] at hx3; cases hx3
 refine ⟨fun h => held_bad hx (fun e => ?_), fun h3 => ⟨j + 1, ⟨hlt, held_step ht hx ?_⟩, by omega, atD_succ 3 k j, inc_in hf hj⟩⟩
 · rw [e] at h; revert h; unfold markI third nBool; simp
 · obtain ⟨x1, x2, x3, ⟨⟩⟩ := x
   have h1 : x1 = atD 3 k j := h1
   have h2 : x2 = markText (atD 3 k j + 1) := h2
   have h3 : x3 = third (atD 3 k j + 2) := by
     revert h3; unfold nBool third; simp
   rw [h1, h2, h3]; rfl
end Go.Proofs.YtkdnelaoagmeaaaGreatDoor
namespace Go.Proofs.YtkdnelaoagmeaaaGreatDoor
open Go.Ab Go.Fn
def s_heldSlotS : FSpec := { ps := [.v (.slice tSlot), .v I], rs := [.v I], pre := fun x => kOK x.2.1, fn := fun x => (heldS x.1 x.2.1, ()), upd := fun x => () }
def L_heldSlotS (xs : List Fn.Slot) (k : Int) : LoopAnn := { ι := Nat, inv := fun j => j <= xs.length /\ xs.take j = markL markS 2 j k, slots := fun j => [(5, .d I (Int.ofNat j)), (1, .d I (atD 2 k j))], objs := fun j => [], μ := fun j => xs.length - j }
theorem fo_heldSlotS : FO 57 s_heldSlotS := by
 refine fo (specs := [(69, s_markText)]) (clos := []) (fun x => [(2, .lv [0, 1, 5] <| fun _ => L_heldSlotS x.1 x.2.1)]) ⟨fo_markText, trivial⟩ trivial Tryz.func57 rfl rfl ?_
 rintro ⟨xs, k, ⟨⟩⟩ hp
 have hp : kOK k := hp
 refine vcOf ((∃ (i : Nat), (i <= List.length xs /\ List.take i xs = markL markS (2 : Int) i k) /\ (xs = xs /\ k = atD (2 : Int) k i /\ (0 : Int) = Int.ofNat i /\ True) /\ True /\ True) /\ ∀ (i : Nat), i <= List.length xs /\ List.take i xs = markL markS (2 : Int) i k -> fits (lenL xs) -> (decide (Int.ofNat i < iOf (lenL xs)) = true -> bnd (Int.ofNat i) (lenL xs) /\ ∀ (x : List UInt8 × Int × Unit), nthI xs (Int.ofNat i) = some x -> 1 <= Nat.succ (1) /\ true = true /\ atD (2 : Int) k i <= (9000000000000000 : (PTy.v I).den) /\ ((!x.fst == markText (atD (2 : Int) k i)) = true -> ((-1 : Int), ()) = (heldS xs k, ()) /\ () = ()) /\ ((!x.fst == markText (atD (2 : Int) k i)) = false -> bnd (Int.ofNat i) (lenL xs) /\ ∀ (x : List UInt8 × Int × Unit), nthI xs (Int.ofNat i) = some x -> 1 <= 1 /\ ((x.snd.fst != wAdd .i64 (atD (2 : Int) k i) (1 : Int)) = true -> ((-1 : Int), ()) = (heldS xs k, ()) /\ () = ()) /\ ((x.snd.fst != wAdd .i64 (atD (2 : Int) k i) (1 : Int)) = false -> ∃ (j : Nat), (j <= List.length xs /\ List.take j xs = markL markS (2 : Int) j k) /\ (List.length xs).sub j < (List.length xs).sub i /\ (xs = xs /\ wAdd .i64 (wAdd .i64 (atD (2 : Int) k i) (1 : Int)) (1 : Int) = atD (2 : Int) k j /\ wAdd .i64 (Int.ofNat i) (1 : Int) = Int.ofNat j /\ True) /\ True /\ True))) /\ (decide (Int.ofNat i < iOf (lenL xs)) = false -> (atD (2 : Int) k i, ()) = (heldS xs k, ()) /\ () = ())) (by kernel_rfl) ?_
 simp only [NS, eq_self, ne_eq, forall_const, implies_true, Nat.reduceAdd, Nat.reduceLeDiff, nz, Int.reduceEq, Nat.reduceEqDiff, reduceCtorEq]; try simp only [lenL]
 have hd : (0 : Int) <= 2 /\ (2 : Int) <= 16 := by decide
 refine ⟨⟨0, ⟨Nat.zero_le _, rfl⟩, atD_zero .., rfl⟩, fun j ⟨hj, ht⟩ hf => ⟨fun hlt => ?_, fun hge => held_end hj hge ht⟩⟩
 simp only [at_add0 hp hd hj hf, at_add1 hp hd hj hf]
 refine ⟨hlt, fun x hx => ⟨at_le hp hd hj hf, fun h => held_bad hx (fun e => h (by rw [e]; rfl)), fun h1 => ⟨hlt, fun x2 hx2 => ?_⟩⟩⟩
 rw [hx] at hx2; cases hx2
 refine ⟨fun h => held_bad hx (fun e => h (by rw [e]; rfl)), fun h2 => ⟨j + 1, ⟨hlt, held_step ht hx ?_⟩, by omega, atD_succ 2 k j, inc_in hf hj⟩⟩
 obtain ⟨x1, x2, ⟨⟩⟩ := x
 have h1 : x1 = markText (atD 2 k j) := h1
 have h2 : x2 = atD 2 k j + 1 := h2
 rw [h1, h2]; rfl
end Go.Proofs.YtkdnelaoagmeaaaGreatDoor
namespace Go.Proofs.YtkdnelaoagmeaaaGreatDoor
open Go.Ab Go.Fn
def s_heldDisk : FSpec := { ps := [.v tDisk, .v I], rs := [.v I], pre := fun x => x.2.1 = (1 : Int) /\ smallD x.1, fn := fun x => (heldD x.1 x.2.1, ()), upd := fun x => () }
theorem fo_heldDisk : FO 15 s_heldDisk := by
 refine fo (specs := [(56, s_heldInodeS), (57, s_heldSlotS)]) (clos := []) (fun x => []) ⟨fo_heldInodeS, fo_heldSlotS, trivial⟩ trivial Tryz.func15 rfl rfl ?_
 rintro ⟨⟨a, b, c, d, ⟨⟩⟩, k, ⟨⟩⟩ ⟨hk, hp⟩
 have hk : k = (1 : Int) := hk
 subst hk
 have hp : smallD (a, b, c, d, ()) := hp
 refine vcOf (1 <= (4) /\ true = true /\ kOK (1 : Int) /\ (decide (heldI a (1 : Int) < (0 : Int)) = true -> ((-1 : Int), ()) = (heldD (a, b, c, d, ()) (1 : Int), ()) /\ () = ()) /\ (decide (heldI a (1 : Int) < (0 : Int)) = false -> 2 <= (4) /\ true = true /\ kOK (heldI a (1 : Int)) /\ (decide (heldS b (heldI a (1 : Int)) < (0 : Int)) = true -> ((-1 : Int), ()) = (heldD (a, b, c, d, ()) (1 : Int), ()) /\ () = ()) /\ (decide (heldS b (heldI a (1 : Int)) < (0 : Int)) = false -> 3 <= (4) /\ true = true /\ kOK (heldS b (heldI a (1 : Int))) /\ (decide (heldS c (heldS b (heldI a (1 : Int))) < (0 : Int)) = true -> ((-1 : Int), ()) = (heldD (a, b, c, d, ()) (1 : Int), ()) /\ () = ()) /\ (decide (heldS c (heldS b (heldI a (1 : Int))) < (0 : Int)) = false -> (heldS c (heldS b (heldI a (1 : Int))), ()) = (heldD (a, b, c, d, ()) (1 : Int), ()) /\ () = ())))) (by kernel_rfl) ?_
 simp only [NS, eq_self, ne_eq, forall_const, implies_true, Nat.reduceAdd, Nat.reduceLeDiff, nz, Int.reduceEq, Nat.reduceEqDiff, reduceCtorEq]; try simp only [lenL]
 refine ⟨kOK_one, fun h => (if_pos h).symm, fun h1 => ⟨kOK_of' (held_kI hp.1 h1), fun h => ((if_neg h1).trans (if_pos h)).symm, fun h2 => ⟨kOK_of (held_kS (held_kI hp.1 h1) hp.2.1 h2), fun h => ((if_neg h1).trans ((if_neg h2).trans (if_pos h))).symm, fun h3 => ((if_neg h1).trans ((if_neg h2).trans (if_neg h3))).symm⟩⟩⟩
end Go.Proofs.YtkdnelaoagmeaaaGreatDoor
namespace Go.Proofs.YtkdnelaoagmeaaaGreatDoor
open Go.Ab Go.Fn
def c_swept : CSpec := { ats := [tInode], b := .bool, cs := [.r tDisk], pre := fun _ _ => True, fn := fun c a => unusedIn c.1.2.1 c.1.2.2.1 a.1 }
theorem fo_sweptc : FO 270 c_swept.fspec := by
 refine fo (specs := [(103, s_has)]) (clos := []) (fun x => []) ⟨fo_has, trivial⟩ trivial Tryz.func270 rfl rfl ?_
 rintro ⟨x, ⟨a, b, c, d, ⟨⟩⟩, ⟨⟩⟩ -
 refine vcOf (1 <= (3) /\ 1 <= (3) /\ true = true /\ True /\ ((!has b x.fst) = true -> 1 <= Nat.succ (1) /\ 1 <= (3) /\ true = true /\ True /\ (!has c x.fst, ()) = (unusedIn b c x, ()) /\ () = ()) /\ ((!has b x.fst) = false -> (false, ()) = (unusedIn b c x, ()) /\ () = ())) (by kernel_rfl) ?_
 simp only [NS, eq_self, ne_eq, forall_const, implies_true, Nat.reduceAdd, Nat.reduceLeDiff, nz, Int.reduceEq, Nat.reduceEqDiff, reduceCtorEq]; try simp only [lenL]
 exact ⟨fun h => by unfold unusedIn; rw [h]; rfl, fun h => by unfold unusedIn; rw [h]; rfl⟩
def i_sweptc : Inl := inlT (mkE [(103, s_has)] []) (fun _ _ => []) Tryz.f270
theorem in_sweptc : InO 270 i_sweptc := inO (fun _ _ => []) ⟨fo_has, trivial⟩ trivial trivial Tryz.func270 rfl rfl
def L_del (i : Nat) (xs : List Fn.Inode) (p : Fn.Inode -> Bool) : LoopAnn := { ι := Nat × List Fn.Inode, inv := fun q => DelAt p xs q.1 q.2, slots := fun q => [(5, .d I (Int.ofNat (kept p xs q.1).length)), (6, .d I (Int.ofNat q.1))], objs := fun q => [(i, .arr tInode q.2 false)], μ := fun q => xs.length - q.1 }
def A_delI (s : St) (args : List AV) : List (Nat × (St -> LoopAnn)) := match args with
 | [.os i, .fn _ [.p b 0]] => [(5, fun _ => L_del i (lst s tInode (.os i)) (unusedIn (lst s tSlot (boxAt s b 1)) (lst s tSlot (boxAt s b 2))))]
 | _ => []
def i_delI : Inl := inlT (mkE [(228, s_IndexFunc_Inode)] [(270, c_swept)] [(270, i_sweptc)]) A_delI Tryz.f269
theorem in_delI : InO 269 i_delI := inO A_delI ⟨fo_IndexFunc_Inode, trivial⟩ ⟨co fo_sweptc rfl rfl, trivial⟩ ⟨in_sweptc, trivial⟩ Tryz.func269 rfl rfl
def i_swept : Inl := inlT (mkE [] [] [(269, i_delI)]) (fun _ _ => []) Tryz.f232
theorem in_swept : InO 232 i_swept := inO (fun _ _ => []) trivial trivial ⟨in_delI, trivial⟩ Tryz.func232 rfl rfl
end Go.Proofs.YtkdnelaoagmeaaaGreatDoor
namespace Go.Proofs.YtkdnelaoagmeaaaGreatDoor
open Go.Ab Go.Fn
def i_markDisk : Inl := inlT (mkE [(54, s_markInodeS), (55, s_markSlotS)] []) (fun _ _ => []) Tryz.f14
end Go.Proofs.YtkdnelaoagmeaaaGreatDoor
namespace Go.Proofs.YtkdnelaoagmeaaaGreatDoor
open Go.Ab Go.Fn
def s_SyncDir : FSpec := { ps := [.v tDisk], rs := [.o tDisk, .v I], pre := fun x => True, fn := fun x => (syncDirD x.1, syncDirC x.1, ()), upd := fun _ => () }
theorem fo_iSyncDir : FO 177 s_SyncDir := by
 refine foI (specs := [(48, s_DiskOK), (49, s_copied), (106, s_Clone_Slot)]) (clos := []) (inl := [(232, i_swept)]) (fun x => []) ⟨fo_DiskOK, fo_copied, fo_Clone_Slot, trivial⟩ trivial ⟨in_swept, trivial⟩ Tryz.func177 rfl rfl ?_
 rintro ⟨⟨a, b, c, d, ⟨⟩⟩, ⟨⟩⟩ -
 refine vcOf (4 <= (4) /\ true = true /\ True /\ ((!diskOK (a, b, c, d, ())) = true -> 4 <= 4 /\ ((([] : List (Int × List UInt8 × Bool × Unit)), ([] : List (List UInt8 × Int × Unit)), ([] : List (List UInt8 × Int × Unit)), (0 : (Ty.int .i64).den), ()), (1 : Int), ()) = (syncDirD (a, b, c, d, ()), syncDirC (a, b, c, d, ()), ()) /\ () = ()) /\ ((!diskOK (a, b, c, d, ())) = false -> 4 <= (4) /\ true = true /\ True /\ 4 <= 4 /\ 2 <= (4) /\ true = true /\ True /\ 3 <= (4) /\ 4 <= (4) /\ 1 <= (4) /\ true = true /\ (∀ (y : Int × List UInt8 × Bool × Unit), y ∈ a -> True) /\ ((idx (fun (y : Int × List UInt8 × Bool × Unit) => (fun (a : (Int × List UInt8 × Bool × Unit) × Unit) => unusedIn b b a.fst, fun (x : (Int × List UInt8 × Bool × Unit) × Unit) => True).fst (y, ())) a == (-1 : Int)) = true -> 1 <= (4) /\ 4 <= (4) /\ 4 <= 4 /\ 4 <= 4 /\ ((a, b, b, d, ()), (0 : Int), ()) = (syncDirD (a, b, c, d, ()), syncDirC (a, b, c, d, ()), ()) /\ () = ()) /\ ((idx (fun (y : Int × List UInt8 × Bool × Unit) => (fun (a : (Int × List UInt8 × Bool × Unit) × Unit) => unusedIn b b a.fst, fun (x : (Int × List UInt8 × Bool × Unit) × Unit) => True).fst (y, ())) a == (-1 : Int)) = false -> (∃ (i : Nat × List Inode), DelAt (unusedIn b b) a i.fst i.snd /\ (2 = 2 /\ ((270 : Nat) = 270 /\ ((7) = (7) /\ (0 : Nat) = 0) /\ True) /\ (9) = (9) /\ idx (fun (y : Int × List UInt8 × Bool × Unit) => (fun (a : (Int × List UInt8 × Bool × Unit) × Unit) => unusedIn b b a.fst, fun (x : (Int × List UInt8 × Bool × Unit) × Unit) => True).fst (y, ())) a = Int.ofNat (kept (unusedIn b b) a i.fst).length /\ wAdd .i64 (idx (fun (y : Int × List UInt8 × Bool × Unit) => (fun (a : (Int × List UInt8 × Bool × Unit) × Unit) => unusedIn b b a.fst, fun (x : (Int × List UInt8 × Bool × Unit) × Unit) => True).fst (y, ())) a) (1 : Int) = Int.ofNat i.fst /\ 2 = 2 /\ ((270 : Nat) = 270 /\ ((7) = (7) /\ (0 : Nat) = 0) /\ True) /\ idx (fun (y : Int × List UInt8 × Bool × Unit) => (fun (a : (Int × List UInt8 × Bool × Unit) × Unit) => unusedIn b b a.fst, fun (x : (Int × List UInt8 × Bool × Unit) × Unit) => True).fst (y, ())) a = idx (fun (y : Int × List UInt8 × Bool × Unit) => (fun (a : (Int × List UInt8 × Bool × Unit) × Unit) => unusedIn b b a.fst, fun (x : (Int × List UInt8 × Bool × Unit) × Unit) => True).fst (y, ())) a /\ idx (fun (y : Int × List UInt8 × Bool × Unit) => (fun (a : (Int × List UInt8 × Bool × Unit) × Unit) => unusedIn b b a.fst, fun (x : (Int × List UInt8 × Bool × Unit) × Unit) => True).fst (y, ())) a = idx (fun (y : Int × List UInt8 × Bool × Unit) => (fun (a : (Int × List UInt8 × Bool × Unit) × Unit) => unusedIn b b a.fst, fun (x : (Int × List UInt8 × Bool × Unit) × Unit) => True).fst (y, ())) a /\ (idx (fun (y : Int × List UInt8 × Bool × Unit) => (fun (a : (Int × List UInt8 × Bool × Unit) × Unit) => unusedIn b b a.fst, fun (x : (Int × List UInt8 × Bool × Unit) × Unit) => True).fst (y, ())) a == (-1 : Int)) = (idx (fun (y : Int × List UInt8 × Bool × Unit) => (fun (a : (Int × List UInt8 × Bool × Unit) × Unit) => unusedIn b b a.fst, fun (x : (Int × List UInt8 × Bool × Unit) × Unit) => True).fst (y, ())) a == (-1 : Int)) /\ idx (fun (y : Int × List UInt8 × Bool × Unit) => (fun (a : (Int × List UInt8 × Bool × Unit) × Unit) => unusedIn b b a.fst, fun (x : (Int × List UInt8 × Bool × Unit) × Unit) => True).fst (y, ())) a = idx (fun (y : Int × List UInt8 × Bool × Unit) => (fun (a : (Int × List UInt8 × Bool × Unit) × Unit) => unusedIn b b a.fst, fun (x : (Int × List UInt8 × Bool × Unit) × Unit) => True).fst (y, ())) a /\ wAdd .i64 (idx (fun (y : Int × List UInt8 × Bool × Unit) => (fun (a : (Int × List UInt8 × Bool × Unit) × Unit) => unusedIn b b a.fst, fun (x : (Int × List UInt8 × Bool × Unit) × Unit) => True).fst (y, ())) a) (1 : Int) = wAdd .i64 (idx (fun (y : Int × List UInt8 × Bool × Unit) => (fun (a : (Int × List UInt8 × Bool × Unit) × Unit) => unusedIn b b a.fst, fun (x : (Int × List UInt8 × Bool × Unit) × Unit) => True).fst (y, ())) a) (1 : Int) /\ True) /\ ((a = a /\ b = b /\ c = c /\ d = d /\ True) /\ (true = true /\ true = true /\ true = true /\ (0 : (Ty.int .i64).den) = (0 : (Ty.int .i64).den) /\ True) /\ (a = i.snd /\ false = false) /\ (b = b /\ false = false) /\ (c = c /\ false = false) /\ (2 = 2 /\ Nat.succ (2) = Nat.succ (2) /\ (6) = (6) /\ d = d /\ True) /\ (b = b /\ false = false) /\ (2 = 2 /\ Nat.succ (2) = Nat.succ (2) /\ (6) = (6) /\ d = d /\ True) /\ (true = true /\ true = true /\ true = true /\ (0 : (Ty.int .i64).den) = (0 : (Ty.int .i64).den) /\ True) /\ (([] : List (Int × List UInt8 × Bool × Unit)) = ([] : List (Int × List UInt8 × Bool × Unit)) /\ false = false) /\ True) /\ (2 = 2 /\ Nat.succ (2) = Nat.succ (2) /\ (6) = (6) /\ d = d /\ True) /\ ((7) = (7) /\ (0 : Nat) = 0) /\ ((8) = (8) /\ (0 : Nat) = 0) /\ ((7) = (7) /\ 0 = 0) /\ 2 = 2 /\ ((270 : Nat) = 270 /\ ((7) = (7) /\ (0 : Nat) = 0) /\ True) /\ (a = a /\ b = b /\ c = c /\ d = d /\ True) /\ (0 = 0 /\ (0 : Nat) = 0) /\ (1 = 1 /\ (0 : Nat) = 0) /\ (0 : Int) = 0 /\ ((5) = (5) /\ (0 : Nat) = 0) /\ (a = a /\ b = b /\ c = c /\ d = d /\ True) /\ diskOK (a, b, c, d, ()) = diskOK (a, b, c, d, ()) /\ (!diskOK (a, b, c, d, ())) = !diskOK (a, b, c, d, ()) /\ (a = a /\ b = b /\ c = c /\ d = d /\ True) /\ (2 = 2 /\ Nat.succ (2) = Nat.succ (2) /\ (4) = (4) /\ d = d /\ True) /\ ((5) = (5) /\ 1 = 1) /\ Nat.succ (2) = Nat.succ (2) /\ (6) = (6) /\ ((5) = (5) /\ 2 = 2) /\ (2 = 2 /\ Nat.succ (2) = Nat.succ (2) /\ (6) = (6) /\ d = d /\ True) /\ True) /\ ∀ (i : Nat × List Inode), DelAt (unusedIn b b) a i.fst i.snd -> fits (lenL i.snd) -> (decide (Int.ofNat i.fst < iOf (lenL i.snd)) = true -> bnd (Int.ofNat i.fst) (lenL i.snd) /\ 3 = 3 /\ 3 <= 3 /\ tN (Int.ofNat i.fst) < lenL i.snd /\ ∀ (x : Int × List UInt8 × Bool × Unit), nth i.snd (tN (Int.ofNat i.fst)) = some x -> 3 <= 3 /\ 3 <= (3) /\ 2 <= (4) /\ 1 <= (3) /\ true = true /\ True /\ ((!has b x.fst) = true -> 3 <= (4) /\ 1 <= (3) /\ true = true /\ True /\ ((!!has b x.fst) = true -> 3 <= (3) /\ bnd (Int.ofNat (kept (unusedIn b b) a i.fst).length) (lenL i.snd) /\ ((0 : Nat) = 0 /\ tN (Int.ofNat (kept (unusedIn b b) a i.fst).length) < lenL i.snd) /\ ∃ (j : Nat × List Inode), DelAt (unusedIn b b) a j.fst j.snd /\ (List.length a).sub j.fst < (List.length a).sub i.fst /\ (2 = 2 /\ ((270 : Nat) = 270 /\ ((7) = (7) /\ (0 : Nat) = 0) /\ True) /\ (9) = (9) /\ wAdd .i64 (Int.ofNat (kept (unusedIn b b) a i.fst).length) (1 : Int) = Int.ofNat (kept (unusedIn b b) a j.fst).length /\ wAdd .i64 (Int.ofNat i.fst) (1 : Int) = Int.ofNat j.fst /\ 2 = 2 /\ ((270 : Nat) = 270 /\ ((7) = (7) /\ (0 : Nat) = 0) /\ True) /\ idx (fun (y : Int × List UInt8 × Bool × Unit) => (fun (a : (Int × List UInt8 × Bool × Unit) × Unit) => unusedIn b b a.fst, fun (x : (Int × List UInt8 × Bool × Unit) × Unit) => True).fst (y, ())) a = idx (fun (y : Int × List UInt8 × Bool × Unit) => (fun (a : (Int × List UInt8 × Bool × Unit) × Unit) => unusedIn b b a.fst, fun (x : (Int × List UInt8 × Bool × Unit) × Unit) => True).fst (y, ())) a /\ idx (fun (y : Int × List UInt8 × Bool × Unit) => (fun (a : (Int × List UInt8 × Bool × Unit) × Unit) => unusedIn b b a.fst, fun (x : (Int × List UInt8 × Bool × Unit) × Unit) => True).fst (y, ())) a = idx (fun (y : Int × List UInt8 × Bool × Unit) => (fun (a : (Int × List UInt8 × Bool × Unit) × Unit) => unusedIn b b a.fst, fun (x : (Int × List UInt8 × Bool × Unit) × Unit) => True).fst (y, ())) a /\ (idx (fun (y : Int × List UInt8 × Bool × Unit) => (fun (a : (Int × List UInt8 × Bool × Unit) × Unit) => unusedIn b b a.fst, fun (x : (Int × List UInt8 × Bool × Unit) × Unit) => True).fst (y, ())) a == (-1 : Int)) = (idx (fun (y : Int × List UInt8 × Bool × Unit) => (fun (a : (Int × List UInt8 × Bool × Unit) × Unit) => unusedIn b b a.fst, fun (x : (Int × List UInt8 × Bool × Unit) × Unit) => True).fst (y, ())) a == (-1 : Int)) /\ idx (fun (y : Int × List UInt8 × Bool × Unit) => (fun (a : (Int × List UInt8 × Bool × Unit) × Unit) => unusedIn b b a.fst, fun (x : (Int × List UInt8 × Bool × Unit) × Unit) => True).fst (y, ())) a = idx (fun (y : Int × List UInt8 × Bool × Unit) => (fun (a : (Int × List UInt8 × Bool × Unit) × Unit) => unusedIn b b a.fst, fun (x : (Int × List UInt8 × Bool × Unit) × Unit) => True).fst (y, ())) a /\ wAdd .i64 (idx (fun (y : Int × List UInt8 × Bool × Unit) => (fun (a : (Int × List UInt8 × Bool × Unit) × Unit) => unusedIn b b a.fst, fun (x : (Int × List UInt8 × Bool × Unit) × Unit) => True).fst (y, ())) a) (1 : Int) = wAdd .i64 (idx (fun (y : Int × List UInt8 × Bool × Unit) => (fun (a : (Int × List UInt8 × Bool × Unit) × Unit) => unusedIn b b a.fst, fun (x : (Int × List UInt8 × Bool × Unit) × Unit) => True).fst (y, ())) a) (1 : Int) /\ True) /\ ((a = a /\ b = b /\ c = c /\ d = d /\ True) /\ (true = true /\ true = true /\ true = true /\ (0 : (Ty.int .i64).den) = (0 : (Ty.int .i64).den) /\ True) /\ (i.snd.set (tN (Int.ofNat (kept (unusedIn b b) a i.fst).length)) (x.fst, x.snd.fst, x.snd.snd.fst, ()) = j.snd /\ false = false) /\ (b = b /\ false = false) /\ (c = c /\ false = false) /\ (2 = 2 /\ Nat.succ (2) = Nat.succ (2) /\ (6) = (6) /\ d = d /\ True) /\ (b = b /\ false = false) /\ (2 = 2 /\ Nat.succ (2) = Nat.succ (2) /\ (6) = (6) /\ d = d /\ True) /\ (true = true /\ true = true /\ true = true /\ (0 : (Ty.int .i64).den) = (0 : (Ty.int .i64).den) /\ True) /\ (([] : List (Int × List UInt8 × Bool × Unit)) = ([] : List (Int × List UInt8 × Bool × Unit)) /\ false = false) /\ True) /\ (2 = 2 /\ Nat.succ (2) = Nat.succ (2) /\ (6) = (6) /\ d = d /\ True) /\ ((7) = (7) /\ (0 : Nat) = 0) /\ ((8) = (8) /\ (0 : Nat) = 0) /\ ((7) = (7) /\ 0 = 0) /\ 2 = 2 /\ ((270 : Nat) = 270 /\ ((7) = (7) /\ (0 : Nat) = 0) /\ True) /\ (a = a /\ b = b /\ c = c /\ d = d /\ True) /\ (0 = 0 /\ (0 : Nat) = 0) /\ (1 = 1 /\ (0 : Nat) = 0) /\ (0 : Int) = 0 /\ ((5) = (5) /\ (0 : Nat) = 0) /\ (a = a /\ b = b /\ c = c /\ d = d /\ True) /\ diskOK (a, b, c, d, ()) = diskOK (a, b, c, d, ()) /\ (!diskOK (a, b, c, d, ())) = !diskOK (a, b, c, d, ()) /\ (a = a /\ b = b /\ c = c /\ d = d /\ True) /\ (2 = 2 /\ Nat.succ (2) = Nat.succ (2) /\ (4) = (4) /\ d = d /\ True) /\ ((5) = (5) /\ 1 = 1) /\ Nat.succ (2) = Nat.succ (2) /\ (6) = (6) /\ ((5) = (5) /\ 2 = 2) /\ (2 = 2 /\ Nat.succ (2) = Nat.succ (2) /\ (6) = (6) /\ d = d /\ True) /\ True) /\ ((!!has b x.fst) = false -> ∃ (j : Nat × List Inode), DelAt (unusedIn b b) a j.fst j.snd /\ (List.length a).sub j.fst < (List.length a).sub i.fst /\ (2 = 2 /\ ((270 : Nat) = 270 /\ ((7) = (7) /\ (0 : Nat) = 0) /\ True) /\ (9) = (9) /\ Int.ofNat (kept (unusedIn b b) a i.fst).length = Int.ofNat (kept (unusedIn b b) a j.fst).length /\ wAdd .i64 (Int.ofNat i.fst) (1 : Int) = Int.ofNat j.fst /\ 2 = 2 /\ ((270 : Nat) = 270 /\ ((7) = (7) /\ (0 : Nat) = 0) /\ True) /\ idx (fun (y : Int × List UInt8 × Bool × Unit) => (fun (a : (Int × List UInt8 × Bool × Unit) × Unit) => unusedIn b b a.fst, fun (x : (Int × List UInt8 × Bool × Unit) × Unit) => True).fst (y, ())) a = idx (fun (y : Int × List UInt8 × Bool × Unit) => (fun (a : (Int × List UInt8 × Bool × Unit) × Unit) => unusedIn b b a.fst, fun (x : (Int × List UInt8 × Bool × Unit) × Unit) => True).fst (y, ())) a /\ idx (fun (y : Int × List UInt8 × Bool × Unit) => (fun (a : (Int × List UInt8 × Bool × Unit) × Unit) => unusedIn b b a.fst, fun (x : (Int × List UInt8 × Bool × Unit) × Unit) => True).fst (y, ())) a = idx (fun (y : Int × List UInt8 × Bool × Unit) => (fun (a : (Int × List UInt8 × Bool × Unit) × Unit) => unusedIn b b a.fst, fun (x : (Int × List UInt8 × Bool × Unit) × Unit) => True).fst (y, ())) a /\ (idx (fun (y : Int × List UInt8 × Bool × Unit) => (fun (a : (Int × List UInt8 × Bool × Unit) × Unit) => unusedIn b b a.fst, fun (x : (Int × List UInt8 × Bool × Unit) × Unit) => True).fst (y, ())) a == (-1 : Int)) = (idx (fun (y : Int × List UInt8 × Bool × Unit) => (fun (a : (Int × List UInt8 × Bool × Unit) × Unit) => unusedIn b b a.fst, fun (x : (Int × List UInt8 × Bool × Unit) × Unit) => True).fst (y, ())) a == (-1 : Int)) /\ idx (fun (y : Int × List UInt8 × Bool × Unit) => (fun (a : (Int × List UInt8 × Bool × Unit) × Unit) => unusedIn b b a.fst, fun (x : (Int × List UInt8 × Bool × Unit) × Unit) => True).fst (y, ())) a = idx (fun (y : Int × List UInt8 × Bool × Unit) => (fun (a : (Int × List UInt8 × Bool × Unit) × Unit) => unusedIn b b a.fst, fun (x : (Int × List UInt8 × Bool × Unit) × Unit) => True).fst (y, ())) a /\ wAdd .i64 (idx (fun (y : Int × List UInt8 × Bool × Unit) => (fun (a : (Int × List UInt8 × Bool × Unit) × Unit) => unusedIn b b a.fst, fun (x : (Int × List UInt8 × Bool × Unit) × Unit) => True).fst (y, ())) a) (1 : Int) = wAdd .i64 (idx (fun (y : Int × List UInt8 × Bool × Unit) => (fun (a : (Int × List UInt8 × Bool × Unit) × Unit) => unusedIn b b a.fst, fun (x : (Int × List UInt8 × Bool × Unit) × Unit) => True).fst (y, ())) a) (1 : Int) /\ True) /\ ((a = a /\ b = b /\ c = c /\ d = d /\ True) /\ (true = true /\ true = true /\ true = true /\ (0 : (Ty.int .i64).den) = (0 : (Ty.int .i64).den) /\ True) /\ (i.snd = j.snd /\ false = false) /\ (b = b /\ false = false) /\ (c = c /\ false = false) /\ (2 = 2 /\ Nat.succ (2) = Nat.succ (2) /\ (6) = (6) /\ d = d /\ True) /\ (b = b /\ false = false) /\ (2 = 2 /\ Nat.succ (2) = Nat.succ (2) /\ (6) = (6) /\ d = d /\ True) /\ (true = true /\ true = true /\ true = true /\ (0 : (Ty.int .i64).den) = (0 : (Ty.int .i64).den) /\ True) /\ (([] : List (Int × List UInt8 × Bool × Unit)) = ([] : List (Int × List UInt8 × Bool × Unit)) /\ false = false) /\ True) /\ (2 = 2 /\ Nat.succ (2) = Nat.succ (2) /\ (6) = (6) /\ d = d /\ True) /\ ((7) = (7) /\ (0 : Nat) = 0) /\ ((8) = (8) /\ (0 : Nat) = 0) /\ ((7) = (7) /\ 0 = 0) /\ 2 = 2 /\ ((270 : Nat) = 270 /\ ((7) = (7) /\ (0 : Nat) = 0) /\ True) /\ (a = a /\ b = b /\ c = c /\ d = d /\ True) /\ (0 = 0 /\ (0 : Nat) = 0) /\ (1 = 1 /\ (0 : Nat) = 0) /\ (0 : Int) = 0 /\ ((5) = (5) /\ (0 : Nat) = 0) /\ (a = a /\ b = b /\ c = c /\ d = d /\ True) /\ diskOK (a, b, c, d, ()) = diskOK (a, b, c, d, ()) /\ (!diskOK (a, b, c, d, ())) = !diskOK (a, b, c, d, ()) /\ (a = a /\ b = b /\ c = c /\ d = d /\ True) /\ (2 = 2 /\ Nat.succ (2) = Nat.succ (2) /\ (4) = (4) /\ d = d /\ True) /\ ((5) = (5) /\ 1 = 1) /\ Nat.succ (2) = Nat.succ (2) /\ (6) = (6) /\ ((5) = (5) /\ 2 = 2) /\ (2 = 2 /\ Nat.succ (2) = Nat.succ (2) /\ (6) = (6) /\ d = d /\ True) /\ True)) /\ ((!has b x.fst) = false -> 3 <= (3) /\ bnd (Int.ofNat (kept (unusedIn b b) a i.fst).length) (lenL i.snd) /\ ((0 : Nat) = 0 /\ tN (Int.ofNat (kept (unusedIn b b) a i.fst).length) < lenL i.snd) /\ ∃ (j : Nat × List Inode), DelAt (unusedIn b b) a j.fst j.snd /\ (List.length a).sub j.fst < (List.length a).sub i.fst /\ (2 = 2 /\ ((270 : Nat) = 270 /\ ((7) = (7) /\ (0 : Nat) = 0) /\ True) /\ (9) = (9) /\ wAdd .i64 (Int.ofNat (kept (unusedIn b b) a i.fst).length) (1 : Int) = Int.ofNat (kept (unusedIn b b) a j.fst).length /\ wAdd .i64 (Int.ofNat i.fst) (1 : Int) = Int.ofNat j.fst /\ 2 = 2 /\ ((270 : Nat) = 270 /\ ((7) = (7) /\ (0 : Nat) = 0) /\ True) /\ idx (fun (y : Int × List UInt8 × Bool × Unit) => (fun (a : (Int × List UInt8 × Bool × Unit) × Unit) => unusedIn b b a.fst, fun (x : (Int × List UInt8 × Bool × Unit) × Unit) => True).fst (y, ())) a = idx (fun (y : Int × List UInt8 × Bool × Unit) => (fun (a : (Int × List UInt8 × Bool × Unit) × Unit) => unusedIn b b a.fst, fun (x : (Int × List UInt8 × Bool × Unit) × Unit) => True).fst (y, ())) a /\ idx (fun (y : Int × List UInt8 × Bool × Unit) => (fun (a : (Int × List UInt8 × Bool × Unit) × Unit) => unusedIn b b a.fst, fun (x : (Int × List UInt8 × Bool × Unit) × Unit) => True).fst (y, ())) a = idx (fun (y : Int × List UInt8 × Bool × Unit) => (fun (a : (Int × List UInt8 × Bool × Unit) × Unit) => unusedIn b b a.fst, fun (x : (Int × List UInt8 × Bool × Unit) × Unit) => True).fst (y, ())) a /\ (idx (fun (y : Int × List UInt8 × Bool × Unit) => (fun (a : (Int × List UInt8 × Bool × Unit) × Unit) => unusedIn b b a.fst, fun (x : (Int × List UInt8 × Bool × Unit) × Unit) => True).fst (y, ())) a == (-1 : Int)) = (idx (fun (y : Int × List UInt8 × Bool × Unit) => (fun (a : (Int × List UInt8 × Bool × Unit) × Unit) => unusedIn b b a.fst, fun (x : (Int × List UInt8 × Bool × Unit) × Unit) => True).fst (y, ())) a == (-1 : Int)) /\ idx (fun (y : Int × List UInt8 × Bool × Unit) => (fun (a : (Int × List UInt8 × Bool × Unit) × Unit) => unusedIn b b a.fst, fun (x : (Int × List UInt8 × Bool × Unit) × Unit) => True).fst (y, ())) a = idx (fun (y : Int × List UInt8 × Bool × Unit) => (fun (a : (Int × List UInt8 × Bool × Unit) × Unit) => unusedIn b b a.fst, fun (x : (Int × List UInt8 × Bool × Unit) × Unit) => True).fst (y, ())) a /\ wAdd .i64 (idx (fun (y : Int × List UInt8 × Bool × Unit) => (fun (a : (Int × List UInt8 × Bool × Unit) × Unit) => unusedIn b b a.fst, fun (x : (Int × List UInt8 × Bool × Unit) × Unit) => True).fst (y, ())) a) (1 : Int) = wAdd .i64 (idx (fun (y : Int × List UInt8 × Bool × Unit) => (fun (a : (Int × List UInt8 × Bool × Unit) × Unit) => unusedIn b b a.fst, fun (x : (Int × List UInt8 × Bool × Unit) × Unit) => True).fst (y, ())) a) (1 : Int) /\ True) /\ ((a = a /\ b = b /\ c = c /\ d = d /\ True) /\ (true = true /\ true = true /\ true = true /\ (0 : (Ty.int .i64).den) = (0 : (Ty.int .i64).den) /\ True) /\ (i.snd.set (tN (Int.ofNat (kept (unusedIn b b) a i.fst).length)) (x.fst, x.snd.fst, x.snd.snd.fst, ()) = j.snd /\ false = false) /\ (b = b /\ false = false) /\ (c = c /\ false = false) /\ (2 = 2 /\ Nat.succ (2) = Nat.succ (2) /\ (6) = (6) /\ d = d /\ True) /\ (b = b /\ false = false) /\ (2 = 2 /\ Nat.succ (2) = Nat.succ (2) /\ (6) = (6) /\ d = d /\ True) /\ (true = true /\ true = true /\ true = true /\ (0 : (Ty.int .i64).den) = (0 : (Ty.int .i64).den) /\ True) /\ (([] : List (Int × List UInt8 × Bool × Unit)) = ([] : List (Int × List UInt8 × Bool × Unit)) /\ false = false) /\ True) /\ (2 = 2 /\ Nat.succ (2) = Nat.succ (2) /\ (6) = (6) /\ d = d /\ True) /\ ((7) = (7) /\ (0 : Nat) = 0) /\ ((8) = (8) /\ (0 : Nat) = 0) /\ ((7) = (7) /\ 0 = 0) /\ 2 = 2 /\ ((270 : Nat) = 270 /\ ((7) = (7) /\ (0 : Nat) = 0) /\ True) /\ (a = a /\ b = b /\ c = c /\ d = d /\ True) /\ (0 = 0 /\ (0 : Nat) = 0) /\ (1 = 1 /\ (0 : Nat) = 0) /\ (0 : Int) = 0 /\ ((5) = (5) /\ (0 : Nat) = 0) /\ (a = a /\ b = b /\ c = c /\ d = d /\ True) /\ diskOK (a, b, c, d, ()) = diskOK (a, b, c, d, ()) /\ (!diskOK (a, b, c, d, ())) = !diskOK (a, b, c, d, ()) /\ (a = a /\ b = b /\ c = c /\ d = d /\ True) /\ (2 = 2 /\ Nat.succ (2) = Nat.succ (2) /\ (4) = (4) /\ d = d /\ True) /\ ((5) = (5) /\ 1 = 1) /\ Nat.succ (2) = Nat.succ (2) /\ (6) = (6) /\ ((5) = (5) /\ 2 = 2) /\ (2 = 2 /\ Nat.succ (2) = Nat.succ (2) /\ (6) = (6) /\ d = d /\ True) /\ True)) /\ (decide (Int.ofNat i.fst < iOf (lenL i.snd)) = false -> boundLo (Int.ofNat (kept (unusedIn b b) a i.fst).length) (lenL i.snd) /\ (tN (Int.ofNat (kept (unusedIn b b) a i.fst).length) <= lenL i.snd /\ lenL i.snd <= lenL i.snd) /\ boundLo (Int.ofNat (kept (unusedIn b b) a i.fst).length) (lenL (copyL i.snd (tN (Int.ofNat (kept (unusedIn b b) a i.fst).length)) (lenL i.snd) (List.replicate (lenL i.snd - tN (Int.ofNat (kept (unusedIn b b) a i.fst).length)) ((0 : (Ty.int .i64).den), ([] : List UInt8), false, ())))) /\ tN (Int.ofNat (kept (unusedIn b b) a i.fst).length) <= lenL (copyL i.snd (tN (Int.ofNat (kept (unusedIn b b) a i.fst).length)) (lenL i.snd) (List.replicate (lenL i.snd - tN (Int.ofNat (kept (unusedIn b b) a i.fst).length)) ((0 : (Ty.int .i64).den), ([] : List UInt8), false, ()))) /\ 1 <= (4) /\ 4 <= (4) /\ 4 <= 4 /\ 4 <= 4 /\ ((subL (copyL i.snd (tN (Int.ofNat (kept (unusedIn b b) a i.fst).length)) (lenL i.snd) (List.replicate (lenL i.snd - tN (Int.ofNat (kept (unusedIn b b) a i.fst).length)) ((0 : (Ty.int .i64).den), ([] : List UInt8), false, ()))) (0 : Nat) (tN (Int.ofNat (kept (unusedIn b b) a i.fst).length)), b, b, d, ()), (0 : Int), ()) = (syncDirD (a, b, c, d, ()), syncDirC (a, b, c, d, ()), ()) /\ () = ())))) (by kernel_rfl) ?_
 simp only [NS, eq_self, ne_eq, forall_const, implies_true, Nat.reduceAdd, Nat.reduceLeDiff, nz, Int.reduceEq, Nat.reduceEqDiff, reduceCtorEq]; try simp only [lenL]
 refine ⟨fun h => by unfold syncDirD syncDirC; rw [h]; exact ⟨rfl, rfl⟩, fun h => ?_⟩
 unfold syncDirD syncDirC
 rw [if_pos h, if_pos h]
 have ha : List.length a <= 48 := (disk_short h).1
 refine ⟨fun h1 => ⟨tidy_none h1, rfl⟩, fun h1 => ⟨?_, ?_⟩⟩
 · obtain ⟨k, x, e, hx, hp, hn⟩ := idx_some h1
   have hs := del_start hx hp hn
   have hk : k < List.length a := get_lt hx
   have e2 := hs.2
   rw [e, inc_small (by omega)]
   exact ⟨(k + 1, a), hs.1, ⟨congrArg Int.ofNat e2.symm, rfl⟩, rfl⟩
 · rintro ⟨j, cur⟩ hd hf
   have hd : DelAt (unusedIn b b) a j cur := hd
   have hl : cur.length = List.length a := hd.2.1
   have hj : j <= List.length a := hd.1
   have hk := del_lt hd
   simp only [hl, tN_nat]
   refine ⟨fun hlt => ⟨hlt, hlt, fun x hx => ?_⟩, fun hge => ?_⟩
   · have hx : (a : List Fn.Inode)[j]? = some x := by rw [<- del_read hd]; exact hx
     rw [inc_small (k := j) (by omega), inc_small (k := (kept (unusedIn b b) a j).length) (by omega)]
     have hput : unusedIn b b x = false -> ∃ q : Nat × List Fn.Inode, DelAt (unusedIn b b) a q.1 q.2 /\ List.length a - q.1 < List.length a - j /\ (Int.ofNat ((kept (unusedIn b b) a j).length + 1) = Int.ofNat (kept (unusedIn b b) a q.1).length /\ Int.ofNat (j + 1) = Int.ofNat q.1) /\ cur.set (kept (unusedIn b b) a j).length x = q.2 := fun hu => by
       have hs := del_put hd hx hu
       exact ⟨(j + 1, cur.set (kept (unusedIn b b) a j).length x), hs.1, Nat.sub_lt_sub_left hlt (Nat.lt_succ_self j), ⟨by rw [<- hs.2], rfl⟩, rfl⟩
     refine ⟨fun hb => ⟨fun hc => ⟨hk, hk, hput (unused_c hc)⟩, fun hc => ?_⟩, fun hb => ⟨hk, hk, hput (unused_b hb)⟩⟩
     have hs := del_skip hd hx (unused_a hb hc)
     exact ⟨(j + 1, cur), hs.1, Nat.sub_lt_sub_left hlt (Nat.lt_succ_self j), ⟨by rw [<- hs.2], rfl⟩, rfl⟩
   · have hcl : ∀ ys : List Fn.Inode, (copyL cur (kept (unusedIn b b) a j).length (List.length a) ys).length = List.length a := fun ys => (copyL_length (Nat.le_of_lt hk) (Nat.le_of_eq hl.symm)).trans hl
     rw [hcl, del_end hd hge]
     exact ⟨⟨Int.natCast_nonneg _, Int.ofNat_le.2 (Nat.le_of_lt hk)⟩, Nat.le_of_lt hk, ⟨Int.natCast_nonneg _, Int.ofNat_le.2 (Nat.le_of_lt hk)⟩, Nat.le_of_lt hk, tidy_kept a b b d, trivial⟩
end Go.Proofs.YtkdnelaoagmeaaaGreatDoor
namespace Go.Proofs.YtkdnelaoagmeaaaGreatDoor
open Go.Ab Go.Fn
def s_inStr : FSpec := { ps := [.v (.slice .str), .v .str], rs := [.v .bool], pre := fun _ => True, fn := fun x => (List.any (α := List UInt8) x.1 (fun y => decide (y = x.2.1)), ()), upd := fun _ => () }
def s_idxStr : FSpec := { ps := [.v (.slice .str), .v .str], rs := [.v I], pre := fun _ => True, fn := fun x => (idx (fun y => decide (y = x.2.1)) (x.1 : List (List UInt8)), ()), upd := fun _ => () }
def L_idxStr (l : List (List UInt8)) (t : List UInt8) : LoopAnn := { ι := Nat, inv := fun k => k <= l.length /\ ∀ (j : Nat) (y : List UInt8), j < k -> l[j]? = some y -> decide (y = t) = false, slots := fun k => [(8, .d I (Int.ofNat k))], objs := fun _ => [], μ := fun k => l.length - k }
theorem fo_IndexStr : FO 168 s_idxStr := by
 refine fo (specs := []) (clos := []) (fun x => [(2, .lv [0, 1, 7, 8] <| fun _ => L_idxStr x.1 x.2.1)]) trivial trivial Tryz.func168 rfl rfl ?_
 rintro ⟨l, t, ⟨⟩⟩ -
 refine vcOf (fits (lenL l) -> (∃ (i : Nat), (i <= List.length l /\ ∀ (j : Nat) (y : List UInt8), j < i -> l[j]? = some y -> decide (y = t) = false) /\ (l = l /\ t = t /\ iOf (lenL l) = iOf (lenL l) /\ (0 : Int) = Int.ofNat i /\ True) /\ True /\ True) /\ ∀ (i : Nat), (i <= List.length l /\ ∀ (j : Nat) (y : List UInt8), j < i -> l[j]? = some y -> decide (y = t) = false) -> (decide (Int.ofNat i < iOf (lenL l)) = true -> bnd (Int.ofNat i) (lenL l) /\ ∀ (x : List UInt8), nthI l (Int.ofNat i) = some x -> 1 <= 1 /\ ((t == x) = true -> (Int.ofNat i, ()) = (idx (fun (y : List UInt8) => decide (y = t)) l, ()) /\ () = ()) /\ ((t == x) = false -> ∃ (j : Nat), (j <= List.length l /\ ∀ (j_1 : Nat) (y : List UInt8), j_1 < j -> l[j_1]? = some y -> decide (y = t) = false) /\ (List.length l).sub j < (List.length l).sub i /\ (l = l /\ t = t /\ iOf (lenL l) = iOf (lenL l) /\ wAdd .i64 (Int.ofNat i) (1 : Int) = Int.ofNat j /\ True) /\ True /\ True)) /\ (decide (Int.ofNat i < iOf (lenL l)) = false -> ((-1 : Int), ()) = (idx (fun (y : List UInt8) => decide (y = t)) l, ()) /\ () = ())) (by kernel_rfl) ?_
 simp only [NS, eq_self, ne_eq, forall_const, implies_true, Nat.reduceAdd, Nat.reduceLeDiff, nz, Int.reduceEq, Nat.reduceEqDiff, reduceCtorEq]; try simp only [lenL]
 have hd : ∀ i, (∀ (j : Nat) (y : List UInt8), j < i -> l[j]? = some y -> ¬y = t) -> ∀ (j : Nat) (y : List UInt8), j < i -> l[j]? = some y -> decide (y = t) = false := fun i h j y hj hy => decide_eq_false (h j y hj hy)
 exact fun hf => ⟨⟨0, ⟨Nat.zero_le _, fun j c hj => absurd hj (Nat.not_lt_zero _)⟩, rfl⟩, fun k ⟨hk, hi⟩ => ⟨fun hlt => ⟨hlt, fun x hx => ⟨fun h => (idx_at (p := fun (y : List UInt8) => decide (y = t)) (hd k hi) hx (decide_eq_true h.symm)).symm, fun h => ⟨k + 1, ⟨hlt, below_succ (P := fun y => ¬ y = t) hi hx (fun e => h e.symm)⟩, by omega, inc_in hf hk⟩⟩⟩, fun hge => (idx_end (p := fun (y : List UInt8) => decide (y = t)) (hd k hi) hge).symm⟩⟩
theorem fo_ContainsStr : FO 101 s_inStr := by
 refine fo (specs := [(168, s_idxStr)]) (clos := []) (fun x => []) ⟨fo_IndexStr, trivial⟩ trivial Tryz.func101 rfl rfl ?_
 rintro ⟨l, t, ⟨⟩⟩ -
 refine vcOf (true = true /\ True /\ (decide (idx (fun (y : List UInt8) => decide (y = t)) l ≥ (0 : Int)), ()) = (List.any l fun (y : List UInt8) => decide (y = t), ()) /\ () = ()) (by kernel_rfl) ?_
 simp only [NS, eq_self, ne_eq, forall_const, implies_true, Nat.reduceAdd, Nat.reduceLeDiff, nz, Int.reduceEq, Nat.reduceEqDiff, reduceCtorEq]; try simp only [lenL]
 exact idx_nonneg
end Go.Proofs.YtkdnelaoagmeaaaGreatDoor
namespace Go.Proofs.YtkdnelaoagmeaaaGreatDoor
open Go.Ab Go.Fn
def s_RP : FSpec := { ps := [.v tDisk], rs := [.o (.slice tStep), .v I], pre := fun _ => True, fn := fun x => (Fn.rpS x.1, Fn.rpC x.1, ()), upd := fun _ => () }
def s_rec : FSpec := { ps := [.v tDisk], rs := [.o (.slice tStep), .v I], pre := fun x => Fn.diskOK x.1 = true, fn := fun x => (Fn.rpS x.1, Fn.rpC x.1, ()), upd := fun _ => () }
def L_rc1 (d : Fn.Disk) : LoopAnn := { ι := Nat, inv := fun k => k <= (Fn.nmS d).length, slots := fun k => [(9, .d I (Int.ofNat k)), (6, .d (.slice .str) (Fn.nmS d)), (8, .os 4)], objs := fun k => [(4, .arr tStep (((Fn.nmS d).take k).map Fn.stSync) false)], μ := fun k => (Fn.nmS d).length - k, fz := [6] }
def L_rc2 (d : Fn.Disk) : LoopAnn := { ι := Nat, inv := fun k => k <= d.2.1.length, slots := fun k => [(10, .d I (Int.ofNat k)), (6, .d (.slice .str) (Fn.nmS d)), (8, .os 4)], objs := fun k => [(4, .arr tStep (Fn.rpHead d ++ Fn.rmOf d k) false)], μ := fun k => d.2.1.length - k, fz := [6] }
theorem fo_l12Recover : FO 42 s_rec := by
 refine fo (specs := [(78, s_load), (95, s_nm), (96, s_hasStr)]) (clos := []) (fun x => [(7, .lv [1, 6, 8, 9] <| fun _ => L_rc1 x.1), (12, .lv [1, 6, 8, 10] <| fun _ => L_rc2 x.1)]) ⟨fo_l12Load, fo_l12Names, fo_l01Has, trivial⟩ trivial Tryz.func42 rfl rfl ?_
 rintro ⟨⟨a, b, c, d, ⟨⟩⟩, ⟨⟩⟩ hd
 refine vcOf (4 <= (4) /\ true = true /\ diskOK (a, b, c, d, ()) = true /\ ((ldC (a, b, c, d, ()) != (0 : Int)) = true -> (([] : List (Int × List UInt8 × List UInt8 × List UInt8 × Unit)), ldC (a, b, c, d, ()), ()) = (rpS (a, b, c, d, ()), rpC (a, b, c, d, ()), ()) /\ () = ()) /\ ((ldC (a, b, c, d, ()) != (0 : Int)) = false -> 4 <= (4) /\ true = true /\ diskOK (a, b, c, d, ()) = true /\ (∃ (i : Nat), i <= (nmS (a, b, c, d, ())).length /\ ((0 = 0 /\ (0 : Nat) = 0) /\ nmS (a, b, c, d, ()) = nmS (a, b, c, d, ()) /\ (4) = (4 : Nat) /\ (0 : Int) = Int.ofNat i /\ True) /\ ((a = a /\ b = b /\ c = c /\ d = d /\ True) /\ (([] : List (Int × List UInt8 × List UInt8 × List UInt8 × Unit)) = ([] : List (Int × List UInt8 × List UInt8 × List UInt8 × Unit)) /\ false = false) /\ (ldS (a, b, c, d, ()) = ldS (a, b, c, d, ()) /\ false = false) /\ True /\ (([] : List (Int × List UInt8 × List UInt8 × List UInt8 × Unit)) = List.map stSync (List.take i (nmS (a, b, c, d, ()))) /\ false = false) /\ True) /\ True) /\ ∀ (i : Nat), i <= (nmS (a, b, c, d, ())).length -> fits (lenL (nmS (a, b, c, d, ()))) -> (decide (Int.ofNat i < iOf (lenL (nmS (a, b, c, d, ())))) = true -> bnd (Int.ofNat i) (lenL (nmS (a, b, c, d, ()))) /\ ∀ (x : List UInt8), nthI (nmS (a, b, c, d, ())) (Int.ofNat i) = some x -> 1 <= 1 /\ fits (lenL (List.map stSync (List.take i (nmS (a, b, c, d, ())))) + lenL (((2 : Int), x, ([] : List UInt8), ([] : List UInt8), ()) :: ([] : List (Int × List UInt8 × List UInt8 × List UInt8 × Unit)))) /\ ∃ (j : Nat), j <= (nmS (a, b, c, d, ())).length /\ (nmS (a, b, c, d, ())).length.sub j < (nmS (a, b, c, d, ())).length.sub i /\ ((0 = 0 /\ (0 : Nat) = 0) /\ nmS (a, b, c, d, ()) = nmS (a, b, c, d, ()) /\ (4 : Nat) = 4 /\ wAdd .i64 (Int.ofNat i) (1 : Int) = Int.ofNat j /\ True) /\ ((a = a /\ b = b /\ c = c /\ d = d /\ True) /\ (([] : List (Int × List UInt8 × List UInt8 × List UInt8 × Unit)) = ([] : List (Int × List UInt8 × List UInt8 × List UInt8 × Unit)) /\ false = false) /\ (ldS (a, b, c, d, ()) = ldS (a, b, c, d, ()) /\ false = false) /\ True /\ (List.map stSync (List.take i (nmS (a, b, c, d, ()))) ++ ((2 : Int), x, ([] : List UInt8), ([] : List UInt8), ()) :: ([] : List (Int × List UInt8 × List UInt8 × List UInt8 × Unit)) = List.map stSync (List.take j (nmS (a, b, c, d, ()))) /\ false = false) /\ True) /\ True) /\ (decide (Int.ofNat i < iOf (lenL (nmS (a, b, c, d, ())))) = false -> fits (lenL (List.map stSync (List.take i (nmS (a, b, c, d, ())))) + lenL (((2 : Int), ([77, 65, 78, 73, 70, 69, 83, 84] : List UInt8), ([] : List UInt8), ([] : List UInt8), ()) :: ((5 : Int), ([] : List UInt8), ([] : List UInt8), ([] : List UInt8), ()) :: ([] : List (Int × List UInt8 × List UInt8 × List UInt8 × Unit)))) /\ (∃ (i_1 : Nat), i_1 <= List.length b /\ ((0 = 0 /\ (0 : Nat) = 0) /\ nmS (a, b, c, d, ()) = nmS (a, b, c, d, ()) /\ (4 : Nat) = 4 /\ (0 : Int) = Int.ofNat i_1 /\ True) /\ ((a = a /\ b = b /\ c = c /\ d = d /\ True) /\ (([] : List (Int × List UInt8 × List UInt8 × List UInt8 × Unit)) = ([] : List (Int × List UInt8 × List UInt8 × List UInt8 × Unit)) /\ false = false) /\ (ldS (a, b, c, d, ()) = ldS (a, b, c, d, ()) /\ false = false) /\ True /\ (List.map stSync (List.take i (nmS (a, b, c, d, ()))) ++ ((2 : Int), ([77, 65, 78, 73, 70, 69, 83, 84] : List UInt8), ([] : List UInt8), ([] : List UInt8), ()) :: ((5 : Int), ([] : List UInt8), ([] : List UInt8), ([] : List UInt8), ()) :: ([] : List (Int × List UInt8 × List UInt8 × List UInt8 × Unit)) = rpHead (a, b, c, d, ()) ++ rmOf (a, b, c, d, ()) i_1 /\ false = false) /\ (((2 : Int), ([77, 65, 78, 73, 70, 69, 83, 84] : List UInt8), ([] : List UInt8), ([] : List UInt8), ()) :: ((5 : Int), ([] : List UInt8), ([] : List UInt8), ([] : List UInt8), ()) :: ([] : List (Int × List UInt8 × List UInt8 × List UInt8 × Unit)) = ((2 : Int), ([77, 65, 78, 73, 70, 69, 83, 84] : List UInt8), ([] : List UInt8), ([] : List UInt8), ()) :: ((5 : Int), ([] : List UInt8), ([] : List UInt8), ([] : List UInt8), ()) :: ([] : List (Int × List UInt8 × List UInt8 × List UInt8 × Unit)) /\ false = false) /\ True) /\ True) /\ ∀ (i : Nat), i <= List.length b -> 2 <= (4) /\ (fits (lenL b) -> (decide (Int.ofNat i < iOf (lenL b)) = true -> 2 <= (4) /\ bnd (Int.ofNat i) (lenL b) /\ ∀ (x : List UInt8 × Int × Unit), nthI b (Int.ofNat i) = some x -> 1 <= Nat.succ (1) /\ ((!x.fst == ([77, 65, 78, 73, 70, 69, 83, 84] : List UInt8)) = true -> 2 <= (4) /\ bnd (Int.ofNat i) (lenL b) /\ ∀ (x : List UInt8 × Int × Unit), nthI b (Int.ofNat i) = some x -> 1 <= Nat.succ (1) /\ true = true /\ True /\ ((!(nmS (a, b, c, d, ())).any fun (y : List UInt8) => decide (y = x.fst)) = true -> 2 <= (4) /\ bnd (Int.ofNat i) (lenL b) /\ ∀ (x : List UInt8 × Int × Unit), nthI b (Int.ofNat i) = some x -> 1 <= Nat.succ (1) /\ fits (lenL (rpHead (a, b, c, d, ()) ++ rmOf (a, b, c, d, ()) i) + lenL (((4 : Int), x.fst, ([] : List UInt8), ([] : List UInt8), ()) :: ([] : List (Int × List UInt8 × List UInt8 × List UInt8 × Unit)))) /\ ∃ (j : Nat), j <= List.length b /\ (List.length b).sub j < (List.length b).sub i /\ ((0 = 0 /\ (0 : Nat) = 0) /\ nmS (a, b, c, d, ()) = nmS (a, b, c, d, ()) /\ (4 : Nat) = 4 /\ wAdd .i64 (Int.ofNat i) (1 : Int) = Int.ofNat j /\ True) /\ ((a = a /\ b = b /\ c = c /\ d = d /\ True) /\ (([] : List (Int × List UInt8 × List UInt8 × List UInt8 × Unit)) = ([] : List (Int × List UInt8 × List UInt8 × List UInt8 × Unit)) /\ false = false) /\ (ldS (a, b, c, d, ()) = ldS (a, b, c, d, ()) /\ false = false) /\ True /\ (rpHead (a, b, c, d, ()) ++ rmOf (a, b, c, d, ()) i ++ ((4 : Int), x.fst, ([] : List UInt8), ([] : List UInt8), ()) :: ([] : List (Int × List UInt8 × List UInt8 × List UInt8 × Unit)) = rpHead (a, b, c, d, ()) ++ rmOf (a, b, c, d, ()) j /\ false = false) /\ (((2 : Int), ([77, 65, 78, 73, 70, 69, 83, 84] : List UInt8), ([] : List UInt8), ([] : List UInt8), ()) :: ((5 : Int), ([] : List UInt8), ([] : List UInt8), ([] : List UInt8), ()) :: ([] : List (Int × List UInt8 × List UInt8 × List UInt8 × Unit)) = ((2 : Int), ([77, 65, 78, 73, 70, 69, 83, 84] : List UInt8), ([] : List UInt8), ([] : List UInt8), ()) :: ((5 : Int), ([] : List UInt8), ([] : List UInt8), ([] : List UInt8), ()) :: ([] : List (Int × List UInt8 × List UInt8 × List UInt8 × Unit)) /\ false = false) /\ True) /\ True) /\ ((!(nmS (a, b, c, d, ())).any fun (y : List UInt8) => decide (y = x.fst)) = false -> ∃ (j : Nat), j <= List.length b /\ (List.length b).sub j < (List.length b).sub i /\ ((0 = 0 /\ (0 : Nat) = 0) /\ nmS (a, b, c, d, ()) = nmS (a, b, c, d, ()) /\ (4 : Nat) = 4 /\ wAdd .i64 (Int.ofNat i) (1 : Int) = Int.ofNat j /\ True) /\ ((a = a /\ b = b /\ c = c /\ d = d /\ True) /\ (([] : List (Int × List UInt8 × List UInt8 × List UInt8 × Unit)) = ([] : List (Int × List UInt8 × List UInt8 × List UInt8 × Unit)) /\ false = false) /\ (ldS (a, b, c, d, ()) = ldS (a, b, c, d, ()) /\ false = false) /\ True /\ (rpHead (a, b, c, d, ()) ++ rmOf (a, b, c, d, ()) i = rpHead (a, b, c, d, ()) ++ rmOf (a, b, c, d, ()) j /\ false = false) /\ (((2 : Int), ([77, 65, 78, 73, 70, 69, 83, 84] : List UInt8), ([] : List UInt8), ([] : List UInt8), ()) :: ((5 : Int), ([] : List UInt8), ([] : List UInt8), ([] : List UInt8), ()) :: ([] : List (Int × List UInt8 × List UInt8 × List UInt8 × Unit)) = ((2 : Int), ([77, 65, 78, 73, 70, 69, 83, 84] : List UInt8), ([] : List UInt8), ([] : List UInt8), ()) :: ((5 : Int), ([] : List UInt8), ([] : List UInt8), ([] : List UInt8), ()) :: ([] : List (Int × List UInt8 × List UInt8 × List UInt8 × Unit)) /\ false = false) /\ True) /\ True)) /\ ((!x.fst == ([77, 65, 78, 73, 70, 69, 83, 84] : List UInt8)) = false -> ∃ (j : Nat), j <= List.length b /\ (List.length b).sub j < (List.length b).sub i /\ ((0 = 0 /\ (0 : Nat) = 0) /\ nmS (a, b, c, d, ()) = nmS (a, b, c, d, ()) /\ (4 : Nat) = 4 /\ wAdd .i64 (Int.ofNat i) (1 : Int) = Int.ofNat j /\ True) /\ ((a = a /\ b = b /\ c = c /\ d = d /\ True) /\ (([] : List (Int × List UInt8 × List UInt8 × List UInt8 × Unit)) = ([] : List (Int × List UInt8 × List UInt8 × List UInt8 × Unit)) /\ false = false) /\ (ldS (a, b, c, d, ()) = ldS (a, b, c, d, ()) /\ false = false) /\ True /\ (rpHead (a, b, c, d, ()) ++ rmOf (a, b, c, d, ()) i = rpHead (a, b, c, d, ()) ++ rmOf (a, b, c, d, ()) j /\ false = false) /\ (((2 : Int), ([77, 65, 78, 73, 70, 69, 83, 84] : List UInt8), ([] : List UInt8), ([] : List UInt8), ()) :: ((5 : Int), ([] : List UInt8), ([] : List UInt8), ([] : List UInt8), ()) :: ([] : List (Int × List UInt8 × List UInt8 × List UInt8 × Unit)) = ((2 : Int), ([77, 65, 78, 73, 70, 69, 83, 84] : List UInt8), ([] : List UInt8), ([] : List UInt8), ()) :: ((5 : Int), ([] : List UInt8), ([] : List UInt8), ([] : List UInt8), ()) :: ([] : List (Int × List UInt8 × List UInt8 × List UInt8 × Unit)) /\ false = false) /\ True) /\ True)) /\ (decide (Int.ofNat i < iOf (lenL b)) = false -> fits (lenL (rpHead (a, b, c, d, ()) ++ rmOf (a, b, c, d, ()) i) + lenL (((5 : Int), ([] : List UInt8), ([] : List UInt8), ([] : List UInt8), ()) :: ([] : List (Int × List UInt8 × List UInt8 × List UInt8 × Unit)))) /\ (rpHead (a, b, c, d, ()) ++ rmOf (a, b, c, d, ()) i ++ ((5 : Int), ([] : List UInt8), ([] : List UInt8), ([] : List UInt8), ()) :: ([] : List (Int × List UInt8 × List UInt8 × List UInt8 × Unit)), (0 : Int), ()) = (rpS (a, b, c, d, ()), rpC (a, b, c, d, ()), ()) /\ () = ()))))) (by kernel_rfl) ?_
 simp only [NS, eq_self, ne_eq, forall_const, implies_true, Nat.reduceAdd, Nat.reduceLeDiff, nz, Int.reduceEq, Nat.reduceEqDiff, reduceCtorEq]; try simp only [lenL]
 have hd : diskOK (a, b, c, d, ()) = true := hd
 have h5 := nm_five (a, b, c, d, ())
 refine ⟨hd, fun h => rp_code hd h, fun h0 => ⟨hd, ⟨0, Nat.zero_le _, rfl, rfl⟩, fun i hi hf => ⟨fun hlt => ⟨hlt, fun x hx => ⟨sync_len (Nat.le_succ_of_le h5), i + 1, hlt, Nat.sub_lt_sub_left hlt (Nat.lt_succ_self i), inc_in hf hi, sync_step hx⟩⟩, fun hge => ⟨sync_len2 (Nat.le_succ_of_le h5), ⟨0, Nat.zero_le _, rfl, rp_mid hge⟩, fun k hk hf2 => ⟨fun hlt => ⟨hlt, fun x hx => ⟨fun hm => ⟨hlt, fun x2 hx2 => ?_⟩, fun hm => ⟨k + 1, hlt, Nat.sub_lt_sub_left hlt (Nat.lt_succ_self k), inc_in hf2 hk, rp_keep (d := (a, b, c, d, ())) hx (in_man hm)⟩⟩⟩, fun hge2 => ⟨rp_len (d := (a, b, c, d, ())) hk hd, rp_fin (d := (a, b, c, d, ())) hd h0 hk hge2⟩⟩⟩⟩⟩⟩
 have e2 : x = x2 := Option.some.inj (hx.symm.trans hx2)
 subst e2
 refine ⟨fun hn => ⟨hlt, fun x3 hx3 => ?_⟩, fun hn => ⟨k + 1, hlt, Nat.sub_lt_sub_left hlt (Nat.lt_succ_self k), inc_in hf2 hk, rp_keep (d := (a, b, c, d, ())) hx (in_any hn)⟩⟩
 have e3 : x = x3 := Option.some.inj (hx.symm.trans hx3)
 subst e3
 exact ⟨rp_len (d := (a, b, c, d, ())) hk hd, k + 1, hlt, Nat.sub_lt_sub_left hlt (Nat.lt_succ_self k), inc_in hf2 hk, rp_rm (d := (a, b, c, d, ())) hx (in_none hm hn)⟩
end Go.Proofs.YtkdnelaoagmeaaaGreatDoor
namespace Go.Proofs.YtkdnelaoagmeaaaGreatDoor
open Go.Ab Go.Fn
def s_LS : FSpec := { ps := [.v tDisk], rs := [.o (.slice (.slice tRec)), .v I], pre := fun _ => True, fn := fun x => (Fn.lsS x.1, Fn.lsC x.1, ()), upd := fun _ => () }
theorem ft_LoadStack : FT 32 s_LS := by
 refine foT (specs := [(48, s_DiskOK), (79, s_load)]) (clos := []) (fun x => []) ⟨toT fo_DiskOK, ft_load, trivial⟩ trivial Tryz.func32 rfl rfl ?_
 rintro ⟨⟨a, b, c, d, ⟨⟩⟩, ⟨⟩⟩ -
 refine vcOf (4 <= (4) /\ true = true /\ True /\ ((!diskOK (a, b, c, d, ())) = true -> (([] : List (List (Int × List UInt8 × List UInt8 × Int × Bool × Unit))), (1 : Int), ()) = (lsS (a, b, c, d, ()), lsC (a, b, c, d, ()), ()) /\ () = ()) /\ ((!diskOK (a, b, c, d, ())) = false -> 4 <= (4) /\ true = true /\ diskOK (a, b, c, d, ()) = true /\ (ldS (a, b, c, d, ()), ldC (a, b, c, d, ()), ()) = (lsS (a, b, c, d, ()), lsC (a, b, c, d, ()), ()) /\ () = ())) (by kernel_rfl) ?_
 simp only [NS, eq_self, ne_eq, forall_const, implies_true, Nat.reduceAdd, Nat.reduceLeDiff, nz, Int.reduceEq, Nat.reduceEqDiff, reduceCtorEq]; try simp only [lenL]
 exact ⟨fun h => ls_bad h, fun h => ⟨h, ls_ok h⟩⟩
end Go.Proofs.YtkdnelaoagmeaaaGreatDoor
namespace Go.Proofs.YtkdnelaoagmeaaaGreatDoor
open Go.Ab Go.Fn
def L_ri1 (d : Fn.Disk) : LoopAnn := { ι := Nat, inv := fun k => k <= (Fn.nmS d ++ [Fn.manN]).length, slots := fun k => [(33, .d I (Int.ofNat k)), (31, .d (.slice .str) (Fn.nmS d ++ [Fn.manN])), (8, .d (.slice .str) (Fn.nmS d ++ [Fn.manN])), (9, .os 5)], objs := fun k => [(5, .arr tStep (((Fn.nmS d ++ [Fn.manN]).take k).map Fn.stSync) false)], μ := fun k => (Fn.nmS d ++ [Fn.manN]).length - k, fz := [8, 31] }
def L_ri2 (d : Fn.Disk) : LoopAnn := { ι := Nat, inv := fun k => k <= d.2.1.length, slots := fun k => [(50, .d I (Int.ofNat k)), (8, .d (.slice .str) (Fn.nmS d ++ [Fn.manN])), (9, .os 5)], objs := fun k => [(5, .arr tStep (Fn.rpHead d ++ Fn.rmOf d k) false)], μ := fun k => d.2.1.length - k, fz := [8] }
theorem ft_RecoverPlan : FT 47 s_RP := by
 refine foT (specs := [(32, s_LS), (100, s_nm), (101, s_inStr)]) (clos := []) (fun x => [(8, .lv [1, 8, 9, 31, 32, 33] <| fun _ => L_ri1 x.1), (14, .lv [8, 9, 48, 49, 50] <| fun _ => L_ri2 x.1)]) ⟨ft_LoadStack, ft_stackNames, toT fo_ContainsStr, trivial⟩ trivial Tryz.func47 rfl rfl ?_
 rintro ⟨⟨a, b, c, d, ⟨⟩⟩, ⟨⟩⟩ -
 refine vcOf (4 <= (4) /\ true = true /\ True /\ ((lsC (a, b, c, d, ()) != (0 : Int)) = true -> (([] : List (Int × List UInt8 × List UInt8 × List UInt8 × Unit)), lsC (a, b, c, d, ()), ()) = (rpS (a, b, c, d, ()), rpC (a, b, c, d, ()), ()) /\ () = ()) /\ ((lsC (a, b, c, d, ()) != (0 : Int)) = false -> 4 <= (4) /\ true = true /\ diskOK (a, b, c, d, ()) = true /\ fits (lenL (nmS (a, b, c, d, ())) + lenL ((([77, 65, 78, 73, 70, 69, 83, 84] : List UInt8)) :: ([] : List (List UInt8)))) /\ (fits (lenL (nmS (a, b, c, d, ()) ++ (([77, 65, 78, 73, 70, 69, 83, 84] : List UInt8)) :: ([] : List (List UInt8)))) -> (∃ (i : Nat), i <= (nmS (a, b, c, d, ()) ++ manN :: ([] : List (List UInt8))).length /\ ((0 = 0 /\ (0 : Nat) = 0) /\ nmS (a, b, c, d, ()) ++ (([77, 65, 78, 73, 70, 69, 83, 84] : List UInt8)) :: ([] : List (List UInt8)) = nmS (a, b, c, d, ()) ++ manN :: ([] : List (List UInt8)) /\ (5) = (5 : Nat) /\ nmS (a, b, c, d, ()) ++ (([77, 65, 78, 73, 70, 69, 83, 84] : List UInt8)) :: ([] : List (List UInt8)) = nmS (a, b, c, d, ()) ++ manN :: ([] : List (List UInt8)) /\ iOf (lenL (nmS (a, b, c, d, ()) ++ (([77, 65, 78, 73, 70, 69, 83, 84] : List UInt8)) :: ([] : List (List UInt8)))) = iOf (lenL (nmS (a, b, c, d, ()) ++ (([77, 65, 78, 73, 70, 69, 83, 84] : List UInt8)) :: ([] : List (List UInt8)))) /\ (0 : Int) = Int.ofNat i /\ True) /\ ((a = a /\ b = b /\ c = c /\ d = d /\ True) /\ (([] : List (Int × List UInt8 × List UInt8 × List UInt8 × Unit)) = ([] : List (Int × List UInt8 × List UInt8 × List UInt8 × Unit)) /\ false = false) /\ (lsS (a, b, c, d, ()) = lsS (a, b, c, d, ()) /\ false = false) /\ True /\ ((([77, 65, 78, 73, 70, 69, 83, 84] : List UInt8)) :: ([] : List (List UInt8)) = (([77, 65, 78, 73, 70, 69, 83, 84] : List UInt8)) :: ([] : List (List UInt8)) /\ false = false) /\ (([] : List (Int × List UInt8 × List UInt8 × List UInt8 × Unit)) = List.map stSync (List.take i (nmS (a, b, c, d, ()) ++ manN :: ([] : List (List UInt8)))) /\ false = false) /\ True) /\ True) /\ ∀ (i : Nat), i <= (nmS (a, b, c, d, ()) ++ manN :: ([] : List (List UInt8))).length -> (decide (Int.ofNat i < iOf (lenL (nmS (a, b, c, d, ()) ++ (([77, 65, 78, 73, 70, 69, 83, 84] : List UInt8)) :: ([] : List (List UInt8))))) = true -> bnd (Int.ofNat i) (lenL (nmS (a, b, c, d, ()) ++ manN :: ([] : List (List UInt8)))) /\ ∀ (x : List UInt8), nthI (nmS (a, b, c, d, ()) ++ manN :: ([] : List (List UInt8))) (Int.ofNat i) = some x -> 1 <= 1 /\ fits (lenL (List.map stSync (List.take i (nmS (a, b, c, d, ()) ++ manN :: ([] : List (List UInt8))))) + lenL (((2 : Int), x, ([] : List UInt8), ([] : List UInt8), ()) :: ([] : List (Int × List UInt8 × List UInt8 × List UInt8 × Unit)))) /\ ∃ (j : Nat), j <= (nmS (a, b, c, d, ()) ++ manN :: ([] : List (List UInt8))).length /\ (nmS (a, b, c, d, ()) ++ manN :: ([] : List (List UInt8))).length.sub j < (nmS (a, b, c, d, ()) ++ manN :: ([] : List (List UInt8))).length.sub i /\ ((0 = 0 /\ (0 : Nat) = 0) /\ nmS (a, b, c, d, ()) ++ manN :: ([] : List (List UInt8)) = nmS (a, b, c, d, ()) ++ manN :: ([] : List (List UInt8)) /\ (5 : Nat) = 5 /\ nmS (a, b, c, d, ()) ++ manN :: ([] : List (List UInt8)) = nmS (a, b, c, d, ()) ++ manN :: ([] : List (List UInt8)) /\ iOf (lenL (nmS (a, b, c, d, ()) ++ (([77, 65, 78, 73, 70, 69, 83, 84] : List UInt8)) :: ([] : List (List UInt8)))) = iOf (lenL (nmS (a, b, c, d, ()) ++ (([77, 65, 78, 73, 70, 69, 83, 84] : List UInt8)) :: ([] : List (List UInt8)))) /\ wAdd .i64 (Int.ofNat i) (1 : Int) = Int.ofNat j /\ True) /\ ((a = a /\ b = b /\ c = c /\ d = d /\ True) /\ (([] : List (Int × List UInt8 × List UInt8 × List UInt8 × Unit)) = ([] : List (Int × List UInt8 × List UInt8 × List UInt8 × Unit)) /\ false = false) /\ (lsS (a, b, c, d, ()) = lsS (a, b, c, d, ()) /\ false = false) /\ True /\ ((([77, 65, 78, 73, 70, 69, 83, 84] : List UInt8)) :: ([] : List (List UInt8)) = (([77, 65, 78, 73, 70, 69, 83, 84] : List UInt8)) :: ([] : List (List UInt8)) /\ false = false) /\ (List.map stSync (List.take i (nmS (a, b, c, d, ()) ++ manN :: ([] : List (List UInt8)))) ++ ((2 : Int), x, ([] : List UInt8), ([] : List UInt8), ()) :: ([] : List (Int × List UInt8 × List UInt8 × List UInt8 × Unit)) = List.map stSync (List.take j (nmS (a, b, c, d, ()) ++ manN :: ([] : List (List UInt8)))) /\ false = false) /\ True) /\ True) /\ (decide (Int.ofNat i < iOf (lenL (nmS (a, b, c, d, ()) ++ (([77, 65, 78, 73, 70, 69, 83, 84] : List UInt8)) :: ([] : List (List UInt8))))) = false -> fits (lenL (List.map stSync (List.take i (nmS (a, b, c, d, ()) ++ manN :: ([] : List (List UInt8))))) + lenL (((5 : Int), ([] : List UInt8), ([] : List UInt8), ([] : List UInt8), ()) :: ([] : List (Int × List UInt8 × List UInt8 × List UInt8 × Unit)))) /\ 2 <= (4) /\ (fits (lenL b) -> (∃ (i_1 : Nat), i_1 <= List.length b /\ (nmS (a, b, c, d, ()) ++ manN :: ([] : List (List UInt8)) = nmS (a, b, c, d, ()) ++ manN :: ([] : List (List UInt8)) /\ (5 : Nat) = 5 /\ b = b /\ iOf (lenL b) = iOf (lenL b) /\ (0 : Int) = Int.ofNat i_1 /\ True) /\ ((a = a /\ b = b /\ c = c /\ d = d /\ True) /\ (([] : List (Int × List UInt8 × List UInt8 × List UInt8 × Unit)) = ([] : List (Int × List UInt8 × List UInt8 × List UInt8 × Unit)) /\ false = false) /\ (lsS (a, b, c, d, ()) = lsS (a, b, c, d, ()) /\ false = false) /\ True /\ ((([77, 65, 78, 73, 70, 69, 83, 84] : List UInt8)) :: ([] : List (List UInt8)) = (([77, 65, 78, 73, 70, 69, 83, 84] : List UInt8)) :: ([] : List (List UInt8)) /\ false = false) /\ (List.map stSync (List.take i (nmS (a, b, c, d, ()) ++ manN :: ([] : List (List UInt8)))) ++ ((5 : Int), ([] : List UInt8), ([] : List UInt8), ([] : List UInt8), ()) :: ([] : List (Int × List UInt8 × List UInt8 × List UInt8 × Unit)) = rpHead (a, b, c, d, ()) ++ rmOf (a, b, c, d, ()) i_1 /\ false = false) /\ (((5 : Int), ([] : List UInt8), ([] : List UInt8), ([] : List UInt8), ()) :: ([] : List (Int × List UInt8 × List UInt8 × List UInt8 × Unit)) = ((5 : Int), ([] : List UInt8), ([] : List UInt8), ([] : List UInt8), ()) :: ([] : List (Int × List UInt8 × List UInt8 × List UInt8 × Unit)) /\ false = false) /\ True) /\ True) /\ ∀ (i : Nat), i <= List.length b -> (decide (Int.ofNat i < iOf (lenL b)) = true -> bnd (Int.ofNat i) (lenL b) /\ ∀ (x : List UInt8 × Int × Unit), nthI b (Int.ofNat i) = some x -> 2 <= Nat.succ (1) /\ 2 <= 2 /\ 1 <= Nat.succ (1) /\ true = true /\ True /\ ((!(nmS (a, b, c, d, ()) ++ manN :: ([] : List (List UInt8))).any fun (y : List UInt8) => decide (y = x.fst)) = true -> 1 <= Nat.succ (1) /\ fits (lenL (rpHead (a, b, c, d, ()) ++ rmOf (a, b, c, d, ()) i) + lenL (((4 : Int), x.fst, ([] : List UInt8), ([] : List UInt8), ()) :: ([] : List (Int × List UInt8 × List UInt8 × List UInt8 × Unit)))) /\ ∃ (j : Nat), j <= List.length b /\ (List.length b).sub j < (List.length b).sub i /\ (nmS (a, b, c, d, ()) ++ manN :: ([] : List (List UInt8)) = nmS (a, b, c, d, ()) ++ manN :: ([] : List (List UInt8)) /\ (5 : Nat) = 5 /\ b = b /\ iOf (lenL b) = iOf (lenL b) /\ wAdd .i64 (Int.ofNat i) (1 : Int) = Int.ofNat j /\ True) /\ ((a = a /\ b = b /\ c = c /\ d = d /\ True) /\ (([] : List (Int × List UInt8 × List UInt8 × List UInt8 × Unit)) = ([] : List (Int × List UInt8 × List UInt8 × List UInt8 × Unit)) /\ false = false) /\ (lsS (a, b, c, d, ()) = lsS (a, b, c, d, ()) /\ false = false) /\ True /\ ((([77, 65, 78, 73, 70, 69, 83, 84] : List UInt8)) :: ([] : List (List UInt8)) = (([77, 65, 78, 73, 70, 69, 83, 84] : List UInt8)) :: ([] : List (List UInt8)) /\ false = false) /\ (rpHead (a, b, c, d, ()) ++ rmOf (a, b, c, d, ()) i ++ ((4 : Int), x.fst, ([] : List UInt8), ([] : List UInt8), ()) :: ([] : List (Int × List UInt8 × List UInt8 × List UInt8 × Unit)) = rpHead (a, b, c, d, ()) ++ rmOf (a, b, c, d, ()) j /\ false = false) /\ (((5 : Int), ([] : List UInt8), ([] : List UInt8), ([] : List UInt8), ()) :: ([] : List (Int × List UInt8 × List UInt8 × List UInt8 × Unit)) = ((5 : Int), ([] : List UInt8), ([] : List UInt8), ([] : List UInt8), ()) :: ([] : List (Int × List UInt8 × List UInt8 × List UInt8 × Unit)) /\ false = false) /\ True) /\ True) /\ ((!(nmS (a, b, c, d, ()) ++ manN :: ([] : List (List UInt8))).any fun (y : List UInt8) => decide (y = x.fst)) = false -> ∃ (j : Nat), j <= List.length b /\ (List.length b).sub j < (List.length b).sub i /\ (nmS (a, b, c, d, ()) ++ manN :: ([] : List (List UInt8)) = nmS (a, b, c, d, ()) ++ manN :: ([] : List (List UInt8)) /\ (5 : Nat) = 5 /\ b = b /\ iOf (lenL b) = iOf (lenL b) /\ wAdd .i64 (Int.ofNat i) (1 : Int) = Int.ofNat j /\ True) /\ ((a = a /\ b = b /\ c = c /\ d = d /\ True) /\ (([] : List (Int × List UInt8 × List UInt8 × List UInt8 × Unit)) = ([] : List (Int × List UInt8 × List UInt8 × List UInt8 × Unit)) /\ false = false) /\ (lsS (a, b, c, d, ()) = lsS (a, b, c, d, ()) /\ false = false) /\ True /\ ((([77, 65, 78, 73, 70, 69, 83, 84] : List UInt8)) :: ([] : List (List UInt8)) = (([77, 65, 78, 73, 70, 69, 83, 84] : List UInt8)) :: ([] : List (List UInt8)) /\ false = false) /\ (rpHead (a, b, c, d, ()) ++ rmOf (a, b, c, d, ()) i = rpHead (a, b, c, d, ()) ++ rmOf (a, b, c, d, ()) j /\ false = false) /\ (((5 : Int), ([] : List UInt8), ([] : List UInt8), ([] : List UInt8), ()) :: ([] : List (Int × List UInt8 × List UInt8 × List UInt8 × Unit)) = ((5 : Int), ([] : List UInt8), ([] : List UInt8), ([] : List UInt8), ()) :: ([] : List (Int × List UInt8 × List UInt8 × List UInt8 × Unit)) /\ false = false) /\ True) /\ True)) /\ (decide (Int.ofNat i < iOf (lenL b)) = false -> fits (lenL (rpHead (a, b, c, d, ()) ++ rmOf (a, b, c, d, ()) i) + lenL (((5 : Int), ([] : List UInt8), ([] : List UInt8), ([] : List UInt8), ()) :: ([] : List (Int × List UInt8 × List UInt8 × List UInt8 × Unit)))) /\ (rpHead (a, b, c, d, ()) ++ rmOf (a, b, c, d, ()) i ++ ((5 : Int), ([] : List UInt8), ([] : List UInt8), ([] : List UInt8), ()) :: ([] : List (Int × List UInt8 × List UInt8 × List UInt8 × Unit)), (0 : Int), ()) = (rpS (a, b, c, d, ()), rpC (a, b, c, d, ()), ()) /\ () = ())))))) (by kernel_rfl) ?_
 simp only [NS, eq_self, ne_eq, forall_const, implies_true, Nat.reduceAdd, Nat.reduceLeDiff, nz, Int.reduceEq, Nat.reduceEqDiff, reduceCtorEq]; try simp only [lenL]
 have h5 := nm_five (a, b, c, d, ())
 have hl : (nmS (a, b, c, d, ()) ++ [manN]).length <= 6 := by rw [List.length_append]; exact Nat.succ_le_succ h5
 refine ⟨fun h => rp_not h, fun h0 => ?_⟩
 have hd := ls_zero h0
 have hc : ldC (a, b, c, d, ()) = 0 := (ls_ok hd).2.trans h0
 refine ⟨hd, show (nmS (a, b, c, d, ())).length + 1 < 1099511627776 by omega, fun hf => ⟨⟨0, Nat.zero_le _, ⟨rfl, rfl, rfl⟩, rfl⟩, fun i hi => ⟨fun hlt => ⟨hlt, fun x hx => ⟨sync_len hl, i + 1, hlt, Nat.sub_lt_sub_left hlt (Nat.lt_succ_self i), inc_in hf hi, sync_step hx⟩⟩, fun hge => ⟨sync_len hl, fun hf2 => ⟨⟨0, Nat.zero_le _, rfl, rp_mid2 hge⟩, fun k hk => ⟨fun hlt => ⟨hlt, fun x hx => ⟨fun hn => ⟨rp_len (d := (a, b, c, d, ())) hk hd, k + 1, hlt, Nat.sub_lt_sub_left hlt (Nat.lt_succ_self k), inc_in hf2 hk, rp_rm (d := (a, b, c, d, ())) hx (any_own.symm.trans hn)⟩, fun hn => ⟨k + 1, hlt, Nat.sub_lt_sub_left hlt (Nat.lt_succ_self k), inc_in hf2 hk, rp_keep (d := (a, b, c, d, ())) hx (any_own.symm.trans hn)⟩⟩⟩, fun hge2 => ⟨rp_len (d := (a, b, c, d, ())) hk hd, rp_fin (d := (a, b, c, d, ())) hd hc hk hge2⟩⟩⟩⟩⟩⟩⟩
end Go.Proofs.YtkdnelaoagmeaaaGreatDoor
namespace Go.Proofs.YtkdnelaoagmeaaaGreatDoor
open Go.Ab Go.Fn
def s_Delete_Slot : FSpec := { ps := [.o tSlot, .f [tSlot] .bool], rs := [.o (.slice tSlot)], pre := fun x => (∀ y, y ∈ x.1 -> x.2.1.2 (y, ())) /\ List.length (α := (tSlot : Ty).den) x.1 <= 1000000, fn := fun x => (List.filter (α := (tSlot : Ty).den) (fun y => !(x.2.1.1 (y, ()))) x.1, ()), upd := fun _ => () }
def L_Delete_Slot (xs : List (tSlot : Ty).den) (p : (tSlot : Ty).den -> Bool) : LoopAnn := { ι := Nat × List (tSlot : Ty).den, inv := fun q => DelAt p xs q.1 q.2, slots := fun q => [(5, .d I (Int.ofNat (kept p xs q.1).length)), (6, .d I (Int.ofNat q.1))], objs := fun q => [(0, .arr tSlot q.2 false)], μ := fun q => xs.length - q.1 }
theorem fo_Delete_Slot : FO 265 s_Delete_Slot := by
 refine fo (specs := [(227, s_IndexFunc_Slot)]) (clos := []) (fun x => [(5, .lv [0, 1, 5, 6] <| fun _ => L_Delete_Slot x.1 (fun y => x.2.1.1 (y, ())))]) ⟨fo_IndexFunc_Slot, trivial⟩ trivial Tryz.func265 rfl rfl ?_
 rintro ⟨xs, ⟨p, q⟩, ⟨⟩⟩ ⟨hp, ha⟩
 have ha : List.length (α := (tSlot : Ty).den) xs <= 1000000 := ha
 refine vcOf (true = true /\ (∀ (y : List UInt8 × Int × Unit), y ∈ xs -> q (y, ())) /\ ((idx (fun (y : List UInt8 × Int × Unit) => p (y, ())) xs == (-1 : Int)) = true -> (xs, ()) = (List.filter (fun (y : List UInt8 × Int × Unit) => !p (y, ())) xs, ()) /\ () = ()) /\ ((idx (fun (y : List UInt8 × Int × Unit) => p (y, ())) xs == (-1 : Int)) = false -> (∃ (i : Nat × List (List UInt8 × Int × Unit)), DelAt (fun (y : List UInt8 × Int × Unit) => p (y, ())) xs i.fst i.snd /\ ((0 : Nat) = 0 /\ (p, q) = (p, q) /\ idx (fun (y : List UInt8 × Int × Unit) => p (y, ())) xs = Int.ofNat (kept (fun (y : List UInt8 × Int × Unit) => p (y, ())) xs i.fst).length /\ wAdd .i64 (idx (fun (y : List UInt8 × Int × Unit) => p (y, ())) xs) (1 : Int) = Int.ofNat i.fst /\ True) /\ ((xs = i.snd /\ false = false) /\ (([] : List (List UInt8 × Int × Unit)) = ([] : List (List UInt8 × Int × Unit)) /\ false = false) /\ True) /\ True) /\ ∀ (i : Nat × List (List UInt8 × Int × Unit)), DelAt (fun (y : List UInt8 × Int × Unit) => p (y, ())) xs i.fst i.snd -> fits (lenL i.snd) -> (decide (Int.ofNat i.fst < iOf (lenL i.snd)) = true -> bnd (Int.ofNat i.fst) (lenL i.snd) /\ 2 = 2 /\ 2 <= 2 /\ tN (Int.ofNat i.fst) < lenL i.snd /\ ∀ (x : List UInt8 × Int × Unit), nth i.snd (tN (Int.ofNat i.fst)) = some x -> 2 <= 2 /\ 2 <= Nat.succ (1) /\ q ((x.fst, x.snd.fst, ()), ()) /\ ((!p ((x.fst, x.snd.fst, ()), ())) = true -> 2 <= Nat.succ (1) /\ bnd (Int.ofNat (kept (fun (y : List UInt8 × Int × Unit) => p (y, ())) xs i.fst).length) (lenL i.snd) /\ ((0 : Nat) = 0 /\ tN (Int.ofNat (kept (fun (y : List UInt8 × Int × Unit) => p (y, ())) xs i.fst).length) < lenL i.snd) /\ ∃ (j : Nat × List (List UInt8 × Int × Unit)), DelAt (fun (y : List UInt8 × Int × Unit) => p (y, ())) xs j.fst j.snd /\ (List.length xs).sub j.fst < (List.length xs).sub i.fst /\ ((0 : Nat) = 0 /\ (p, q) = (p, q) /\ wAdd .i64 (Int.ofNat (kept (fun (y : List UInt8 × Int × Unit) => p (y, ())) xs i.fst).length) (1 : Int) = Int.ofNat (kept (fun (y : List UInt8 × Int × Unit) => p (y, ())) xs j.fst).length /\ wAdd .i64 (Int.ofNat i.fst) (1 : Int) = Int.ofNat j.fst /\ True) /\ ((i.snd.set (tN (Int.ofNat (kept (fun (y : List UInt8 × Int × Unit) => p (y, ())) xs i.fst).length)) (x.fst, x.snd.fst, ()) = j.snd /\ false = false) /\ (([] : List (List UInt8 × Int × Unit)) = ([] : List (List UInt8 × Int × Unit)) /\ false = false) /\ True) /\ True) /\ ((!p ((x.fst, x.snd.fst, ()), ())) = false -> ∃ (j : Nat × List (List UInt8 × Int × Unit)), DelAt (fun (y : List UInt8 × Int × Unit) => p (y, ())) xs j.fst j.snd /\ (List.length xs).sub j.fst < (List.length xs).sub i.fst /\ ((0 : Nat) = 0 /\ (p, q) = (p, q) /\ Int.ofNat (kept (fun (y : List UInt8 × Int × Unit) => p (y, ())) xs i.fst).length = Int.ofNat (kept (fun (y : List UInt8 × Int × Unit) => p (y, ())) xs j.fst).length /\ wAdd .i64 (Int.ofNat i.fst) (1 : Int) = Int.ofNat j.fst /\ True) /\ ((i.snd = j.snd /\ false = false) /\ (([] : List (List UInt8 × Int × Unit)) = ([] : List (List UInt8 × Int × Unit)) /\ false = false) /\ True) /\ True)) /\ (decide (Int.ofNat i.fst < iOf (lenL i.snd)) = false -> boundLo (Int.ofNat (kept (fun (y : List UInt8 × Int × Unit) => p (y, ())) xs i.fst).length) (lenL i.snd) /\ (tN (Int.ofNat (kept (fun (y : List UInt8 × Int × Unit) => p (y, ())) xs i.fst).length) <= lenL i.snd /\ lenL i.snd <= lenL i.snd) /\ boundLo (Int.ofNat (kept (fun (y : List UInt8 × Int × Unit) => p (y, ())) xs i.fst).length) (lenL (copyL i.snd (tN (Int.ofNat (kept (fun (y : List UInt8 × Int × Unit) => p (y, ())) xs i.fst).length)) (lenL i.snd) (List.replicate (lenL i.snd - tN (Int.ofNat (kept (fun (y : List UInt8 × Int × Unit) => p (y, ())) xs i.fst).length)) (([] : List UInt8), (0 : (Ty.int .i64).den), ())))) /\ tN (Int.ofNat (kept (fun (y : List UInt8 × Int × Unit) => p (y, ())) xs i.fst).length) <= lenL (copyL i.snd (tN (Int.ofNat (kept (fun (y : List UInt8 × Int × Unit) => p (y, ())) xs i.fst).length)) (lenL i.snd) (List.replicate (lenL i.snd - tN (Int.ofNat (kept (fun (y : List UInt8 × Int × Unit) => p (y, ())) xs i.fst).length)) (([] : List UInt8), (0 : (Ty.int .i64).den), ()))) /\ (subL (copyL i.snd (tN (Int.ofNat (kept (fun (y : List UInt8 × Int × Unit) => p (y, ())) xs i.fst).length)) (lenL i.snd) (List.replicate (lenL i.snd - tN (Int.ofNat (kept (fun (y : List UInt8 × Int × Unit) => p (y, ())) xs i.fst).length)) (([] : List UInt8), (0 : (Ty.int .i64).den), ()))) (0 : Nat) (tN (Int.ofNat (kept (fun (y : List UInt8 × Int × Unit) => p (y, ())) xs i.fst).length)), ()) = (List.filter (fun (y : List UInt8 × Int × Unit) => !p (y, ())) xs, ()) /\ () = ()))) (by kernel_rfl) ?_
 simp only [NS, eq_self, ne_eq, forall_const, implies_true, Nat.reduceAdd, Nat.reduceLeDiff, nz, Int.reduceEq, Nat.reduceEqDiff, reduceCtorEq]; try simp only [lenL]
 refine ⟨hp, fun h1 => del_none h1, fun h1 => ⟨?_, ?_⟩⟩
 · obtain ⟨k, x, e, hx, hp, hn⟩ := idx_some h1
   have hs := del_start (p := fun y => p (y, ())) hx hp hn
   have hk : k < List.length xs := get_lt hx
   have e2 := hs.2
   rw [e, inc_small (by omega)]
   exact ⟨(k + 1, xs), hs.1, ⟨congrArg Int.ofNat e2.symm, rfl⟩, rfl⟩
 · rintro ⟨j, cur⟩ hd hf
   have hl := hd.2.1
   have hj := hd.1
   have hk := del_lt hd
   simp only at hd hl hj hk ⊢
   simp only [hl, tN_nat]
   refine ⟨fun hlt => ⟨hlt, hlt, fun x hx => ?_⟩, fun hge => ?_⟩
   · have hx2 := hx
     unfold nth at hx2
     rw [del_read hd] at hx2
     rw [inc_small (k := j) (by omega), inc_small (by omega)]
     refine ⟨hp x (List.mem_of_getElem? hx2), fun hu => ?_, fun hu => ?_⟩
     · have hs := del_put hd hx2 hu
       exact ⟨hk, hk, (j + 1, _), hs.1, Nat.sub_lt_sub_left hlt (Nat.lt_succ_self j), ⟨congrArg Int.ofNat hs.2.symm, rfl⟩, rfl⟩
     · have hs := del_skip hd hx2 hu
       exact ⟨(j + 1, cur), hs.1, Nat.sub_lt_sub_left hlt (Nat.lt_succ_self j), ⟨congrArg Int.ofNat hs.2.symm, rfl⟩, rfl⟩
   · rw [copyL_length (Nat.le_of_lt hk) (Nat.le_of_eq hl.symm), hl, del_end hd hge]
     exact ⟨⟨Int.natCast_nonneg _, Int.ofNat_le.2 (Nat.le_of_lt hk)⟩, Nat.le_of_lt hk, ⟨Int.natCast_nonneg _, Int.ofNat_le.2 (Nat.le_of_lt hk)⟩, Nat.le_of_lt hk, rfl⟩
end Go.Proofs.YtkdnelaoagmeaaaGreatDoor
namespace Go.Proofs.YtkdnelaoagmeaaaGreatDoor
open Go.Ab Go.Fn
def c_without : CSpec := { ats := [tSlot], b := .bool, cs := [.r .str], pre := fun _ _ => True, fn := fun c a => nameIs c.1 a.1 }
theorem fo_withoutc : FO 266 c_without.fspec := by
 refine fo (specs := []) (clos := []) (fun x => []) trivial trivial Tryz.func266 rfl rfl ?_
 rintro ⟨x, n, ⟨⟩⟩ -
 refine vcOf (1 <= Nat.succ (1) /\ 1 <= 1 /\ (x.fst == n, ()) = (nameIs n x, ()) /\ () = ()) (by kernel_rfl) ?_
 simp only [NS, eq_self, ne_eq, forall_const, implies_true, Nat.reduceAdd, Nat.reduceLeDiff, nz, Int.reduceEq, Nat.reduceEqDiff, reduceCtorEq]; try simp only [lenL]
 rfl
def s_without : FSpec := { ps := [.v (.slice tSlot), .v .str], rs := [.o (.slice tSlot)], pre := fun x => List.length (α := Fn.Slot) x.1 <= 1000000, fn := fun x => (Fn.drop x.2.1 x.1, ()), upd := fun _ => () }
theorem fo_without : FO 230 s_without := by
 refine fo (specs := [(106, s_Clone_Slot), (265, s_Delete_Slot)]) (clos := [(266, c_without)]) (fun x => []) ⟨fo_Clone_Slot, fo_Delete_Slot, trivial⟩ ⟨co fo_withoutc rfl rfl, trivial⟩ Tryz.func230 rfl rfl ?_
 rintro ⟨l, n, ⟨⟩⟩ hp
 refine vcOf (true = true /\ True /\ true = true /\ ((∀ (y : List UInt8 × Int × Unit), y ∈ l -> True) /\ List.length l <= (1000000 : Nat)) /\ (List.filter (fun (y : List UInt8 × Int × Unit) => !(fun (a : (List UInt8 × Int × Unit) × Unit) => nameIs n a.fst, fun (x : (List UInt8 × Int × Unit) × Unit) => True).fst (y, ())) l, ()) = (drop n l, ()) /\ () = ()) (by kernel_rfl) ?_
 simp only [NS, eq_self, ne_eq, forall_const, implies_true, Nat.reduceAdd, Nat.reduceLeDiff, nz, Int.reduceEq, Nat.reduceEqDiff, reduceCtorEq]; try simp only [lenL]
 exact ⟨hp, rfl⟩
end Go.Proofs.YtkdnelaoagmeaaaGreatDoor
namespace Go.Proofs.YtkdnelaoagmeaaaGreatDoor
open Go.Ab Go.Fn
def L_drop (l : List Fn.Slot) (n : List UInt8) : LoopAnn := { ι := Nat, inv := fun k => k <= l.length, slots := fun k => [(5, .os 1), (6, .d I (Int.ofNat k))], objs := fun k => [(1, .arr tSlot (dropTo n l k) false)], μ := fun k => l.length - k }
def s_l11Drop : FSpec := { ps := [.v (.slice tSlot), .v .str], rs := [.o (.slice tSlot)], pre := fun x => True, fn := fun x => (Fn.drop x.2.1 x.1, ()), upd := fun _ => () }
theorem fo_l11Drop : FO 224 s_l11Drop := by
 refine fo (specs := []) (clos := []) (fun x => [(3, .lv [0, 1, 5, 6] <| fun _ => L_drop x.1 x.2.1)]) trivial trivial Tryz.func224 rfl rfl ?_
 rintro ⟨l, n, ⟨⟩⟩ -
 refine vcOf ((∃ (i : Nat), i <= List.length l /\ (l = l /\ n = n /\ 1 = (1 : Nat) /\ (0 : Int) = Int.ofNat i /\ True) /\ ((([] : List (List UInt8 × Int × Unit)) = ([] : List (List UInt8 × Int × Unit)) /\ false = false) /\ (([] : List (List UInt8 × Int × Unit)) = dropTo n l i /\ false = false) /\ True) /\ True) /\ ∀ (i : Nat), i <= List.length l -> fits (lenL l) -> (decide (Int.ofNat i < iOf (lenL l)) = true -> bnd (Int.ofNat i) (lenL l) /\ ∀ (x : List UInt8 × Int × Unit), nthI l (Int.ofNat i) = some x -> 1 <= Nat.succ (1) /\ ((!x.fst == n) = true -> bnd (Int.ofNat i) (lenL l) /\ ∀ (x : List UInt8 × Int × Unit), nthI l (Int.ofNat i) = some x -> 2 <= Nat.succ (1) /\ fits (lenL (dropTo n l i) + lenL ((x.fst, x.snd.fst, ()) :: ([] : List (List UInt8 × Int × Unit)))) /\ ∃ (j : Nat), j <= List.length l /\ (List.length l).sub j < (List.length l).sub i /\ (l = l /\ n = n /\ (1 : Nat) = 1 /\ wAdd .i64 (Int.ofNat i) (1 : Int) = Int.ofNat j /\ True) /\ ((([] : List (List UInt8 × Int × Unit)) = ([] : List (List UInt8 × Int × Unit)) /\ false = false) /\ (dropTo n l i ++ (x.fst, x.snd.fst, ()) :: ([] : List (List UInt8 × Int × Unit)) = dropTo n l j /\ false = false) /\ True) /\ True) /\ ((!x.fst == n) = false -> ∃ (j : Nat), j <= List.length l /\ (List.length l).sub j < (List.length l).sub i /\ (l = l /\ n = n /\ (1 : Nat) = 1 /\ wAdd .i64 (Int.ofNat i) (1 : Int) = Int.ofNat j /\ True) /\ ((([] : List (List UInt8 × Int × Unit)) = ([] : List (List UInt8 × Int × Unit)) /\ false = false) /\ (dropTo n l i = dropTo n l j /\ false = false) /\ True) /\ True)) /\ (decide (Int.ofNat i < iOf (lenL l)) = false -> (dropTo n l i, ()) = (drop n l, ()) /\ () = ())) (by kernel_rfl) ?_
 simp only [NS, eq_self, ne_eq, forall_const, implies_true, Nat.reduceAdd, Nat.reduceLeDiff, nz, Int.reduceEq, Nat.reduceEqDiff, reduceCtorEq]; try simp only [lenL]
 refine ⟨⟨0, Nat.zero_le _, rfl, rfl⟩, fun k hk hf => ⟨fun hlt => ⟨hlt, fun x hx => ⟨fun hn => ⟨hlt, fun y hy => ?_⟩, fun hn => ⟨k + 1, hlt, Nat.sub_lt_sub_left hlt (Nat.lt_succ_self k), inc_in hf hk, dropTo_del hx hn⟩⟩⟩, fun hge => dropTo_end hge⟩⟩
 rw [hx] at hy; cases hy
 refine ⟨?_, k + 1, hlt, Nat.sub_lt_sub_left hlt (Nat.lt_succ_self k), inc_in hf hk, dropTo_keep hx hn⟩
 have h1 := dropTo_less n hk hlt
 have hf : List.length l < 1099511627776 := hf
 show (dropTo n l k).length + 1 < 1099511627776
 omega
end Go.Proofs.YtkdnelaoagmeaaaGreatDoor
namespace Go.Proofs.YtkdnelaoagmeaaaGreatDoor
open Go.Ab Go.Fn
def s_l11Remove : FSpec := { ps := [.v tDisk, .v .str], rs := [.v tDisk, .v .bool], pre := fun x => True, fn := fun x => (if readB x.1 x.2.1 = true then (x.1.1, Fn.drop x.2.1 x.1.2.1, x.1.2.2.1, x.1.2.2.2.1, ()) else x.1, readB x.1 x.2.1, ()), upd := fun _ => () }
theorem fo_l11Remove : FO 166 s_l11Remove := by
 refine fo (specs := [(164, s_slot), (224, s_l11Drop)]) (clos := []) (fun x => []) ⟨fo_l11At, fo_l11Drop, trivial⟩ trivial Tryz.func166 rfl rfl ?_
 rintro ⟨⟨a, b, c, d, ⟨⟩⟩, n, ⟨⟩⟩ -
 refine vcOf (2 <= (4) /\ true = true /\ True /\ (decide (slotAt b n < (0 : Int)) = true -> 4 <= (4) /\ 4 <= 4 /\ ((a, b, c, d, ()), false, ()) = (if readB (a, b, c, d, ()) n = true then (a, drop n b, c, d, ()) else (a, b, c, d, ()), readB (a, b, c, d, ()) n, ()) /\ () = ()) /\ (decide (slotAt b n < (0 : Int)) = false -> 2 <= (4) /\ true = true /\ True /\ 2 <= (4) /\ 4 <= (4) /\ 4 <= 4 /\ ((a, drop n b, c, d, ()), true, ()) = (if readB (a, b, c, d, ()) n = true then (a, drop n b, c, d, ()) else (a, b, c, d, ()), readB (a, b, c, d, ()) n, ()) /\ () = ())) (by kernel_rfl) ?_
 simp only [NS, eq_self, ne_eq, forall_const, implies_true, Nat.reduceAdd, Nat.reduceLeDiff, nz, Int.reduceEq, Nat.reduceEqDiff, reduceCtorEq]; try simp only [lenL]
 refine ⟨fun h => ?_, fun h => ?_⟩
 · have e : readB (a, b, c, d, ()) n = false := (read_none h).2.symm
   rw [e]; exact ⟨rfl, rfl⟩
 · have e : readB (a, b, c, d, ()) n = true := decide_eq_true h
   rw [e]; exact ⟨rfl, rfl⟩
end Go.Proofs.YtkdnelaoagmeaaaGreatDoor
namespace Go.Proofs.YtkdnelaoagmeaaaGreatDoor
open Go.Ab Go.Fn
def s_RemoveFile : FSpec := { ps := [.v tDisk, .v .str], rs := [.o tDisk, .v I], pre := fun x => True, fn := fun x => (removeD x.1 x.2.1, removeC x.1 x.2.1, ()), upd := fun _ => () }
end Go.Proofs.YtkdnelaoagmeaaaGreatDoor
namespace Go.Proofs.YtkdnelaoagmeaaaGreatDoor
open Go.Ab Go.Fn
theorem fo_iRemoveFile : FO 176 s_RemoveFile := by
 refine foI (specs := [(152, s_isLong), (48, s_DiskOK), (51, s_first), (49, s_copied), (204, s_slot), (230, s_without)]) (clos := []) (inl := [(232, i_swept)]) (fun x => []) ⟨fo_isLong, fo_DiskOK, fo_first, fo_copied, fo_slot, fo_without, trivial⟩ trivial ⟨in_swept, trivial⟩ Tryz.func176 rfl rfl ?_
 rintro ⟨⟨a, b, c, d, ⟨⟩⟩, n, ⟨⟩⟩ -
 refine vcOf (4 <= (4) /\ true = true /\ True /\ true = true /\ True /\ true = true /\ True /\ ((first ((AnyV.b !(n :: ([] : List (List UInt8))).all short) :: AnyV.n (2 : Int) :: (AnyV.b !diskOK (a, b, c, d, ())) :: AnyV.n (1 : Int) :: ([] : List AnyV)) != (0 : Int)) = true -> 4 <= 4 /\ ((([] : List (Int × List UInt8 × Bool × Unit)), ([] : List (List UInt8 × Int × Unit)), ([] : List (List UInt8 × Int × Unit)), (0 : (Ty.int .i64).den), ()), first ((AnyV.b !(n :: ([] : List (List UInt8))).all short) :: AnyV.n (2 : Int) :: (AnyV.b !diskOK (a, b, c, d, ())) :: AnyV.n (1 : Int) :: ([] : List AnyV)), ()) = (removeD (a, b, c, d, ()) n, removeC (a, b, c, d, ()) n, ()) /\ () = ()) /\ ((first ((AnyV.b !(n :: ([] : List (List UInt8))).all short) :: AnyV.n (2 : Int) :: (AnyV.b !diskOK (a, b, c, d, ())) :: AnyV.n (1 : Int) :: ([] : List AnyV)) != (0 : Int)) = false -> 4 <= (4) /\ true = true /\ True /\ 4 <= 4 /\ 2 <= (4) /\ true = true /\ True /\ (decide (slotAt b n < (0 : Int)) = true -> 4 <= (4) /\ 4 <= 4 /\ ((a, b, c, d, ()), (5 : Int), ()) = (removeD (a, b, c, d, ()) n, removeC (a, b, c, d, ()) n, ()) /\ () = ()) /\ (decide (slotAt b n < (0 : Int)) = false -> 2 <= (4) /\ true = true /\ List.length b <= (1000000 : Nat) /\ 2 <= (4) /\ 4 <= (4) /\ 1 <= (4) /\ true = true /\ (∀ (y : Int × List UInt8 × Bool × Unit), y ∈ a -> True) /\ ((idx (fun (y : Int × List UInt8 × Bool × Unit) => (fun (a : (Int × List UInt8 × Bool × Unit) × Unit) => unusedIn (drop n b) c a.fst, fun (x : (Int × List UInt8 × Bool × Unit) × Unit) => True).fst (y, ())) a == (-1 : Int)) = true -> 1 <= (4) /\ 4 <= (4) /\ 4 <= 4 /\ 4 <= 4 /\ ((a, drop n b, c, d, ()), (0 : Int), ()) = (removeD (a, b, c, d, ()) n, removeC (a, b, c, d, ()) n, ()) /\ () = ()) /\ ((idx (fun (y : Int × List UInt8 × Bool × Unit) => (fun (a : (Int × List UInt8 × Bool × Unit) × Unit) => unusedIn (drop n b) c a.fst, fun (x : (Int × List UInt8 × Bool × Unit) × Unit) => True).fst (y, ())) a == (-1 : Int)) = false -> (∃ (i : Nat × List Inode), DelAt (unusedIn (drop n b) c) a i.fst i.snd /\ ((4) = (4) /\ ((270 : Nat) = 270 /\ ((9) = (9) /\ (0 : Nat) = 0) /\ True) /\ (11) = (11) /\ idx (fun (y : Int × List UInt8 × Bool × Unit) => (fun (a : (Int × List UInt8 × Bool × Unit) × Unit) => unusedIn (drop n b) c a.fst, fun (x : (Int × List UInt8 × Bool × Unit) × Unit) => True).fst (y, ())) a = Int.ofNat (kept (unusedIn (drop n b) c) a i.fst).length /\ wAdd .i64 (idx (fun (y : Int × List UInt8 × Bool × Unit) => (fun (a : (Int × List UInt8 × Bool × Unit) × Unit) => unusedIn (drop n b) c a.fst, fun (x : (Int × List UInt8 × Bool × Unit) × Unit) => True).fst (y, ())) a) (1 : Int) = Int.ofNat i.fst /\ (4) = (4) /\ ((270 : Nat) = 270 /\ ((9) = (9) /\ (0 : Nat) = 0) /\ True) /\ idx (fun (y : Int × List UInt8 × Bool × Unit) => (fun (a : (Int × List UInt8 × Bool × Unit) × Unit) => unusedIn (drop n b) c a.fst, fun (x : (Int × List UInt8 × Bool × Unit) × Unit) => True).fst (y, ())) a = idx (fun (y : Int × List UInt8 × Bool × Unit) => (fun (a : (Int × List UInt8 × Bool × Unit) × Unit) => unusedIn (drop n b) c a.fst, fun (x : (Int × List UInt8 × Bool × Unit) × Unit) => True).fst (y, ())) a /\ idx (fun (y : Int × List UInt8 × Bool × Unit) => (fun (a : (Int × List UInt8 × Bool × Unit) × Unit) => unusedIn (drop n b) c a.fst, fun (x : (Int × List UInt8 × Bool × Unit) × Unit) => True).fst (y, ())) a = idx (fun (y : Int × List UInt8 × Bool × Unit) => (fun (a : (Int × List UInt8 × Bool × Unit) × Unit) => unusedIn (drop n b) c a.fst, fun (x : (Int × List UInt8 × Bool × Unit) × Unit) => True).fst (y, ())) a /\ (idx (fun (y : Int × List UInt8 × Bool × Unit) => (fun (a : (Int × List UInt8 × Bool × Unit) × Unit) => unusedIn (drop n b) c a.fst, fun (x : (Int × List UInt8 × Bool × Unit) × Unit) => True).fst (y, ())) a == (-1 : Int)) = (idx (fun (y : Int × List UInt8 × Bool × Unit) => (fun (a : (Int × List UInt8 × Bool × Unit) × Unit) => unusedIn (drop n b) c a.fst, fun (x : (Int × List UInt8 × Bool × Unit) × Unit) => True).fst (y, ())) a == (-1 : Int)) /\ idx (fun (y : Int × List UInt8 × Bool × Unit) => (fun (a : (Int × List UInt8 × Bool × Unit) × Unit) => unusedIn (drop n b) c a.fst, fun (x : (Int × List UInt8 × Bool × Unit) × Unit) => True).fst (y, ())) a = idx (fun (y : Int × List UInt8 × Bool × Unit) => (fun (a : (Int × List UInt8 × Bool × Unit) × Unit) => unusedIn (drop n b) c a.fst, fun (x : (Int × List UInt8 × Bool × Unit) × Unit) => True).fst (y, ())) a /\ wAdd .i64 (idx (fun (y : Int × List UInt8 × Bool × Unit) => (fun (a : (Int × List UInt8 × Bool × Unit) × Unit) => unusedIn (drop n b) c a.fst, fun (x : (Int × List UInt8 × Bool × Unit) × Unit) => True).fst (y, ())) a) (1 : Int) = wAdd .i64 (idx (fun (y : Int × List UInt8 × Bool × Unit) => (fun (a : (Int × List UInt8 × Bool × Unit) × Unit) => unusedIn (drop n b) c a.fst, fun (x : (Int × List UInt8 × Bool × Unit) × Unit) => True).fst (y, ())) a) (1 : Int) /\ True) /\ ((a = a /\ b = b /\ c = c /\ d = d /\ True) /\ (true = true /\ true = true /\ true = true /\ (0 : (Ty.int .i64).den) = (0 : (Ty.int .i64).den) /\ True) /\ (n :: ([] : List (List UInt8)) = n :: ([] : List (List UInt8)) /\ false = false) /\ ((AnyV.b !(n :: ([] : List (List UInt8))).all short) :: AnyV.n (2 : Int) :: (AnyV.b !diskOK (a, b, c, d, ())) :: AnyV.n (1 : Int) :: ([] : List AnyV) = (AnyV.b !(n :: ([] : List (List UInt8))).all short) :: AnyV.n (2 : Int) :: (AnyV.b !diskOK (a, b, c, d, ())) :: AnyV.n (1 : Int) :: ([] : List AnyV) /\ false = false) /\ (a = i.snd /\ false = false) /\ (b = b /\ false = false) /\ (c = c /\ false = false) /\ ((4) = (4) /\ (8) = (8) /\ (6) = (6) /\ d = d /\ True) /\ (drop n b = drop n b /\ false = false) /\ ((4) = (4) /\ (8) = (8) /\ (6) = (6) /\ d = d /\ True) /\ (true = true /\ true = true /\ true = true /\ (0 : (Ty.int .i64).den) = (0 : (Ty.int .i64).den) /\ True) /\ (([] : List (Int × List UInt8 × Bool × Unit)) = ([] : List (Int × List UInt8 × Bool × Unit)) /\ false = false) /\ True) /\ ((4) = (4) /\ (8) = (8) /\ (6) = (6) /\ d = d /\ True) /\ ((9) = (9) /\ (0 : Nat) = 0) /\ ((10) = (10) /\ (0 : Nat) = 0) /\ ((9) = (9) /\ 0 = 0) /\ (4) = (4) /\ ((270 : Nat) = 270 /\ ((9) = (9) /\ (0 : Nat) = 0) /\ True) /\ (a = a /\ b = b /\ c = c /\ d = d /\ True) /\ n = n /\ (0 = 0 /\ (0 : Nat) = 0) /\ (1 = 1 /\ (0 : Nat) = 0) /\ (0 : Int) = 0 /\ first ((AnyV.b !(n :: ([] : List (List UInt8))).all short) :: AnyV.n (2 : Int) :: (AnyV.b !diskOK (a, b, c, d, ())) :: AnyV.n (1 : Int) :: ([] : List AnyV)) = first ((AnyV.b !(n :: ([] : List (List UInt8))).all short) :: AnyV.n (2 : Int) :: (AnyV.b !diskOK (a, b, c, d, ())) :: AnyV.n (1 : Int) :: ([] : List AnyV)) /\ ((7) = (7) /\ (0 : Nat) = 0) /\ n = n /\ 2 = 2 /\ (!(n :: ([] : List (List UInt8))).all short) = !(n :: ([] : List (List UInt8))).all short /\ ((4 : Nat) = 4 /\ (!(n :: ([] : List (List UInt8))).all short) = !(n :: ([] : List (List UInt8))).all short) /\ ((3 : Nat) = 3 /\ (2 : Int) = 2) /\ (a = a /\ b = b /\ c = c /\ d = d /\ True) /\ diskOK (a, b, c, d, ()) = diskOK (a, b, c, d, ()) /\ (!diskOK (a, b, c, d, ())) = !diskOK (a, b, c, d, ()) /\ ((4 : Nat) = 4 /\ (!diskOK (a, b, c, d, ())) = !diskOK (a, b, c, d, ())) /\ ((3 : Nat) = 3 /\ (1 : Int) = 1) /\ (3) = (3) /\ first ((AnyV.b !(n :: ([] : List (List UInt8))).all short) :: AnyV.n (2 : Int) :: (AnyV.b !diskOK (a, b, c, d, ())) :: AnyV.n (1 : Int) :: ([] : List AnyV)) = first ((AnyV.b !(n :: ([] : List (List UInt8))).all short) :: AnyV.n (2 : Int) :: (AnyV.b !diskOK (a, b, c, d, ())) :: AnyV.n (1 : Int) :: ([] : List AnyV)) /\ first ((AnyV.b !(n :: ([] : List (List UInt8))).all short) :: AnyV.n (2 : Int) :: (AnyV.b !diskOK (a, b, c, d, ())) :: AnyV.n (1 : Int) :: ([] : List AnyV)) = first ((AnyV.b !(n :: ([] : List (List UInt8))).all short) :: AnyV.n (2 : Int) :: (AnyV.b !diskOK (a, b, c, d, ())) :: AnyV.n (1 : Int) :: ([] : List AnyV)) /\ (first ((AnyV.b !(n :: ([] : List (List UInt8))).all short) :: AnyV.n (2 : Int) :: (AnyV.b !diskOK (a, b, c, d, ())) :: AnyV.n (1 : Int) :: ([] : List AnyV)) != (0 : Int)) = (first ((AnyV.b !(n :: ([] : List (List UInt8))).all short) :: AnyV.n (2 : Int) :: (AnyV.b !diskOK (a, b, c, d, ())) :: AnyV.n (1 : Int) :: ([] : List AnyV)) != (0 : Int)) /\ (a = a /\ b = b /\ c = c /\ d = d /\ True) /\ ((4) = (4) /\ (5) = (5) /\ (6) = (6) /\ d = d /\ True) /\ (0 = 0 /\ 1 = 1) /\ b = b /\ n = n /\ slotAt b n = slotAt b n /\ decide (slotAt b n < (0 : Int)) = decide (slotAt b n < (0 : Int)) /\ ((7) = (7) /\ 1 = 1) /\ (5) = (5) /\ n = n /\ (8) = (8) /\ ((7) = (7) /\ 1 = 1) /\ ((4) = (4) /\ (8) = (8) /\ (6) = (6) /\ d = d /\ True) /\ True) /\ ∀ (i : Nat × List Inode), DelAt (unusedIn (drop n b) c) a i.fst i.snd -> fits (lenL i.snd) -> (decide (Int.ofNat i.fst < iOf (lenL i.snd)) = true -> bnd (Int.ofNat i.fst) (lenL i.snd) /\ 3 = 3 /\ 3 <= 3 /\ tN (Int.ofNat i.fst) < lenL i.snd /\ ∀ (x : Int × List UInt8 × Bool × Unit), nth i.snd (tN (Int.ofNat i.fst)) = some x -> 3 <= 3 /\ 3 <= (3) /\ 2 <= (4) /\ 1 <= (3) /\ true = true /\ True /\ ((!has (drop n b) x.fst) = true -> 3 <= (4) /\ 1 <= (3) /\ true = true /\ True /\ ((!!has c x.fst) = true -> 3 <= (3) /\ bnd (Int.ofNat (kept (unusedIn (drop n b) c) a i.fst).length) (lenL i.snd) /\ ((0 : Nat) = 0 /\ tN (Int.ofNat (kept (unusedIn (drop n b) c) a i.fst).length) < lenL i.snd) /\ ∃ (j : Nat × List Inode), DelAt (unusedIn (drop n b) c) a j.fst j.snd /\ (List.length a).sub j.fst < (List.length a).sub i.fst /\ ((4) = (4) /\ ((270 : Nat) = 270 /\ ((9) = (9) /\ (0 : Nat) = 0) /\ True) /\ (11) = (11) /\ wAdd .i64 (Int.ofNat (kept (unusedIn (drop n b) c) a i.fst).length) (1 : Int) = Int.ofNat (kept (unusedIn (drop n b) c) a j.fst).length /\ wAdd .i64 (Int.ofNat i.fst) (1 : Int) = Int.ofNat j.fst /\ (4) = (4) /\ ((270 : Nat) = 270 /\ ((9) = (9) /\ (0 : Nat) = 0) /\ True) /\ idx (fun (y : Int × List UInt8 × Bool × Unit) => (fun (a : (Int × List UInt8 × Bool × Unit) × Unit) => unusedIn (drop n b) c a.fst, fun (x : (Int × List UInt8 × Bool × Unit) × Unit) => True).fst (y, ())) a = idx (fun (y : Int × List UInt8 × Bool × Unit) => (fun (a : (Int × List UInt8 × Bool × Unit) × Unit) => unusedIn (drop n b) c a.fst, fun (x : (Int × List UInt8 × Bool × Unit) × Unit) => True).fst (y, ())) a /\ idx (fun (y : Int × List UInt8 × Bool × Unit) => (fun (a : (Int × List UInt8 × Bool × Unit) × Unit) => unusedIn (drop n b) c a.fst, fun (x : (Int × List UInt8 × Bool × Unit) × Unit) => True).fst (y, ())) a = idx (fun (y : Int × List UInt8 × Bool × Unit) => (fun (a : (Int × List UInt8 × Bool × Unit) × Unit) => unusedIn (drop n b) c a.fst, fun (x : (Int × List UInt8 × Bool × Unit) × Unit) => True).fst (y, ())) a /\ (idx (fun (y : Int × List UInt8 × Bool × Unit) => (fun (a : (Int × List UInt8 × Bool × Unit) × Unit) => unusedIn (drop n b) c a.fst, fun (x : (Int × List UInt8 × Bool × Unit) × Unit) => True).fst (y, ())) a == (-1 : Int)) = (idx (fun (y : Int × List UInt8 × Bool × Unit) => (fun (a : (Int × List UInt8 × Bool × Unit) × Unit) => unusedIn (drop n b) c a.fst, fun (x : (Int × List UInt8 × Bool × Unit) × Unit) => True).fst (y, ())) a == (-1 : Int)) /\ idx (fun (y : Int × List UInt8 × Bool × Unit) => (fun (a : (Int × List UInt8 × Bool × Unit) × Unit) => unusedIn (drop n b) c a.fst, fun (x : (Int × List UInt8 × Bool × Unit) × Unit) => True).fst (y, ())) a = idx (fun (y : Int × List UInt8 × Bool × Unit) => (fun (a : (Int × List UInt8 × Bool × Unit) × Unit) => unusedIn (drop n b) c a.fst, fun (x : (Int × List UInt8 × Bool × Unit) × Unit) => True).fst (y, ())) a /\ wAdd .i64 (idx (fun (y : Int × List UInt8 × Bool × Unit) => (fun (a : (Int × List UInt8 × Bool × Unit) × Unit) => unusedIn (drop n b) c a.fst, fun (x : (Int × List UInt8 × Bool × Unit) × Unit) => True).fst (y, ())) a) (1 : Int) = wAdd .i64 (idx (fun (y : Int × List UInt8 × Bool × Unit) => (fun (a : (Int × List UInt8 × Bool × Unit) × Unit) => unusedIn (drop n b) c a.fst, fun (x : (Int × List UInt8 × Bool × Unit) × Unit) => True).fst (y, ())) a) (1 : Int) /\ True) /\ ((a = a /\ b = b /\ c = c /\ d = d /\ True) /\ (true = true /\ true = true /\ true = true /\ (0 : (Ty.int .i64).den) = (0 : (Ty.int .i64).den) /\ True) /\ (n :: ([] : List (List UInt8)) = n :: ([] : List (List UInt8)) /\ false = false) /\ ((AnyV.b !(n :: ([] : List (List UInt8))).all short) :: AnyV.n (2 : Int) :: (AnyV.b !diskOK (a, b, c, d, ())) :: AnyV.n (1 : Int) :: ([] : List AnyV) = (AnyV.b !(n :: ([] : List (List UInt8))).all short) :: AnyV.n (2 : Int) :: (AnyV.b !diskOK (a, b, c, d, ())) :: AnyV.n (1 : Int) :: ([] : List AnyV) /\ false = false) /\ (i.snd.set (tN (Int.ofNat (kept (unusedIn (drop n b) c) a i.fst).length)) (x.fst, x.snd.fst, x.snd.snd.fst, ()) = j.snd /\ false = false) /\ (b = b /\ false = false) /\ (c = c /\ false = false) /\ ((4) = (4) /\ (8) = (8) /\ (6) = (6) /\ d = d /\ True) /\ (drop n b = drop n b /\ false = false) /\ ((4) = (4) /\ (8) = (8) /\ (6) = (6) /\ d = d /\ True) /\ (true = true /\ true = true /\ true = true /\ (0 : (Ty.int .i64).den) = (0 : (Ty.int .i64).den) /\ True) /\ (([] : List (Int × List UInt8 × Bool × Unit)) = ([] : List (Int × List UInt8 × Bool × Unit)) /\ false = false) /\ True) /\ ((4) = (4) /\ (8) = (8) /\ (6) = (6) /\ d = d /\ True) /\ ((9) = (9) /\ (0 : Nat) = 0) /\ ((10) = (10) /\ (0 : Nat) = 0) /\ ((9) = (9) /\ 0 = 0) /\ (4) = (4) /\ ((270 : Nat) = 270 /\ ((9) = (9) /\ (0 : Nat) = 0) /\ True) /\ (a = a /\ b = b /\ c = c /\ d = d /\ True) /\ n = n /\ (0 = 0 /\ (0 : Nat) = 0) /\ (1 = 1 /\ (0 : Nat) = 0) /\ (0 : Int) = 0 /\ first ((AnyV.b !(n :: ([] : List (List UInt8))).all short) :: AnyV.n (2 : Int) :: (AnyV.b !diskOK (a, b, c, d, ())) :: AnyV.n (1 : Int) :: ([] : List AnyV)) = first ((AnyV.b !(n :: ([] : List (List UInt8))).all short) :: AnyV.n (2 : Int) :: (AnyV.b !diskOK (a, b, c, d, ())) :: AnyV.n (1 : Int) :: ([] : List AnyV)) /\ ((7) = (7) /\ (0 : Nat) = 0) /\ n = n /\ 2 = 2 /\ (!(n :: ([] : List (List UInt8))).all short) = !(n :: ([] : List (List UInt8))).all short /\ ((4 : Nat) = 4 /\ (!(n :: ([] : List (List UInt8))).all short) = !(n :: ([] : List (List UInt8))).all short) /\ ((3 : Nat) = 3 /\ (2 : Int) = 2) /\ (a = a /\ b = b /\ c = c /\ d = d /\ True) /\ diskOK (a, b, c, d, ()) = diskOK (a, b, c, d, ()) /\ (!diskOK (a, b, c, d, ())) = !diskOK (a, b, c, d, ()) /\ ((4 : Nat) = 4 /\ (!diskOK (a, b, c, d, ())) = !diskOK (a, b, c, d, ())) /\ ((3 : Nat) = 3 /\ (1 : Int) = 1) /\ (3) = (3) /\ first ((AnyV.b !(n :: ([] : List (List UInt8))).all short) :: AnyV.n (2 : Int) :: (AnyV.b !diskOK (a, b, c, d, ())) :: AnyV.n (1 : Int) :: ([] : List AnyV)) = first ((AnyV.b !(n :: ([] : List (List UInt8))).all short) :: AnyV.n (2 : Int) :: (AnyV.b !diskOK (a, b, c, d, ())) :: AnyV.n (1 : Int) :: ([] : List AnyV)) /\ first ((AnyV.b !(n :: ([] : List (List UInt8))).all short) :: AnyV.n (2 : Int) :: (AnyV.b !diskOK (a, b, c, d, ())) :: AnyV.n (1 : Int) :: ([] : List AnyV)) = first ((AnyV.b !(n :: ([] : List (List UInt8))).all short) :: AnyV.n (2 : Int) :: (AnyV.b !diskOK (a, b, c, d, ())) :: AnyV.n (1 : Int) :: ([] : List AnyV)) /\ (first ((AnyV.b !(n :: ([] : List (List UInt8))).all short) :: AnyV.n (2 : Int) :: (AnyV.b !diskOK (a, b, c, d, ())) :: AnyV.n (1 : Int) :: ([] : List AnyV)) != (0 : Int)) = (first ((AnyV.b !(n :: ([] : List (List UInt8))).all short) :: AnyV.n (2 : Int) :: (AnyV.b !diskOK (a, b, c, d, ())) :: AnyV.n (1 : Int) :: ([] : List AnyV)) != (0 : Int)) /\ (a = a /\ b = b /\ c = c /\ d = d /\ True) /\ ((4) = (4) /\ (5) = (5) /\ (6) = (6) /\ d = d /\ True) /\ (0 = 0 /\ 1 = 1) /\ b = b /\ n = n /\ slotAt b n = slotAt b n /\ decide (slotAt b n < (0 : Int)) = decide (slotAt b n < (0 : Int)) /\ ((7) = (7) /\ 1 = 1) /\ (5) = (5) /\ n = n /\ (8) = (8) /\ ((7) = (7) /\ 1 = 1) /\ ((4) = (4) /\ (8) = (8) /\ (6) = (6) /\ d = d /\ True) /\ True) /\ ((!!has c x.fst) = false -> ∃ (j : Nat × List Inode), DelAt (unusedIn (drop n b) c) a j.fst j.snd /\ (List.length a).sub j.fst < (List.length a).sub i.fst /\ ((4) = (4) /\ ((270 : Nat) = 270 /\ ((9) = (9) /\ (0 : Nat) = 0) /\ True) /\ (11) = (11) /\ Int.ofNat (kept (unusedIn (drop n b) c) a i.fst).length = Int.ofNat (kept (unusedIn (drop n b) c) a j.fst).length /\ wAdd .i64 (Int.ofNat i.fst) (1 : Int) = Int.ofNat j.fst /\ (4) = (4) /\ ((270 : Nat) = 270 /\ ((9) = (9) /\ (0 : Nat) = 0) /\ True) /\ idx (fun (y : Int × List UInt8 × Bool × Unit) => (fun (a : (Int × List UInt8 × Bool × Unit) × Unit) => unusedIn (drop n b) c a.fst, fun (x : (Int × List UInt8 × Bool × Unit) × Unit) => True).fst (y, ())) a = idx (fun (y : Int × List UInt8 × Bool × Unit) => (fun (a : (Int × List UInt8 × Bool × Unit) × Unit) => unusedIn (drop n b) c a.fst, fun (x : (Int × List UInt8 × Bool × Unit) × Unit) => True).fst (y, ())) a /\ idx (fun (y : Int × List UInt8 × Bool × Unit) => (fun (a : (Int × List UInt8 × Bool × Unit) × Unit) => unusedIn (drop n b) c a.fst, fun (x : (Int × List UInt8 × Bool × Unit) × Unit) => True).fst (y, ())) a = idx (fun (y : Int × List UInt8 × Bool × Unit) => (fun (a : (Int × List UInt8 × Bool × Unit) × Unit) => unusedIn (drop n b) c a.fst, fun (x : (Int × List UInt8 × Bool × Unit) × Unit) => True).fst (y, ())) a /\ (idx (fun (y : Int × List UInt8 × Bool × Unit) => (fun (a : (Int × List UInt8 × Bool × Unit) × Unit) => unusedIn (drop n b) c a.fst, fun (x : (Int × List UInt8 × Bool × Unit) × Unit) => True).fst (y, ())) a == (-1 : Int)) = (idx (fun (y : Int × List UInt8 × Bool × Unit) => (fun (a : (Int × List UInt8 × Bool × Unit) × Unit) => unusedIn (drop n b) c a.fst, fun (x : (Int × List UInt8 × Bool × Unit) × Unit) => True).fst (y, ())) a == (-1 : Int)) /\ idx (fun (y : Int × List UInt8 × Bool × Unit) => (fun (a : (Int × List UInt8 × Bool × Unit) × Unit) => unusedIn (drop n b) c a.fst, fun (x : (Int × List UInt8 × Bool × Unit) × Unit) => True).fst (y, ())) a = idx (fun (y : Int × List UInt8 × Bool × Unit) => (fun (a : (Int × List UInt8 × Bool × Unit) × Unit) => unusedIn (drop n b) c a.fst, fun (x : (Int × List UInt8 × Bool × Unit) × Unit) => True).fst (y, ())) a /\ wAdd .i64 (idx (fun (y : Int × List UInt8 × Bool × Unit) => (fun (a : (Int × List UInt8 × Bool × Unit) × Unit) => unusedIn (drop n b) c a.fst, fun (x : (Int × List UInt8 × Bool × Unit) × Unit) => True).fst (y, ())) a) (1 : Int) = wAdd .i64 (idx (fun (y : Int × List UInt8 × Bool × Unit) => (fun (a : (Int × List UInt8 × Bool × Unit) × Unit) => unusedIn (drop n b) c a.fst, fun (x : (Int × List UInt8 × Bool × Unit) × Unit) => True).fst (y, ())) a) (1 : Int) /\ True) /\ ((a = a /\ b = b /\ c = c /\ d = d /\ True) /\ (true = true /\ true = true /\ true = true /\ (0 : (Ty.int .i64).den) = (0 : (Ty.int .i64).den) /\ True) /\ (n :: ([] : List (List UInt8)) = n :: ([] : List (List UInt8)) /\ false = false) /\ ((AnyV.b !(n :: ([] : List (List UInt8))).all short) :: AnyV.n (2 : Int) :: (AnyV.b !diskOK (a, b, c, d, ())) :: AnyV.n (1 : Int) :: ([] : List AnyV) = (AnyV.b !(n :: ([] : List (List UInt8))).all short) :: AnyV.n (2 : Int) :: (AnyV.b !diskOK (a, b, c, d, ())) :: AnyV.n (1 : Int) :: ([] : List AnyV) /\ false = false) /\ (i.snd = j.snd /\ false = false) /\ (b = b /\ false = false) /\ (c = c /\ false = false) /\ ((4) = (4) /\ (8) = (8) /\ (6) = (6) /\ d = d /\ True) /\ (drop n b = drop n b /\ false = false) /\ ((4) = (4) /\ (8) = (8) /\ (6) = (6) /\ d = d /\ True) /\ (true = true /\ true = true /\ true = true /\ (0 : (Ty.int .i64).den) = (0 : (Ty.int .i64).den) /\ True) /\ (([] : List (Int × List UInt8 × Bool × Unit)) = ([] : List (Int × List UInt8 × Bool × Unit)) /\ false = false) /\ True) /\ ((4) = (4) /\ (8) = (8) /\ (6) = (6) /\ d = d /\ True) /\ ((9) = (9) /\ (0 : Nat) = 0) /\ ((10) = (10) /\ (0 : Nat) = 0) /\ ((9) = (9) /\ 0 = 0) /\ (4) = (4) /\ ((270 : Nat) = 270 /\ ((9) = (9) /\ (0 : Nat) = 0) /\ True) /\ (a = a /\ b = b /\ c = c /\ d = d /\ True) /\ n = n /\ (0 = 0 /\ (0 : Nat) = 0) /\ (1 = 1 /\ (0 : Nat) = 0) /\ (0 : Int) = 0 /\ first ((AnyV.b !(n :: ([] : List (List UInt8))).all short) :: AnyV.n (2 : Int) :: (AnyV.b !diskOK (a, b, c, d, ())) :: AnyV.n (1 : Int) :: ([] : List AnyV)) = first ((AnyV.b !(n :: ([] : List (List UInt8))).all short) :: AnyV.n (2 : Int) :: (AnyV.b !diskOK (a, b, c, d, ())) :: AnyV.n (1 : Int) :: ([] : List AnyV)) /\ ((7) = (7) /\ (0 : Nat) = 0) /\ n = n /\ 2 = 2 /\ (!(n :: ([] : List (List UInt8))).all short) = !(n :: ([] : List (List UInt8))).all short /\ ((4 : Nat) = 4 /\ (!(n :: ([] : List (List UInt8))).all short) = !(n :: ([] : List (List UInt8))).all short) /\ ((3 : Nat) = 3 /\ (2 : Int) = 2) /\ (a = a /\ b = b /\ c = c /\ d = d /\ True) /\ diskOK (a, b, c, d, ()) = diskOK (a, b, c, d, ()) /\ (!diskOK (a, b, c, d, ())) = !diskOK (a, b, c, d, ()) /\ ((4 : Nat) = 4 /\ (!diskOK (a, b, c, d, ())) = !diskOK (a, b, c, d, ())) /\ ((3 : Nat) = 3 /\ (1 : Int) = 1) /\ (3) = (3) /\ first ((AnyV.b !(n :: ([] : List (List UInt8))).all short) :: AnyV.n (2 : Int) :: (AnyV.b !diskOK (a, b, c, d, ())) :: AnyV.n (1 : Int) :: ([] : List AnyV)) = first ((AnyV.b !(n :: ([] : List (List UInt8))).all short) :: AnyV.n (2 : Int) :: (AnyV.b !diskOK (a, b, c, d, ())) :: AnyV.n (1 : Int) :: ([] : List AnyV)) /\ first ((AnyV.b !(n :: ([] : List (List UInt8))).all short) :: AnyV.n (2 : Int) :: (AnyV.b !diskOK (a, b, c, d, ())) :: AnyV.n (1 : Int) :: ([] : List AnyV)) = first ((AnyV.b !(n :: ([] : List (List UInt8))).all short) :: AnyV.n (2 : Int) :: (AnyV.b !diskOK (a, b, c, d, ())) :: AnyV.n (1 : Int) :: ([] : List AnyV)) /\ (first ((AnyV.b !(n :: ([] : List (List UInt8))).all short) :: AnyV.n (2 : Int) :: (AnyV.b !diskOK (a, b, c, d, ())) :: AnyV.n (1 : Int) :: ([] : List AnyV)) != (0 : Int)) = (first ((AnyV.b !(n :: ([] : List (List UInt8))).all short) :: AnyV.n (2 : Int) :: (AnyV.b !diskOK (a, b, c, d, ())) :: AnyV.n (1 : Int) :: ([] : List AnyV)) != (0 : Int)) /\ (a = a /\ b = b /\ c = c /\ d = d /\ True) /\ ((4) = (4) /\ (5) = (5) /\ (6) = (6) /\ d = d /\ True) /\ (0 = 0 /\ 1 = 1) /\ b = b /\ n = n /\ slotAt b n = slotAt b n /\ decide (slotAt b n < (0 : Int)) = decide (slotAt b n < (0 : Int)) /\ ((7) = (7) /\ 1 = 1) /\ (5) = (5) /\ n = n /\ (8) = (8) /\ ((7) = (7) /\ 1 = 1) /\ ((4) = (4) /\ (8) = (8) /\ (6) = (6) /\ d = d /\ True) /\ True)) /\ ((!has (drop n b) x.fst) = false -> 3 <= (3) /\ bnd (Int.ofNat (kept (unusedIn (drop n b) c) a i.fst).length) (lenL i.snd) /\ ((0 : Nat) = 0 /\ tN (Int.ofNat (kept (unusedIn (drop n b) c) a i.fst).length) < lenL i.snd) /\ ∃ (j : Nat × List Inode), DelAt (unusedIn (drop n b) c) a j.fst j.snd /\ (List.length a).sub j.fst < (List.length a).sub i.fst /\ ((4) = (4) /\ ((270 : Nat) = 270 /\ ((9) = (9) /\ (0 : Nat) = 0) /\ True) /\ (11) = (11) /\ wAdd .i64 (Int.ofNat (kept (unusedIn (drop n b) c) a i.fst).length) (1 : Int) = Int.ofNat (kept (unusedIn (drop n b) c) a j.fst).length /\ wAdd .i64 (Int.ofNat i.fst) (1 : Int) = Int.ofNat j.fst /\ (4) = (4) /\ ((270 : Nat) = 270 /\ ((9) = (9) /\ (0 : Nat) = 0) /\ True) /\ idx (fun (y : Int × List UInt8 × Bool × Unit) => (fun (a : (Int × List UInt8 × Bool × Unit) × Unit) => unusedIn (drop n b) c a.fst, fun (x : (Int × List UInt8 × Bool × Unit) × Unit) => True).fst (y, ())) a = idx (fun (y : Int × List UInt8 × Bool × Unit) => (fun (a : (Int × List UInt8 × Bool × Unit) × Unit) => unusedIn (drop n b) c a.fst, fun (x : (Int × List UInt8 × Bool × Unit) × Unit) => True).fst (y, ())) a /\ idx (fun (y : Int × List UInt8 × Bool × Unit) => (fun (a : (Int × List UInt8 × Bool × Unit) × Unit) => unusedIn (drop n b) c a.fst, fun (x : (Int × List UInt8 × Bool × Unit) × Unit) => True).fst (y, ())) a = idx (fun (y : Int × List UInt8 × Bool × Unit) => (fun (a : (Int × List UInt8 × Bool × Unit) × Unit) => unusedIn (drop n b) c a.fst, fun (x : (Int × List UInt8 × Bool × Unit) × Unit) => True).fst (y, ())) a /\ (idx (fun (y : Int × List UInt8 × Bool × Unit) => (fun (a : (Int × List UInt8 × Bool × Unit) × Unit) => unusedIn (drop n b) c a.fst, fun (x : (Int × List UInt8 × Bool × Unit) × Unit) => True).fst (y, ())) a == (-1 : Int)) = (idx (fun (y : Int × List UInt8 × Bool × Unit) => (fun (a : (Int × List UInt8 × Bool × Unit) × Unit) => unusedIn (drop n b) c a.fst, fun (x : (Int × List UInt8 × Bool × Unit) × Unit) => True).fst (y, ())) a == (-1 : Int)) /\ idx (fun (y : Int × List UInt8 × Bool × Unit) => (fun (a : (Int × List UInt8 × Bool × Unit) × Unit) => unusedIn (drop n b) c a.fst, fun (x : (Int × List UInt8 × Bool × Unit) × Unit) => True).fst (y, ())) a = idx (fun (y : Int × List UInt8 × Bool × Unit) => (fun (a : (Int × List UInt8 × Bool × Unit) × Unit) => unusedIn (drop n b) c a.fst, fun (x : (Int × List UInt8 × Bool × Unit) × Unit) => True).fst (y, ())) a /\ wAdd .i64 (idx (fun (y : Int × List UInt8 × Bool × Unit) => (fun (a : (Int × List UInt8 × Bool × Unit) × Unit) => unusedIn (drop n b) c a.fst, fun (x : (Int × List UInt8 × Bool × Unit) × Unit) => True).fst (y, ())) a) (1 : Int) = wAdd .i64 (idx (fun (y : Int × List UInt8 × Bool × Unit) => (fun (a : (Int × List UInt8 × Bool × Unit) × Unit) => unusedIn (drop n b) c a.fst, fun (x : (Int × List UInt8 × Bool × Unit) × Unit) => True).fst (y, ())) a) (1 : Int) /\ True) /\ ((a = a /\ b = b /\ c = c /\ d = d /\ True) /\ (true = true /\ true = true /\ true = true /\ (0 : (Ty.int .i64).den) = (0 : (Ty.int .i64).den) /\ True) /\ (n :: ([] : List (List UInt8)) = n :: ([] : List (List UInt8)) /\ false = false) /\ ((AnyV.b !(n :: ([] : List (List UInt8))).all short) :: AnyV.n (2 : Int) :: (AnyV.b !diskOK (a, b, c, d, ())) :: AnyV.n (1 : Int) :: ([] : List AnyV) = (AnyV.b !(n :: ([] : List (List UInt8))).all short) :: AnyV.n (2 : Int) :: (AnyV.b !diskOK (a, b, c, d, ())) :: AnyV.n (1 : Int) :: ([] : List AnyV) /\ false = false) /\ (i.snd.set (tN (Int.ofNat (kept (unusedIn (drop n b) c) a i.fst).length)) (x.fst, x.snd.fst, x.snd.snd.fst, ()) = j.snd /\ false = false) /\ (b = b /\ false = false) /\ (c = c /\ false = false) /\ ((4) = (4) /\ (8) = (8) /\ (6) = (6) /\ d = d /\ True) /\ (drop n b = drop n b /\ false = false) /\ ((4) = (4) /\ (8) = (8) /\ (6) = (6) /\ d = d /\ True) /\ (true = true /\ true = true /\ true = true /\ (0 : (Ty.int .i64).den) = (0 : (Ty.int .i64).den) /\ True) /\ (([] : List (Int × List UInt8 × Bool × Unit)) = ([] : List (Int × List UInt8 × Bool × Unit)) /\ false = false) /\ True) /\ ((4) = (4) /\ (8) = (8) /\ (6) = (6) /\ d = d /\ True) /\ ((9) = (9) /\ (0 : Nat) = 0) /\ ((10) = (10) /\ (0 : Nat) = 0) /\ ((9) = (9) /\ 0 = 0) /\ (4) = (4) /\ ((270 : Nat) = 270 /\ ((9) = (9) /\ (0 : Nat) = 0) /\ True) /\ (a = a /\ b = b /\ c = c /\ d = d /\ True) /\ n = n /\ (0 = 0 /\ (0 : Nat) = 0) /\ (1 = 1 /\ (0 : Nat) = 0) /\ (0 : Int) = 0 /\ first ((AnyV.b !(n :: ([] : List (List UInt8))).all short) :: AnyV.n (2 : Int) :: (AnyV.b !diskOK (a, b, c, d, ())) :: AnyV.n (1 : Int) :: ([] : List AnyV)) = first ((AnyV.b !(n :: ([] : List (List UInt8))).all short) :: AnyV.n (2 : Int) :: (AnyV.b !diskOK (a, b, c, d, ())) :: AnyV.n (1 : Int) :: ([] : List AnyV)) /\ ((7) = (7) /\ (0 : Nat) = 0) /\ n = n /\ 2 = 2 /\ (!(n :: ([] : List (List UInt8))).all short) = !(n :: ([] : List (List UInt8))).all short /\ ((4 : Nat) = 4 /\ (!(n :: ([] : List (List UInt8))).all short) = !(n :: ([] : List (List UInt8))).all short) /\ ((3 : Nat) = 3 /\ (2 : Int) = 2) /\ (a = a /\ b = b /\ c = c /\ d = d /\ True) /\ diskOK (a, b, c, d, ()) = diskOK (a, b, c, d, ()) /\ (!diskOK (a, b, c, d, ())) = !diskOK (a, b, c, d, ()) /\ ((4 : Nat) = 4 /\ (!diskOK (a, b, c, d, ())) = !diskOK (a, b, c, d, ())) /\ ((3 : Nat) = 3 /\ (1 : Int) = 1) /\ (3) = (3) /\ first ((AnyV.b !(n :: ([] : List (List UInt8))).all short) :: AnyV.n (2 : Int) :: (AnyV.b !diskOK (a, b, c, d, ())) :: AnyV.n (1 : Int) :: ([] : List AnyV)) = first ((AnyV.b !(n :: ([] : List (List UInt8))).all short) :: AnyV.n (2 : Int) :: (AnyV.b !diskOK (a, b, c, d, ())) :: AnyV.n (1 : Int) :: ([] : List AnyV)) /\ first ((AnyV.b !(n :: ([] : List (List UInt8))).all short) :: AnyV.n (2 : Int) :: (AnyV.b !diskOK (a, b, c, d, ())) :: AnyV.n (1 : Int) :: ([] : List AnyV)) = first ((AnyV.b !(n :: ([] : List (List UInt8))).all short) :: AnyV.n (2 : Int) :: (AnyV.b !diskOK (a, b, c, d, ())) :: AnyV.n (1 : Int) :: ([] : List AnyV)) /\ (first ((AnyV.b !(n :: ([] : List (List UInt8))).all short) :: AnyV.n (2 : Int) :: (AnyV.b !diskOK (a, b, c, d, ())) :: AnyV.n (1 : Int) :: ([] : List AnyV)) != (0 : Int)) = (first ((AnyV.b !(n :: ([] : List (List UInt8))).all short) :: AnyV.n (2 : Int) :: (AnyV.b !diskOK (a, b, c, d, ())) :: AnyV.n (1 : Int) :: ([] : List AnyV)) != (0 : Int)) /\ (a = a /\ b = b /\ c = c /\ d = d /\ True) /\ ((4) = (4) /\ (5) = (5) /\ (6) = (6) /\ d = d /\ True) /\ (0 = 0 /\ 1 = 1) /\ b = b /\ n = n /\ slotAt b n = slotAt b n /\ decide (slotAt b n < (0 : Int)) = decide (slotAt b n < (0 : Int)) /\ ((7) = (7) /\ 1 = 1) /\ (5) = (5) /\ n = n /\ (8) = (8) /\ ((7) = (7) /\ 1 = 1) /\ ((4) = (4) /\ (8) = (8) /\ (6) = (6) /\ d = d /\ True) /\ True)) /\ (decide (Int.ofNat i.fst < iOf (lenL i.snd)) = false -> boundLo (Int.ofNat (kept (unusedIn (drop n b) c) a i.fst).length) (lenL i.snd) /\ (tN (Int.ofNat (kept (unusedIn (drop n b) c) a i.fst).length) <= lenL i.snd /\ lenL i.snd <= lenL i.snd) /\ boundLo (Int.ofNat (kept (unusedIn (drop n b) c) a i.fst).length) (lenL (copyL i.snd (tN (Int.ofNat (kept (unusedIn (drop n b) c) a i.fst).length)) (lenL i.snd) (List.replicate (lenL i.snd - tN (Int.ofNat (kept (unusedIn (drop n b) c) a i.fst).length)) ((0 : (Ty.int .i64).den), ([] : List UInt8), false, ())))) /\ tN (Int.ofNat (kept (unusedIn (drop n b) c) a i.fst).length) <= lenL (copyL i.snd (tN (Int.ofNat (kept (unusedIn (drop n b) c) a i.fst).length)) (lenL i.snd) (List.replicate (lenL i.snd - tN (Int.ofNat (kept (unusedIn (drop n b) c) a i.fst).length)) ((0 : (Ty.int .i64).den), ([] : List UInt8), false, ()))) /\ 1 <= (4) /\ 4 <= (4) /\ 4 <= 4 /\ 4 <= 4 /\ ((subL (copyL i.snd (tN (Int.ofNat (kept (unusedIn (drop n b) c) a i.fst).length)) (lenL i.snd) (List.replicate (lenL i.snd - tN (Int.ofNat (kept (unusedIn (drop n b) c) a i.fst).length)) ((0 : (Ty.int .i64).den), ([] : List UInt8), false, ()))) (0 : Nat) (tN (Int.ofNat (kept (unusedIn (drop n b) c) a i.fst).length)), drop n b, c, d, ()), (0 : Int), ()) = (removeD (a, b, c, d, ()) n, removeC (a, b, c, d, ()) n, ()) /\ () = ()))))) (by kernel_rfl) ?_
 simp only [NS, eq_self, ne_eq, forall_const, implies_true, Nat.reduceAdd, Nat.reduceLeDiff, nz, Int.reduceEq, Nat.reduceEqDiff, reduceCtorEq]; try simp only [lenL]
 rw [first2]
 unfold removeD removeC
 cases hn : short n with
 | false => simp [zeroDisk]
 | true => cases hd : diskOK (a, b, c, d, ()) with
   | false => simp [zeroDisk]
   | true =>
     simp only [Bool.not_true, Bool.false_eq_true, if_false, Bool.true_eq_false, not_true_eq_false, false_implies, true_and, forall_const]
     refine ⟨fun h => ?_, fun h => ?_⟩
     · have e : readB (a, b, c, d, ()) n = false := (read_none h).2.symm
       rw [if_pos e, if_pos e]
       exact ⟨rfl, rfl⟩
     have e : ¬ readB (a, b, c, d, ()) n = false := fun e => by
       have : readB (a, b, c, d, ()) n = true := decide_eq_true h
       rw [e] at this; cases this
     rw [if_neg e, if_neg e]
     have ha : List.length a <= 48 := (disk_short hd).1
     have hb := (disk_short hd).2.1
     refine ⟨Nat.le_trans hb (by decide), ?_⟩
     refine ⟨fun h1 => ⟨tidy_none h1, rfl⟩, fun h1 => ⟨?_, ?_⟩⟩
     · obtain ⟨k, x, e, hx, hp, hn⟩ := idx_some h1
       have hs := del_start hx hp hn
       have hk : k < List.length a := get_lt hx
       have e2 := hs.2
       rw [e, inc_small (by omega)]
       exact ⟨(k + 1, a), hs.1, ⟨congrArg Int.ofNat e2.symm, rfl⟩, rfl⟩
     · rintro ⟨j, cur⟩ hd hf
       have hd : DelAt (unusedIn (Fn.drop n b) c) a j cur := hd
       have hl : cur.length = List.length a := hd.2.1
       have hj : j <= List.length a := hd.1
       have hk := del_lt hd
       simp only [hl, tN_nat]
       refine ⟨fun hlt => ⟨hlt, hlt, fun x hx => ?_⟩, fun hge => ?_⟩
       · have hx : (a : List Fn.Inode)[j]? = some x := by rw [<- del_read hd]; exact hx
         rw [inc_small (k := j) (by omega), inc_small (k := (kept (unusedIn (Fn.drop n b) c) a j).length) (by omega)]
         have hput : unusedIn (Fn.drop n b) c x = false -> ∃ q : Nat × List Fn.Inode, DelAt (unusedIn (Fn.drop n b) c) a q.1 q.2 /\ List.length a - q.1 < List.length a - j /\ (Int.ofNat ((kept (unusedIn (Fn.drop n b) c) a j).length + 1) = Int.ofNat (kept (unusedIn (Fn.drop n b) c) a q.1).length /\ Int.ofNat (j + 1) = Int.ofNat q.1) /\ cur.set (kept (unusedIn (Fn.drop n b) c) a j).length x = q.2 := fun hu => by
           have hs := del_put hd hx hu
           exact ⟨(j + 1, cur.set (kept (unusedIn (Fn.drop n b) c) a j).length x), hs.1, Nat.sub_lt_sub_left hlt (Nat.lt_succ_self j), ⟨by rw [<- hs.2], rfl⟩, rfl⟩
         refine ⟨fun hb => ⟨fun hc => ⟨hk, hk, hput (unused_c hc)⟩, fun hc => ?_⟩, fun hb => ⟨hk, hk, hput (unused_b hb)⟩⟩
         have hs := del_skip hd hx (unused_a hb hc)
         exact ⟨(j + 1, cur), hs.1, Nat.sub_lt_sub_left hlt (Nat.lt_succ_self j), ⟨by rw [<- hs.2], rfl⟩, rfl⟩
       · have hcl : ∀ ys : List Fn.Inode, (copyL cur (kept (unusedIn (Fn.drop n b) c) a j).length (List.length a) ys).length = List.length a := fun ys => (copyL_length (Nat.le_of_lt hk) (Nat.le_of_eq hl.symm)).trans hl
         rw [hcl, del_end hd hge]
         exact ⟨⟨Int.natCast_nonneg _, Int.ofNat_le.2 (Nat.le_of_lt hk)⟩, Nat.le_of_lt hk, ⟨Int.natCast_nonneg _, Int.ofNat_le.2 (Nat.le_of_lt hk)⟩, Nat.le_of_lt hk, tidy_kept a (Fn.drop n b) c d, trivial⟩
end Go.Proofs.YtkdnelaoagmeaaaGreatDoor
namespace Go.Proofs.YtkdnelaoagmeaaaGreatDoor
open Go.Ab Go.Fn
def s_l11Sync : FSpec := { ps := [.v tDisk, .v .str], rs := [.v tDisk, .v .bool], pre := fun x => diskOK x.1 = true, fn := fun x => (if readB x.1 x.2.1 = true then (setSync x.1.1 (inodeAt x.1.1 (slotId x.1.2.1 x.2.1)), x.1.2.1, x.1.2.2.1, x.1.2.2.2.1, ()) else x.1, readB x.1 x.2.1, ()), upd := fun _ => () }
theorem fo_l11Sync : FO 133 s_l11Sync := by
 refine fo (specs := [(164, s_slot), (162, s_inode)]) (clos := []) (fun x => []) ⟨fo_l11At, fo_l11Inode, trivial⟩ trivial Tryz.func133 rfl rfl ?_
 rintro ⟨⟨a, b, c, d, ⟨⟩⟩, n, ⟨⟩⟩ hp
 refine vcOf (2 <= (4) /\ true = true /\ True /\ (decide (slotAt b n < (0 : Int)) = true -> 4 <= (4) /\ 4 <= 4 /\ ((a, b, c, d, ()), false, ()) = (if readB (a, b, c, d, ()) n = true then (setSync a (inodeAt a (slotId b n)), b, c, d, ()) else (a, b, c, d, ()), readB (a, b, c, d, ()) n, ()) /\ () = ()) /\ (decide (slotAt b n < (0 : Int)) = false -> 1 <= (4) /\ (fits (lenL a) -> 1 <= (4) /\ 1 <= (4) /\ 4 <= (4) /\ 2 <= (4) /\ bnd (slotAt b n) (lenL b) /\ ∀ (x : List UInt8 × Int × Unit), nthI b (slotAt b n) = some x -> 1 <= 1 /\ true = true /\ True /\ bnd (inodeAt a x.snd.fst) (lenL a) /\ (3 <= 3 /\ tN (inodeAt a x.snd.fst) < lenL a) /\ ∀ (x_1 : Int × List UInt8 × Bool × Unit), nth a (tN (inodeAt a x.snd.fst)) = some x_1 -> 4 <= (4) /\ 4 <= 4 /\ ((List.set a (tN (inodeAt a x.snd.fst)) (x_1.fst, x_1.snd.fst, true, ()), b, c, d, ()), true, ()) = (if readB (a, b, c, d, ()) n = true then (setSync a (inodeAt a (slotId b n)), b, c, d, ()) else (a, b, c, d, ()), readB (a, b, c, d, ()) n, ()) /\ () = ()))) (by kernel_rfl) ?_
 simp only [NS, eq_self, ne_eq, forall_const, implies_true, Nat.reduceAdd, Nat.reduceLeDiff, nz, Int.reduceEq, Nat.reduceEqDiff, reduceCtorEq]; try simp only [lenL]
 have hp : diskOK (a, b, c, d, ()) = true := hp
 refine ⟨fun h => ?_, fun h hf => ⟨idx_bnd h, fun x hx => ⟨idx_bnd (slots_in (diskOK_parts hp).1 hx), ?_, fun y hy => ?_⟩⟩⟩
 · have e : readB (a, b, c, d, ()) n = false := (read_none h).2.symm
   rw [e]; exact ⟨rfl, rfl⟩
 · exact bnd_tN (idx_bnd (slots_in (diskOK_parts hp).1 hx))
 · have e : readB (a, b, c, d, ()) n = true := decide_eq_true h
   have hs := slotId_at hx
   rw [e, if_pos rfl, hs, <- setSync_at hy]
   exact ⟨rfl, rfl⟩
end Go.Proofs.YtkdnelaoagmeaaaGreatDoor
namespace Go.Proofs.YtkdnelaoagmeaaaGreatDoor
open Go.Ab Go.Fn
def s_SyncFile : FSpec := { ps := [.v tDisk, .v .str], rs := [.o tDisk, .v I], pre := fun x => True, fn := fun x => (syncD x.1 x.2.1, syncC x.1 x.2.1, ()), upd := fun _ => () }
end Go.Proofs.YtkdnelaoagmeaaaGreatDoor
namespace Go.Proofs.YtkdnelaoagmeaaaGreatDoor
open Go.Ab Go.Fn
theorem fo_iSyncFile : FO 174 s_SyncFile := by
 refine fo (specs := [(152, s_isLong), (48, s_DiskOK), (51, s_first), (49, s_copied), (204, s_slot), (172, s_inode)]) (clos := []) (fun x => []) ⟨fo_isLong, fo_DiskOK, fo_first, fo_copied, fo_slot, fo_inode, trivial⟩ trivial Tryz.func174 rfl rfl ?_
 rintro ⟨⟨a, b, c, d, ⟨⟩⟩, n, ⟨⟩⟩ -
 refine vcOf (4 <= (4) /\ true = true /\ True /\ true = true /\ True /\ true = true /\ True /\ ((first ((AnyV.b !(n :: ([] : List (List UInt8))).all short) :: AnyV.n (2 : Int) :: (AnyV.b !diskOK (a, b, c, d, ())) :: AnyV.n (1 : Int) :: ([] : List AnyV)) != (0 : Int)) = true -> 4 <= 4 /\ ((([] : List (Int × List UInt8 × Bool × Unit)), ([] : List (List UInt8 × Int × Unit)), ([] : List (List UInt8 × Int × Unit)), (0 : (Ty.int .i64).den), ()), first ((AnyV.b !(n :: ([] : List (List UInt8))).all short) :: AnyV.n (2 : Int) :: (AnyV.b !diskOK (a, b, c, d, ())) :: AnyV.n (1 : Int) :: ([] : List AnyV)), ()) = (syncD (a, b, c, d, ()) n, syncC (a, b, c, d, ()) n, ()) /\ () = ()) /\ ((first ((AnyV.b !(n :: ([] : List (List UInt8))).all short) :: AnyV.n (2 : Int) :: (AnyV.b !diskOK (a, b, c, d, ())) :: AnyV.n (1 : Int) :: ([] : List AnyV)) != (0 : Int)) = false -> 4 <= (4) /\ 2 <= (4) /\ (true = true /\ True /\ (true = true /\ True /\ 4 <= 4 /\ (decide (slotAt b n < (0 : Int)) = true -> 4 <= (4) /\ 4 <= 4 /\ ((a, b, c, d, ()), (5 : Int), ()) = (syncD (a, b, c, d, ()) n, syncC (a, b, c, d, ()) n, ()) /\ () = ()) /\ (decide (slotAt b n < (0 : Int)) = false -> 1 <= (4) /\ 4 <= (4) /\ 2 <= (4) /\ bnd (slotAt b n) (lenL b) /\ ∀ (x : List UInt8 × Int × Unit), nthI b (slotAt b n) = some x -> 1 <= 1 /\ true = true /\ True /\ bnd (inodeAt a x.snd.fst) (lenL a) /\ (3 <= 3 /\ tN (inodeAt a x.snd.fst) < lenL a) /\ ∀ (x_1 : Int × List UInt8 × Bool × Unit), nth a (tN (inodeAt a x.snd.fst)) = some x_1 -> 4 <= (4) /\ 4 <= 4 /\ ((List.set a (tN (inodeAt a x.snd.fst)) (x_1.fst, x_1.snd.fst, true, ()), b, c, d, ()), (0 : Int), ()) = (syncD (a, b, c, d, ()) n, syncC (a, b, c, d, ()) n, ()) /\ () = ())) /\ true = true /\ True /\ 4 <= 4 /\ (decide (slotAt b n < (0 : Int)) = true -> 4 <= (4) /\ 4 <= 4 /\ ((a, b, c, d, ()), (5 : Int), ()) = (syncD (a, b, c, d, ()) n, syncC (a, b, c, d, ()) n, ()) /\ () = ()) /\ (decide (slotAt b n < (0 : Int)) = false -> 1 <= (4) /\ 4 <= (4) /\ 2 <= (4) /\ bnd (slotAt b n) (lenL b) /\ ∀ (x : List UInt8 × Int × Unit), nthI b (slotAt b n) = some x -> 1 <= 1 /\ true = true /\ True /\ bnd (inodeAt a x.snd.fst) (lenL a) /\ (3 <= 3 /\ tN (inodeAt a x.snd.fst) < lenL a) /\ ∀ (x_1 : Int × List UInt8 × Bool × Unit), nth a (tN (inodeAt a x.snd.fst)) = some x_1 -> 4 <= (4) /\ 4 <= 4 /\ ((List.set a (tN (inodeAt a x.snd.fst)) (x_1.fst, x_1.snd.fst, true, ()), b, c, d, ()), (0 : Int), ()) = (syncD (a, b, c, d, ()) n, syncC (a, b, c, d, ()) n, ()) /\ () = ())) /\ true = true /\ True /\ true = true /\ True /\ 4 <= 4 /\ (decide (slotAt b n < (0 : Int)) = true -> 4 <= (4) /\ 4 <= 4 /\ ((a, b, c, d, ()), (5 : Int), ()) = (syncD (a, b, c, d, ()) n, syncC (a, b, c, d, ()) n, ()) /\ () = ()) /\ (decide (slotAt b n < (0 : Int)) = false -> 1 <= (4) /\ 4 <= (4) /\ 2 <= (4) /\ bnd (slotAt b n) (lenL b) /\ ∀ (x : List UInt8 × Int × Unit), nthI b (slotAt b n) = some x -> 1 <= 1 /\ true = true /\ True /\ bnd (inodeAt a x.snd.fst) (lenL a) /\ (3 <= 3 /\ tN (inodeAt a x.snd.fst) < lenL a) /\ ∀ (x_1 : Int × List UInt8 × Bool × Unit), nth a (tN (inodeAt a x.snd.fst)) = some x_1 -> 4 <= (4) /\ 4 <= 4 /\ ((List.set a (tN (inodeAt a x.snd.fst)) (x_1.fst, x_1.snd.fst, true, ()), b, c, d, ()), (0 : Int), ()) = (syncD (a, b, c, d, ()) n, syncC (a, b, c, d, ()) n, ()) /\ () = ()))) (by kernel_rfl) ?_
 simp only [NS, eq_self, ne_eq, forall_const, implies_true, Nat.reduceAdd, Nat.reduceLeDiff, nz, Int.reduceEq, Nat.reduceEqDiff, reduceCtorEq]; try simp only [lenL]
 rw [first2]
 unfold syncD syncC removeC
 cases hn : short n with
 | false => simp [zeroDisk]
 | true => cases hd : diskOK (a, b, c, d, ()) with
   | false => simp [zeroDisk]
   | true =>
     simp only [Bool.not_true, Bool.false_eq_true, if_false, Bool.true_eq_false, not_true_eq_false, false_implies, true_and, forall_const]
     refine ⟨fun h => ?_, fun h => ⟨idx_bnd h, fun x hx => ⟨idx_bnd (slots_in (diskOK_parts hd).1 hx), bnd_tN (idx_bnd (slots_in (diskOK_parts hd).1 hx)), fun y hy => ?_⟩⟩⟩
     · have e : readB (a, b, c, d, ()) n = false := (read_none h).2.symm
       rw [if_pos e, if_pos e]
       exact ⟨rfl, rfl⟩
     · have e : ¬ readB (a, b, c, d, ()) n = false := fun e => by
         have : readB (a, b, c, d, ()) n = true := decide_eq_true h
         rw [e] at this; cases this
       have hs := slotId_at hx
       rw [if_neg e, if_neg e, hs, <- setSync_at hy]
       exact ⟨rfl, rfl⟩
end Go.Proofs.YtkdnelaoagmeaaaGreatDoor
namespace Go.Fn
open Go.Ab
theorem idx_has {α : Type} {p : α -> Bool} {l : List α} : ¬ idx p l < 0 ↔ ∃ x ∈ l, p x = true := by
 have h := @idx_nonneg α p l
 constructor
 · intro hn
   rw [decide_eq_true (by omega)] at h
   exact List.any_eq_true.1 h.symm
 · intro hx
   rw [List.any_eq_true.2 hx] at h
   have := of_decide_eq_true h
   omega
theorem ino_has {a : List Inode} {n : Int} : ¬ inodeAt a n < 0 ↔ ∃ x ∈ a, x.1 = n := by
 unfold inodeAt
 rw [idx_has]
 constructor
 · rintro ⟨x, hx, h⟩; exact ⟨x, hx, of_decide_eq_true h⟩
 · rintro ⟨x, hx, h⟩; exact ⟨x, hx, decide_eq_true h⟩
structure DP (d : Disk) : Prop where
 head : badHead d = false
 rise : d.1.Pairwise (fun x y => x.1 < y.1)
 ino : ∀ x ∈ d.1, within x.1 1 (d.2.2.2.1 - 1) = true /\ ¬ ((x.2.1.length : Int) > 4096)
 used : ∀ x ∈ d.1, used d x.1 = true
 so1 : SortedN d.2.1
 so2 : SortedN d.2.2.1
 nm1 : ∀ s ∈ d.2.1, nameOK s.1 = true /\ ∃ x ∈ d.1, x.1 = s.2.1
 nm2 : ∀ s ∈ d.2.2.1, nameOK s.1 = true /\ ∃ x ∈ d.1, x.1 = s.2.1
theorem slots_names {ino : List Inode} {l : List Slot} (h : slotsOK ino l = true) : ∀ s ∈ l, nameOK s.1 = true /\ ∃ x ∈ ino, x.1 = s.2.1 := by
 intro s hs
 unfold slotsOK at h
 obtain ⟨k, hk⟩ := List.mem_iff_getElem?.1 hs
 have := allI_iff.1 h k s hk
 unfold badSlot at this
 simp only [Bool.not_eq_true', Bool.or_eq_false_iff, Bool.not_eq_false', decide_eq_false_iff_not] at this
 exact ⟨this.1.1, ino_has.1 this.2⟩
theorem slots_to {ino : List Inode} {l : List Slot} (hs : SortedN l) (hn : ∀ s ∈ l, nameOK s.1 = true /\ ∃ x ∈ ino, x.1 = s.2.1) : slotsOK ino l = true := by
 unfold slotsOK
 rw [allI_iff]
 intro j s hj
 have hm := hn s (List.mem_of_getElem? hj)
 rw [Nat.zero_add]
 unfold badSlot
 have h3 : decide (inodeAt ino s.2.1 < 0) = false := decide_eq_false (ino_has.2 hm.2)
 rw [hm.1, h3]
 simp only [Bool.not_true, Bool.false_or, Bool.or_false, Bool.not_eq_true', Bool.and_eq_false_iff, decide_eq_false_iff_not]
 cases j with
 | zero => left; decide
 | succ j =>
   right
   have hlt := (List.getElem?_eq_some_iff.1 hj).1
   have hp : l[j]? = some l[j] := List.getElem?_eq_getElem (by omega)
   unfold prevSlot
   have e : nthI l (Int.ofNat (j + 1) - 1) = some l[j] := by
     have : (Int.ofNat (j + 1) - 1).toNat = j := by simp only [Int.ofNat_eq_natCast]; omega
     unfold nthI; rw [this]; exact hp
   rw [e]
   unfold SortedN at hs
   have := List.pairwise_iff_getElem.1 hs j (j + 1) (by omega) hlt (Nat.lt_succ_self j)
   have hs2 : l[j + 1] = s := (List.getElem?_eq_some_iff.1 hj).2
   rw [hs2] at this
   have this : Op.bytesLess l[j].1 s.1 = true := this
   unfold leS
   simp only [Bool.or_eq_false_iff, beq_eq_false_iff_ne]
   refine ⟨?_, fun e => ?_⟩
   · cases hb : Op.bytesLess s.1 l[j].1 with
     | false => rfl
     | true => have := bl_trans this hb; rw [bl_irrefl] at this; cases this
   · rw [e, bl_irrefl] at this; cases this
theorem dp_of {d : Disk} (h : diskOK d = true) : DP d := by
 have hp := diskOK_parts h
 have hu := used_all h
 unfold diskOK at h
 simp only [Bool.and_eq_true, Bool.not_eq_true'] at h
 have hb : ∀ (j : Nat) (x : Inode), d.1[j]? = some x -> badInode d (Int.ofNat j) x = false := fun j x hx => by
   have := allI_iff.1 h.1.2 j x hx
   simp only [Bool.not_eq_true', Bool.or_eq_false_iff, Nat.zero_add] at this
   exact this.1
 refine { head := h.1.1, rise := ?_, ino := fun x hx => ?_, used := hu, so1 := slots_sorted hp.1, so2 := slots_sorted hp.2, nm1 := slots_names hp.1, nm2 := slots_names hp.2 }
 · rw [List.pairwise_iff_getElem]
   intro i j hi hj hij
   exact rising hb (j - i - 1) i _ _ (List.getElem?_eq_getElem hi) (by rw [show i + 1 + (j - i - 1) = j by omega]; exact List.getElem?_eq_getElem hj)
 · obtain ⟨k, hk⟩ := List.mem_iff_getElem?.1 hx
   have := hb k x hk
   unfold badInode at this
   simp only [Bool.or_eq_false_iff, Bool.not_eq_false', decide_eq_false_iff_not] at this
   exact ⟨this.1.1, this.2⟩
theorem dp_to {d : Disk} (h : DP d) : diskOK d = true := by
 unfold diskOK
 rw [h.head, slots_to h.so1 h.nm1, slots_to h.so2 h.nm2]
 simp only [Bool.not_false, Bool.true_and, Bool.and_true, allI_iff]
 intro j x hj
 have hm := List.mem_of_getElem? hj
 obtain ⟨h1, h2⟩ := h.ino x hm
 rw [h.used x hm, Nat.zero_add]
 unfold badInode
 rw [h1, decide_eq_false h2]
 simp only [Bool.not_true, Bool.false_or, Bool.or_false, Bool.not_eq_true', Bool.and_eq_false_iff, decide_eq_false_iff_not]
 cases j with
 | zero => left; decide
 | succ j =>
   right
   have hlt := (List.getElem?_eq_some_iff.1 hj).1
   have hp : d.1[j]? = some d.1[j] := List.getElem?_eq_getElem (by omega)
   unfold prevInode
   have e : nthI d.1 (Int.ofNat (j + 1) - 1) = some d.1[j] := by
     have : (Int.ofNat (j + 1) - 1).toNat = j := by simp only [Int.ofNat_eq_natCast]; omega
     unfold nthI; rw [this]; exact hp
   rw [e]
   have := List.pairwise_iff_getElem.1 h.rise j (j + 1) (by omega) hlt (Nat.lt_succ_self j)
   have hs2 : d.1[j + 1] = x := (List.getElem?_eq_some_iff.1 hj).2
   rw [hs2] at this
   exact decide_eq_false (by omega)
end Go.Fn
namespace Go.Fn
open Go.Ab
theorem head_le {a a' : List Inode} {b c b' c' : List Slot} {n : Int} (h : badHead (a, b, c, n, ()) = false) (ha : a'.length <= a.length) (hb : b'.length <= 24) (hc : c'.length <= 24) : badHead (a', b', c', n, ()) = false := by
 unfold badHead at *
 simp only [Bool.or_eq_false_iff, decide_eq_false_iff_not] at *
 refine ⟨⟨⟨h.1.1.1, by omega⟩, by omega⟩, by omega⟩
theorem has_of {l : List Slot} {s : Slot} (h : s ∈ l) : has l s.2.1 = true := by
 unfold has
 exact List.any_eq_true.2 ⟨s, h, decide_eq_true rfl⟩
theorem ok_tidy {a : List Inode} {b c b' c' : List Slot} {n : Int} (h : diskOK (a, b, c, n, ()) = true) (hb : SortedN b') (hc : SortedN c') (mb : ∀ s ∈ b', s ∈ b ∨ s ∈ c) (mc : ∀ s ∈ c', s ∈ b ∨ s ∈ c) (lb : b'.length <= 24) (lc : c'.length <= 24) : diskOK (tidy (a, b', c', n, ())) = true := by
 have hd := dp_of h
 have nm : ∀ s : Slot, s ∈ b ∨ s ∈ c -> nameOK s.1 = true /\ ∃ x ∈ a, x.1 = s.2.1 := fun s hs => hs.elim (hd.nm1 s) (hd.nm2 s)
 refine dp_to { head := head_le hd.head (List.length_filter_le _ _) lb lc, rise := List.Pairwise.filter _ hd.rise, ino := fun x hx => hd.ino x (List.mem_filter.1 hx).1, used := fun x hx => (List.mem_filter.1 hx).2, so1 := hb, so2 := hc, nm1 := fun s hs => ?_, nm2 := fun s hs => ?_ }
 · obtain ⟨h1, x, hx, e⟩ := nm s (mb s hs)
   refine ⟨h1, x, List.mem_filter.2 ⟨hx, ?_⟩, e⟩
   show (has b' x.1 || has c' x.1) = true
   rw [e, has_of (show s ∈ b' from hs)]; rfl
 · obtain ⟨h1, x, hx, e⟩ := nm s (mc s hs)
   refine ⟨h1, x, List.mem_filter.2 ⟨hx, ?_⟩, e⟩
   show (has b' x.1 || has c' x.1) = true
   rw [e, has_of (show s ∈ c' from hs)]; simp
theorem setSync_map (a : List Inode) (i : Int) : (setSync a i).map (fun x => (x.1, x.2.1)) = a.map (fun x => (x.1, x.2.1)) := by
 unfold setSync
 split
 · rename_i x hx
   rw [List.map_set]
   have : (a.map fun x : Inode => (x.1, x.2.1))[i.toNat]? = some (x.1, x.2.1) := by rw [List.getElem?_map]; show (nthI a i).map _ = _; rw [hx]; rfl
   obtain ⟨hl, e⟩ := List.getElem?_eq_some_iff.1 this
   conv => lhs; rw [<- e]
   exact List.set_getElem_self hl
 · rfl
theorem ok_sync {a : List Inode} {b c : List Slot} {n i : Int} (h : diskOK (a, b, c, n, ()) = true) : diskOK (setSync a i, b, c, n, ()) = true := by
 have hd := dp_of h
 have hm := setSync_map a i
 have to : ∀ x ∈ setSync a i, ∃ y ∈ a, y.1 = x.1 /\ y.2.1 = x.2.1 := fun x hx => by
   have : (x.1, x.2.1) ∈ (setSync a i).map (fun x => (x.1, x.2.1)) := List.mem_map.2 ⟨x, hx, rfl⟩
   rw [hm] at this
   obtain ⟨y, hy, e⟩ := List.mem_map.1 this
   exact ⟨y, hy, by simpa using congrArg Prod.fst e, by simpa using congrArg Prod.snd e⟩
 have fro : ∀ k : Int, (∃ y ∈ a, y.1 = k) -> ∃ x ∈ setSync a i, x.1 = k := by
   rintro k ⟨y, hy, rfl⟩
   have : (y.1, y.2.1) ∈ a.map (fun x => (x.1, x.2.1)) := List.mem_map.2 ⟨y, hy, rfl⟩
   rw [<- hm] at this
   obtain ⟨x, hx, e⟩ := List.mem_map.1 this
   exact ⟨x, hx, by simpa using congrArg Prod.fst e⟩
 have rise : (setSync a i).Pairwise (fun x y => x.1 < y.1) := by
   have h1 : (a.map (fun x : Inode => (x.1, x.2.1))).Pairwise (fun x y => x.1 < y.1) := List.pairwise_map.2 hd.rise
   rw [<- hm] at h1
   exact (List.pairwise_map (f := fun x : Inode => (x.1, x.2.1)) (R := fun x y => x.1 < y.1)).1 h1
 refine dp_to { head := head_le hd.head (Nat.le_of_eq (setSync_len a i)) (disk_short h).2.1 (disk_short h).2.2, rise := rise, ino := fun x hx => ?_, used := fun x hx => ?_, so1 := hd.so1, so2 := hd.so2, nm1 := fun s hs => ⟨(hd.nm1 s hs).1, fro _ (hd.nm1 s hs).2⟩, nm2 := fun s hs => ⟨(hd.nm2 s hs).1, fro _ (hd.nm2 s hs).2⟩ }
 · obtain ⟨y, hy, e1, e2⟩ := to x hx
   have := hd.ino y hy
   rw [e1, e2] at this
   exact this
 · obtain ⟨y, hy, e1, e2⟩ := to x hx
   have := hd.used y hy
   rw [e1] at this
   exact this
end Go.Fn
namespace Go.Fn
open Go.Ab
def doC (d : Disk) (s : StepV) : Int := if s.1 = 2 then syncC d s.2.1 else if s.1 = 4 then removeC d s.2.1 else syncDirC d
def doD (d : Disk) (s : StepV) : Disk := if s.1 = 2 then syncD d s.2.1 else if s.1 = 4 then removeD d s.2.1 else syncDirD d
def stOK (s : StepV) : Prop := ¬ s.1 = 1 /\ ¬ s.1 = 3 /\ short s.2.1 = true
theorem remC_0 {d : Disk} {n : List UInt8} (h : removeC d n = 0) : short n = true /\ diskOK d = true /\ readB d n = true := by
 unfold removeC at h
 split at h
 · cases h
 · rename_i h1
   split at h
   · cases h
   · rename_i h2
     split at h
     · cases h
     · rename_i h3
       exact ⟨by simpa using h1, by simpa using h2, by simpa using h3⟩
theorem ok_do {d : Disk} {s : StepV} (h : diskOK d = true) (hc : doC d s = 0) : diskOK (doD d s) = true := by
 obtain ⟨a, b, c, n, ⟨⟩⟩ := d
 have hd := dp_of h
 have hs := disk_short h
 unfold doC at hc
 unfold doD
 split at hc
 · rename_i h2
   rw [if_pos h2]
   obtain ⟨q1, _, q3⟩ := remC_0 hc
   unfold syncD
   rw [q1, h, q3, if_neg (by decide), if_neg (by decide), if_neg (by decide)]
   exact ok_sync h
 · rename_i h2
   rw [if_neg h2]
   split at hc
   · rename_i h4
     rw [if_pos h4]
     obtain ⟨q1, _, q3⟩ := remC_0 hc
     unfold removeD
     rw [q1, h, q3, if_neg (by decide), if_neg (by decide), if_neg (by decide)]
     exact ok_tidy h (sorted_drop hd.so1) hd.so2 (fun s hs => .inl (List.mem_filter.1 hs).1) (fun s hs => .inr hs) (Nat.le_trans (List.length_filter_le _ _) hs.2.1) hs.2.2
   · rename_i h4
     rw [if_neg h4]
     unfold syncDirD
     rw [if_pos h]
     exact ok_tidy h hd.so1 hd.so1 (fun s hs => .inl hs) (fun s hs => .inl hs) hs.2.1 hs.2.1
def runF (f st : Int) : Disk -> List StepV -> Nat -> Disk × Nat × Bool
 | d, [], i => (d, i, false)
 | d, s :: r, i => if Int.ofNat (i + 1) = st then (d, i, false) else if Int.ofNat (i + 1) = f then (d, i, true) else if ¬ doC d s = 0 then (d, i, true) else runF f st (doD d s) r (i + 1)
def RunInv (f st : Int) (d0 : Disk) (l : List StepV) (q : Disk × Nat) : Prop := q.2 <= l.length /\ diskOK q.1 = true /\ runF f st q.1 (l.drop q.2) q.2 = runF f st d0 l 0
theorem rn_start {f st : Int} {d : Disk} {l : List StepV} (h : diskOK d = true) : RunInv f st d l (d, 0) := ⟨Nat.zero_le _, h, rfl⟩
theorem rn_cons {f st : Int} {d0 d : Disk} {l : List StepV} {k : Nat} {s : StepV} (h : RunInv f st d0 l (d, k)) (hs : l[k]? = some s) : (if Int.ofNat (k + 1) = st then (d, k, false) else if Int.ofNat (k + 1) = f then (d, k, true) else if ¬ doC d s = 0 then (d, k, true) else runF f st (doD d s) (l.drop (k + 1)) (k + 1)) = runF f st d0 l 0 := by
 rw [<- h.2.2, drop_at hs]; rfl
theorem rn_stop {f st : Int} {d0 d : Disk} {l : List StepV} {k : Nat} {s : StepV} (h : RunInv f st d0 l (d, k)) (hs : l[k]? = some s) (h1 : Int.ofNat (k + 1) = st) : (d, k, false) = runF f st d0 l 0 := by
 rw [<- rn_cons h hs, if_pos h1]
theorem rn_fault {f st : Int} {d0 d : Disk} {l : List StepV} {k : Nat} {s : StepV} (h : RunInv f st d0 l (d, k)) (hs : l[k]? = some s) (h1 : ¬ Int.ofNat (k + 1) = st) (h2 : Int.ofNat (k + 1) = f ∨ ¬ doC d s = 0) : (d, k, true) = runF f st d0 l 0 := by
 rw [<- rn_cons h hs, if_neg h1]
 split
 · rfl
 · rename_i h3; rw [if_pos (h2.resolve_left h3)]
theorem rn_next {f st : Int} {d0 d : Disk} {l : List StepV} {k : Nat} {s : StepV} (h : RunInv f st d0 l (d, k)) (hs : l[k]? = some s) (h1 : ¬ Int.ofNat (k + 1) = st) (h2 : ¬ Int.ofNat (k + 1) = f) (h3 : doC d s = 0) : RunInv f st d0 l (doD d s, k + 1) := by
 refine ⟨(List.getElem?_eq_some_iff.1 hs).1, ok_do h.2.1 h3, ?_⟩
 rw [<- rn_cons h hs, if_neg h1, if_neg h2, if_neg (by simpa using h3)]
theorem rn_end {f st : Int} {d0 d : Disk} {l : List StepV} {k : Nat} (h : RunInv f st d0 l (d, k)) (hk : ¬ k < l.length) : (d, l.length, false) = runF f st d0 l 0 := by
 have h1 : k <= l.length := h.1
 rw [<- h.2.2, List.drop_eq_nil_of_le (by show l.length <= k; omega)]
 show _ = (d, k, false)
 rw [show k = l.length by omega]
theorem ok_run (f st : Int) : ∀ (l : List StepV) (d : Disk) (i : Nat), diskOK d = true -> diskOK (runF f st d l i).1 = true
 | [], d, i, h => h
 | s :: r, d, i, h => by
   unfold runF
   split
   · exact h
   · split
     · exact h
     · split
       · exact h
       · rename_i hc
         exact ok_run f st r _ _ (ok_do h (by simpa using hc))
end Go.Fn
namespace Go.Fn
open Go.Ab
theorem fb_all {α : Type} {f : α -> Int} : ∀ {l : List α}, firstBad (l.map f) = 0 -> ∀ x ∈ l, f x = 0
 | [], _, x, hx => by cases hx
 | y :: r, h, x, hx => by
   have h : (if f y = 0 then firstBad (r.map f) else f y) = 0 := h
   split at h
   · rename_i h1
     rcases List.mem_cons.1 hx with rfl | hx
     · exact h1
     · exact fb_all h x hx
   · rename_i h1; exact absurd h h1
theorem short_12 {n : List UInt8} (h : n.length <= 12) : short n = true := by unfold short; exact decide_eq_true (by omega)
theorem nm_short {d : Disk} (hd : diskOK d = true) (h : ldC d = 0) {n : List UInt8} (hn : n ∈ nmS d) : short n = true := by
 have h0 : nmC d = 0 := by
   unfold ldC at h
   split at h
   · assumption
   · exact h
 unfold ldC at h
 rw [if_pos h0] at h
 have h1 := fb_all h n hn
 unfold ldOne at h1
 split at h1
 · cases h1
 · rename_i hr
   have hr : readB d n = true := by simpa using hr
   unfold readB slotAt at hr
   obtain ⟨s, hs, e⟩ := idx_has.1 (of_decide_eq_true hr)
   have e : s.1 = n := by unfold nameIs at e; simpa using e
   have := slot_name (diskOK_parts hd).1 hs
   rw [e] at this
   exact short_12 this
theorem rp_steps {d : Disk} : ∀ s ∈ rpS d, stOK s := by
 unfold rpS
 split
 · rename_i hc
   have hd : diskOK d = true /\ ldC d = 0 := by
     unfold rpC at hc
     split at hc
     · cases hc
     · rename_i h; exact ⟨by simpa using h, hc⟩
   intro s hs
   unfold rpB rpHead at hs
   simp only [List.mem_append, List.mem_map, List.mem_cons, List.not_mem_nil, or_false] at hs
   rcases hs with ((⟨n, hn, rfl⟩ | rfl | rfl) | hs) | rfl
   · exact ⟨by show ¬ (2 : Int) = 1; decide, by show ¬ (2 : Int) = 3; decide, nm_short hd.1 hd.2 hn⟩
   · exact ⟨by show ¬ (2 : Int) = 1; decide, by show ¬ (2 : Int) = 3; decide, short_12 (by show [77, 65, 78, 73, 70, 69, 83, 84].length <= 12; decide)⟩
   · exact ⟨by show ¬ (5 : Int) = 1; decide, by show ¬ (5 : Int) = 3; decide, short_12 (Nat.zero_le _)⟩
   · unfold rmOf at hs
     obtain ⟨t, ht, rfl⟩ := List.mem_map.1 hs
     have ht := (List.mem_filter.1 ht).1
     have ht := List.mem_of_mem_take ht
     exact ⟨by show ¬ (4 : Int) = 1; decide, by show ¬ (4 : Int) = 3; decide, short_12 (slot_name (diskOK_parts hd.1).1 ht)⟩
   · exact ⟨by show ¬ (5 : Int) = 1; decide, by show ¬ (5 : Int) = 3; decide, short_12 (Nat.zero_le _)⟩
 · intro s hs; cases hs
def rvD (d : Disk) (f : Int) : Disk := if diskOK d = false then zeroDisk else if ¬ rpC d = 0 then d else (runF f 0 d (rpS d) 0).1
def rvT (d : Disk) (f : Int) : Int := if ¬ rpC d = 0 then 0 else if (runF f 0 d (rpS d) 0).2.2 = true then 16 else 0
def rvC (d : Disk) : Int := rpC d
theorem rv_ok {d : Disk} {f : Int} (h : diskOK d = true) : diskOK (rvD d f) = true := by
 unfold rvD
 rw [if_neg (by rw [h]; decide)]
 split
 · exact h
 · exact ok_run _ _ _ _ _ h
theorem small_ok {d : Disk} (h : diskOK d = true) : smallD d := by
 have := disk_short h
 exact ⟨by omega, by omega, by omega⟩
theorem small_rv {d : Disk} {f : Int} : smallD (rvD d f) := by
 cases h : diskOK d with
 | true => exact small_ok (rv_ok h)
 | false =>
   unfold rvD
   rw [if_pos h]
   exact small_zero
end Go.Fn
namespace Go.Fn
open Go.Ab
variable {d : Disk} {k : Int} {n t u : List UInt8}
theorem do_2 (h : k = 2) : syncD d n = doD d (k, n, t, u, ()) /\ syncC d n = doC d (k, n, t, u, ()) := by
 unfold doD doC; rw [if_pos h, if_pos h]; exact ⟨rfl, rfl⟩
theorem do_4 (h2 : ¬ k = 2) (h : k = 4) : removeD d n = doD d (k, n, t, u, ()) /\ removeC d n = doC d (k, n, t, u, ()) := by
 unfold doD doC; rw [if_neg h2, if_pos h, if_neg h2, if_pos h]; exact ⟨rfl, rfl⟩
theorem do_5 (h2 : ¬ k = 2) (h4 : ¬ k = 4) : syncDirD d = doD d (k, n, t, u, ()) /\ syncDirC d = doC d (k, n, t, u, ()) := by
 unfold doD doC; rw [if_neg h2, if_neg h4, if_neg h2, if_neg h4]; exact ⟨rfl, rfl⟩
theorem tidy_tidy (d : Disk) : tidy (tidy d) = tidy d := by
 refine tidy_all fun x hx => ?_
 have := (List.mem_filter.1 hx).2
 exact this
theorem remC_eq (hd : diskOK d = true) (hs : short n = true) : removeC d n = if readB d n = false then 5 else 0 := by
 unfold removeC
 rw [hs, hd, if_neg (by decide), if_neg (by decide)]
theorem ldo_2 (hd : diskOK d = true) (hs : short n = true) (h : k = 2) : tidy (if readB d n = true then (setSync d.1 (inodeAt d.1 (slotId d.2.1 n)), d.2.1, d.2.2.1, d.2.2.2.1, ()) else d) = (if doC d (k, n, t, u, ()) = 0 then doD d (k, n, t, u, ()) else d) /\ readB d n = decide (doC d (k, n, t, u, ()) = 0) := by
 rw [<- (do_2 (d := d) (n := n) (t := t) (u := u) h).1, <- (do_2 (d := d) (n := n) (t := t) (u := u) h).2]
 have e : syncC d n = removeC d n := rfl
 rw [e, remC_eq hd hs]
 obtain ⟨a, b, c, m, ⟨⟩⟩ := d
 cases hr : readB (a, b, c, m, ()) n with
 | true =>
   unfold syncD
   rw [hs, hd, hr]
   simp [tidy_sync hd]
 | false =>
   simp [tidy_ok hd]
theorem ldo_4 (hd : diskOK d = true) (hs : short n = true) (h2 : ¬ k = 2) (h : k = 4) : tidy (if readB d n = true then (d.1, drop n d.2.1, d.2.2.1, d.2.2.2.1, ()) else d) = (if doC d (k, n, t, u, ()) = 0 then doD d (k, n, t, u, ()) else d) /\ readB d n = decide (doC d (k, n, t, u, ()) = 0) := by
 rw [<- (do_4 (d := d) (n := n) (t := t) (u := u) h2 h).1, <- (do_4 (d := d) (n := n) (t := t) (u := u) h2 h).2, remC_eq hd hs]
 cases hr : readB d n with
 | true =>
   unfold removeD
   rw [hs, hd, hr]
   simp
 | false =>
   simp [tidy_ok hd]
theorem ldo_5 (hd : diskOK d = true) (h2 : ¬ k = 2) (h4 : ¬ k = 4) : tidy (tidy (d.1, d.2.1, d.2.1, d.2.2.2.1, ())) = (if doC d (k, n, t, u, ()) = 0 then doD d (k, n, t, u, ()) else d) /\ true = decide (doC d (k, n, t, u, ()) = 0) := by
 rw [<- (do_5 (d := d) (n := n) (t := t) (u := u) h2 h4).1, <- (do_5 (d := d) (n := n) (t := t) (u := u) h2 h4).2, tidy_tidy]
 unfold syncDirC syncDirD
 rw [if_pos hd, if_pos rfl, if_pos hd]
 exact ⟨rfl, rfl⟩
end Go.Fn
namespace Go.Proofs.YtkdnelaoagmeaaaGreatDoor
open Go.Ab Go.Fn
theorem rn_tri {f st : Int} {d0 q : Fn.Disk} {l : List StepV} {k : Nat} {b : Bool} (h : (q, k, b) = runF f st d0 l 0) : q = (runF f st d0 l 0).1 /\ Int.ofNat k = Int.ofNat (runF f st d0 l 0).2.1 /\ b = (runF f st d0 l 0).2.2 := by rw [<- h]; exact ⟨rfl, rfl, rfl⟩
theorem rn_sub {k n : Nat} (h : k <= n) (hf : fits n) : wSub .i64 (Int.ofNat (k + 1)) 1 = Int.ofNat k := by
 unfold fits at hf
 unfold wSub
 rw [IntKind.wrap_i64]
 have e : Int.ofNat (k + 1) - 1 = Int.ofNat k := by show ((k + 1 : Nat) : Int) - 1 = (k : Int); omega
 rw [e]
 have : (Int.ofNat k) = (k : Int) := rfl
 rw [this]
 omega
theorem rn_add {j n : Nat} (h : j <= n) (hf : fits n) : wAdd .i64 (Int.ofNat j) 1 = Int.ofNat (j + 1) := by
 unfold fits at hf
 unfold wAdd
 rw [IntKind.wrap_i64]
 simp only [Int.ofNat_eq_natCast, Int.natCast_add, Int.natCast_one]
 omega
theorem rn_tri2 {f st : Int} {d0 q : Fn.Disk} {l : List StepV} {k : Nat} (h : (q, k, false) = runF f st d0 l 0) : q = (runF f st d0 l 0).1 /\ (0 : Int) = (if (runF f st d0 l 0).2.2 = true then Int.ofNat ((runF f st d0 l 0).2.1 + 1) else 0) /\ Int.ofNat k = Int.ofNat (runF f st d0 l 0).2.1 := by rw [<- h]; exact ⟨rfl, rfl, rfl⟩
theorem rn_tri3 {f st : Int} {d0 q : Fn.Disk} {l : List StepV} {k : Nat} (h : (q, k, true) = runF f st d0 l 0) : q = (runF f st d0 l 0).1 /\ Int.ofNat (k + 1) = (if (runF f st d0 l 0).2.2 = true then Int.ofNat ((runF f st d0 l 0).2.1 + 1) else (0 : Int)) /\ Int.ofNat k = Int.ofNat (runF f st d0 l 0).2.1 := by rw [<- h]; exact ⟨rfl, rfl, rfl⟩
end Go.Proofs.YtkdnelaoagmeaaaGreatDoor
namespace Go.Proofs.YtkdnelaoagmeaaaGreatDoor
open Go.Ab Go.Fn
def s_do : FSpec := { ps := [.v tDisk, .v tStep], rs := [.o tDisk, .v I], pre := fun x => stOK x.2.1, fn := fun x => (Fn.doD x.1 x.2.1, Fn.doC x.1 x.2.1, ()), upd := fun _ => () }
theorem fo_do : FO 107 s_do := by
 refine fo (specs := [(174, s_SyncFile), (176, s_RemoveFile), (177, s_SyncDir)]) (clos := []) (fun x => []) ⟨fo_iSyncFile, fo_iRemoveFile, fo_iSyncDir, trivial⟩ trivial Tryz.func107 rfl rfl ?_
 rintro ⟨⟨a, b, c, d, ⟨⟩⟩, ⟨k, n, t, u, ⟨⟩⟩, ⟨⟩⟩ ⟨h1, h3, hs⟩
 refine vcOf (1 <= (4) /\ ((k == (1 : Int)) = true -> 4 <= (4) /\ 2 <= (4) /\ 4 <= (4) /\ False) /\ ((k == (1 : Int)) = false -> ((k == (2 : Int)) = true -> 4 <= (4) /\ 2 <= (4) /\ true = true /\ True /\ 4 <= 4 /\ (((syncD (a, b, c, d, ()) n).fst, (syncD (a, b, c, d, ()) n).snd.fst, (syncD (a, b, c, d, ()) n).snd.snd.fst, (syncD (a, b, c, d, ()) n).snd.snd.snd.fst, ()), syncC (a, b, c, d, ()) n, ()) = (doD (a, b, c, d, ()) (k, n, t, u, ()), doC (a, b, c, d, ()) (k, n, t, u, ()), ()) /\ () = ()) /\ ((k == (2 : Int)) = false -> ((k == (3 : Int)) = true -> 4 <= (4) /\ 2 <= (4) /\ 3 <= (4) /\ False) /\ ((k == (3 : Int)) = false -> ((k == (4 : Int)) = true -> 4 <= (4) /\ 2 <= (4) /\ true = true /\ True /\ 4 <= 4 /\ (((removeD (a, b, c, d, ()) n).fst, (removeD (a, b, c, d, ()) n).snd.fst, (removeD (a, b, c, d, ()) n).snd.snd.fst, (removeD (a, b, c, d, ()) n).snd.snd.snd.fst, ()), removeC (a, b, c, d, ()) n, ()) = (doD (a, b, c, d, ()) (k, n, t, u, ()), doC (a, b, c, d, ()) (k, n, t, u, ()), ()) /\ () = ()) /\ ((k == (4 : Int)) = false -> 4 <= (4) /\ true = true /\ True /\ 4 <= 4 /\ (((syncDirD (a, b, c, d, ())).fst, (syncDirD (a, b, c, d, ())).snd.fst, (syncDirD (a, b, c, d, ())).snd.snd.fst, (syncDirD (a, b, c, d, ())).snd.snd.snd.fst, ()), syncDirC (a, b, c, d, ()), ()) = (doD (a, b, c, d, ()) (k, n, t, u, ()), doC (a, b, c, d, ()) (k, n, t, u, ()), ()) /\ () = ()))))) (by kernel_rfl) ?_
 simp only [NS, eq_self, ne_eq, forall_const, implies_true, Nat.reduceAdd, Nat.reduceLeDiff, nz, Int.reduceEq, Nat.reduceEqDiff, reduceCtorEq]; try simp only [lenL]
 have h1 : ¬ k = 1 := h1
 have h3 : ¬ k = 3 := h3
 exact ⟨fun h => h1 h, fun _ => ⟨fun h => do_2 h, fun h2 => ⟨fun h => h3 h, fun _ => ⟨fun h => do_4 h2 h, fun h4 => do_5 h2 h4⟩⟩⟩⟩
end Go.Proofs.YtkdnelaoagmeaaaGreatDoor
namespace Go.Proofs.YtkdnelaoagmeaaaGreatDoor
open Go.Ab Go.Fn
def s_l12Do : FSpec := { ps := [.v tDisk, .v tStep], rs := [.v tDisk, .v .bool], pre := fun x => stOK x.2.1 /\ diskOK x.1 = true, fn := fun x => (if Fn.doC x.1 x.2.1 = 0 then Fn.doD x.1 x.2.1 else x.1, decide (Fn.doC x.1 x.2.1 = 0), ()), upd := fun _ => () }
theorem fo_l12Do : FO 97 s_l12Do := by
 refine fo (specs := [(133, s_l11Sync), (166, s_l11Remove), (135, s_l11SyncDir), (43, s_l11Tidy)]) (clos := []) (fun x => []) ⟨fo_l11Sync, fo_l11Remove, fo_l11SyncDir, fo_l11Tidy, trivial⟩ trivial Tryz.func97 rfl rfl ?_
 rintro ⟨⟨a, b, c, d, ⟨⟩⟩, ⟨k, n, t, u, ⟨⟩⟩, ⟨⟩⟩ ⟨⟨h1, h3, hs⟩, hd⟩
 refine vcOf (1 <= (4) /\ ((k == (1 : Int)) = true -> 2 <= (4) /\ 2 <= (4) /\ False) /\ ((k == (1 : Int)) = false -> ((k == (2 : Int)) = true -> 4 <= (4) /\ 2 <= (4) /\ true = true /\ diskOK (a, b, c, d, ()) = true /\ 4 <= (4) /\ 4 <= (4) /\ true = true /\ True /\ 4 <= 4 /\ (((tidy ((if readB (a, b, c, d, ()) n = true then (setSync a (inodeAt a (slotId b n)), b, c, d, ()) else (a, b, c, d, ())).fst, (if readB (a, b, c, d, ()) n = true then (setSync a (inodeAt a (slotId b n)), b, c, d, ()) else (a, b, c, d, ())).snd.fst, (if readB (a, b, c, d, ()) n = true then (setSync a (inodeAt a (slotId b n)), b, c, d, ()) else (a, b, c, d, ())).snd.snd.fst, (if readB (a, b, c, d, ()) n = true then (setSync a (inodeAt a (slotId b n)), b, c, d, ()) else (a, b, c, d, ())).snd.snd.snd.fst, ())).fst, (tidy ((if readB (a, b, c, d, ()) n = true then (setSync a (inodeAt a (slotId b n)), b, c, d, ()) else (a, b, c, d, ())).fst, (if readB (a, b, c, d, ()) n = true then (setSync a (inodeAt a (slotId b n)), b, c, d, ()) else (a, b, c, d, ())).snd.fst, (if readB (a, b, c, d, ()) n = true then (setSync a (inodeAt a (slotId b n)), b, c, d, ()) else (a, b, c, d, ())).snd.snd.fst, (if readB (a, b, c, d, ()) n = true then (setSync a (inodeAt a (slotId b n)), b, c, d, ()) else (a, b, c, d, ())).snd.snd.snd.fst, ())).snd.fst, (tidy ((if readB (a, b, c, d, ()) n = true then (setSync a (inodeAt a (slotId b n)), b, c, d, ()) else (a, b, c, d, ())).fst, (if readB (a, b, c, d, ()) n = true then (setSync a (inodeAt a (slotId b n)), b, c, d, ()) else (a, b, c, d, ())).snd.fst, (if readB (a, b, c, d, ()) n = true then (setSync a (inodeAt a (slotId b n)), b, c, d, ()) else (a, b, c, d, ())).snd.snd.fst, (if readB (a, b, c, d, ()) n = true then (setSync a (inodeAt a (slotId b n)), b, c, d, ()) else (a, b, c, d, ())).snd.snd.snd.fst, ())).snd.snd.fst, (tidy ((if readB (a, b, c, d, ()) n = true then (setSync a (inodeAt a (slotId b n)), b, c, d, ()) else (a, b, c, d, ())).fst, (if readB (a, b, c, d, ()) n = true then (setSync a (inodeAt a (slotId b n)), b, c, d, ()) else (a, b, c, d, ())).snd.fst, (if readB (a, b, c, d, ()) n = true then (setSync a (inodeAt a (slotId b n)), b, c, d, ()) else (a, b, c, d, ())).snd.snd.fst, (if readB (a, b, c, d, ()) n = true then (setSync a (inodeAt a (slotId b n)), b, c, d, ()) else (a, b, c, d, ())).snd.snd.snd.fst, ())).snd.snd.snd.fst, ()), readB (a, b, c, d, ()) n, ()) = (if doC (a, b, c, d, ()) (k, n, t, u, ()) = (0 : Int) then doD (a, b, c, d, ()) (k, n, t, u, ()) else (a, b, c, d, ()), decide (doC (a, b, c, d, ()) (k, n, t, u, ()) = (0 : Int)), ()) /\ () = ()) /\ ((k == (2 : Int)) = false -> ((k == (3 : Int)) = true -> 4 <= (4) /\ 2 <= (4) /\ 3 <= (4) /\ False) /\ ((k == (3 : Int)) = false -> ((k == (4 : Int)) = true -> 4 <= (4) /\ 2 <= (4) /\ true = true /\ True /\ 4 <= (4) /\ 4 <= (4) /\ true = true /\ True /\ 4 <= 4 /\ (((tidy ((if readB (a, b, c, d, ()) n = true then (a, drop n b, c, d, ()) else (a, b, c, d, ())).fst, (if readB (a, b, c, d, ()) n = true then (a, drop n b, c, d, ()) else (a, b, c, d, ())).snd.fst, (if readB (a, b, c, d, ()) n = true then (a, drop n b, c, d, ()) else (a, b, c, d, ())).snd.snd.fst, (if readB (a, b, c, d, ()) n = true then (a, drop n b, c, d, ()) else (a, b, c, d, ())).snd.snd.snd.fst, ())).fst, (tidy ((if readB (a, b, c, d, ()) n = true then (a, drop n b, c, d, ()) else (a, b, c, d, ())).fst, (if readB (a, b, c, d, ()) n = true then (a, drop n b, c, d, ()) else (a, b, c, d, ())).snd.fst, (if readB (a, b, c, d, ()) n = true then (a, drop n b, c, d, ()) else (a, b, c, d, ())).snd.snd.fst, (if readB (a, b, c, d, ()) n = true then (a, drop n b, c, d, ()) else (a, b, c, d, ())).snd.snd.snd.fst, ())).snd.fst, (tidy ((if readB (a, b, c, d, ()) n = true then (a, drop n b, c, d, ()) else (a, b, c, d, ())).fst, (if readB (a, b, c, d, ()) n = true then (a, drop n b, c, d, ()) else (a, b, c, d, ())).snd.fst, (if readB (a, b, c, d, ()) n = true then (a, drop n b, c, d, ()) else (a, b, c, d, ())).snd.snd.fst, (if readB (a, b, c, d, ()) n = true then (a, drop n b, c, d, ()) else (a, b, c, d, ())).snd.snd.snd.fst, ())).snd.snd.fst, (tidy ((if readB (a, b, c, d, ()) n = true then (a, drop n b, c, d, ()) else (a, b, c, d, ())).fst, (if readB (a, b, c, d, ()) n = true then (a, drop n b, c, d, ()) else (a, b, c, d, ())).snd.fst, (if readB (a, b, c, d, ()) n = true then (a, drop n b, c, d, ()) else (a, b, c, d, ())).snd.snd.fst, (if readB (a, b, c, d, ()) n = true then (a, drop n b, c, d, ()) else (a, b, c, d, ())).snd.snd.snd.fst, ())).snd.snd.snd.fst, ()), readB (a, b, c, d, ()) n, ()) = (if doC (a, b, c, d, ()) (k, n, t, u, ()) = (0 : Int) then doD (a, b, c, d, ()) (k, n, t, u, ()) else (a, b, c, d, ()), decide (doC (a, b, c, d, ()) (k, n, t, u, ()) = (0 : Int)), ()) /\ () = ()) /\ ((k == (4 : Int)) = false -> 4 <= (4) /\ true = true /\ True /\ 4 <= (4) /\ 4 <= (4) /\ true = true /\ True /\ 4 <= 4 /\ (((tidy ((tidy (a, b, b, d, ())).fst, (tidy (a, b, b, d, ())).snd.fst, (tidy (a, b, b, d, ())).snd.snd.fst, (tidy (a, b, b, d, ())).snd.snd.snd.fst, ())).fst, (tidy ((tidy (a, b, b, d, ())).fst, (tidy (a, b, b, d, ())).snd.fst, (tidy (a, b, b, d, ())).snd.snd.fst, (tidy (a, b, b, d, ())).snd.snd.snd.fst, ())).snd.fst, (tidy ((tidy (a, b, b, d, ())).fst, (tidy (a, b, b, d, ())).snd.fst, (tidy (a, b, b, d, ())).snd.snd.fst, (tidy (a, b, b, d, ())).snd.snd.snd.fst, ())).snd.snd.fst, (tidy ((tidy (a, b, b, d, ())).fst, (tidy (a, b, b, d, ())).snd.fst, (tidy (a, b, b, d, ())).snd.snd.fst, (tidy (a, b, b, d, ())).snd.snd.snd.fst, ())).snd.snd.snd.fst, ()), true, ()) = (if doC (a, b, c, d, ()) (k, n, t, u, ()) = (0 : Int) then doD (a, b, c, d, ()) (k, n, t, u, ()) else (a, b, c, d, ()), decide (doC (a, b, c, d, ()) (k, n, t, u, ()) = (0 : Int)), ()) /\ () = ()))))) (by kernel_rfl) ?_
 simp only [NS, eq_self, ne_eq, forall_const, implies_true, Nat.reduceAdd, Nat.reduceLeDiff, nz, Int.reduceEq, Nat.reduceEqDiff, reduceCtorEq]; try simp only [lenL]
 have h1 : ¬ k = 1 := h1
 have h3 : ¬ k = 3 := h3
 have hd : diskOK (a, b, c, d, ()) = true := hd
 exact ⟨fun h => h1 h, fun _ => ⟨fun h => ⟨hd, ldo_2 hd hs h⟩, fun h2 => ⟨fun h => h3 h, fun _ => ⟨fun h => ldo_4 hd hs h2 h, fun h4 => ldo_5 hd h2 h4⟩⟩⟩⟩
end Go.Proofs.YtkdnelaoagmeaaaGreatDoor
namespace Go.Proofs.YtkdnelaoagmeaaaGreatDoor
open Go.Ab Go.Fn
def s_exec : FSpec := { ps := [.v tDisk, .v (.slice tStep), .v I, .v I], rs := [.v tDisk, .v I, .v .bool], pre := fun x => diskOK x.1 = true /\ ∀ s, s ∈ x.2.1 -> stOK s, fn := fun x => ((Fn.runF x.2.2.1 x.2.2.2.1 x.1 x.2.1 0).1, Int.ofNat (Fn.runF x.2.2.1 x.2.2.2.1 x.1 x.2.1 0).2.1, (Fn.runF x.2.2.1 x.2.2.2.1 x.1 x.2.1 0).2.2, ()), upd := fun _ => () }
def L_exec (f st : Int) (d : Fn.Disk) (l : List StepV) : LoopAnn := { ι := Fn.Disk × Nat, inv := fun q => RunInv f st d l q, slots := fun q => [(17, .d I (Int.ofNat q.2))], objs := fun q => [(0, .box (cellsOf tDisk q.1))], μ := fun q => l.length - q.2, fz := [44] }
theorem fo_execute : FO 50 s_exec := by
 refine fo (specs := [(107, s_do)]) (clos := []) (fun x => [(2, .lv [1, 2, 3, 4, 8, 15, 16, 17] <| fun _ => L_exec x.2.2.1 x.2.2.2.1 x.1 x.2.1)]) ⟨fo_do, trivial⟩ trivial Tryz.func50 rfl rfl ?_
 rintro ⟨⟨a, b, c, d, ⟨⟩⟩, l, f, st, ⟨⟩⟩ ⟨hd, hl⟩
 refine vcOf (fits (lenL l) -> (∃ (i : Disk × Nat), RunInv f st (a, b, c, d, ()) l i /\ (l = l /\ f = f /\ st = st /\ (0 = 0 /\ (0 : Nat) = 0) /\ (1 = 1 /\ (0 : Nat) = 0) /\ l = l /\ iOf (lenL l) = iOf (lenL l) /\ (0 : Int) = Int.ofNat i.snd /\ True) /\ ((a = i.fst.fst /\ b = i.fst.snd.fst /\ c = i.fst.snd.snd.fst /\ d = i.fst.snd.snd.snd.fst /\ True) /\ (true = true /\ true = true /\ true = true /\ (0 : (Ty.int .i64).den) = (0 : (Ty.int .i64).den) /\ True) /\ True) /\ True) /\ ∀ (i : Disk × Nat), RunInv f st (a, b, c, d, ()) l i -> (decide (Int.ofNat i.snd < iOf (lenL l)) = true -> bnd (Int.ofNat i.snd) (lenL l) /\ ∀ (x : Int × List UInt8 × List UInt8 × List UInt8 × Unit), nthI l (Int.ofNat i.snd) = some x -> 4 <= (4) /\ 4 <= 4 /\ ((wAdd .i64 (Int.ofNat i.snd) (1 : Int) == st) = true -> 4 <= (4) /\ 4 <= 4 /\ ((i.fst.fst, i.fst.snd.fst, i.fst.snd.snd.fst, i.fst.snd.snd.snd.fst, ()), Int.ofNat i.snd, false, ()) = ((runF f st (a, b, c, d, ()) l (0 : Nat)).fst, Int.ofNat (runF f st (a, b, c, d, ()) l (0 : Nat)).snd.fst, (runF f st (a, b, c, d, ()) l (0 : Nat)).snd.snd, ()) /\ () = ()) /\ ((wAdd .i64 (Int.ofNat i.snd) (1 : Int) == st) = false -> ((wAdd .i64 (Int.ofNat i.snd) (1 : Int) == f) = true -> 4 <= (4) /\ 4 <= 4 /\ ((i.fst.fst, i.fst.snd.fst, i.fst.snd.snd.fst, i.fst.snd.snd.snd.fst, ()), Int.ofNat i.snd, true, ()) = ((runF f st (a, b, c, d, ()) l (0 : Nat)).fst, Int.ofNat (runF f st (a, b, c, d, ()) l (0 : Nat)).snd.fst, (runF f st (a, b, c, d, ()) l (0 : Nat)).snd.snd, ()) /\ () = ()) /\ ((wAdd .i64 (Int.ofNat i.snd) (1 : Int) == f) = false -> 4 <= (4) /\ 4 <= (4) /\ true = true /\ stOK (x.fst, x.snd.fst, x.snd.snd.fst, x.snd.snd.snd.fst, ()) /\ 4 <= 4 /\ ((doC (i.fst.fst, i.fst.snd.fst, i.fst.snd.snd.fst, i.fst.snd.snd.snd.fst, ()) (x.fst, x.snd.fst, x.snd.snd.fst, x.snd.snd.snd.fst, ()) != (0 : Int)) = true -> 4 <= (4) /\ 4 <= 4 /\ ((i.fst.fst, i.fst.snd.fst, i.fst.snd.snd.fst, i.fst.snd.snd.snd.fst, ()), Int.ofNat i.snd, true, ()) = ((runF f st (a, b, c, d, ()) l (0 : Nat)).fst, Int.ofNat (runF f st (a, b, c, d, ()) l (0 : Nat)).snd.fst, (runF f st (a, b, c, d, ()) l (0 : Nat)).snd.snd, ()) /\ () = ()) /\ ((doC (i.fst.fst, i.fst.snd.fst, i.fst.snd.snd.fst, i.fst.snd.snd.snd.fst, ()) (x.fst, x.snd.fst, x.snd.snd.fst, x.snd.snd.snd.fst, ()) != (0 : Int)) = false -> 4 <= (4) /\ 4 <= (4) /\ ∃ (j : Disk × Nat), RunInv f st (a, b, c, d, ()) l j /\ (List.length l).sub j.snd < (List.length l).sub i.snd /\ (l = l /\ f = f /\ st = st /\ (0 = 0 /\ (0 : Nat) = 0) /\ (1 = 1 /\ (0 : Nat) = 0) /\ l = l /\ iOf (lenL l) = iOf (lenL l) /\ wAdd .i64 (Int.ofNat i.snd) (1 : Int) = Int.ofNat j.snd /\ True) /\ (((doD (i.fst.fst, i.fst.snd.fst, i.fst.snd.snd.fst, i.fst.snd.snd.snd.fst, ()) (x.fst, x.snd.fst, x.snd.snd.fst, x.snd.snd.snd.fst, ())).fst = j.fst.fst /\ (doD (i.fst.fst, i.fst.snd.fst, i.fst.snd.snd.fst, i.fst.snd.snd.snd.fst, ()) (x.fst, x.snd.fst, x.snd.snd.fst, x.snd.snd.snd.fst, ())).snd.fst = j.fst.snd.fst /\ (doD (i.fst.fst, i.fst.snd.fst, i.fst.snd.snd.fst, i.fst.snd.snd.snd.fst, ()) (x.fst, x.snd.fst, x.snd.snd.fst, x.snd.snd.snd.fst, ())).snd.snd.fst = j.fst.snd.snd.fst /\ (doD (i.fst.fst, i.fst.snd.fst, i.fst.snd.snd.fst, i.fst.snd.snd.snd.fst, ()) (x.fst, x.snd.fst, x.snd.snd.fst, x.snd.snd.snd.fst, ())).snd.snd.snd.fst = j.fst.snd.snd.snd.fst /\ True) /\ (true = true /\ true = true /\ true = true /\ (0 : (Ty.int .i64).den) = (0 : (Ty.int .i64).den) /\ True) /\ True) /\ True)))) /\ (decide (Int.ofNat i.snd < iOf (lenL l)) = false -> 4 <= (4) /\ (fits (lenL l) -> 4 <= 4 /\ ((i.fst.fst, i.fst.snd.fst, i.fst.snd.snd.fst, i.fst.snd.snd.snd.fst, ()), iOf (lenL l), false, ()) = ((runF f st (a, b, c, d, ()) l (0 : Nat)).fst, Int.ofNat (runF f st (a, b, c, d, ()) l (0 : Nat)).snd.fst, (runF f st (a, b, c, d, ()) l (0 : Nat)).snd.snd, ()) /\ () = ()))) (by kernel_rfl) ?_
 simp only [NS, eq_self, ne_eq, forall_const, implies_true, Nat.reduceAdd, Nat.reduceLeDiff, nz, Int.reduceEq, Nat.reduceEqDiff, reduceCtorEq]; try simp only [lenL]
 have hd : diskOK (a, b, c, d, ()) = true := hd
 refine fun hf => ⟨⟨((a, b, c, d, ()), 0), rn_start hd, rfl, rfl, rfl, rfl, rfl⟩, ?_⟩
 rintro ⟨q, k⟩ hq
 refine ⟨fun hlt => ⟨hlt, fun x hx => ?_⟩, fun hge hf2 => rn_tri (rn_end hq hge)⟩
 have hi : wAdd IntKind.i64 (Int.ofNat k) (1 : Int) = Int.ofNat (k + 1) := inc_in hf hq.1
 refine ⟨fun h1 => rn_tri (rn_stop hq hx (hi.symm.trans h1)), fun h1 => ⟨fun h2 => rn_tri (rn_fault hq hx (fun e => h1 (hi.trans e)) (.inl (hi.symm.trans h2))), fun h2 => ⟨hl x (List.mem_of_getElem? hx), fun h3 => rn_tri (rn_fault hq hx (fun e => h1 (hi.trans e)) (.inr h3)), fun h3 => ⟨(doD q x, k + 1), rn_next hq hx (fun e => h1 (hi.trans e)) (fun e => h2 (hi.trans e)) h3, Nat.sub_lt_sub_left hlt (Nat.lt_succ_self k), hi, rfl, rfl, rfl, rfl⟩⟩⟩⟩
end Go.Proofs.YtkdnelaoagmeaaaGreatDoor
namespace Go.Proofs.YtkdnelaoagmeaaaGreatDoor
open Go.Ab Go.Fn
def s_l12Run : FSpec := { ps := [.v tDisk, .v (.slice tStep), .v I, .v I], rs := [.v tDisk, .v I, .v I], pre := fun x => diskOK x.1 = true /\ ∀ s, s ∈ x.2.1 -> stOK s, fn := fun x => ((Fn.runF x.2.2.1 x.2.2.2.1 x.1 x.2.1 0).1, (if (Fn.runF x.2.2.1 x.2.2.2.1 x.1 x.2.1 0).2.2 = true then Int.ofNat ((Fn.runF x.2.2.1 x.2.2.2.1 x.1 x.2.1 0).2.1 + 1) else 0), Int.ofNat (Fn.runF x.2.2.1 x.2.2.2.1 x.1 x.2.1 0).2.1, ()), upd := fun _ => () }
def L_l12Run (f st : Int) (d : Fn.Disk) (l : List StepV) : LoopAnn := { ι := Fn.Disk × Nat, inv := fun q => RunInv f st d l q, slots := fun q => [(11, .d I (Int.ofNat (q.2 + 1)))], objs := fun q => [(0, .box (cellsOf tDisk q.1))], μ := fun q => l.length - q.2, fz := [47] }
theorem fo_l12Run : FO 44 s_l12Run := by
 refine fo (specs := [(97, s_l12Do)]) (clos := []) (fun x => [(2, .lv [1, 2, 3, 4, 8, 11] <| fun _ => L_l12Run x.2.2.1 x.2.2.2.1 x.1 x.2.1)]) ⟨fo_l12Do, trivial⟩ trivial Tryz.func44 rfl rfl ?_
 rintro ⟨⟨a, b, c, d, ⟨⟩⟩, l, f, st, ⟨⟩⟩ ⟨hd, hl⟩
 refine vcOf ((∃ (i : Disk × Nat), RunInv f st (a, b, c, d, ()) l i /\ (l = l /\ f = f /\ st = st /\ (0 = 0 /\ (0 : Nat) = 0) /\ (1 = 1 /\ (0 : Nat) = 0) /\ (1 : Int) = Int.ofNat (i.snd.add (0)).succ /\ True) /\ ((a = i.fst.fst /\ b = i.fst.snd.fst /\ c = i.fst.snd.snd.fst /\ d = i.fst.snd.snd.snd.fst /\ True) /\ (true = true /\ true = true /\ true = true /\ (0 : (Ty.int .i64).den) = (0 : (Ty.int .i64).den) /\ True) /\ True) /\ True) /\ ∀ (i : Disk × Nat), RunInv f st (a, b, c, d, ()) l i -> fits (lenL l) -> (decide (Int.ofNat (i.snd.add (0)).succ <= iOf (lenL l)) = true -> ((Int.ofNat (i.snd.add (0)).succ == st) = true -> 4 <= (4) /\ 4 <= 4 /\ ((i.fst.fst, i.fst.snd.fst, i.fst.snd.snd.fst, i.fst.snd.snd.snd.fst, ()), (0 : Int), wSub .i64 (Int.ofNat (i.snd.add (0)).succ) (1 : Int), ()) = ((runF f st (a, b, c, d, ()) l (0 : Nat)).fst, if (runF f st (a, b, c, d, ()) l (0 : Nat)).snd.snd = true then Int.ofNat ((runF f st (a, b, c, d, ()) l (0 : Nat)).snd.fst.add (0)).succ else (0 : (RTy.v I).ty.den), Int.ofNat (runF f st (a, b, c, d, ()) l (0 : Nat)).snd.fst, ()) /\ () = ()) /\ ((Int.ofNat (i.snd.add (0)).succ == st) = false -> 4 <= (4) /\ bnd (wSub .i64 (Int.ofNat (i.snd.add (0)).succ) (1 : Int)) (lenL l) /\ ∀ (x : Int × List UInt8 × List UInt8 × List UInt8 × Unit), nthI l (wSub .i64 (Int.ofNat (i.snd.add (0)).succ) (1 : Int)) = some x -> 4 <= (4) /\ (true = true /\ (stOK (x.fst, x.snd.fst, x.snd.snd.fst, x.snd.snd.snd.fst, ()) /\ diskOK (i.fst.fst, i.fst.snd.fst, i.fst.snd.snd.fst, i.fst.snd.snd.snd.fst, ()) = true) /\ 4 <= 4 /\ ((Int.ofNat (i.snd.add (0)).succ == f) = false -> ((!decide (doC (i.fst.fst, i.fst.snd.fst, i.fst.snd.snd.fst, i.fst.snd.snd.snd.fst, ()) (x.fst, x.snd.fst, x.snd.snd.fst, x.snd.snd.snd.fst, ()) = (0 : Int))) = true -> 4 <= (4) /\ 4 <= 4 /\ ((i.fst.fst, i.fst.snd.fst, i.fst.snd.snd.fst, i.fst.snd.snd.snd.fst, ()), Int.ofNat (i.snd.add (0)).succ, wSub .i64 (Int.ofNat (i.snd.add (0)).succ) (1 : Int), ()) = ((runF f st (a, b, c, d, ()) l (0 : Nat)).fst, if (runF f st (a, b, c, d, ()) l (0 : Nat)).snd.snd = true then Int.ofNat ((runF f st (a, b, c, d, ()) l (0 : Nat)).snd.fst.add (0)).succ else (0 : (RTy.v I).ty.den), Int.ofNat (runF f st (a, b, c, d, ()) l (0 : Nat)).snd.fst, ()) /\ () = ()) /\ ((!decide (doC (i.fst.fst, i.fst.snd.fst, i.fst.snd.snd.fst, i.fst.snd.snd.snd.fst, ()) (x.fst, x.snd.fst, x.snd.snd.fst, x.snd.snd.snd.fst, ()) = (0 : Int))) = false -> 4 <= (4) /\ 4 <= (4) /\ ∃ (j : Disk × Nat), RunInv f st (a, b, c, d, ()) l j /\ (List.length l).sub j.snd < (List.length l).sub i.snd /\ (l = l /\ f = f /\ st = st /\ (0 = 0 /\ (0 : Nat) = 0) /\ (1 = 1 /\ (0 : Nat) = 0) /\ wAdd .i64 (Int.ofNat (i.snd.add (0)).succ) (1 : Int) = Int.ofNat (j.snd.add (0)).succ /\ True) /\ (((if doC (i.fst.fst, i.fst.snd.fst, i.fst.snd.snd.fst, i.fst.snd.snd.snd.fst, ()) (x.fst, x.snd.fst, x.snd.snd.fst, x.snd.snd.snd.fst, ()) = (0 : Int) then doD (i.fst.fst, i.fst.snd.fst, i.fst.snd.snd.fst, i.fst.snd.snd.snd.fst, ()) (x.fst, x.snd.fst, x.snd.snd.fst, x.snd.snd.snd.fst, ()) else (i.fst.fst, i.fst.snd.fst, i.fst.snd.snd.fst, i.fst.snd.snd.snd.fst, ())).fst = j.fst.fst /\ (if doC (i.fst.fst, i.fst.snd.fst, i.fst.snd.snd.fst, i.fst.snd.snd.snd.fst, ()) (x.fst, x.snd.fst, x.snd.snd.fst, x.snd.snd.snd.fst, ()) = (0 : Int) then doD (i.fst.fst, i.fst.snd.fst, i.fst.snd.snd.fst, i.fst.snd.snd.snd.fst, ()) (x.fst, x.snd.fst, x.snd.snd.fst, x.snd.snd.snd.fst, ()) else (i.fst.fst, i.fst.snd.fst, i.fst.snd.snd.fst, i.fst.snd.snd.snd.fst, ())).snd.fst = j.fst.snd.fst /\ (if doC (i.fst.fst, i.fst.snd.fst, i.fst.snd.snd.fst, i.fst.snd.snd.snd.fst, ()) (x.fst, x.snd.fst, x.snd.snd.fst, x.snd.snd.snd.fst, ()) = (0 : Int) then doD (i.fst.fst, i.fst.snd.fst, i.fst.snd.snd.fst, i.fst.snd.snd.snd.fst, ()) (x.fst, x.snd.fst, x.snd.snd.fst, x.snd.snd.snd.fst, ()) else (i.fst.fst, i.fst.snd.fst, i.fst.snd.snd.fst, i.fst.snd.snd.snd.fst, ())).snd.snd.fst = j.fst.snd.snd.fst /\ (if doC (i.fst.fst, i.fst.snd.fst, i.fst.snd.snd.fst, i.fst.snd.snd.snd.fst, ()) (x.fst, x.snd.fst, x.snd.snd.fst, x.snd.snd.snd.fst, ()) = (0 : Int) then doD (i.fst.fst, i.fst.snd.fst, i.fst.snd.snd.fst, i.fst.snd.snd.snd.fst, ()) (x.fst, x.snd.fst, x.snd.snd.fst, x.snd.snd.snd.fst, ()) else (i.fst.fst, i.fst.snd.fst, i.fst.snd.snd.fst, i.fst.snd.snd.snd.fst, ())).snd.snd.snd.fst = j.fst.snd.snd.snd.fst /\ True) /\ (true = true /\ true = true /\ true = true /\ (0 : (Ty.int .i64).den) = (0 : (Ty.int .i64).den) /\ True) /\ True) /\ True)) /\ ((Int.ofNat (i.snd.add (0)).succ == f) = true -> 4 <= (4) /\ 4 <= 4 /\ ((i.fst.fst, i.fst.snd.fst, i.fst.snd.snd.fst, i.fst.snd.snd.snd.fst, ()), Int.ofNat (i.snd.add (0)).succ, wSub .i64 (Int.ofNat (i.snd.add (0)).succ) (1 : Int), ()) = ((runF f st (a, b, c, d, ()) l (0 : Nat)).fst, if (runF f st (a, b, c, d, ()) l (0 : Nat)).snd.snd = true then Int.ofNat ((runF f st (a, b, c, d, ()) l (0 : Nat)).snd.fst.add (0)).succ else (0 : (RTy.v I).ty.den), Int.ofNat (runF f st (a, b, c, d, ()) l (0 : Nat)).snd.fst, ()) /\ () = ())) /\ true = true /\ (stOK (x.fst, x.snd.fst, x.snd.snd.fst, x.snd.snd.snd.fst, ()) /\ diskOK (i.fst.fst, i.fst.snd.fst, i.fst.snd.snd.fst, i.fst.snd.snd.snd.fst, ()) = true) /\ 4 <= 4 /\ ((Int.ofNat (i.snd.add (0)).succ == f) = false -> ((!decide (doC (i.fst.fst, i.fst.snd.fst, i.fst.snd.snd.fst, i.fst.snd.snd.snd.fst, ()) (x.fst, x.snd.fst, x.snd.snd.fst, x.snd.snd.snd.fst, ()) = (0 : Int))) = true -> 4 <= (4) /\ 4 <= 4 /\ ((i.fst.fst, i.fst.snd.fst, i.fst.snd.snd.fst, i.fst.snd.snd.snd.fst, ()), Int.ofNat (i.snd.add (0)).succ, wSub .i64 (Int.ofNat (i.snd.add (0)).succ) (1 : Int), ()) = ((runF f st (a, b, c, d, ()) l (0 : Nat)).fst, if (runF f st (a, b, c, d, ()) l (0 : Nat)).snd.snd = true then Int.ofNat ((runF f st (a, b, c, d, ()) l (0 : Nat)).snd.fst.add (0)).succ else (0 : (RTy.v I).ty.den), Int.ofNat (runF f st (a, b, c, d, ()) l (0 : Nat)).snd.fst, ()) /\ () = ()) /\ ((!decide (doC (i.fst.fst, i.fst.snd.fst, i.fst.snd.snd.fst, i.fst.snd.snd.snd.fst, ()) (x.fst, x.snd.fst, x.snd.snd.fst, x.snd.snd.snd.fst, ()) = (0 : Int))) = false -> 4 <= (4) /\ 4 <= (4) /\ ∃ (j : Disk × Nat), RunInv f st (a, b, c, d, ()) l j /\ (List.length l).sub j.snd < (List.length l).sub i.snd /\ (l = l /\ f = f /\ st = st /\ (0 = 0 /\ (0 : Nat) = 0) /\ (1 = 1 /\ (0 : Nat) = 0) /\ wAdd .i64 (Int.ofNat (i.snd.add (0)).succ) (1 : Int) = Int.ofNat (j.snd.add (0)).succ /\ True) /\ (((if doC (i.fst.fst, i.fst.snd.fst, i.fst.snd.snd.fst, i.fst.snd.snd.snd.fst, ()) (x.fst, x.snd.fst, x.snd.snd.fst, x.snd.snd.snd.fst, ()) = (0 : Int) then doD (i.fst.fst, i.fst.snd.fst, i.fst.snd.snd.fst, i.fst.snd.snd.snd.fst, ()) (x.fst, x.snd.fst, x.snd.snd.fst, x.snd.snd.snd.fst, ()) else (i.fst.fst, i.fst.snd.fst, i.fst.snd.snd.fst, i.fst.snd.snd.snd.fst, ())).fst = j.fst.fst /\ (if doC (i.fst.fst, i.fst.snd.fst, i.fst.snd.snd.fst, i.fst.snd.snd.snd.fst, ()) (x.fst, x.snd.fst, x.snd.snd.fst, x.snd.snd.snd.fst, ()) = (0 : Int) then doD (i.fst.fst, i.fst.snd.fst, i.fst.snd.snd.fst, i.fst.snd.snd.snd.fst, ()) (x.fst, x.snd.fst, x.snd.snd.fst, x.snd.snd.snd.fst, ()) else (i.fst.fst, i.fst.snd.fst, i.fst.snd.snd.fst, i.fst.snd.snd.snd.fst, ())).snd.fst = j.fst.snd.fst /\ (if doC (i.fst.fst, i.fst.snd.fst, i.fst.snd.snd.fst, i.fst.snd.snd.snd.fst, ()) (x.fst, x.snd.fst, x.snd.snd.fst, x.snd.snd.snd.fst, ()) = (0 : Int) then doD (i.fst.fst, i.fst.snd.fst, i.fst.snd.snd.fst, i.fst.snd.snd.snd.fst, ()) (x.fst, x.snd.fst, x.snd.snd.fst, x.snd.snd.snd.fst, ()) else (i.fst.fst, i.fst.snd.fst, i.fst.snd.snd.fst, i.fst.snd.snd.snd.fst, ())).snd.snd.fst = j.fst.snd.snd.fst /\ (if doC (i.fst.fst, i.fst.snd.fst, i.fst.snd.snd.fst, i.fst.snd.snd.snd.fst, ()) (x.fst, x.snd.fst, x.snd.snd.fst, x.snd.snd.snd.fst, ()) = (0 : Int) then doD (i.fst.fst, i.fst.snd.fst, i.fst.snd.snd.fst, i.fst.snd.snd.snd.fst, ()) (x.fst, x.snd.fst, x.snd.snd.fst, x.snd.snd.snd.fst, ()) else (i.fst.fst, i.fst.snd.fst, i.fst.snd.snd.fst, i.fst.snd.snd.snd.fst, ())).snd.snd.snd.fst = j.fst.snd.snd.snd.fst /\ True) /\ (true = true /\ true = true /\ true = true /\ (0 : (Ty.int .i64).den) = (0 : (Ty.int .i64).den) /\ True) /\ True) /\ True)) /\ ((Int.ofNat (i.snd.add (0)).succ == f) = true -> 4 <= (4) /\ 4 <= 4 /\ ((i.fst.fst, i.fst.snd.fst, i.fst.snd.snd.fst, i.fst.snd.snd.snd.fst, ()), Int.ofNat (i.snd.add (0)).succ, wSub .i64 (Int.ofNat (i.snd.add (0)).succ) (1 : Int), ()) = ((runF f st (a, b, c, d, ()) l (0 : Nat)).fst, if (runF f st (a, b, c, d, ()) l (0 : Nat)).snd.snd = true then Int.ofNat ((runF f st (a, b, c, d, ()) l (0 : Nat)).snd.fst.add (0)).succ else (0 : (RTy.v I).ty.den), Int.ofNat (runF f st (a, b, c, d, ()) l (0 : Nat)).snd.fst, ()) /\ () = ()))) /\ (decide (Int.ofNat (i.snd.add (0)).succ <= iOf (lenL l)) = false -> 4 <= (4) /\ (fits (lenL l) -> 4 <= 4 /\ ((i.fst.fst, i.fst.snd.fst, i.fst.snd.snd.fst, i.fst.snd.snd.snd.fst, ()), (0 : Int), iOf (lenL l), ()) = ((runF f st (a, b, c, d, ()) l (0 : Nat)).fst, if (runF f st (a, b, c, d, ()) l (0 : Nat)).snd.snd = true then Int.ofNat ((runF f st (a, b, c, d, ()) l (0 : Nat)).snd.fst.add (0)).succ else (0 : (RTy.v I).ty.den), Int.ofNat (runF f st (a, b, c, d, ()) l (0 : Nat)).snd.fst, ()) /\ () = ()))) (by kernel_rfl) ?_
 simp only [NS, eq_self, ne_eq, forall_const, implies_true, Nat.reduceAdd, Nat.reduceLeDiff, nz, Int.reduceEq, Nat.reduceEqDiff, reduceCtorEq]; try simp only [lenL]
 have hd : diskOK (a, b, c, d, ()) = true := hd
 refine ⟨⟨((a, b, c, d, ()), 0), rn_start hd, rfl, rfl, rfl, rfl, rfl⟩, ?_⟩
 rintro ⟨q, k⟩ hq hf
 have hk : k <= List.length l := hq.1
 simp only [rn_sub hk hf]
 refine ⟨fun hle => ?_, fun hgt hf2 => ?_⟩
 · have hlt : k < List.length l := Int.ofNat_le.1 hle
   refine ⟨fun h1 => rn_tri2 ?_, fun h1 => ⟨bnd_nat hlt, fun x hx => ?_⟩⟩
   · obtain ⟨x, hx⟩ : ∃ x, l[k]? = some x := ⟨_, List.getElem?_eq_getElem hlt⟩
     exact rn_stop hq hx h1
   · have hx : l[k]? = some x := hx
     refine ⟨⟨hl x (List.mem_of_getElem? hx), hq.2.1⟩, fun h2 => ⟨fun h3 => rn_tri3 (rn_fault hq hx h1 (.inr h3)), fun h3 => ⟨(doD q x, k + 1), rn_next hq hx h1 h2 h3, Nat.sub_lt_sub_left hlt (Nat.lt_succ_self k), rn_add hlt hf, ?_⟩⟩, fun h2 => rn_tri3 (rn_fault hq hx h1 (.inl h2))⟩
     have h3 : doC q x = 0 := h3
     rw [if_pos h3]
     exact ⟨rfl, rfl, rfl, rfl⟩
 · have hge : ¬ k < List.length l := fun h => hgt (Int.ofNat_le.2 h)
   exact rn_tri2 (rn_end hq hge)
end Go.Proofs.YtkdnelaoagmeaaaGreatDoor
