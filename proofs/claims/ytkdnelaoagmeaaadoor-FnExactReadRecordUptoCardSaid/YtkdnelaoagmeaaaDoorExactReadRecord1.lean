/- Every function that the law FnExactReadRecord reaches does what its specification (a function on plain data) says; the law answers true wherever what it reads is of bulk at most 1048576. Conditions: that bound. -/
import Derived.Test.YtkdnelaoagmeaaaDoorAb2
import Derived.Deep.DeepHandedRow
import Derived.Deep.DeepLaidRun
import Derived.Laws.BitsLemmas
import Derived.Lib.AtoiAll
import Derived.Lib.Bytealg
import Derived.Lib.ItoaLen
import Derived.Lib.ItoaMem
import Derived.Lib.Join
import Derived.Lib.LaidTab
import Derived.OpenShut
import Derived.ProofKit
import Derived.Shelf.LaysC
import Derived.Shelf.LaysM
import Derived.Shelf.Strconv.AtoiAll
import Derived.Shelf.Strconv.Itoa3
import Derived.Shelf.Strings.OnBuilder
import Derived.Stop.LaidErr
import Derived.Test.YtkdnelaoagmeaaaDoorCards
import Derived.Test.YtkdnelaoagmeaaaDoorRows
import Derived.Test.YtkdnelaoagmeaaaDoorTie
import Derived.WalkKit
import Derived.Test.YtkdnelaoagmeaaaDoorExactReadRecord0
set_option autoImplicit true
set_option relaxedAutoImplicit true
set_option maxHeartbeats 4000000
set_option maxRecDepth 4000
set_option linter.unusedVariables false
set_option linter.unusedSimpArgs false
namespace Go.Proofs.YtkdnelaoagmeaaaDoor
open Go.Ab Go.Fn
def s_unhex : FSpec := { ps := [.v .str], rs := [.v .str, .v .bool], pre := fun x => List.length (α := UInt8) x.1 <= 65536, fn := fun x => (Fn.unS x.1, Fn.unO x.1, ()), upd := fun _ => () }
def L_unhex (w : List UInt8) : LoopAnn := { ι := List UInt8 × Nat, inv := fun q => UnAt w q.1 q.2, slots := fun q => [(4, .os 0), (5, .d I (Int.ofNat q.2))], objs := fun q => [(0, .arr (.int .u8) (q.1.map fun c => Int.ofNat c.toNat) false)], μ := fun q => w.length - q.2 }
theorem fo_l14Unhex : FO 13 s_unhex := by
 refine fo (specs := [(23, s_dig1), (24, s_word)]) (clos := []) (fun x => [(5, .lv [0, 4, 5] <| fun _ => L_unhex x.1)]) ⟨fo_l14Digit, fo_l14Hex, trivial⟩ trivial Tryd.func13 rfl rfl ?_
 rintro ⟨t, ⟨⟩⟩ hl
 refine vcOf (((t == ([45] : List UInt8)) = true -> (([] : List UInt8), true, ()) = (unS t, unO t, ()) /\ () = ()) /\ ((t == ([45] : List UInt8)) = false -> (∃ (i : List UInt8 × Nat), UnAt t i.fst i.snd /\ (t = t /\ 0 = (0 : Nat) /\ (0 : Int) = Int.ofNat i.snd /\ True) /\ ((([] : List Int) = List.map (fun (c : UInt8) => Int.ofNat c.toNat) i.fst /\ false = false) /\ True) /\ True) /\ ∀ (i : List UInt8 × Nat), UnAt t i.fst i.snd -> fits (lenL t) -> (decide (Int.ofNat i.snd < iOf (lenL t)) = true -> bnd (Int.ofNat i.snd) (lenL t) /\ ∀ (c : UInt8), nthI t (Int.ofNat i.snd) = some c -> ((Int.ofNat c.toNat != (37 : Int)) = true -> bnd (Int.ofNat i.snd) (lenL t) /\ ∀ (c : UInt8), nthI t (Int.ofNat i.snd) = some c -> fits (lenL (List.map (fun (c : UInt8) => Int.ofNat c.toNat) i.fst) + lenL (Int.ofNat c.toNat :: ([] : List Int))) /\ ∃ (j : List UInt8 × Nat), UnAt t j.fst j.snd /\ (List.length t).sub j.snd < (List.length t).sub i.snd /\ (t = t /\ (0 : Nat) = 0 /\ wAdd .i64 (Int.ofNat i.snd) (1 : Int) = Int.ofNat j.snd /\ True) /\ ((List.map (fun (c : UInt8) => Int.ofNat c.toNat) i.fst ++ Int.ofNat c.toNat :: ([] : List Int) = List.map (fun (c : UInt8) => Int.ofNat c.toNat) j.fst /\ false = false) /\ True) /\ True) /\ ((Int.ofNat c.toNat != (37 : Int)) = false -> fits (lenL t) -> (decide (wAdd .i64 (Int.ofNat i.snd) (2 : Int) ≥ iOf (lenL t)) = false -> bnd (wAdd .i64 (Int.ofNat i.snd) (1 : Int)) (lenL t) /\ ∀ (c : UInt8), nthI t (wAdd .i64 (Int.ofNat i.snd) (1 : Int)) = some c -> true = true /\ (∃ (c_1 : UInt8), Int.ofNat c.toNat = Int.ofNat c_1.toNat) /\ (decide (digV (bOf (Int.ofNat c.toNat)) < (0 : Int)) = false -> bnd (wAdd .i64 (Int.ofNat i.snd) (2 : Int)) (lenL t) /\ ∀ (c : UInt8), nthI t (wAdd .i64 (Int.ofNat i.snd) (2 : Int)) = some c -> true = true /\ (∃ (c_1 : UInt8), Int.ofNat c.toNat = Int.ofNat c_1.toNat) /\ (decide (digV (bOf (Int.ofNat c.toNat)) < (0 : Int)) = true -> (([] : List UInt8), false, ()) = (unS t, unO t, ()) /\ () = ()) /\ (decide (digV (bOf (Int.ofNat c.toNat)) < (0 : Int)) = false -> bnd (wAdd .i64 (Int.ofNat i.snd) (1 : Int)) (lenL t) /\ ∀ (c : UInt8), nthI t (wAdd .i64 (Int.ofNat i.snd) (1 : Int)) = some c -> bnd (wAdd .i64 (Int.ofNat i.snd) (2 : Int)) (lenL t) /\ ∀ (c_1 : UInt8), nthI t (wAdd .i64 (Int.ofNat i.snd) (2 : Int)) = some c_1 -> true = true /\ (∃ (c_2 : UInt8), Int.ofNat c.toNat = Int.ofNat c_2.toNat) /\ true = true /\ (∃ (c : UInt8), Int.ofNat c_1.toNat = Int.ofNat c.toNat) /\ fits (lenL (List.map (fun (c : UInt8) => Int.ofNat c.toNat) i.fst) + lenL (IntKind.u8.wrap (wAdd .i64 (wMul .i64 (16 : Int) (digV (bOf (Int.ofNat c.toNat)))) (digV (bOf (Int.ofNat c_1.toNat)))) :: ([] : List Int))) /\ ∃ (j : List UInt8 × Nat), UnAt t j.fst j.snd /\ (List.length t).sub j.snd < (List.length t).sub i.snd /\ (t = t /\ (0 : Nat) = 0 /\ wAdd .i64 (wAdd .i64 (Int.ofNat i.snd) (2 : Int)) (1 : Int) = Int.ofNat j.snd /\ True) /\ ((List.map (fun (c : UInt8) => Int.ofNat c.toNat) i.fst ++ IntKind.u8.wrap (wAdd .i64 (wMul .i64 (16 : Int) (digV (bOf (Int.ofNat c.toNat)))) (digV (bOf (Int.ofNat c_1.toNat)))) :: ([] : List Int) = List.map (fun (c : UInt8) => Int.ofNat c.toNat) j.fst /\ false = false) /\ True) /\ True)) /\ (decide (digV (bOf (Int.ofNat c.toNat)) < (0 : Int)) = true -> (([] : List UInt8), false, ()) = (unS t, unO t, ()) /\ () = ())) /\ (decide (wAdd .i64 (Int.ofNat i.snd) (2 : Int) ≥ iOf (lenL t)) = true -> (([] : List UInt8), false, ()) = (unS t, unO t, ()) /\ () = ()))) /\ (decide (Int.ofNat i.snd < iOf (lenL t)) = false -> true = true /\ (List.map (fun (n : Int) => UInt8.ofNat n.toNat) (List.map (fun (c : UInt8) => Int.ofNat c.toNat) i.fst)).length <= (100000000 : Nat) /\ (List.map (fun (n : Int) => UInt8.ofNat n.toNat) (List.map (fun (c : UInt8) => Int.ofNat c.toNat) i.fst), word (List.map (fun (n : Int) => UInt8.ofNat n.toNat) (List.map (fun (c : UInt8) => Int.ofNat c.toNat) i.fst)) == t, ()) = (unS t, unO t, ()) /\ () = ()))) (by kernel_rfl) ?_
 simp only [NS, eq_self, ne_eq, forall_const, implies_true, Nat.reduceAdd, Nat.reduceLeDiff, nz, Int.reduceEq, Nat.reduceEqDiff, reduceCtorEq]; try simp only [lenL]
 have hl : List.length t <= 65536 := hl
 refine ⟨fun h => by unfold unS unO; rw [if_pos h, if_pos h]; exact ⟨rfl, rfl⟩, fun hne => ⟨⟨([], 0), ua_start t, rfl, rfl⟩, ?_⟩⟩
 rintro ⟨out, i⟩ hU hf
 have hi : i <= List.length t := hU.1
 have ho : out.length <= i := hU.2.1
 have e1 : wAdd IntKind.i64 (Int.ofNat i) (1 : Int) = Int.ofNat (i + 1) := inc_small (by omega)
 have e2 : wAdd IntKind.i64 (Int.ofNat i) (2 : Int) = Int.ofNat (i + 2) := add2 (by omega)
 have e3 : wAdd IntKind.i64 (Int.ofNat (i + 2)) (1 : Int) = Int.ofNat (i + 3) := inc_small (by omega)
 have hfit : ∀ x : Int, fits ((List.map (fun c : UInt8 => Int.ofNat c.toNat) out).length + (x :: ([] : List Int)).length) := fun x => map_fits (by omega)
 have hm : ∀ k, i < List.length t -> 0 < k -> List.length t - (i + k) < List.length t - i := fun k h1 h2 => by omega
 simp only [bOf_nat, e1, e2, e3]
 refine ⟨fun hlt => ⟨hlt, fun c hc => ⟨fun hn => ⟨hlt, fun c2 hc2 => ⟨hfit _, (out ++ [c2], i + 1), ua_c hU hc2 (fun e => hn ?_), hm 1 hlt (by decide), rfl, map_snoc out c2⟩⟩, fun h37 hf2 => ?_⟩⟩, fun hge => ?_⟩
 · have e : c2 = c := Option.some.inj (hc2.symm.trans hc)
   subst e; subst e; rfl
 · have h37 : c = 37 := byte_eq (n := 37) h37
   subst h37
   refine ⟨fun h2 => ?_, fun h2 => ua_none hne (ua_short hU hc fun h => absurd (Int.ofNat_lt.2 h) (Int.not_lt.2 h2))⟩
   have h2 : i + 2 < List.length t := Int.ofNat_lt.1 (Int.not_le.1 h2)
   refine ⟨bnd_nat (by omega), fun a ha => ⟨⟨a, rfl⟩, fun hda => ⟨bnd_nat h2, fun b hb => ⟨⟨b, rfl⟩, fun hdb => ua_none hne (ua_bad hU hc ha hb (.inr hdb)), fun hdb => ⟨bnd_nat (by omega), fun a2 ha2 => ⟨bnd_nat h2, fun b2 hb2 => ?_⟩⟩⟩⟩, fun hda => ?_⟩⟩
   · have e : a2 = a := Option.some.inj (ha2.symm.trans ha)
     subst e
     have e : b2 = b := Option.some.inj (hb2.symm.trans hb)
     subst e
     refine ⟨⟨a2, rfl⟩, ⟨b2, rfl⟩, hfit _, (out ++ [hexV a2 b2], i + 3), ua_hex hU hc ha hb (fun h => h.elim hda hdb), hm 3 (by omega) (by decide), rfl, ?_⟩
     rw [add_hex hda hdb]
     exact map_snoc out _
   · obtain ⟨b, hb⟩ : ∃ b, t[i + 2]? = some b := ⟨_, List.getElem?_eq_getElem h2⟩
     exact ua_none hne (ua_bad hU hc ha hb (.inl hda))
 · have hu := ua_end hU hge
   obtain ⟨q1, q2⟩ := ua_some hne hu
   rw [back_map]
   exact ⟨by omega, q1, q2⟩
end Go.Proofs.YtkdnelaoagmeaaaDoor
namespace Go.Proofs.YtkdnelaoagmeaaaDoor
open Go.Ab Go.Fn
def s_numb : FSpec := { ps := [.v .str], rs := [.v I, .v .bool], pre := fun x => List.length (α := UInt8) x.1 <= 65536, fn := fun x => (Fn.numS x.1, Fn.numO x.1, ()), upd := fun _ => () }
def L_numb (w : List UInt8) (sg : Int) : LoopAnn := { ι := Nat × Nat, inv := fun q => DigAt w q.1 q.2, slots := fun q => [(0, .d .str w), (4, .d I sg), (5, .d I (Int.ofNat q.2)), (6, .d I (Int.ofNat q.1))], objs := fun q => [], μ := fun q => w.length - q.1 }
theorem fo_l00Number : FO 12 s_numb := by
 refine fo (specs := []) (clos := []) (fun x => [(9, .lv [0, 4, 5, 6] <| fun s => L_numb (s.tS 0) (s.tI 4))]) trivial trivial Tryd.func12 rfl rfl ?_
 rintro ⟨t, ⟨⟩⟩ hl
 refine vcOf (fits (lenL t) -> (decide (iOf (lenL t) > (0 : Int)) = true -> bnd (0 : Int) (lenL t) /\ ∀ (c : UInt8), nthI t (0 : Int) = some c -> ((Int.ofNat c.toNat == (45 : Int)) = true -> boundLo (1 : Int) (lenL t) /\ (fits (lenL (subL t (tN (1 : Int)) (lenL t))) -> ((iOf (lenL (subL t (tN (1 : Int)) (lenL t))) == (0 : Int)) = false -> fits (lenL (subL t (tN (1 : Int)) (lenL t))) -> (decide (iOf (lenL (subL t (tN (1 : Int)) (lenL t))) > (18 : Int)) = false -> bnd (0 : Int) (lenL (subL t (tN (1 : Int)) (lenL t))) /\ ∀ (c : UInt8), nthI (subL t (tN (1 : Int)) (lenL t)) (0 : Int) = some c -> ((Int.ofNat c.toNat == (48 : Int)) = true -> fits (lenL (subL t (tN (1 : Int)) (lenL t))) -> (decide (iOf (lenL (subL t (tN (1 : Int)) (lenL t))) > (1 : Int)) = false -> (decide ((-1 : Int) < (0 : Int)) = true -> ((0 : Int), false, ()) = (numS t, numO t, ()) /\ () = ()) /\ (decide ((-1 : Int) < (0 : Int)) = false -> (∃ (i : Nat × Nat), DigAt (subL t (tN (1 : Int)) (lenL t)) i.fst i.snd /\ (subL t (tN (1 : Int)) (lenL t) = subL t (tN (1 : Int)) (lenL t) /\ (-1 : Int) = Int.neg (1 : Int) /\ (0 : Int) = Int.ofNat i.snd /\ (0 : Int) = Int.ofNat i.fst /\ True) /\ True /\ True) /\ ∀ (i : Nat × Nat), DigAt (subL t (tN (1 : Int)) (lenL t)) i.fst i.snd -> fits (lenL (subL t (tN (1 : Int)) (lenL t))) -> (decide (Int.ofNat i.fst < iOf (lenL (subL t (tN (1 : Int)) (lenL t)))) = true -> bnd (Int.ofNat i.fst) (lenL (subL t (tN (1 : Int)) (lenL t))) /\ ∀ (c : UInt8), nthI (subL t (tN (1 : Int)) (lenL t)) (Int.ofNat i.fst) = some c -> (decide (Int.ofNat c.toNat < (48 : Int)) = false -> bnd (Int.ofNat i.fst) (lenL (subL t (tN (1 : Int)) (lenL t))) /\ ∀ (c : UInt8), nthI (subL t (tN (1 : Int)) (lenL t)) (Int.ofNat i.fst) = some c -> (decide (Int.ofNat c.toNat > (57 : Int)) = true -> ((0 : Int), false, ()) = (numS t, numO t, ()) /\ () = ()) /\ (decide (Int.ofNat c.toNat > (57 : Int)) = false -> bnd (Int.ofNat i.fst) (lenL (subL t (tN (1 : Int)) (lenL t))) /\ ∀ (c : UInt8), nthI (subL t (tN (1 : Int)) (lenL t)) (Int.ofNat i.fst) = some c -> ∃ (j : Nat × Nat), DigAt (subL t (tN (1 : Int)) (lenL t)) j.fst j.snd /\ (subL t (tN (1 : Int)) (lenL t)).length.sub j.fst < (subL t (tN (1 : Int)) (lenL t)).length.sub i.fst /\ (subL t (tN (1 : Int)) (lenL t) = subL t (tN (1 : Int)) (lenL t) /\ Int.neg (1 : Int) = Int.neg (1 : Int) /\ wSub .i64 (wAdd .i64 (wMul .i64 (Int.ofNat i.snd) (10 : Int)) (IntKind.i64.wrap (Int.ofNat c.toNat))) (48 : Int) = Int.ofNat j.snd /\ wAdd .i64 (Int.ofNat i.fst) (1 : Int) = Int.ofNat j.fst /\ True) /\ True /\ True)) /\ (decide (Int.ofNat c.toNat < (48 : Int)) = true -> ((0 : Int), false, ()) = (numS t, numO t, ()) /\ () = ())) /\ (decide (Int.ofNat i.fst < iOf (lenL (subL t (tN (1 : Int)) (lenL t)))) = false -> (wMul .i64 (Int.neg (1 : Int)) (Int.ofNat i.snd), true, ()) = (numS t, numO t, ()) /\ () = ()))) /\ (decide (iOf (lenL (subL t (tN (1 : Int)) (lenL t))) > (1 : Int)) = true -> ((0 : Int), false, ()) = (numS t, numO t, ()) /\ () = ())) /\ ((Int.ofNat c.toNat == (48 : Int)) = false -> (∃ (i : Nat × Nat), DigAt (subL t (tN (1 : Int)) (lenL t)) i.fst i.snd /\ (subL t (tN (1 : Int)) (lenL t) = subL t (tN (1 : Int)) (lenL t) /\ (-1 : Int) = Int.neg (1 : Int) /\ (0 : Int) = Int.ofNat i.snd /\ (0 : Int) = Int.ofNat i.fst /\ True) /\ True /\ True) /\ ∀ (i : Nat × Nat), DigAt (subL t (tN (1 : Int)) (lenL t)) i.fst i.snd -> fits (lenL (subL t (tN (1 : Int)) (lenL t))) -> (decide (Int.ofNat i.fst < iOf (lenL (subL t (tN (1 : Int)) (lenL t)))) = true -> bnd (Int.ofNat i.fst) (lenL (subL t (tN (1 : Int)) (lenL t))) /\ ∀ (c : UInt8), nthI (subL t (tN (1 : Int)) (lenL t)) (Int.ofNat i.fst) = some c -> (decide (Int.ofNat c.toNat < (48 : Int)) = false -> bnd (Int.ofNat i.fst) (lenL (subL t (tN (1 : Int)) (lenL t))) /\ ∀ (c : UInt8), nthI (subL t (tN (1 : Int)) (lenL t)) (Int.ofNat i.fst) = some c -> (decide (Int.ofNat c.toNat > (57 : Int)) = true -> ((0 : Int), false, ()) = (numS t, numO t, ()) /\ () = ()) /\ (decide (Int.ofNat c.toNat > (57 : Int)) = false -> bnd (Int.ofNat i.fst) (lenL (subL t (tN (1 : Int)) (lenL t))) /\ ∀ (c : UInt8), nthI (subL t (tN (1 : Int)) (lenL t)) (Int.ofNat i.fst) = some c -> ∃ (j : Nat × Nat), DigAt (subL t (tN (1 : Int)) (lenL t)) j.fst j.snd /\ (subL t (tN (1 : Int)) (lenL t)).length.sub j.fst < (subL t (tN (1 : Int)) (lenL t)).length.sub i.fst /\ (subL t (tN (1 : Int)) (lenL t) = subL t (tN (1 : Int)) (lenL t) /\ Int.neg (1 : Int) = Int.neg (1 : Int) /\ wSub .i64 (wAdd .i64 (wMul .i64 (Int.ofNat i.snd) (10 : Int)) (IntKind.i64.wrap (Int.ofNat c.toNat))) (48 : Int) = Int.ofNat j.snd /\ wAdd .i64 (Int.ofNat i.fst) (1 : Int) = Int.ofNat j.fst /\ True) /\ True /\ True)) /\ (decide (Int.ofNat c.toNat < (48 : Int)) = true -> ((0 : Int), false, ()) = (numS t, numO t, ()) /\ () = ())) /\ (decide (Int.ofNat i.fst < iOf (lenL (subL t (tN (1 : Int)) (lenL t)))) = false -> (wMul .i64 (Int.neg (1 : Int)) (Int.ofNat i.snd), true, ()) = (numS t, numO t, ()) /\ () = ()))) /\ (decide (iOf (lenL (subL t (tN (1 : Int)) (lenL t))) > (18 : Int)) = true -> ((0 : Int), false, ()) = (numS t, numO t, ()) /\ () = ())) /\ ((iOf (lenL (subL t (tN (1 : Int)) (lenL t))) == (0 : Int)) = true -> ((0 : Int), false, ()) = (numS t, numO t, ()) /\ () = ()))) /\ ((Int.ofNat c.toNat == (45 : Int)) = false -> fits (lenL t) -> ((iOf (lenL t) == (0 : Int)) = false -> fits (lenL t) -> (decide (iOf (lenL t) > (18 : Int)) = false -> bnd (0 : Int) (lenL t) /\ ∀ (c : UInt8), nthI t (0 : Int) = some c -> ((Int.ofNat c.toNat == (48 : Int)) = true -> fits (lenL t) -> (decide (iOf (lenL t) > (1 : Int)) = false -> (decide ((1 : Int) < (0 : Int)) = true -> ((0 : Int), false, ()) = (numS t, numO t, ()) /\ () = ()) /\ (decide ((1 : Int) < (0 : Int)) = false -> (∃ (i : Nat × Nat), DigAt t i.fst i.snd /\ (t = t /\ (1 : Int) = Int.ofNat (1) /\ (0 : Int) = Int.ofNat i.snd /\ (0 : Int) = Int.ofNat i.fst /\ True) /\ True /\ True) /\ ∀ (i : Nat × Nat), DigAt t i.fst i.snd -> fits (lenL t) -> (decide (Int.ofNat i.fst < iOf (lenL t)) = true -> bnd (Int.ofNat i.fst) (lenL t) /\ ∀ (c : UInt8), nthI t (Int.ofNat i.fst) = some c -> (decide (Int.ofNat c.toNat < (48 : Int)) = false -> bnd (Int.ofNat i.fst) (lenL t) /\ ∀ (c : UInt8), nthI t (Int.ofNat i.fst) = some c -> (decide (Int.ofNat c.toNat > (57 : Int)) = true -> ((0 : Int), false, ()) = (numS t, numO t, ()) /\ () = ()) /\ (decide (Int.ofNat c.toNat > (57 : Int)) = false -> bnd (Int.ofNat i.fst) (lenL t) /\ ∀ (c : UInt8), nthI t (Int.ofNat i.fst) = some c -> ∃ (j : Nat × Nat), DigAt t j.fst j.snd /\ (List.length t).sub j.fst < (List.length t).sub i.fst /\ (t = t /\ Int.ofNat (1) = Int.ofNat (1) /\ wSub .i64 (wAdd .i64 (wMul .i64 (Int.ofNat i.snd) (10 : Int)) (IntKind.i64.wrap (Int.ofNat c.toNat))) (48 : Int) = Int.ofNat j.snd /\ wAdd .i64 (Int.ofNat i.fst) (1 : Int) = Int.ofNat j.fst /\ True) /\ True /\ True)) /\ (decide (Int.ofNat c.toNat < (48 : Int)) = true -> ((0 : Int), false, ()) = (numS t, numO t, ()) /\ () = ())) /\ (decide (Int.ofNat i.fst < iOf (lenL t)) = false -> (wMul .i64 (Int.ofNat (1)) (Int.ofNat i.snd), true, ()) = (numS t, numO t, ()) /\ () = ()))) /\ (decide (iOf (lenL t) > (1 : Int)) = true -> ((0 : Int), false, ()) = (numS t, numO t, ()) /\ () = ())) /\ ((Int.ofNat c.toNat == (48 : Int)) = false -> (∃ (i : Nat × Nat), DigAt t i.fst i.snd /\ (t = t /\ (1 : Int) = Int.ofNat (1) /\ (0 : Int) = Int.ofNat i.snd /\ (0 : Int) = Int.ofNat i.fst /\ True) /\ True /\ True) /\ ∀ (i : Nat × Nat), DigAt t i.fst i.snd -> fits (lenL t) -> (decide (Int.ofNat i.fst < iOf (lenL t)) = true -> bnd (Int.ofNat i.fst) (lenL t) /\ ∀ (c : UInt8), nthI t (Int.ofNat i.fst) = some c -> (decide (Int.ofNat c.toNat < (48 : Int)) = false -> bnd (Int.ofNat i.fst) (lenL t) /\ ∀ (c : UInt8), nthI t (Int.ofNat i.fst) = some c -> (decide (Int.ofNat c.toNat > (57 : Int)) = true -> ((0 : Int), false, ()) = (numS t, numO t, ()) /\ () = ()) /\ (decide (Int.ofNat c.toNat > (57 : Int)) = false -> bnd (Int.ofNat i.fst) (lenL t) /\ ∀ (c : UInt8), nthI t (Int.ofNat i.fst) = some c -> ∃ (j : Nat × Nat), DigAt t j.fst j.snd /\ (List.length t).sub j.fst < (List.length t).sub i.fst /\ (t = t /\ Int.ofNat (1) = Int.ofNat (1) /\ wSub .i64 (wAdd .i64 (wMul .i64 (Int.ofNat i.snd) (10 : Int)) (IntKind.i64.wrap (Int.ofNat c.toNat))) (48 : Int) = Int.ofNat j.snd /\ wAdd .i64 (Int.ofNat i.fst) (1 : Int) = Int.ofNat j.fst /\ True) /\ True /\ True)) /\ (decide (Int.ofNat c.toNat < (48 : Int)) = true -> ((0 : Int), false, ()) = (numS t, numO t, ()) /\ () = ())) /\ (decide (Int.ofNat i.fst < iOf (lenL t)) = false -> (wMul .i64 (Int.ofNat (1)) (Int.ofNat i.snd), true, ()) = (numS t, numO t, ()) /\ () = ()))) /\ (decide (iOf (lenL t) > (18 : Int)) = true -> ((0 : Int), false, ()) = (numS t, numO t, ()) /\ () = ())) /\ ((iOf (lenL t) == (0 : Int)) = true -> ((0 : Int), false, ()) = (numS t, numO t, ()) /\ () = ()))) /\ (decide (iOf (lenL t) > (0 : Int)) = false -> fits (lenL t) -> ((iOf (lenL t) == (0 : Int)) = false -> fits (lenL t) -> (decide (iOf (lenL t) > (18 : Int)) = false -> bnd (0 : Int) (lenL t) /\ ∀ (c : UInt8), nthI t (0 : Int) = some c -> ((Int.ofNat c.toNat == (48 : Int)) = true -> fits (lenL t) -> (decide (iOf (lenL t) > (1 : Int)) = false -> (decide ((1 : Int) < (0 : Int)) = true -> ((0 : Int), false, ()) = (numS t, numO t, ()) /\ () = ()) /\ (decide ((1 : Int) < (0 : Int)) = false -> (∃ (i : Nat × Nat), DigAt t i.fst i.snd /\ (t = t /\ (1 : Int) = Int.ofNat (1) /\ (0 : Int) = Int.ofNat i.snd /\ (0 : Int) = Int.ofNat i.fst /\ True) /\ True /\ True) /\ ∀ (i : Nat × Nat), DigAt t i.fst i.snd -> fits (lenL t) -> (decide (Int.ofNat i.fst < iOf (lenL t)) = true -> bnd (Int.ofNat i.fst) (lenL t) /\ ∀ (c : UInt8), nthI t (Int.ofNat i.fst) = some c -> (decide (Int.ofNat c.toNat < (48 : Int)) = false -> bnd (Int.ofNat i.fst) (lenL t) /\ ∀ (c : UInt8), nthI t (Int.ofNat i.fst) = some c -> (decide (Int.ofNat c.toNat > (57 : Int)) = true -> ((0 : Int), false, ()) = (numS t, numO t, ()) /\ () = ()) /\ (decide (Int.ofNat c.toNat > (57 : Int)) = false -> bnd (Int.ofNat i.fst) (lenL t) /\ ∀ (c : UInt8), nthI t (Int.ofNat i.fst) = some c -> ∃ (j : Nat × Nat), DigAt t j.fst j.snd /\ (List.length t).sub j.fst < (List.length t).sub i.fst /\ (t = t /\ Int.ofNat (1) = Int.ofNat (1) /\ wSub .i64 (wAdd .i64 (wMul .i64 (Int.ofNat i.snd) (10 : Int)) (IntKind.i64.wrap (Int.ofNat c.toNat))) (48 : Int) = Int.ofNat j.snd /\ wAdd .i64 (Int.ofNat i.fst) (1 : Int) = Int.ofNat j.fst /\ True) /\ True /\ True)) /\ (decide (Int.ofNat c.toNat < (48 : Int)) = true -> ((0 : Int), false, ()) = (numS t, numO t, ()) /\ () = ())) /\ (decide (Int.ofNat i.fst < iOf (lenL t)) = false -> (wMul .i64 (Int.ofNat (1)) (Int.ofNat i.snd), true, ()) = (numS t, numO t, ()) /\ () = ()))) /\ (decide (iOf (lenL t) > (1 : Int)) = true -> ((0 : Int), false, ()) = (numS t, numO t, ()) /\ () = ())) /\ ((Int.ofNat c.toNat == (48 : Int)) = false -> (∃ (i : Nat × Nat), DigAt t i.fst i.snd /\ (t = t /\ (1 : Int) = Int.ofNat (1) /\ (0 : Int) = Int.ofNat i.snd /\ (0 : Int) = Int.ofNat i.fst /\ True) /\ True /\ True) /\ ∀ (i : Nat × Nat), DigAt t i.fst i.snd -> fits (lenL t) -> (decide (Int.ofNat i.fst < iOf (lenL t)) = true -> bnd (Int.ofNat i.fst) (lenL t) /\ ∀ (c : UInt8), nthI t (Int.ofNat i.fst) = some c -> (decide (Int.ofNat c.toNat < (48 : Int)) = false -> bnd (Int.ofNat i.fst) (lenL t) /\ ∀ (c : UInt8), nthI t (Int.ofNat i.fst) = some c -> (decide (Int.ofNat c.toNat > (57 : Int)) = true -> ((0 : Int), false, ()) = (numS t, numO t, ()) /\ () = ()) /\ (decide (Int.ofNat c.toNat > (57 : Int)) = false -> bnd (Int.ofNat i.fst) (lenL t) /\ ∀ (c : UInt8), nthI t (Int.ofNat i.fst) = some c -> ∃ (j : Nat × Nat), DigAt t j.fst j.snd /\ (List.length t).sub j.fst < (List.length t).sub i.fst /\ (t = t /\ Int.ofNat (1) = Int.ofNat (1) /\ wSub .i64 (wAdd .i64 (wMul .i64 (Int.ofNat i.snd) (10 : Int)) (IntKind.i64.wrap (Int.ofNat c.toNat))) (48 : Int) = Int.ofNat j.snd /\ wAdd .i64 (Int.ofNat i.fst) (1 : Int) = Int.ofNat j.fst /\ True) /\ True /\ True)) /\ (decide (Int.ofNat c.toNat < (48 : Int)) = true -> ((0 : Int), false, ()) = (numS t, numO t, ()) /\ () = ())) /\ (decide (Int.ofNat i.fst < iOf (lenL t)) = false -> (wMul .i64 (Int.ofNat (1)) (Int.ofNat i.snd), true, ()) = (numS t, numO t, ()) /\ () = ()))) /\ (decide (iOf (lenL t) > (18 : Int)) = true -> ((0 : Int), false, ()) = (numS t, numO t, ()) /\ () = ())) /\ ((iOf (lenL t) == (0 : Int)) = true -> ((0 : Int), false, ()) = (numS t, numO t, ()) /\ () = ()))) (by kernel_rfl) ?_
 simp only [NS, eq_self, ne_eq, forall_const, implies_true, Nat.reduceAdd, Nat.reduceLeDiff, nz, Int.reduceEq, Nat.reduceEqDiff, reduceCtorEq]; try simp only [lenL]
 have hl : List.length t <= 65536 := hl
 intro hf
 cases t with
 | nil => exact ⟨fun h => absurd h (by decide), fun _ _ => ⟨fun h => absurd rfl h, fun _ => nm_bad nm_nil⟩⟩
 | cons c r =>
   have e : subL (c :: r) (tN (1 : Int)) (c :: r).length = r := by unfold subL tN; simp
   simp only [e]
   refine ⟨fun _ => ⟨bnd_nat (k := 0) (Nat.succ_pos _), fun c1 hc1 => ?_⟩, fun h => absurd (Int.natCast_pos.2 (Nat.succ_pos _)) h⟩
   have e1 : c = c1 := Option.some.inj hc1
   subst e1
   refine ⟨fun h45 => ?_, fun h45 hf1 => ?_⟩
   · have h45 : c = 45 := byte_eq (n := 45) h45
     obtain ⟨b0, b18, b48, bo⟩ := nm_m (r := r) h45
     refine ⟨⟨by decide, Int.ofNat_le.2 (Nat.succ_le_succ (Nat.zero_le _))⟩, fun hf1 => ⟨fun hn0 hf2 => ?_, fun h0 => nm_bad (b0 (List.length_eq_zero_iff.1 (Int.ofNat.inj h0)))⟩⟩
     have hr : ¬ r = [] := fun e => hn0 (by rw [e]; rfl)
     refine ⟨fun h18 => ?_, fun h18 => nm_bad (b18 (Int.ofNat_lt.1 h18))⟩
     have hl18 : ¬ 18 < r.length := fun h => h18 (Int.ofNat_lt.2 h)
     refine ⟨bnd_nat (k := 0) (List.length_pos_iff.2 hr), fun c2 hc2 => ?_⟩
     have hh : r.head? = some c2 := by rw [List.head?_eq_getElem?]; exact hc2
     have hloop : ¬ r.head? = some 48 -> _ := fun h48 => nm_loop (t := c :: r) (w := r) (sg := -1) (sg' := Int.neg 1) rfl (Nat.not_lt.1 hl18) (fun hv => by rw [bo hr hl18 h48, hv]; rfl) (fun n hn hv => by rw [bo hr hl18 h48, hv, nm_neg hn]; rfl)
     refine ⟨fun h48 hf3 => ⟨fun _ => ⟨fun _ => nm_bad (b48 ?_), fun h => absurd (by decide) h⟩, fun _ => nm_bad (b48 ?_)⟩, fun h48 => hloop fun e => ?_⟩
     · rw [hh, byte_eq (n := 48) h48]
     · rw [hh, byte_eq (n := 48) h48]
     · rw [hh] at e
       cases e
       exact h48 rfl
   · have h45 : ¬ c = 45 := fun e => h45 (by rw [e]; rfl)
     obtain ⟨b18, b48, bo⟩ := nm_p (r := r) h45
     refine ⟨fun hn0 hf2 => ⟨fun h18 => ?_, fun h18 => nm_bad (b18 (Int.ofNat_lt.1 h18))⟩, fun h0 => absurd (Int.ofNat.inj h0) (Nat.succ_ne_zero _)⟩
     have hl18 : ¬ 18 < r.length + 1 := fun h => h18 (Int.ofNat_lt.2 h)
     have hloop : (c = 48 -> r = []) -> _ := fun h48 => nm_loop (t := c :: r) (w := c :: r) (sg := 1) (sg' := Int.ofNat 1) rfl (Nat.not_lt.1 hl18) (fun hv => by rw [bo hl18 h48, hv]; rfl) (fun n hn hv => by rw [bo hl18 h48, hv, nm_pos hn]; rfl)
     refine ⟨bnd_nat (k := 0) (Nat.succ_pos _), fun c2 hc2 => ?_⟩
     have e1 : c = c2 := Option.some.inj hc2
     subst e1
     refine ⟨fun h48 hf3 => ⟨fun h1 => ⟨fun h => absurd h (by decide), fun _ => hloop fun _ => ?_⟩, fun h1 => nm_bad (b48 (byte_eq (n := 48) h48) fun e => ?_)⟩, fun h48 => hloop fun e => absurd (by rw [e]; rfl) h48⟩
     · have h1 : ¬ 1 < r.length + 1 := fun h => h1 (Int.ofNat_lt.2 h)
       exact List.length_eq_zero_iff.1 (by omega)
     · have h1 : 1 < r.length + 1 := Int.ofNat_lt.1 h1
       rw [e] at h1
       exact absurd h1 (by decide)
end Go.Proofs.YtkdnelaoagmeaaaDoor
namespace Go.Proofs.YtkdnelaoagmeaaaDoor
open Go.Ab Go.Fn
theorem met_tail {P : Program} {x : String × DataW Unit} {r : List (String × DataW Unit)} {W : World} (h : laidMet P (x :: r) W) : laidMet P r W := by
 obtain ⟨ps, ⟨g, t, cs, fuel, p, q, h1, h2, h3, h4, h5, h6⟩, hn, hc⟩ := h
 subst h6
 exact ⟨q, h5, (List.nodup_append.1 hn).2.1, fun b off hb => hc b off (List.mem_append_right _ hb)⟩
theorem tab_head {rest : List (String × DataW Unit)} {W : World} (h : laidMet Tryd.prog (("internal/strconv.uint64pow10", Rows.laid_internal_strconv_uint64pow10) :: rest) W) : tabP W :=
 Lib.tabIs_of_head (t := 109) (e := 78) (n := 20) gPow (by kernel_rfl) Tryd.underlying109 Tryd.underlying78 (by kernel_rfl) (by kernel_rfl) h
theorem tab_lt {W : World} (h : tabP W) {b : Nat} (hb : b < 5 + 1) : b < W.heap.size := by
 have h : W.var? Tryd.prog "internal/strconv.uint64pow10" = _ := h
 unfold World.var? at h
 rw [gPow] at h
 simp only [Option.bind_some] at h
 split at h
 · rename_i hh
   exact Nat.lt_of_lt_of_le hb (Array.getElem?_eq_some_iff.1 hh).1
 · cases h
end Go.Proofs.YtkdnelaoagmeaaaDoor
namespace Go.Proofs.YtkdnelaoagmeaaaDoor
open Go.Ab Go.Fn
def errP (n : String) (W : World) : Prop := ∃ tp p, W.var? Tryd.prog n = some #[.iface tp p]
def tabE (W : World) : Prop := tabP W /\ (errP "strconv.ErrSyntax" W /\ errP "strconv.ErrRange" W)
theorem gSyn : Tryd.prog.globalNamed "strconv.ErrSyntax" = some 0 := by kernel_rfl
theorem gRan : Tryd.prog.globalNamed "strconv.ErrRange" = some 1 := by kernel_rfl
def mkL (specs : List (Nat × FSpec)) (clos : List (Nat × CSpec)) : Env := { tys := tys, specs := specs, clos := clos, anyB := 4, anyN := 3, anyS := 9, gl := 5 + 1, tab := tabE }
theorem var_same {n : String} {g : Nat} (hg : Tryd.prog.globalNamed n = some g) {w w' : World} (h : w'.heap[g]? = w.heap[g]?) : w'.var? Tryd.prog n = w.var? Tryd.prog n := by
 unfold World.var?
 rw [hg]
 simp only [Option.bind_some, h]
theorem tabL (specs clos) : TabS (mkL specs clos) := by
 intro w w' h hb
 have hb : ∀ b, b < 5 + 1 -> w'.heap[b]? = w.heap[b]? := hb
 obtain ⟨h1, ⟨t1, p1, h2⟩, ⟨t2, p2, h3⟩⟩ : tabE w := h
 refine (show tabE w' from ⟨?_, ⟨t1, p1, ?_⟩, ⟨t2, p2, ?_⟩⟩)
 · exact tabT [] [] w w' h1 hb
 · rw [var_same gSyn (hb _ (by decide))]; exact h2
 · rw [var_same gRan (hb _ (by decide))]; exact h3
theorem envL (specs clos) : EnvOK Tryd.prog (mkL specs clos) :=
 { tys := (envOK specs clos []).tys, distinct := (envOK specs clos []).distinct, anyTys := (envOK specs clos []).anyTys, anyZ := (envOK specs clos []).anyZ }
def FL (f : Nat) (sp : FSpec) : Prop := FOK Tryd.prog (mkL [] []) f sp
theorem tL {f : Nat} {sp : FSpec} (h : FT f sp) : FL f sp := fok_env (E := mkT [] []) (E' := mkL [] []) ⟨rfl, rfl, rfl⟩ ⟨fun _ h => h.1, Nat.le_refl _, tabT [] []⟩ h
theorem toL {f : Nat} {sp : FSpec} (h : FO f sp) : FL f sp := tL (toT h)
def AllL : List (Nat × FSpec) -> Prop
 | [] => True
 | (f, sp) :: r => FL f sp /\ AllL r
theorem AllL.get : ∀ {l : List (Nat × FSpec)}, AllL l -> ∀ {f sp} , Go.Ab.look l f = some sp -> FL f sp
 | [], _, f, sp, h => by cases h
 | (k, x) :: r, ⟨h1, h2⟩, f, sp, h => by
   simp only [Go.Ab.look] at h
   cases hk : Nat.beq k f with
   | true => rw [hk] at h; cases h; rw [<- Nat.eq_of_beq_eq_true hk]; exact h1
   | false => rw [hk] at h; exact AllL.get h2 h
theorem progL {specs clos} (h1 : AllL specs) (h2 : AllC clos) : ProgOK Tryd.prog (mkL specs clos) :=
 { env := envL specs clos, specs := fun f sp h => fok_env (E := mkL [] []) (E' := mkL specs clos) ⟨rfl, rfl, rfl⟩ ⟨fun _ h => h, Nat.le_refl _, tabL [] []⟩ (h1.get h), clos := fun f cl h => cok_env (E := E0) (E' := mkL specs clos) ⟨rfl, rfl, rfl⟩ (h2.get h), inl := fun f T h => (by cases h), mixed := by kernel_rfl }
theorem foL {specs clos f fn sp} (A : pdens sp.ps -> List (Nat × (St -> LoopAnn))) (h1 : AllL specs) (h2 : AllC clos) (hf : Tryd.prog.funcs[f]? = some fn) (hn : (fn.name == "runtime.NumGoroutine") = false) (hb : fn.body.isSome = true) (hv : ∀ x, sp.pre x -> vc (mkL specs clos) (A x) fn sp x) : FL f sp :=
 fok_env (E := mkL specs clos) (E' := mkL [] []) ⟨rfl, rfl, rfl⟩ ⟨fun _ h => h, Nat.le_refl _, tabL specs clos⟩ (fok_of_vc (progL h1 h2) hf hn A hv hb)
end Go.Proofs.YtkdnelaoagmeaaaDoor
namespace Go.Proofs.YtkdnelaoagmeaaaDoor
open Go.Ab Go.Fn
theorem fok_raw2 {P : Program} {E : Env} {f : Nat} {ps : List PTy} {pre : pdens ps -> Prop} {fn : pdens ps -> Int} {fe : pdens ps -> Bool} {upd : pdens ps -> mdens ps} (hp : plainPs ps = true) (hE : Ab.Enters P f)
   (h : ∀ (x : pdens ps) (c : RC) (vs : List Value), c.E = E -> E.tab c.w -> pre x -> VRelL c (entry ps x 0).1 vs -> Calls P f vs.toArray c.w fun e w' => ∃ v, e = .returned (.tuple #[.int .i64 (fn x), v]) /\ ((fe x = true /\ v = .nilIface) ∨ (fe x = false /\ ∃ t u, v = .iface t u)) /\ Keep (fun _ => False) c.w w') :
   FOK P E f { ps := ps, rs := [.v I, .v .err], pre := pre, fn := fun x => (fn x, fe x, ()), upd := upd } := by
 refine ⟨hE, fun G x vs hP hEq hn hpre hO hV => ?_⟩
 have e1 := plain_entry hp x 0
 have e2 := plain_exit hp (upd x)
 have e3 : outObjs { ps := ps, rs := [.v I, .v .err], pre := pre, fn := fun x => (fn x, fe x, ()), upd := upd } x = [] := by
   unfold outObjs
   simp only [e2, ressV, resV, List.append_nil, List.nil_append, List.map_nil]
 have hc := h x (G.rc (entry ps x 0).2 G.m0 G.w0) vs hEq (by rw [<- hEq]; exact G.tab) hpre hV
 refine Calls.mono hc fun e w' he => ?_
 obtain ⟨v, rfl, hl, hk⟩ := he
 refine ⟨G.m0, [.int .i64 (fn x), v], rfl, ?_, ?_⟩
 · rw [e3]
   exact { rel := fun i o hi => by simp at hi, disj := fun i j o o' b hi => by simp at hi, keep := hk.weaken fun _ _ hf => hf.elim, new := fun b hb => by obtain ⟨i, o, hi, _⟩ := hb; simp at hi, len := by rw [hn]; show (entry ps x 0).2.length <= _; rw [e1]; exact Nat.le_refl _, fix := fun i o hi => by simp at hi }
 · refine ⟨_, _, rfl, ?_, _, [], rfl, ?_, rfl⟩
   · exact mk_int _ _
   · exact ⟨rfl, v, rfl, hl⟩
end Go.Proofs.YtkdnelaoagmeaaaDoor
namespace Go.Proofs.YtkdnelaoagmeaaaDoor
open Go.Ab Go.Fn
def atoiE (w : List UInt8) : Bool := match Lib.atoiAll w with | .ok _ => true | _ => false
def s_atoi : FSpec := { ps := [.v .str], rs := [.v I, .v .err], pre := fun x => List.length (α := UInt8) x.1 <= 65536, fn := fun x => (Fn.atoiV x.1, atoiE x.1, ()), upd := fun _ => () }
theorem fl_Atoi : FL 19 s_atoi := by
 refine fok_raw2 (ps := [.v .str]) (fn := fun x => Fn.atoiV x.1) (fe := fun x => atoiE x.1) rfl ⟨_, Tryd.func19, rfl, rfl⟩ ?_
 rintro ⟨(t : List UInt8), ⟨⟩⟩ c vs hE ⟨hP, ⟨t1, p1, hS⟩, ⟨t2, p2, hR⟩⟩ hl hV
 have hl : t.length <= 65536 := hl
 have hV : VRelL c [.d .str t] vs := hV
 simp only [VRelL] at hV
 obtain ⟨v, q, rfl, r, rfl⟩ := hV
 have hv := (str_ok (s := t) r).1
 subst hv
 have hs : (⟨t.toArray⟩ : ByteArray).size <= 65536 := by show t.toArray.size <= 65536; simpa using hl
 have hd : (⟨t.toArray⟩ : ByteArray).data.toList = t := by simp
 have c1 := World.var?_cell gSyn hS 0
 have c2 := World.var?_cell gRan hR 0
 cases ha : Lib.atoiAll t with
 | ok n =>
   have e1 : atoiV t = n := by unfold atoiV; rw [ha]
   have e2 : atoiE t = true := by unfold atoiE; rw [ha]
   refine Calls.mono (Tryd.strconv_Atoi_ok ⟨t.toArray⟩ (by omega) n (by rw [hd]; exact ha) c.w) fun e w' he => ?_
   obtain ⟨rfl, hw⟩ := he
   refine ⟨.nilIface, by rw [e1], .inl ⟨e2, rfl⟩, ?_⟩
   rcases hw with rfl | ⟨t, rfl⟩
   · exact Keep.refl _ _
   · exact keep_below (Lib.bytesWorld_below _ _ _)
 | range =>
   have e1 : atoiV t = Lib.atoiSat t := by unfold atoiV; rw [ha]
   have e2 : atoiE t = false := by unfold atoiE; rw [ha]
   refine Calls.mono (Tryd.strconv_Atoi_range ⟨t.toArray⟩ (by omega) (by rw [hd]; exact ha) (.iface t2 p2) c.w (by simpa using c2) (.inr ⟨t2, p2, rfl⟩)) fun e w' he => ?_
   obtain ⟨N, rfl, -, -, hb⟩ := he
   exact ⟨_, by rw [e1, hd], .inr ⟨e2, _, _, rfl⟩, keep_below hb⟩
 | _ =>
   have e1 : atoiV t = 0 := by unfold atoiV; rw [ha]
   have e2 : atoiE t = false := by unfold atoiE; rw [ha]
   refine Calls.mono (Tryd.strconv_Atoi_syntax ⟨t.toArray⟩ (by omega) (by rw [hd]; exact ha) (.iface t1 p1) c.w (by simpa using c1) (.inr ⟨t1, p1, rfl⟩)) fun e w' he => ?_
   obtain ⟨N, rfl, -, -, hb⟩ := he
   exact ⟨_, by rw [e1], .inr ⟨e2, _, _, rfl⟩, keep_below hb⟩
end Go.Proofs.YtkdnelaoagmeaaaDoor
namespace Go.Fn
open Go.Ab
theorem part_le (c : UInt8) : ∀ (t : List UInt8), ∀ w ∈ split c t, w.length <= t.length
 | [], w, h => by
   have h : w ∈ [([] : List UInt8)] := h
   rw [List.mem_singleton.1 h]; exact Nat.le_refl _
 | x :: r, w, h => by
   have ih := part_le c r
   unfold split at h
   split at h
   · rcases List.mem_cons.1 h with h | h
     · rw [h]; exact Nat.zero_le _
     · exact Nat.le_succ_of_le (ih w h)
   · split at h
     · rw [List.mem_singleton.1 h]; exact Nat.succ_le_succ (Nat.zero_le _)
     · rename_i y ys e
       rw [e] at ih
       rcases List.mem_cons.1 h with h | h
       · rw [h]; exact Nat.succ_le_succ (ih y (List.mem_cons_self ..))
       · exact Nat.le_succ_of_le (ih w (List.mem_cons_of_mem _ h))
theorem words_le {t : List UInt8} (h : t.length <= 65536) : ∀ w ∈ wordsS t, w.length <= 65536 := fun w hw =>
 Nat.le_trans (part_le 32 t w (List.mem_filter.1 hw).1) h
theorem rr_no {t : List UInt8} (h : iOf t.length > 65536) : short t = false := by
 unfold short; rw [decide_eq_false]; have h : (t.length : Int) > 65536 := h; omega
theorem rr_yes {t : List UInt8} (h : ¬ iOf t.length > 65536) : short t = true := by
 unfold short; rw [decide_eq_true]; have h : ¬ (t.length : Int) > 65536 := h; omega
theorem rr_long {t : List UInt8} (h : short t = false) : rec0 = rrR t /\ 2 = rrC t := by
 have e : rrC t = 2 := by unfold rrC; rw [if_pos h]
 unfold rrR
 rw [e, if_neg (by decide)]; exact ⟨rfl, rfl⟩
theorem rr_bad {t : List UInt8} (h : short t = true) (hb : laxB (wordsS t) = false) : rec0 = rrR t /\ 3 = rrC t := by
 have e : rrC t = 3 := by unfold rrC; rw [if_neg (by rw [h]; decide), if_neg (by rw [hb]; decide)]
 unfold rrR
 rw [e, if_neg (by decide)]; exact ⟨rfl, rfl⟩
theorem rr_good {t : List UInt8} (h : short t = true) (hb : laxB (wordsS t) = true) : recL (wordsS t) = rrR t /\ 0 = rrC t := by
 have e : rrC t = 0 := by unfold rrC; rw [if_neg (by rw [h]; decide), if_pos hb]
 unfold rrR
 rw [e, if_pos rfl]; exact ⟨rfl, rfl⟩
theorem lax_two {w : List (List UInt8)} (h : laxB w = true) : 2 <= w.length := by
 unfold laxB at h
 rw [Bool.and_eq_true] at h
 exact of_decide_eq_true h.1
theorem lax_one {w : List (List UInt8)} (h : ¬ 2 <= w.length) : laxB w = false := by
 cases hl : laxB w with
 | false => rfl
 | true => exact absurd (lax_two hl) h
end Go.Fn
namespace Go.Fn
open Go.Ab
theorem beq_dec (a b : List UInt8) : (a == b) = decide (a = b) := by by_cases h : a = b <;> simp [h]
theorem wat {w : List (List UInt8)} {k : Nat} {x : List UInt8} (h : w[k]? = some x) : wAt w k = x := by unfold wAt; rw [List.getD_eq_getElem?_getD, h]; rfl
theorem rp_file {w : List (List UInt8)} {x x2 x3 : List UInt8} (h : wAt w 0 = kFile) (h1 : wAt w 1 = x) (h2 : wAt w 2 = x2) (h3 : wAt w 3 = x3) : rpR w = ((1, x, unS x3, numS x2, false, ()), numO x2 && unO x3) := by
 unfold rpR; rw [if_pos h, h1, h2, h3]
theorem rp_link {w : List (List UInt8)} {x x2 : List UInt8} (h : wAt w 0 = kLink) (h1 : wAt w 1 = x) (h2 : wAt w 2 = x2) : rpR w = ((2, x, unS x2, 0, false, ()), unO x2) := by
 unfold rpR; rw [if_neg (by rw [h]; decide), if_pos h, h1, h2]
theorem rp_white {w : List (List UInt8)} {x : List UInt8} (h : wAt w 0 = kWhite) (h1 : wAt w 1 = x) : rpR w = ((4, x, [], 0, false, ()), true) := by
 unfold rpR; rw [if_neg (by rw [h]; decide), if_neg (by rw [h]; decide), if_pos h, h1]
theorem rp_dir {w : List (List UInt8)} {x x2 k : List UInt8} (hk : wAt w 0 = k) (n1 : ¬ k = kFile) (n2 : ¬ k = kLink) (n3 : ¬ k = kWhite) (h1 : wAt w 1 = x) (h2 : wAt w 2 = x2) : rpR w = ((3, x, [], numS x2, decide (k = kOpq), ()), numO x2) := by
 unfold rpR; rw [hk, if_neg n1, if_neg n2, if_neg n3, h1, h2]
theorem nw_other {k : List UInt8} (n1 : ¬ k = kFile) (n2 : ¬ k = kLink) (n3 : ¬ k = kWhite) : nW k = 3 ∨ nW k = 0 := by
 unfold nW
 rw [if_neg n1]
 by_cases h : k = kLink ∨ k = kDir ∨ k = kOpq
 · rw [if_pos h]; exact .inl rfl
 · rw [if_neg h, if_neg n3]; exact .inr rfl
theorem read_no {w : List (List UInt8)} (h : w = [] ∨ ¬ w.length = nW (wAt w 0)) : rec0 = readR w /\ false = readO w := by
 unfold readR readO; rw [if_pos h, if_pos h]; exact ⟨rfl, rfl⟩
theorem read_yes {w : List (List UInt8)} (h1 : ¬ w = []) (h2 : w.length = nW (wAt w 0)) : (rpR w).1 = readR w /\ ((rpR w).2 && decide (recFault (rpR w).1 = 0)) = readO w := by
 have h : ¬ (w = [] ∨ ¬ w.length = nW (wAt w 0)) := fun h => h.elim h1 (fun h => h h2)
 unfold readR readO; rw [if_neg h, if_neg h]; exact ⟨rfl, rfl⟩
theorem rp_path {w : List (List UInt8)} : (rpR w).1.2.1 = wAt w 1 := by
 unfold rpR; split
 · rfl
 · split
   · rfl
   · split <;> rfl
end Go.Fn
namespace Go.Fn
open Go.Ab
def recP (w : List (List UInt8)) : Rec :=
 if wAt w 0 = kFile /\ w.length = 4 then (1, wAt w 1, bodyW (wAt w 3), 0, false, ())
 else if wAt w 0 = kLink /\ w.length = 3 then (2, wAt w 1, bodyW (wAt w 2), 0, false, ())
 else if wAt w 0 = kWhite then (4, wAt w 1, [], 0, false, ())
 else if wAt w 0 = kDir ∨ wAt w 0 = kOpq then (3, wAt w 1, [], 0, decide (wAt w 0 = kOpq), ())
 else (0, wAt w 1, [], 0, false, ())
def fileB (w : List (List UInt8)) : Bool := decide (wAt w 0 = kFile /\ w.length = 4)
def linkB (w : List (List UInt8)) : Bool := decide (wAt w 0 = kLink /\ w.length = 3)
def dirB2 (w : List (List UInt8)) : Bool := decide (wAt w 0 = kDir ∨ wAt w 0 = kOpq)
def modeB (w : List (List UInt8)) : Bool := decide (((recP w).1 = 1 ∨ (recP w).1 = 3) /\ 2 < w.length)
theorem recP_file {w : List (List UInt8)} (h : fileB w = true) : recP w = (1, wAt w 1, bodyW (wAt w 3), 0, false, ()) := by unfold recP; rw [if_pos (of_decide_eq_true h)]
theorem recP_link {w : List (List UInt8)} (h1 : fileB w = false) (h : linkB w = true) : recP w = (2, wAt w 1, bodyW (wAt w 2), 0, false, ()) := by unfold recP; rw [if_neg (of_decide_eq_false h1), if_pos (of_decide_eq_true h)]
theorem recP_white {w : List (List UInt8)} (h1 : fileB w = false) (h2 : linkB w = false) (h : wAt w 0 = kWhite) : recP w = (4, wAt w 1, [], 0, false, ()) := by unfold recP; rw [if_neg (of_decide_eq_false h1), if_neg (of_decide_eq_false h2), if_pos h]
theorem recP_dir {w : List (List UInt8)} (h1 : fileB w = false) (h2 : linkB w = false) (h3 : ¬ wAt w 0 = kWhite) (h : dirB2 w = true) : recP w = (3, wAt w 1, [], 0, decide (wAt w 0 = kOpq), ()) := by unfold recP; rw [if_neg (of_decide_eq_false h1), if_neg (of_decide_eq_false h2), if_neg h3, if_pos (of_decide_eq_true h)]
theorem recP_none {w : List (List UInt8)} (h1 : fileB w = false) (h2 : linkB w = false) (h3 : ¬ wAt w 0 = kWhite) (h : dirB2 w = false) : recP w = (0, wAt w 1, [], 0, false, ()) := by unfold recP; rw [if_neg (of_decide_eq_false h1), if_neg (of_decide_eq_false h2), if_neg h3, if_neg (of_decide_eq_false h)]
theorem recL_p {w : List (List UInt8)} (h : ((recP w).1 = 1 ∨ (recP w).1 = 3) /\ 2 < w.length) : recL w = ((recP w).1, (recP w).2.1, (recP w).2.2.1, atoiV (wAt w 2), (recP w).2.2.2.2.1, ()) := by
 obtain ⟨hk, hl⟩ := h
 unfold recP at hk ⊢
 unfold recL
 split
 · rfl
 · rename_i n1
   rw [if_neg n1] at hk
   split
   · rename_i n2
     rw [if_pos n2] at hk
     exact absurd hk (by simp)
   · rename_i n2
     rw [if_neg n2] at hk
     split
     · rename_i n3
       rw [if_pos n3] at hk
       exact absurd hk (by simp)
     · rename_i n3
       rw [if_neg n3] at hk
       split
       · first | rfl | rw [if_pos hl]
       · rename_i n4
         rw [if_neg n4] at hk
         exact absurd hk (by simp)
theorem recL_n {w : List (List UInt8)} (h : ¬ (((recP w).1 = 1 ∨ (recP w).1 = 3) /\ 2 < w.length)) : recL w = recP w := by
 unfold recP at h ⊢
 unfold recL
 split
 · rename_i n1
   rw [if_pos n1] at h
   exact absurd ⟨.inl rfl, by omega⟩ h
 · rename_i n1
   rw [if_neg n1] at h
   split
   · rfl
   · rename_i n2
     rw [if_neg n2] at h
     split
     · rfl
     · rename_i n3
       rw [if_neg n3] at h
       split
       · rename_i n4
         rw [if_pos n4] at h
         rw [if_neg (fun hl => h ⟨.inr rfl, hl⟩)]
       · rfl
theorem recL_mode {w : List (List UInt8)} (h : modeB w = true) : recL w = ((recP w).1, (recP w).2.1, (recP w).2.2.1, atoiV (wAt w 2), (recP w).2.2.2.2.1, ()) := recL_p (of_decide_eq_true h)
theorem recL_bare {w : List (List UInt8)} (h : modeB w = false) : recL w = recP w := recL_n (of_decide_eq_false h)
theorem recP_path (w : List (List UInt8)) : (recP w).2.1 = wAt w 1 := by
 unfold recP
 split
 · rfl
 · split
   · rfl
   · split
     · rfl
     · split <;> rfl
def lenW (l : List (List UInt8)) : Nat := (l.map (fun x => x.length + 1)).sum
theorem split_lenW (c : UInt8) : ∀ t : List UInt8, lenW (split c t) = t.length + 1
 | [] => rfl
 | x :: r => by
   have ih := split_lenW c r
   unfold split
   split
   · show lenW ([] :: split c r) = _
     unfold lenW at ih ⊢
     rw [List.map_cons, List.sum_cons, ih]; simp; omega
   · cases hs : split c r with
     | nil => have := split_pos c r; rw [hs] at this; cases this
     | cons y ys =>
       rw [hs] at ih
       unfold lenW at ih ⊢
       simp only [List.map_cons, List.sum_cons, List.length_cons] at ih ⊢
       omega
theorem filter_lenW (p : List UInt8 -> Bool) : ∀ l : List (List UInt8), lenW (l.filter p) <= lenW l
 | [] => Nat.le_refl _
 | x :: r => by
   have ih := filter_lenW p r
   unfold lenW at ih ⊢
   rw [List.filter_cons]
   split
   · simp only [List.map_cons, List.sum_cons]; omega
   · simp only [List.map_cons, List.sum_cons]; omega
theorem join_lenW : ∀ l : List (List UInt8), (joinS l [32]).length <= lenW l
 | [] => by simp [joinS, Lib.join, List.intercalate]
 | [x] => by simp [lenW, joinS, Lib.join, List.intercalate, List.intersperse]
 | x :: y :: r => by
   have ih := join_lenW (y :: r)
   rw [joinS_cons2, List.length_append, List.length_cons]
   unfold lenW at ih ⊢
   rw [List.map_cons, List.sum_cons]
   omega
theorem len_lenW : ∀ l : List (List UInt8), l.length <= lenW l
 | [] => Nat.le_refl _
 | x :: r => by
   have ih := len_lenW r
   unfold lenW at ih ⊢
   rw [List.map_cons, List.sum_cons, List.length_cons]; omega
theorem wordsS_lenW (t : List UInt8) : lenW (wordsS t) <= t.length + 1 := by
 unfold wordsS
 exact Nat.le_trans (filter_lenW _ _) (Nat.le_of_eq (split_lenW 32 t))
theorem joinS_small {t : List UInt8} (h : t.length <= 65536) : (joinS (wordsS t) [32]).length <= 100000000 := by
 have h1 := join_lenW (wordsS t)
 have h2 := wordsS_lenW t
 omega
theorem wordsS_len {t : List UInt8} (h : t.length <= 65536) : (wordsS t).length <= 100000000 := by
 have h1 := len_lenW (wordsS t)
 have h2 := wordsS_lenW t
 omega
end Go.Fn
namespace Go.Proofs.YtkdnelaoagmeaaaDoor
open Go.Ab Go.Fn
def s_l14Read : FSpec := { ps := [.v (.slice .str)], rs := [.v tRec, .v .bool], pre := fun x => ∀ w, w ∈ x.1 -> List.length (α := UInt8) w <= 65536, fn := fun x => (Fn.readR x.1, Fn.readO x.1, ()), upd := fun _ => () }
def J_l14Read (w : List (List UInt8)) : LoopAnn := { ι := Unit, inv := fun _ => True, slots := fun _ => [(5, .d .bool (Fn.rpR w).2)], objs := fun _ => [(1, .box (cellsOf tRec (Fn.rpR w).1))], μ := fun _ => 0 }
theorem fo_l14Read : FO 7 s_l14Read := by
 refine fo (specs := [(11, s_nW), (12, s_numb), (13, s_unhex), (14, s_recOK)]) (clos := []) (fun x => [(3000000, .lv [2, 3, 4, 5] <| fun _ => J_l14Read x.1)]) ⟨fo_l14Words, fo_l00Number, fo_l14Unhex, fo_l02OK, trivial⟩ trivial Tryd.func7 rfl rfl ?_
 rintro ⟨w, ⟨⟩⟩ hl
 refine vcOf (fits (lenL w) -> ((iOf (lenL w) == (0 : Int)) = false -> fits (lenL w) -> bnd (0 : Int) (lenL w) /\ ∀ (x : List UInt8), nthI w (0 : Int) = some x -> 1 <= 1 /\ true = true /\ True /\ ((iOf (lenL w) != Int.ofNat (nW x)) = true -> 5 <= 5 /\ (((0 : (Ty.int .i64).den), ([] : List UInt8), ([] : List UInt8), (0 : (Ty.int .i64).den), false, ()), false, ()) = (readR w, readO w, ()) /\ () = ()) /\ ((iOf (lenL w) != Int.ofNat (nW x)) = false -> bnd (1 : Int) (lenL w) /\ ∀ (x : List UInt8), nthI w (1 : Int) = some x -> 1 <= 1 /\ 5 <= 5 /\ bnd (0 : Int) (lenL w) /\ ∀ (x_1 : List UInt8), nthI w (0 : Int) = some x_1 -> 1 <= 1 /\ (((x_1 == ([102, 105, 108, 101] : List UInt8)) = true -> 1 <= Nat.succ (4) /\ bnd (2 : Int) (lenL w) /\ ∀ (x_2 : List UInt8), nthI w (2 : Int) = some x_2 -> 1 <= 1 /\ true = true /\ x_2.length <= (65536 : Nat) /\ 4 <= Nat.succ (4) /\ bnd (3 : Int) (lenL w) /\ ∀ (x_3 : List UInt8), nthI w (3 : Int) = some x_3 -> 1 <= 1 /\ true = true /\ x_3.length <= (65536 : Nat) /\ 3 <= (5) /\ (numO x_2 = true -> ∃ (i : Unit), True /\ ((0 = 0 /\ (0 : Nat) = 0) /\ false = false /\ (1 = 1 /\ (0 : Nat) = 0) /\ unO x_3 = (rpR w).snd /\ True) /\ (((0 : (Ty.int .i64).den) = (0 : (Ty.int .i64).den) /\ ([] : List UInt8) = ([] : List UInt8) /\ ([] : List UInt8) = ([] : List UInt8) /\ (0 : (Ty.int .i64).den) = (0 : (Ty.int .i64).den) /\ false = false /\ True) /\ ((1 : Int) = (rpR w).fst.fst /\ x = (rpR w).fst.snd.fst /\ unS x_3 = (rpR w).fst.snd.snd.fst /\ numS x_2 = (rpR w).fst.snd.snd.snd.fst /\ false = (rpR w).fst.snd.snd.snd.snd.fst /\ True) /\ True) /\ True) /\ (numO x_2 = false -> ∃ (i : Unit), True /\ ((0 = 0 /\ (0 : Nat) = 0) /\ false = false /\ (1 = 1 /\ (0 : Nat) = 0) /\ false = (rpR w).snd /\ True) /\ (((0 : (Ty.int .i64).den) = (0 : (Ty.int .i64).den) /\ ([] : List UInt8) = ([] : List UInt8) /\ ([] : List UInt8) = ([] : List UInt8) /\ (0 : (Ty.int .i64).den) = (0 : (Ty.int .i64).den) /\ false = false /\ True) /\ ((1 : Int) = (rpR w).fst.fst /\ x = (rpR w).fst.snd.fst /\ unS x_3 = (rpR w).fst.snd.snd.fst /\ numS x_2 = (rpR w).fst.snd.snd.snd.fst /\ false = (rpR w).fst.snd.snd.snd.snd.fst /\ True) /\ True) /\ True)) /\ ((x_1 == ([102, 105, 108, 101] : List UInt8)) = false -> ((x_1 == ([108, 105, 110, 107] : List UInt8)) = true -> 1 <= Nat.succ (4) /\ bnd (2 : Int) (lenL w) /\ ∀ (x_2 : List UInt8), nthI w (2 : Int) = some x_2 -> 1 <= 1 /\ true = true /\ x_2.length <= (65536 : Nat) /\ 3 <= Nat.succ (4) /\ ∃ (i : Unit), True /\ ((0 = 0 /\ (0 : Nat) = 0) /\ false = false /\ (1 = 1 /\ (0 : Nat) = 0) /\ unO x_2 = (rpR w).snd /\ True) /\ (((0 : (Ty.int .i64).den) = (0 : (Ty.int .i64).den) /\ ([] : List UInt8) = ([] : List UInt8) /\ ([] : List UInt8) = ([] : List UInt8) /\ (0 : (Ty.int .i64).den) = (0 : (Ty.int .i64).den) /\ false = false /\ True) /\ ((2 : Int) = (rpR w).fst.fst /\ x = (rpR w).fst.snd.fst /\ unS x_2 = (rpR w).fst.snd.snd.fst /\ (0 : (Ty.int .i64).den) = (rpR w).fst.snd.snd.snd.fst /\ false = (rpR w).fst.snd.snd.snd.snd.fst /\ True) /\ True) /\ True) /\ ((x_1 == ([108, 105, 110, 107] : List UInt8)) = false -> ((x_1 == ([119, 104, 105, 116, 101] : List UInt8)) = true -> 1 <= Nat.succ (4) /\ ∃ (i : Unit), True /\ ((0 = 0 /\ (0 : Nat) = 0) /\ false = false /\ (1 = 1 /\ (0 : Nat) = 0) /\ true = (rpR w).snd /\ True) /\ (((0 : (Ty.int .i64).den) = (0 : (Ty.int .i64).den) /\ ([] : List UInt8) = ([] : List UInt8) /\ ([] : List UInt8) = ([] : List UInt8) /\ (0 : (Ty.int .i64).den) = (0 : (Ty.int .i64).den) /\ false = false /\ True) /\ ((4 : Int) = (rpR w).fst.fst /\ x = (rpR w).fst.snd.fst /\ ([] : List UInt8) = (rpR w).fst.snd.snd.fst /\ (0 : (Ty.int .i64).den) = (rpR w).fst.snd.snd.snd.fst /\ false = (rpR w).fst.snd.snd.snd.snd.fst /\ True) /\ True) /\ True) /\ ((x_1 == ([119, 104, 105, 116, 101] : List UInt8)) = false -> 1 <= Nat.succ (4) /\ bnd (0 : Int) (lenL w) /\ ∀ (x_2 : List UInt8), nthI w (0 : Int) = some x_2 -> 1 <= 1 /\ 5 <= Nat.succ (4) /\ bnd (2 : Int) (lenL w) /\ ∀ (x_3 : List UInt8), nthI w (2 : Int) = some x_3 -> 1 <= 1 /\ true = true /\ x_3.length <= (65536 : Nat) /\ 4 <= (5) /\ ∃ (i : Unit), True /\ ((0 = 0 /\ (0 : Nat) = 0) /\ false = false /\ (1 = 1 /\ (0 : Nat) = 0) /\ numO x_3 = (rpR w).snd /\ True) /\ (((0 : (Ty.int .i64).den) = (0 : (Ty.int .i64).den) /\ ([] : List UInt8) = ([] : List UInt8) /\ ([] : List UInt8) = ([] : List UInt8) /\ (0 : (Ty.int .i64).den) = (0 : (Ty.int .i64).den) /\ false = false /\ True) /\ ((3 : Int) = (rpR w).fst.fst /\ x = (rpR w).fst.snd.fst /\ ([] : List UInt8) = (rpR w).fst.snd.snd.fst /\ numS x_3 = (rpR w).fst.snd.snd.snd.fst /\ (x_2 == ([111, 112, 97, 113, 117, 101] : List UInt8)) = (rpR w).fst.snd.snd.snd.snd.fst /\ True) /\ True) /\ True)))) /\ ∀ (i : Unit), True -> 5 <= (5) /\ ((rpR w).snd = true -> 5 <= (5) /\ true = true /\ (rpR w).fst.snd.fst.length <= (100000000 : Nat) /\ 5 <= 5 /\ (((rpR w).fst.fst, (rpR w).fst.snd.fst, (rpR w).fst.snd.snd.fst, (rpR w).fst.snd.snd.snd.fst, (rpR w).fst.snd.snd.snd.snd.fst, ()), decide (recFault ((rpR w).fst.fst, (rpR w).fst.snd.fst, (rpR w).fst.snd.snd.fst, (rpR w).fst.snd.snd.snd.fst, (rpR w).fst.snd.snd.snd.snd.fst, ()) = (0 : Int)), ()) = (readR w, readO w, ()) /\ () = ()) /\ ((rpR w).snd = false -> 5 <= 5 /\ (((rpR w).fst.fst, (rpR w).fst.snd.fst, (rpR w).fst.snd.snd.fst, (rpR w).fst.snd.snd.snd.fst, (rpR w).fst.snd.snd.snd.snd.fst, ()), false, ()) = (readR w, readO w, ()) /\ () = ()))) /\ ((iOf (lenL w) == (0 : Int)) = true -> 5 <= 5 /\ (((0 : (Ty.int .i64).den), ([] : List UInt8), ([] : List UInt8), (0 : (Ty.int .i64).den), false, ()), false, ()) = (readR w, readO w, ()) /\ () = ())) (by kernel_rfl) ?_
 simp only [NS, eq_self, ne_eq, forall_const, implies_true, Nat.reduceAdd, Nat.reduceLeDiff, nz, Int.reduceEq, Nat.reduceEqDiff, reduceCtorEq]; try simp only [lenL]
 have hl : ∀ v, v ∈ w -> List.length (α := UInt8) v <= 65536 := hl
 have L : ∀ (k : Nat) (x : List UInt8), w[k]? = some x -> Fn.wAt w k = x /\ x.length <= 65536 := fun k x h => ⟨wat h, hl x (List.mem_of_getElem? h)⟩
 refine fun hf => ⟨fun h0 _ => ?_, fun h0 => read_no (.inl (List.eq_nil_of_length_eq_zero (Int.ofNat.inj h0)))⟩
 have hne : ¬ w = [] := fun e => h0 (by rw [e]; rfl)
 have hpos : 0 < List.length w := List.length_pos_iff.2 hne
 have B : ∀ k : Nat, k < List.length w -> bnd (Int.ofNat k) (List.length w) := fun k hk => bnd_nat hk
 refine ⟨B 0 hpos, fun k hk => ?_⟩
 obtain ⟨ek, -⟩ := L 0 k hk
 refine ⟨fun hn => read_no (.inr fun e => hn (by rw [e, ek]; rfl)), fun hn => ?_⟩
 have hn : List.length w = Fn.nW k := Int.ofNat.inj hn
 have h2 : 2 <= List.length w := by
   have hp := hpos
   rw [hn] at hp ⊢
   revert hp
   unfold Fn.nW
   split
   · intro _; decide
   · split
     · intro _; decide
     · split
       · intro _; decide
       · intro h; cases h
 refine ⟨B 1 h2, fun x hx => ⟨B 0 hpos, fun k2 hk2 => ?_⟩⟩
 obtain ⟨e1, hxl⟩ := L 1 x hx
 obtain rfl : k = k2 := Option.some.inj (hk.symm.trans hk2)
 obtain ⟨r1, r2⟩ := read_yes hne (by rw [ek]; exact hn)
 refine ⟨⟨fun hF => ?_, fun nF => ⟨fun hL => ?_, fun nL => ⟨fun hW => ?_, fun nW => ?_⟩⟩⟩, fun ho => ⟨by rw [rp_path, e1]; omega, r1, by rw [<- r2, ho]; rfl⟩, fun ho => ⟨r1, by rw [<- r2, ho]; rfl⟩⟩
 · have h4 : List.length w = 4 := by rw [hn, hF]; rfl
   refine ⟨B 2 (by omega), fun x2 hx2 => ?_⟩
   obtain ⟨e2, l2⟩ := L 2 x2 hx2
   refine ⟨l2, B 3 (by omega), fun x3 hx3 => ?_⟩
   obtain ⟨e3, l3⟩ := L 3 x3 hx3
   rw [rp_file (ek.trans hF) e1 e2 e3]
   exact ⟨l3, fun h => ⟨⟨⟩, by rw [h]; rfl, rfl, rfl, rfl, rfl, rfl⟩, fun h => ⟨⟨⟩, by rw [h]; rfl, rfl, rfl, rfl, rfl, rfl⟩⟩
 · have h4 : List.length w = 3 := by rw [hn, hL]; rfl
   refine ⟨B 2 (by omega), fun x2 hx2 => ?_⟩
   obtain ⟨e2, l2⟩ := L 2 x2 hx2
   rw [rp_link (ek.trans hL) e1 e2]
   exact ⟨l2, ⟨⟩, rfl, rfl, rfl, rfl, rfl, rfl⟩
 · rw [rp_white (ek.trans hW) e1]
   exact ⟨⟨⟩, rfl, rfl, rfl, rfl, rfl, rfl⟩
 · have h3 : List.length w = 3 := by
     rcases nw_other nF nL nW with h | h
     · rw [hn, h]
     · omega
   refine ⟨B 0 hpos, fun k2 hk2 => ⟨B 2 (by omega), fun x2 hx2 => ?_⟩⟩
   obtain rfl : k = k2 := Option.some.inj (hk.symm.trans hk2)
   obtain ⟨e2, l2⟩ := L 2 x2 hx2
   rw [rp_dir ek nF nL nW e1 e2]
   exact ⟨l2, ⟨⟩, rfl, rfl, rfl, rfl, rfl, beq_dec _ _⟩
end Go.Proofs.YtkdnelaoagmeaaaDoor
namespace Go.Proofs.YtkdnelaoagmeaaaDoor
open Go.Ab Go.Fn
def s_recOf : FSpec := { ps := [.v .str], rs := [.v tRec, .v .bool], pre := fun x => List.length (α := UInt8) x.1 <= 65536, fn := fun x => (if 2 <= (Fn.wordsS x.1).length then Fn.recL (Fn.wordsS x.1) else Fn.rec0, Fn.laxB (Fn.wordsS x.1), ()), upd := fun _ => () }
def J_recordOf (w : List (List UInt8)) : LoopAnn := { ι := Unit, inv := fun _ => True, slots := fun _ => [], objs := fun _ => [(1, .box (cellsOf tRec (Fn.recP w)))], μ := fun _ => 0 }
theorem fl_recordOf : FL 10 s_recOf := by
 refine foL (specs := [(17, s_wordsV), (18, s_bodyOf), (19, s_atoi), (20, s_recOK), (21, s_recT), (22, s_Join)]) (clos := []) (fun x => [(1000005, .lv [2, 4, 5, 6, 19] <| .ofCut fun _ => [(19, .d .bool (Fn.fileB (Fn.wordsS x.1)))]), (1000007, .lv [2, 4, 5, 6, 35] <| .ofCut fun _ => [(35, .d .bool (Fn.linkB (Fn.wordsS x.1)))]), (1000011, .lv [2, 4, 5, 6, 57] <| .ofCut fun _ => [(57, .d .bool (Fn.dirB2 (Fn.wordsS x.1)))]), (1000013, .lv [2, 4, 5, 6, 86] <| .ofCut fun _ => [(86, .d .bool (Fn.modeB (Fn.wordsS x.1)))]), (3000000, .lv [2, 4, 5, 6] <| fun _ => J_recordOf (Fn.wordsS x.1))]) ⟨toL fo_wordsOf, toL fo_bodyOf, fl_Atoi, toL fo_RecordOK, tL ft_recordText, toL fo_Join, trivial⟩ trivial Tryd.func10 rfl rfl ?_
 rintro ⟨t, ⟨⟩⟩ hl
 refine vcOf (true = true /\ List.length t <= (65536 : Nat) /\ (fits (lenL (wordsS t)) -> (decide (iOf (lenL (wordsS t)) < (2 : Int)) = true -> 5 <= 5 /\ (((0 : (Ty.int .i64).den), ([] : List UInt8), ([] : List UInt8), (0 : (Ty.int .i64).den), false, ()), false, ()) = (if (2 : Nat) <= (wordsS t).length then recL (wordsS t) else rec0, laxB (wordsS t), ()) /\ () = ()) /\ (decide (iOf (lenL (wordsS t)) < (2 : Int)) = false -> bnd (1 : Int) (lenL (wordsS t)) /\ ∀ (x : List UInt8), nthI (wordsS t) (1 : Int) = some x -> 1 <= 1 /\ boundLo (2 : Int) (lenL (wordsS t)) /\ 5 <= 5 /\ ((bnd (0 : Int) (lenL (wordsS t)) /\ ∀ (x_1 : List UInt8), nthI (wordsS t) (0 : Int) = some x_1 -> 1 <= 1 /\ ((x_1 == ([102, 105, 108, 101] : List UInt8)) = true -> fits (lenL (subL (wordsS t) (tN (2 : Int)) (lenL (wordsS t)))) -> ((0 = 0 /\ (0 : Nat) = 0) /\ wordsS t = wordsS t /\ (1 = 1 /\ (0 : Nat) = 0) /\ subL (wordsS t) (tN (2 : Int)) (lenL (wordsS t)) = subL (wordsS t) (tN (2 : Int)) (lenL (wordsS t)) /\ (iOf (lenL (subL (wordsS t) (tN (2 : Int)) (lenL (wordsS t)))) == (2 : Int)) = fileB (wordsS t) /\ True) /\ (((0 : (Ty.int .i64).den) = (0 : (Ty.int .i64).den) /\ ([] : List UInt8) = ([] : List UInt8) /\ ([] : List UInt8) = ([] : List UInt8) /\ (0 : (Ty.int .i64).den) = (0 : (Ty.int .i64).den) /\ false = false /\ True) /\ ((0 : (Ty.int .i64).den) = (0 : (Ty.int .i64).den) /\ x = x /\ ([] : List UInt8) = ([] : List UInt8) /\ (0 : (Ty.int .i64).den) = (0 : (Ty.int .i64).den) /\ false = false /\ True) /\ True) /\ True) /\ ((x_1 == ([102, 105, 108, 101] : List UInt8)) = false -> ((0 = 0 /\ (0 : Nat) = 0) /\ wordsS t = wordsS t /\ (1 = 1 /\ (0 : Nat) = 0) /\ subL (wordsS t) (tN (2 : Int)) (lenL (wordsS t)) = subL (wordsS t) (tN (2 : Int)) (lenL (wordsS t)) /\ false = fileB (wordsS t) /\ True) /\ (((0 : (Ty.int .i64).den) = (0 : (Ty.int .i64).den) /\ ([] : List UInt8) = ([] : List UInt8) /\ ([] : List UInt8) = ([] : List UInt8) /\ (0 : (Ty.int .i64).den) = (0 : (Ty.int .i64).den) /\ false = false /\ True) /\ ((0 : (Ty.int .i64).den) = (0 : (Ty.int .i64).den) /\ x = x /\ ([] : List UInt8) = ([] : List UInt8) /\ (0 : (Ty.int .i64).den) = (0 : (Ty.int .i64).den) /\ false = false /\ True) /\ True) /\ True)) /\ (fileB (wordsS t) = true -> bnd (1 : Int) (lenL (subL (wordsS t) (tN (2 : Int)) (lenL (wordsS t)))) /\ ∀ (x_1 : List UInt8), nthI (subL (wordsS t) (tN (2 : Int)) (lenL (wordsS t))) (1 : Int) = some x_1 -> 1 <= 1 /\ true = true /\ x_1.length <= (65536 : Nat) /\ 1 <= Nat.succ (4) /\ 3 <= Nat.succ (4) /\ ∃ (i : Unit), True /\ ((0 = 0 /\ (0 : Nat) = 0) /\ wordsS t = wordsS t /\ (1 = 1 /\ (0 : Nat) = 0) /\ subL (wordsS t) (tN (2 : Int)) (lenL (wordsS t)) = subL (wordsS t) (tN (2 : Int)) (lenL (wordsS t)) /\ True) /\ (((0 : (Ty.int .i64).den) = (0 : (Ty.int .i64).den) /\ ([] : List UInt8) = ([] : List UInt8) /\ ([] : List UInt8) = ([] : List UInt8) /\ (0 : (Ty.int .i64).den) = (0 : (Ty.int .i64).den) /\ false = false /\ True) /\ ((1 : Int) = (recP (wordsS t)).fst /\ x = (recP (wordsS t)).snd.fst /\ bodyW x_1 = (recP (wordsS t)).snd.snd.fst /\ (0 : (Ty.int .i64).den) = (recP (wordsS t)).snd.snd.snd.fst /\ false = (recP (wordsS t)).snd.snd.snd.snd.fst /\ True) /\ True) /\ True) /\ (fileB (wordsS t) = false -> (bnd (0 : Int) (lenL (wordsS t)) /\ ∀ (x_1 : List UInt8), nthI (wordsS t) (0 : Int) = some x_1 -> 1 <= 1 /\ ((x_1 == ([108, 105, 110, 107] : List UInt8)) = true -> fits (lenL (subL (wordsS t) (tN (2 : Int)) (lenL (wordsS t)))) -> ((0 = 0 /\ (0 : Nat) = 0) /\ wordsS t = wordsS t /\ (1 = 1 /\ (0 : Nat) = 0) /\ subL (wordsS t) (tN (2 : Int)) (lenL (wordsS t)) = subL (wordsS t) (tN (2 : Int)) (lenL (wordsS t)) /\ (iOf (lenL (subL (wordsS t) (tN (2 : Int)) (lenL (wordsS t)))) == (1 : Int)) = linkB (wordsS t) /\ True) /\ (((0 : (Ty.int .i64).den) = (0 : (Ty.int .i64).den) /\ ([] : List UInt8) = ([] : List UInt8) /\ ([] : List UInt8) = ([] : List UInt8) /\ (0 : (Ty.int .i64).den) = (0 : (Ty.int .i64).den) /\ false = false /\ True) /\ ((0 : (Ty.int .i64).den) = (0 : (Ty.int .i64).den) /\ x = x /\ ([] : List UInt8) = ([] : List UInt8) /\ (0 : (Ty.int .i64).den) = (0 : (Ty.int .i64).den) /\ false = false /\ True) /\ True) /\ True) /\ ((x_1 == ([108, 105, 110, 107] : List UInt8)) = false -> ((0 = 0 /\ (0 : Nat) = 0) /\ wordsS t = wordsS t /\ (1 = 1 /\ (0 : Nat) = 0) /\ subL (wordsS t) (tN (2 : Int)) (lenL (wordsS t)) = subL (wordsS t) (tN (2 : Int)) (lenL (wordsS t)) /\ false = linkB (wordsS t) /\ True) /\ (((0 : (Ty.int .i64).den) = (0 : (Ty.int .i64).den) /\ ([] : List UInt8) = ([] : List UInt8) /\ ([] : List UInt8) = ([] : List UInt8) /\ (0 : (Ty.int .i64).den) = (0 : (Ty.int .i64).den) /\ false = false /\ True) /\ ((0 : (Ty.int .i64).den) = (0 : (Ty.int .i64).den) /\ x = x /\ ([] : List UInt8) = ([] : List UInt8) /\ (0 : (Ty.int .i64).den) = (0 : (Ty.int .i64).den) /\ false = false /\ True) /\ True) /\ True)) /\ (linkB (wordsS t) = true -> bnd (0 : Int) (lenL (subL (wordsS t) (tN (2 : Int)) (lenL (wordsS t)))) /\ ∀ (x_1 : List UInt8), nthI (subL (wordsS t) (tN (2 : Int)) (lenL (wordsS t))) (0 : Int) = some x_1 -> 1 <= 1 /\ true = true /\ x_1.length <= (65536 : Nat) /\ 1 <= Nat.succ (4) /\ 3 <= Nat.succ (4) /\ ∃ (i : Unit), True /\ ((0 = 0 /\ (0 : Nat) = 0) /\ wordsS t = wordsS t /\ (1 = 1 /\ (0 : Nat) = 0) /\ subL (wordsS t) (tN (2 : Int)) (lenL (wordsS t)) = subL (wordsS t) (tN (2 : Int)) (lenL (wordsS t)) /\ True) /\ (((0 : (Ty.int .i64).den) = (0 : (Ty.int .i64).den) /\ ([] : List UInt8) = ([] : List UInt8) /\ ([] : List UInt8) = ([] : List UInt8) /\ (0 : (Ty.int .i64).den) = (0 : (Ty.int .i64).den) /\ false = false /\ True) /\ ((2 : Int) = (recP (wordsS t)).fst /\ x = (recP (wordsS t)).snd.fst /\ bodyW x_1 = (recP (wordsS t)).snd.snd.fst /\ (0 : (Ty.int .i64).den) = (recP (wordsS t)).snd.snd.snd.fst /\ false = (recP (wordsS t)).snd.snd.snd.snd.fst /\ True) /\ True) /\ True) /\ (linkB (wordsS t) = false -> bnd (0 : Int) (lenL (wordsS t)) /\ ∀ (x_1 : List UInt8), nthI (wordsS t) (0 : Int) = some x_1 -> 1 <= 1 /\ ((x_1 == ([119, 104, 105, 116, 101] : List UInt8)) = true -> 1 <= Nat.succ (4) /\ ∃ (i : Unit), True /\ ((0 = 0 /\ (0 : Nat) = 0) /\ wordsS t = wordsS t /\ (1 = 1 /\ (0 : Nat) = 0) /\ subL (wordsS t) (tN (2 : Int)) (lenL (wordsS t)) = subL (wordsS t) (tN (2 : Int)) (lenL (wordsS t)) /\ True) /\ (((0 : (Ty.int .i64).den) = (0 : (Ty.int .i64).den) /\ ([] : List UInt8) = ([] : List UInt8) /\ ([] : List UInt8) = ([] : List UInt8) /\ (0 : (Ty.int .i64).den) = (0 : (Ty.int .i64).den) /\ false = false /\ True) /\ ((4 : Int) = (recP (wordsS t)).fst /\ x = (recP (wordsS t)).snd.fst /\ ([] : List UInt8) = (recP (wordsS t)).snd.snd.fst /\ (0 : (Ty.int .i64).den) = (recP (wordsS t)).snd.snd.snd.fst /\ false = (recP (wordsS t)).snd.snd.snd.snd.fst /\ True) /\ True) /\ True) /\ ((x_1 == ([119, 104, 105, 116, 101] : List UInt8)) = false -> (bnd (0 : Int) (lenL (wordsS t)) /\ ∀ (x_2 : List UInt8), nthI (wordsS t) (0 : Int) = some x_2 -> 1 <= 1 /\ ((x_2 == ([100, 105, 114] : List UInt8)) = false -> bnd (0 : Int) (lenL (wordsS t)) /\ ∀ (x_3 : List UInt8), nthI (wordsS t) (0 : Int) = some x_3 -> 1 <= 1 /\ ((0 = 0 /\ (0 : Nat) = 0) /\ wordsS t = wordsS t /\ (1 = 1 /\ (0 : Nat) = 0) /\ subL (wordsS t) (tN (2 : Int)) (lenL (wordsS t)) = subL (wordsS t) (tN (2 : Int)) (lenL (wordsS t)) /\ (x_3 == ([111, 112, 97, 113, 117, 101] : List UInt8)) = dirB2 (wordsS t) /\ True) /\ (((0 : (Ty.int .i64).den) = (0 : (Ty.int .i64).den) /\ ([] : List UInt8) = ([] : List UInt8) /\ ([] : List UInt8) = ([] : List UInt8) /\ (0 : (Ty.int .i64).den) = (0 : (Ty.int .i64).den) /\ false = false /\ True) /\ ((0 : (Ty.int .i64).den) = (0 : (Ty.int .i64).den) /\ x = x /\ ([] : List UInt8) = ([] : List UInt8) /\ (0 : (Ty.int .i64).den) = (0 : (Ty.int .i64).den) /\ false = false /\ True) /\ True) /\ True) /\ ((x_2 == ([100, 105, 114] : List UInt8)) = true -> ((0 = 0 /\ (0 : Nat) = 0) /\ wordsS t = wordsS t /\ (1 = 1 /\ (0 : Nat) = 0) /\ subL (wordsS t) (tN (2 : Int)) (lenL (wordsS t)) = subL (wordsS t) (tN (2 : Int)) (lenL (wordsS t)) /\ true = dirB2 (wordsS t) /\ True) /\ (((0 : (Ty.int .i64).den) = (0 : (Ty.int .i64).den) /\ ([] : List UInt8) = ([] : List UInt8) /\ ([] : List UInt8) = ([] : List UInt8) /\ (0 : (Ty.int .i64).den) = (0 : (Ty.int .i64).den) /\ false = false /\ True) /\ ((0 : (Ty.int .i64).den) = (0 : (Ty.int .i64).den) /\ x = x /\ ([] : List UInt8) = ([] : List UInt8) /\ (0 : (Ty.int .i64).den) = (0 : (Ty.int .i64).den) /\ false = false /\ True) /\ True) /\ True)) /\ (dirB2 (wordsS t) = true -> bnd (0 : Int) (lenL (wordsS t)) /\ ∀ (x_2 : List UInt8), nthI (wordsS t) (0 : Int) = some x_2 -> 1 <= 1 /\ 1 <= Nat.succ (4) /\ 5 <= Nat.succ (4) /\ ∃ (i : Unit), True /\ ((0 = 0 /\ (0 : Nat) = 0) /\ wordsS t = wordsS t /\ (1 = 1 /\ (0 : Nat) = 0) /\ subL (wordsS t) (tN (2 : Int)) (lenL (wordsS t)) = subL (wordsS t) (tN (2 : Int)) (lenL (wordsS t)) /\ True) /\ (((0 : (Ty.int .i64).den) = (0 : (Ty.int .i64).den) /\ ([] : List UInt8) = ([] : List UInt8) /\ ([] : List UInt8) = ([] : List UInt8) /\ (0 : (Ty.int .i64).den) = (0 : (Ty.int .i64).den) /\ false = false /\ True) /\ ((3 : Int) = (recP (wordsS t)).fst /\ x = (recP (wordsS t)).snd.fst /\ ([] : List UInt8) = (recP (wordsS t)).snd.snd.fst /\ (0 : (Ty.int .i64).den) = (recP (wordsS t)).snd.snd.snd.fst /\ (x_2 == ([111, 112, 97, 113, 117, 101] : List UInt8)) = (recP (wordsS t)).snd.snd.snd.snd.fst /\ True) /\ True) /\ True) /\ (dirB2 (wordsS t) = false -> ∃ (i : Unit), True /\ ((0 = 0 /\ (0 : Nat) = 0) /\ wordsS t = wordsS t /\ (1 = 1 /\ (0 : Nat) = 0) /\ subL (wordsS t) (tN (2 : Int)) (lenL (wordsS t)) = subL (wordsS t) (tN (2 : Int)) (lenL (wordsS t)) /\ True) /\ (((0 : (Ty.int .i64).den) = (0 : (Ty.int .i64).den) /\ ([] : List UInt8) = ([] : List UInt8) /\ ([] : List UInt8) = ([] : List UInt8) /\ (0 : (Ty.int .i64).den) = (0 : (Ty.int .i64).den) /\ false = false /\ True) /\ ((0 : (Ty.int .i64).den) = (recP (wordsS t)).fst /\ x = (recP (wordsS t)).snd.fst /\ ([] : List UInt8) = (recP (wordsS t)).snd.snd.fst /\ (0 : (Ty.int .i64).den) = (recP (wordsS t)).snd.snd.snd.fst /\ false = (recP (wordsS t)).snd.snd.snd.snd.fst /\ True) /\ True) /\ True))))) /\ ∀ (i : Unit), True -> (1 <= (5) /\ (((recP (wordsS t)).fst == (1 : Int)) = false -> 1 <= (5) /\ (((recP (wordsS t)).fst == (3 : Int)) = true -> fits (lenL (subL (wordsS t) (tN (2 : Int)) (lenL (wordsS t)))) -> ((0 = 0 /\ (0 : Nat) = 0) /\ wordsS t = wordsS t /\ (1 = 1 /\ (0 : Nat) = 0) /\ subL (wordsS t) (tN (2 : Int)) (lenL (wordsS t)) = subL (wordsS t) (tN (2 : Int)) (lenL (wordsS t)) /\ decide (iOf (lenL (subL (wordsS t) (tN (2 : Int)) (lenL (wordsS t)))) > (0 : Int)) = modeB (wordsS t) /\ True) /\ (((0 : (Ty.int .i64).den) = (0 : (Ty.int .i64).den) /\ ([] : List UInt8) = ([] : List UInt8) /\ ([] : List UInt8) = ([] : List UInt8) /\ (0 : (Ty.int .i64).den) = (0 : (Ty.int .i64).den) /\ false = false /\ True) /\ ((recP (wordsS t)).fst = (recP (wordsS t)).fst /\ (recP (wordsS t)).snd.fst = (recP (wordsS t)).snd.fst /\ (recP (wordsS t)).snd.snd.fst = (recP (wordsS t)).snd.snd.fst /\ (recP (wordsS t)).snd.snd.snd.fst = (recP (wordsS t)).snd.snd.snd.fst /\ (recP (wordsS t)).snd.snd.snd.snd.fst = (recP (wordsS t)).snd.snd.snd.snd.fst /\ True) /\ True) /\ True) /\ (((recP (wordsS t)).fst == (3 : Int)) = false -> ((0 = 0 /\ (0 : Nat) = 0) /\ wordsS t = wordsS t /\ (1 = 1 /\ (0 : Nat) = 0) /\ subL (wordsS t) (tN (2 : Int)) (lenL (wordsS t)) = subL (wordsS t) (tN (2 : Int)) (lenL (wordsS t)) /\ false = modeB (wordsS t) /\ True) /\ (((0 : (Ty.int .i64).den) = (0 : (Ty.int .i64).den) /\ ([] : List UInt8) = ([] : List UInt8) /\ ([] : List UInt8) = ([] : List UInt8) /\ (0 : (Ty.int .i64).den) = (0 : (Ty.int .i64).den) /\ false = false /\ True) /\ ((recP (wordsS t)).fst = (recP (wordsS t)).fst /\ (recP (wordsS t)).snd.fst = (recP (wordsS t)).snd.fst /\ (recP (wordsS t)).snd.snd.fst = (recP (wordsS t)).snd.snd.fst /\ (recP (wordsS t)).snd.snd.snd.fst = (recP (wordsS t)).snd.snd.snd.fst /\ (recP (wordsS t)).snd.snd.snd.snd.fst = (recP (wordsS t)).snd.snd.snd.snd.fst /\ True) /\ True) /\ True)) /\ (((recP (wordsS t)).fst == (1 : Int)) = true -> fits (lenL (subL (wordsS t) (tN (2 : Int)) (lenL (wordsS t)))) -> ((0 = 0 /\ (0 : Nat) = 0) /\ wordsS t = wordsS t /\ (1 = 1 /\ (0 : Nat) = 0) /\ subL (wordsS t) (tN (2 : Int)) (lenL (wordsS t)) = subL (wordsS t) (tN (2 : Int)) (lenL (wordsS t)) /\ decide (iOf (lenL (subL (wordsS t) (tN (2 : Int)) (lenL (wordsS t)))) > (0 : Int)) = modeB (wordsS t) /\ True) /\ (((0 : (Ty.int .i64).den) = (0 : (Ty.int .i64).den) /\ ([] : List UInt8) = ([] : List UInt8) /\ ([] : List UInt8) = ([] : List UInt8) /\ (0 : (Ty.int .i64).den) = (0 : (Ty.int .i64).den) /\ false = false /\ True) /\ ((recP (wordsS t)).fst = (recP (wordsS t)).fst /\ (recP (wordsS t)).snd.fst = (recP (wordsS t)).snd.fst /\ (recP (wordsS t)).snd.snd.fst = (recP (wordsS t)).snd.snd.fst /\ (recP (wordsS t)).snd.snd.snd.fst = (recP (wordsS t)).snd.snd.snd.fst /\ (recP (wordsS t)).snd.snd.snd.snd.fst = (recP (wordsS t)).snd.snd.snd.snd.fst /\ True) /\ True) /\ True)) /\ (modeB (wordsS t) = true -> bnd (0 : Int) (lenL (subL (wordsS t) (tN (2 : Int)) (lenL (wordsS t)))) /\ ∀ (x : List UInt8), nthI (subL (wordsS t) (tN (2 : Int)) (lenL (wordsS t))) (0 : Int) = some x -> 1 <= 1 /\ true = true /\ x.length <= (65536 : Nat) /\ 4 <= (5) /\ 5 <= (5) /\ 5 <= (5) /\ true = true /\ (recP (wordsS t)).snd.fst.length <= (100000000 : Nat) /\ (decide (recFault ((recP (wordsS t)).fst, (recP (wordsS t)).snd.fst, (recP (wordsS t)).snd.snd.fst, atoiV x, (recP (wordsS t)).snd.snd.snd.snd.fst, ()) = (0 : Int)) = true -> 5 <= (5) /\ true = true /\ recFault ((recP (wordsS t)).fst, (recP (wordsS t)).snd.fst, (recP (wordsS t)).snd.snd.fst, atoiV x, (recP (wordsS t)).snd.snd.snd.snd.fst, ()) = (0 : Int) /\ true = true /\ ((joinS (wordsS t) (([32] : List UInt8))).length <= (100000000 : Nat) /\ (wordsS t).length <= (100000000 : Nat)) /\ 5 <= 5 /\ (((recP (wordsS t)).fst, (recP (wordsS t)).snd.fst, (recP (wordsS t)).snd.snd.fst, atoiV x, (recP (wordsS t)).snd.snd.snd.snd.fst, ()), recT ((recP (wordsS t)).fst, (recP (wordsS t)).snd.fst, (recP (wordsS t)).snd.snd.fst, atoiV x, (recP (wordsS t)).snd.snd.snd.snd.fst, ()) == joinS (wordsS t) (([32] : List UInt8)), ()) = (if (2 : Nat) <= (wordsS t).length then recL (wordsS t) else rec0, laxB (wordsS t), ()) /\ () = ()) /\ (decide (recFault ((recP (wordsS t)).fst, (recP (wordsS t)).snd.fst, (recP (wordsS t)).snd.snd.fst, atoiV x, (recP (wordsS t)).snd.snd.snd.snd.fst, ()) = (0 : Int)) = false -> 5 <= 5 /\ (((recP (wordsS t)).fst, (recP (wordsS t)).snd.fst, (recP (wordsS t)).snd.snd.fst, atoiV x, (recP (wordsS t)).snd.snd.snd.snd.fst, ()), false, ()) = (if (2 : Nat) <= (wordsS t).length then recL (wordsS t) else rec0, laxB (wordsS t), ()) /\ () = ())) /\ (modeB (wordsS t) = false -> 5 <= (5) /\ 5 <= (5) /\ true = true /\ (recP (wordsS t)).snd.fst.length <= (100000000 : Nat) /\ (decide (recFault ((recP (wordsS t)).fst, (recP (wordsS t)).snd.fst, (recP (wordsS t)).snd.snd.fst, (recP (wordsS t)).snd.snd.snd.fst, (recP (wordsS t)).snd.snd.snd.snd.fst, ()) = (0 : Int)) = true -> 5 <= (5) /\ true = true /\ recFault ((recP (wordsS t)).fst, (recP (wordsS t)).snd.fst, (recP (wordsS t)).snd.snd.fst, (recP (wordsS t)).snd.snd.snd.fst, (recP (wordsS t)).snd.snd.snd.snd.fst, ()) = (0 : Int) /\ true = true /\ ((joinS (wordsS t) (([32] : List UInt8))).length <= (100000000 : Nat) /\ (wordsS t).length <= (100000000 : Nat)) /\ 5 <= 5 /\ (((recP (wordsS t)).fst, (recP (wordsS t)).snd.fst, (recP (wordsS t)).snd.snd.fst, (recP (wordsS t)).snd.snd.snd.fst, (recP (wordsS t)).snd.snd.snd.snd.fst, ()), recT ((recP (wordsS t)).fst, (recP (wordsS t)).snd.fst, (recP (wordsS t)).snd.snd.fst, (recP (wordsS t)).snd.snd.snd.fst, (recP (wordsS t)).snd.snd.snd.snd.fst, ()) == joinS (wordsS t) (([32] : List UInt8)), ()) = (if (2 : Nat) <= (wordsS t).length then recL (wordsS t) else rec0, laxB (wordsS t), ()) /\ () = ()) /\ (decide (recFault ((recP (wordsS t)).fst, (recP (wordsS t)).snd.fst, (recP (wordsS t)).snd.snd.fst, (recP (wordsS t)).snd.snd.snd.fst, (recP (wordsS t)).snd.snd.snd.snd.fst, ()) = (0 : Int)) = false -> 5 <= 5 /\ (((recP (wordsS t)).fst, (recP (wordsS t)).snd.fst, (recP (wordsS t)).snd.snd.fst, (recP (wordsS t)).snd.snd.snd.fst, (recP (wordsS t)).snd.snd.snd.snd.fst, ()), false, ()) = (if (2 : Nat) <= (wordsS t).length then recL (wordsS t) else rec0, laxB (wordsS t), ()) /\ () = ()))))) (by kernel_rfl) ?_
 simp only [NS, eq_self, ne_eq, forall_const, implies_true, Nat.reduceAdd, Nat.reduceLeDiff, nz, Int.reduceEq, Nat.reduceEqDiff, reduceCtorEq]; try simp only [lenL]
 have hl : List.length t <= 65536 := hl
 have WL : ∀ v, v ∈ Fn.wordsS t -> v.length <= 65536 := words_le hl
 have NL : (Fn.wordsS t).length <= 100000000 := wordsS_len hl
 have JL : (Fn.joinS (Fn.wordsS t) [32]).length <= 100000000 := joinS_small hl
 generalize Fn.wordsS t = w at *
 refine ⟨hl, fun hf => ⟨fun h => ?_, fun h => ?_⟩⟩
 · have h2 : ¬ 2 <= w.length := fun e => by have h : (w.length : Int) < 2 := h; omega
   rw [if_neg h2]
   exact ⟨rfl, (lax_one h2).symm⟩
 have h2 : 2 <= w.length := by
   have h : ¬ (w.length : Int) < 2 := h
   omega
 have L : ∀ (k : Nat) (x : List UInt8), w[k]? = some x -> Fn.wAt w k = x /\ x.length <= 65536 := fun k x h => ⟨wat h, WL x (List.mem_of_getElem? h)⟩
 have B : ∀ k : Nat, k < w.length -> bnd (Int.ofNat k) w.length := fun k hk => bnd_nat hk
 have S : subL w (tN (2 : Int)) w.length = w.drop 2 := sub_all
 have SL : (w.drop 2).length = w.length - 2 := List.length_drop
 have SG : ∀ k : Nat, nthI (w.drop 2) (Int.ofNat k) = w[2 + k]? := fun k => by show (w.drop 2)[k]? = _; rw [List.getElem?_drop]
 rw [if_pos h2]
 refine ⟨B 1 h2, fun x hx => ⟨⟨by decide, Int.ofNat_le.2 h2⟩, ?_⟩⟩
 obtain ⟨e1, l1⟩ := L 1 x hx
 have P1 : (Fn.recP w).2.1 = x := (recP_path w).trans e1
 simp only [S, SL]
 have iS : ∀ k : Nat, iOf (w.length - 2) = Int.ofNat k ↔ w.length = 2 + k := fun k => by
   unfold iOf
   constructor
   · intro e; have e := Int.ofNat.inj e; omega
   · intro e; rw [e]; congr 1; omega
 refine ⟨⟨⟨B 0 (by omega), fun k hk => ?_⟩, fun hF => ?_, fun nF => ⟨⟨B 0 (by omega), fun k hk => ?_⟩, fun hL => ?_, fun nL => ⟨B 0 (by omega), fun kw hkw => ⟨fun hW => ?_, fun nW => ⟨⟨B 0 (by omega), fun k hk => ?_⟩, fun hD => ⟨B 0 (by omega), fun k hk => ?_⟩, fun nD => ?_⟩⟩⟩⟩⟩, ?_, fun hm => ?_, fun hm => ?_⟩
 · obtain ⟨e0, -⟩ := L 0 k hk
   refine ⟨fun hh _ => ?_, fun hh => ?_⟩
   · unfold Fn.fileB
     rw [eqI_dec, decide_eq_decide, e0]
     exact ⟨fun h => ⟨hh, (iS 2).1 h⟩, fun h => (iS 2).2 h.2⟩
   · unfold Fn.fileB
     rw [decide_eq_false (fun hc => hh (e0 ▸ hc.1))]
 · have hc := of_decide_eq_true hF
   rw [recP_file hF]
   refine ⟨bnd_nat (k := 1) (by omega), fun x1 hx1 => ?_⟩
   obtain ⟨e3, l3⟩ := L 3 x1 ((SG 1).symm.trans hx1)
   exact ⟨l3, ⟨⟩, rfl, e1.symm, by rw [e3], rfl, rfl⟩
 · obtain ⟨e0, -⟩ := L 0 k hk
   refine ⟨fun hh _ => ?_, fun hh => ?_⟩
   · unfold Fn.linkB
     rw [eqI_dec, decide_eq_decide, e0]
     exact ⟨fun h => ⟨hh, (iS 1).1 h⟩, fun h => (iS 1).2 h.2⟩
   · unfold Fn.linkB
     rw [decide_eq_false (fun hc => hh (e0 ▸ hc.1))]
 · have hc := of_decide_eq_true hL
   rw [recP_link nF hL]
   refine ⟨bnd_nat (k := 0) (by omega), fun x1 hx1 => ?_⟩
   obtain ⟨e2, l2⟩ := L 2 x1 ((SG 0).symm.trans hx1)
   exact ⟨l2, ⟨⟩, rfl, e1.symm, by rw [e2], rfl, rfl⟩
 · obtain ⟨e0, -⟩ := L 0 kw hkw
   rw [recP_white nF nL (e0.trans hW)]
   exact ⟨⟨⟩, rfl, e1.symm, rfl, rfl, rfl⟩
 · obtain ⟨e0, -⟩ := L 0 k hk
   refine ⟨fun hh => ⟨B 0 (by omega), fun k2 hk2 => ?_⟩, fun hh => ?_⟩
   · obtain rfl : k = k2 := Option.some.inj (hk.symm.trans hk2)
     unfold Fn.dirB2
     rw [beq_dec, decide_eq_decide, e0]
     exact ⟨fun h => .inr h, fun h => h.elim (fun h => absurd h hh) id⟩
   · unfold Fn.dirB2
     rw [decide_eq_true (.inl (e0.trans hh))]
 · obtain ⟨e0, -⟩ := L 0 k hk
   rw [recP_dir nF nL (fun e => nW ((L 0 kw hkw).1.symm.trans e)) hD]
   exact ⟨⟨⟩, rfl, e1.symm, rfl, rfl, by rw [beq_dec, e0]; rfl⟩
 · rw [recP_none nF nL (fun e => nW ((L 0 kw hkw).1.symm.trans e)) nD]
   exact ⟨⟨⟩, rfl, e1.symm, rfl, rfl, rfl⟩
 · have hg : decide (iOf (w.length - 2) > 0) = decide (2 < w.length) := by
     unfold iOf
     rw [decide_eq_decide]; omega
   unfold Fn.modeB
   rw [hg]
   refine ⟨fun n1 => ⟨fun h3 _ => ?_, fun n3 => ?_⟩, fun h1 _ => ?_⟩
   · rw [decide_eq_decide]; exact ⟨fun h => ⟨.inr h3, h⟩, fun h => h.2⟩
   · rw [decide_eq_false (fun h => h.1.elim n1 n3)]
   · rw [decide_eq_decide]; exact ⟨fun h => ⟨.inl h1, h⟩, fun h => h.2⟩
 · have hc := of_decide_eq_true hm
   refine ⟨bnd_nat (k := 0) (by omega), fun x2 hx2 => ?_⟩
   obtain ⟨e2, l2⟩ := L 2 x2 ((SG 0).symm.trans hx2)
   have er : ((Fn.recP w).1, (Fn.recP w).2.1, (Fn.recP w).2.2.1, Fn.atoiV x2, (Fn.recP w).2.2.2.2) = Fn.recL w := by
     rw [recL_mode hm, e2]
   rw [er, P1]
   refine ⟨l2, by omega, fun h0 => ⟨h0, ⟨JL, NL⟩, rfl, ?_⟩, fun h0 => ⟨rfl, ?_⟩⟩
   · unfold Fn.laxB
     rw [decide_eq_true h2, decide_eq_true h0, beq_dec]; rfl
   · unfold Fn.laxB
     rw [decide_eq_false h0]; simp
 · rw [<- recL_bare hm, show (Fn.recL w).2.1 = x from by rw [recL_bare hm, P1]]
   refine ⟨by omega, fun h0 => ⟨h0, ⟨JL, NL⟩, rfl, ?_⟩, fun h0 => ⟨rfl, ?_⟩⟩
   · unfold Fn.laxB
     rw [decide_eq_true h2, decide_eq_true h0, beq_dec]; rfl
   · unfold Fn.laxB
     rw [decide_eq_false h0]; simp
end Go.Proofs.YtkdnelaoagmeaaaDoor
namespace Go.Proofs.YtkdnelaoagmeaaaDoor
open Go.Ab Go.Fn
def s_RR : FSpec := { ps := [.v .str], rs := [.v tRec, .v I], pre := fun _ => True, fn := fun x => (Fn.rrR x.1, Fn.rrC x.1, ()), upd := fun _ => () }
theorem fo_sReadRecord : FO 4 s_RR := by
 refine fo (specs := [(8, s_words), (7, s_l14Read)]) (clos := []) (fun x => []) ⟨fo_l00Words, fo_l14Read, trivial⟩ trivial Tryd.func4 rfl rfl ?_
 rintro ⟨t, ⟨⟩⟩ -
 refine vcOf (fits (lenL t) -> (decide (iOf (lenL t) > (65536 : Int)) = true -> 5 <= 5 /\ (((0 : (Ty.int .i64).den), ([] : List UInt8), ([] : List UInt8), (0 : (Ty.int .i64).den), false, ()), (2 : Int), ()) = (rrR t, rrC t, ()) /\ () = ()) /\ (decide (iOf (lenL t) > (65536 : Int)) = false -> true = true /\ List.length t <= (65536 : Nat) /\ true = true /\ (∀ (w : List UInt8), w ∈ wordsS t -> w.length <= (65536 : Nat)) /\ 5 <= 5 /\ ((!readO (wordsS t)) = true -> 5 <= 5 /\ (((0 : (Ty.int .i64).den), ([] : List UInt8), ([] : List UInt8), (0 : (Ty.int .i64).den), false, ()), (3 : Int), ()) = (rrR t, rrC t, ()) /\ () = ()) /\ ((!readO (wordsS t)) = false -> 5 <= (5) /\ 5 <= 5 /\ (((readR (wordsS t)).fst, (readR (wordsS t)).snd.fst, (readR (wordsS t)).snd.snd.fst, (readR (wordsS t)).snd.snd.snd.fst, (readR (wordsS t)).snd.snd.snd.snd.fst, ()), (0 : Int), ()) = (rrR t, rrC t, ()) /\ () = ()))) (by kernel_rfl) ?_
 simp only [NS, eq_self, ne_eq, forall_const, implies_true, Nat.reduceAdd, Nat.reduceLeDiff, nz, Int.reduceEq, Nat.reduceEqDiff, reduceCtorEq]; try simp only [lenL]
 obtain ⟨e1, e2⟩ := lax_read (t := t)
 refine fun hf => ⟨fun h => rr_long (rr_no h), fun h => ?_⟩
 have hs := rr_yes h
 have hl : List.length t <= 65536 := of_decide_eq_true hs
 refine ⟨hl, words_le hl, fun hr => rr_bad hs (e1.trans hr), fun hr => ?_⟩
 have hx := e1.trans hr
 rw [<- e2 hx]
 exact rr_good hs hx
theorem fl_ReadRecord : FL 5 s_RR := by
 refine foL (specs := [(9, s_isLong), (10, s_recOf)]) (clos := []) (fun x => []) ⟨toL fo_isLong, fl_recordOf, trivial⟩ trivial Tryd.func5 rfl rfl ?_
 rintro ⟨t, ⟨⟩⟩ -
 refine vcOf (true = true /\ True /\ ((!(t :: ([] : List (List UInt8))).all short) = true -> 5 <= 5 /\ (((0 : (Ty.int .i64).den), ([] : List UInt8), ([] : List UInt8), (0 : (Ty.int .i64).den), false, ()), (2 : Int), ()) = (rrR t, rrC t, ()) /\ () = ()) /\ ((!(t :: ([] : List (List UInt8))).all short) = false -> true = true /\ List.length t <= (65536 : Nat) /\ 5 <= 5 /\ ((!laxB (wordsS t)) = true -> 5 <= 5 /\ (((0 : (Ty.int .i64).den), ([] : List UInt8), ([] : List UInt8), (0 : (Ty.int .i64).den), false, ()), (3 : Int), ()) = (rrR t, rrC t, ()) /\ () = ()) /\ ((!laxB (wordsS t)) = false -> 5 <= (5) /\ 5 <= 5 /\ (((if (2 : Nat) <= (wordsS t).length then recL (wordsS t) else rec0).fst, (if (2 : Nat) <= (wordsS t).length then recL (wordsS t) else rec0).snd.fst, (if (2 : Nat) <= (wordsS t).length then recL (wordsS t) else rec0).snd.snd.fst, (if (2 : Nat) <= (wordsS t).length then recL (wordsS t) else rec0).snd.snd.snd.fst, (if (2 : Nat) <= (wordsS t).length then recL (wordsS t) else rec0).snd.snd.snd.snd.fst, ()), (0 : Int), ()) = (rrR t, rrC t, ()) /\ () = ()))) (by kernel_rfl) ?_
 simp only [NS, eq_self, ne_eq, forall_const, implies_true, Nat.reduceAdd, Nat.reduceLeDiff, nz, Int.reduceEq, Nat.reduceEqDiff, reduceCtorEq]; try simp only [lenL]
 refine ⟨fun h => rr_long h, fun h => ⟨of_decide_eq_true h, fun hb => rr_bad h hb, fun hb => ?_⟩⟩
 rw [if_pos (lax_two hb)]
 exact rr_good h hb
end Go.Proofs.YtkdnelaoagmeaaaDoor
namespace Go.Proofs.YtkdnelaoagmeaaaDoor
open Go.Ab Go.Fn
def s_eqRecord : FSpec := { ps := [.v tRec, .v tRec], rs := [.v .bool], pre := fun _ => True, fn := fun x => (Fn.eqRec x.1 x.2.1, ()), upd := fun _ => () }
theorem fo_eqRecord : FO 6 s_eqRecord := by
 refine fo (specs := []) (clos := []) (fun x => []) trivial trivial Tryd.func6 rfl rfl ?_
 rintro ⟨⟨k, p, b, m, o, ⟨⟩⟩, ⟨k', p', b', m', o', ⟨⟩⟩, ⟨⟩⟩ -
 refine vcOf (1 <= (5) /\ 1 <= (5) /\ ((k != k') = true -> (false, ()) = (eqRec (k, p, b, m, o, ()) (k', p', b', m', o', ()), ()) /\ () = ()) /\ ((k != k') = false -> 2 <= (5) /\ 2 <= (5) /\ ((!p == p') = true -> (false, ()) = (eqRec (k, p, b, m, o, ()) (k', p', b', m', o', ()), ()) /\ () = ()) /\ ((!p == p') = false -> 3 <= (5) /\ 3 <= (5) /\ ((!b == b') = true -> (false, ()) = (eqRec (k, p, b, m, o, ()) (k', p', b', m', o', ()), ()) /\ () = ()) /\ ((!b == b') = false -> 4 <= (5) /\ 4 <= (5) /\ ((m != m') = true -> (false, ()) = (eqRec (k, p, b, m, o, ()) (k', p', b', m', o', ()), ()) /\ () = ()) /\ ((m != m') = false -> 5 <= (5) /\ 5 <= (5) /\ (nBool o o' = true -> (false, ()) = (eqRec (k, p, b, m, o, ()) (k', p', b', m', o', ()), ()) /\ () = ()) /\ (nBool o o' = false -> (true, ()) = (eqRec (k, p, b, m, o, ()) (k', p', b', m', o', ()), ()) /\ () = ())))))) (by kernel_rfl) ?_
 simp only [NS, eq_self, ne_eq, forall_const, implies_true, Nat.reduceAdd, Nat.reduceLeDiff, nz, Int.reduceEq, Nat.reduceEqDiff, reduceCtorEq]; try simp only [lenL]
 repeat' (first | apply And.intro | intro _)
 all_goals (simp only [Fn.eqRec, nBool] at *; simp_all)
end Go.Proofs.YtkdnelaoagmeaaaDoor
namespace Go.Proofs.YtkdnelaoagmeaaaDoor
open Go.Ab Go.Fn
theorem fl_law_FnExactReadRecord : FL 3 (lawSpec [.str] 1048576) := by
 refine foL (specs := [(4, s_RR), (5, s_RR), (6, s_eqRecord)]) (clos := []) (fun x => []) ⟨toL fo_sReadRecord, fl_ReadRecord, toL fo_eqRecord, trivial⟩ trivial Tryd.func3 rfl rfl ?_
 rintro ⟨t, ⟨⟩⟩ hl
 refine vcOf (fits (lenL t) -> (decide (iOf (lenL t) > (1048576 : Int)) = true -> (true, ()) = (true, ()) /\ () = ()) /\ (decide (iOf (lenL t) > (1048576 : Int)) = false -> true = true /\ True /\ 5 <= 5 /\ true = true /\ True /\ 5 <= 5 /\ 5 <= (5) /\ 5 <= (5) /\ true = true /\ True /\ ((!eqRec ((rrR t).fst, (rrR t).snd.fst, (rrR t).snd.snd.fst, (rrR t).snd.snd.snd.fst, (rrR t).snd.snd.snd.snd.fst, ()) ((rrR t).fst, (rrR t).snd.fst, (rrR t).snd.snd.fst, (rrR t).snd.snd.snd.fst, (rrR t).snd.snd.snd.snd.fst, ())) = false -> ((rrC t != rrC t) = true -> (false, ()) = (true, ()) /\ () = ()) /\ ((rrC t != rrC t) = false -> (true, ()) = (true, ()) /\ () = ())) /\ ((!eqRec ((rrR t).fst, (rrR t).snd.fst, (rrR t).snd.snd.fst, (rrR t).snd.snd.snd.fst, (rrR t).snd.snd.snd.snd.fst, ()) ((rrR t).fst, (rrR t).snd.fst, (rrR t).snd.snd.fst, (rrR t).snd.snd.snd.fst, (rrR t).snd.snd.snd.snd.fst, ())) = true -> (false, ()) = (true, ()) /\ () = ()))) (by kernel_rfl) ?_
 simp only [NS, eq_self, ne_eq, forall_const, implies_true, Nat.reduceAdd, Nat.reduceLeDiff, nz, Int.reduceEq, Nat.reduceEqDiff, reduceCtorEq]; try simp only [lenL]
 exact fun _ _ h => by rw [eqRec_self] at h; cases h
end Go.Proofs.YtkdnelaoagmeaaaDoor
namespace Go.Proofs.YtkdnelaoagmeaaaDoor
open Go.Ab Go.Fn Go.ChangeShapes Go.WideShapes Go.ChangeAt Go.RowKit
theorem star_err : "*" ++ "errors.errorString" = "*errors.errorString" := by decide
theorem typeName_err {u : Nat} (h : Tryd.prog.typeName? 3 u = some "*errors.errorString") : u = 91 := by
 exact typeName_ptr_named (nm := "errors.errorString") (by rw [star_err]; kernel_rfl) (by kernel_rfl) (by decide) u (by rw [star_err]; exact h)
end Go.Proofs.YtkdnelaoagmeaaaDoor
namespace Go.Proofs.YtkdnelaoagmeaaaDoor
open Go.Ab Go.Fn Go.ChangeShapes Go.WideShapes Go.ChangeAt Go.RowKit
theorem bulk {H : Type} : Bulk (Rows.uptoBulk (H := H)) Rows.uptoBulkAll := by
 constructor <;> intros <;> simp [Rows.uptoBulk, Rows.uptoBulkAll]
theorem own : ownKnob Tryd.prog.godebug = none := by kernel_rfl
def valsOf : Nat -> DataW Unit -> List Value
 | _, .lit (.int k v) => [.int k v]
 | n + 1, .agg l => l.flatMap (valsOf n)
 | _, _ => []
def layAt (h : Array _root_.Go.Obj) (b : Nat) (d : DataW Unit) : Array _root_.Go.Obj := h.modify b fun
 | .cells _ t frozen => .cells (valsOf 3 d).toArray t frozen
 | o => o
def layErr (h : Array _root_.Go.Obj) (g tp te : Nat) (s : List UInt8) : Array _root_.Go.Obj := (h.modify g fun
 | .cells _ t frozen => .cells #[.iface tp (.pointer (some ⟨h.size, 0, none⟩))] t frozen
 | o => o).push (.cells #[.string ⟨s.toArray⟩] te)
theorem err_of {n : String} {s : List UInt8} {r : List (String × DataW Unit)} {W : World} {g : Nat} (hg : Tryd.prog.globalNamed n = some g) (hgt : (Tryd.prog.globals[g]?).map (·.type) = some 43)
   (h : laidMet Tryd.prog ((n, .iface "*errors.errorString" (.ptr (.agg [.lit (.string s)]))) :: r) W) : errP n W := by
 obtain ⟨a, _, h1, _⟩ := laid_sentinel (tp := 91) (te := 93) (ts := 9) h hg hgt Tryd.underlying43 (fun u hu => typeName_err hu) Tryd.underlying91 Tryd.underlying93 rfl rfl Tryd.underlying9 (by kernel_rfl) (by kernel_rfl)
 exact ⟨_, _, h1⟩
noncomputable def laidWorld (os : Os) : World :=
 { World.holding Tryd.prog os ⟨#[], #[], []⟩ with heap := layErr (layErr (layAt (layAt (layAt (layAt (layAt (World.holding Tryd.prog os ⟨#[], #[], []⟩).heap 6 Rows.laid_math_bits_deBruijn32tab) 7 Rows.laid_math_bits_deBruijn64tab) 5 Rows.laid_internal_strconv_uint64pow10) 4 Rows.laid_unicode_utf8_acceptRanges) 3 Rows.laid_unicode_utf8_first) 1 91 93 [118, 97, 108, 117, 101, 32, 111, 117, 116, 32, 111, 102, 32, 114, 97, 110, 103, 101]) 0 91 93 [105, 110, 118, 97, 108, 105, 100, 32, 115, 121, 110, 116, 97, 120] }
theorem laid_met (os : Os) : laidMet Tryd.prog Rows.fnExactReadRecordUptoRow.laid ((laidWorld os).forCall (fun _ _ => 0) ⟨#[], #[.string ⟨#[]⟩], []⟩).memory :=
 laidMet_of_run3 8 (by kernel_rfl) (by kernel_rfl) (by kernel_rfl)
theorem reads (os : Os) {H : Type} (enc : TypeId × Value -> H) : ∃ places, DataW.whole enc Tryd.prog ((laidWorld os).forCall (fun _ _ => 0) ⟨#[], #[.string ⟨#[]⟩], []⟩).memory Tryd.f3.params.toList Rows.fnExactReadRecordSpec.vars false (#[.string ⟨#[]⟩] : Array Value).toList 8 = some ([.lit (.string [])], [], places) :=
 ⟨[], by kernel_rfl⟩
set_option maxRecDepth 100000 in
theorem fnExactReadRecord_lifted (os : Os) (started : os.Started) (H : Type) (enc : TypeId × Value -> H) (F : Stop.Interp) :
   ReturnsInHanded {} Tryd.checked os 3 .any ((Rows.OpenSpec.upto Rows.fnExactReadRecordSpec).preRow enc Tryd.prog Tryd.f3 Rows.fnExactReadRecordUptoRow.domain false Rows.fnExactReadRecordUptoRow.laid) (((Rows.OpenSpec.upto Rows.fnExactReadRecordSpec).at F).post enc Tryd.prog Tryd.f3 false true false false) := by
 obtain ⟨places, hx⟩ := reads os enc
 refine returnsInHanded_of_row (C := Tryd.checked) (s := Rows.OpenSpec.upto Rows.fnExactReadRecordSpec) own started (by kernel_rfl) Tryd.func3
   (witness_row_at (enc := enc) (C := Tryd.checked) false (laidWorld os) #[.string ⟨#[]⟩] rfl (by kernel_rfl) (by kernel_rfl) (by kernel_rfl)
     (OpenSpec.preRow_of_cond 8 hx (by kernel_rfl) (fun k hk => by cases hk; kernel_rfl) (by kernel_rfl) (laid_met os))) ?_
 intro W base args ds gs before hval hW _ hk _ hL _ _
 have hp : tabP W := tab_head (met_tail (met_tail hL))
 have hT : tabE W := ⟨hp, err_of gSyn (by kernel_rfl) (met_tail (met_tail (met_tail (met_tail (met_tail hL))))), err_of gRan (by kernel_rfl) (met_tail (met_tail (met_tail (met_tail hL))))⟩
 refine law_contractT bulk fl_law_FnExactReadRecord (by kernel_rfl) rfl ?_ (tb := 4) rfl (by kernel_rfl) hT (fun b hb => tab_lt hp (show b < 5 + 1 from hb)) (tabL [] []) hval hW (of_decide_eq_true (hk _ rfl))
 intro ds hl
 match ds, hl with
 | [_], _ => rfl
theorem and_of {a b : Bool} (ha : a = true) (hb : b = true) : (a && b) = true := by rw [ha, hb]; rfl
theorem fnExactReadRecord_closed : joinedFacts Tryd.pinned.checked.prog 3 Tryd.f3 (Rows.OpenSpec.upto Rows.fnExactReadRecordSpec).bare Rows.fnExactReadRecordUptoRow = true := by
 unfold joinedFacts
 repeat' with_reducible apply and_of
 all_goals decide +kernel
theorem fnExactReadRecord_inst : Func.isInstance Tryd.pinned.checked.prog Tryd.f3 Rows.fnExactReadRecordUptoRow.origin Rows.fnExactReadRecordUptoRow.targs := of_decide_eq_true (by kernel_rfl)
theorem fnExactReadRecord_wrap : Func.isWrapper Tryd.pinned.checked.prog Tryd.f3 Rows.fnExactReadRecordUptoRow.wrapper Rows.fnExactReadRecordUptoRow.mainSum := by unfold Func.isWrapper; first | (rw [if_pos (by decide +kernel)]; kernel_rfl) | (rw [if_neg (by decide +kernel)]; exact ⟨rfl, rfl⟩)
theorem fnExactReadRecord_said : Rows.FnExactReadRecordUptoSaid :=
 OpenClaim.holds_of_cond 3 Tryd.f3 rfl rfl rfl rfl rfl rfl rfl ⟨rfl, rfl, rfl, rfl, rfl⟩ rfl rfl rfl rfl rfl (by kernel_rfl) Tryd.func3 fnExactReadRecord_closed fnExactReadRecord_inst fnExactReadRecord_wrap
   (fun os started H enc _ F => by rw [OpenClaim.pre_eq_preRow]; exact fnExactReadRecord_lifted os started H enc F)
theorem noStandIn : (Tryd.f3.params.toList.all fun t => !(Tryd.pinned.checked.prog.wantsStandIn t)) = true := by kernel_rfl
theorem fnExactReadRecord_plain (f : FuncId) (fn : Func) (hf : Tryd.pinned.checked.prog.funcNamed "loop.example/g00798/laws.FnExactReadRecord" = some f) (hfn : Tryd.pinned.checked.prog.funcs[f]? = some fn) :
   true = Tryd.pinned.checked.prog.looks [] /\ ∀ (j : Nat) t, fn.params[j]? = some t -> Tryd.pinned.checked.prog.wantsStandIn t = false := by
 obtain rfl : f = 3 := Option.some.inj ((show Tryd.prog.funcNamed "loop.example/g00798/laws.FnExactReadRecord" = some 3 by kernel_rfl).symm.trans hf) |>.symm
 obtain rfl : fn = Tryd.f3 := (Option.some.inj (Tryd.func3.symm.trans hfn)).symm
 refine ⟨by kernel_rfl, fun j t ht => ?_⟩
 have h := List.all_eq_true.1 noStandIn t (by simpa using Array.mem_of_getElem? ht)
 simpa using h
theorem fnExactReadRecord_holds : Rows.FnExactReadRecordUptoCardSaid :=
 Claim7.holds_tied_plain_at .later [] _ _ _ _ fnExactReadRecord_said (fun _ h => by cases h) (by kernel_rfl) (fun _ h => by cases h) fnExactReadRecordUpto_row_tie rfl ⟨rfl, rfl⟩ (by kernel_rfl) rfl fnExactReadRecord_plain (by kernel_rfl)
end Go.Proofs.YtkdnelaoagmeaaaDoor
