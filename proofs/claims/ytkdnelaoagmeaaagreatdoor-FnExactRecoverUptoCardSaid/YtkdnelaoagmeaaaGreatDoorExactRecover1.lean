/- Every function that the law FnExactRecover reaches does what its specification (a function on plain data) says; the law answers true wherever what it reads is of bulk at most 1048576. Conditions: that bound. -/
import Derived.Test.YtkdnelaoagmeaaaGreatDoorAb2
import Derived.Deep.DeepHandedRow
import Derived.Deep.DeepLaidRun
import Derived.Laws.BitsLemmas
import Derived.Lib.Bytealg
import Derived.Lib.ItoaLen
import Derived.Lib.ItoaMem
import Derived.Lib.Join
import Derived.Lib.LaidTab
import Derived.OpenShut
import Derived.ProofKit
import Derived.Shelf.GgSortFunc.RowK
import Derived.Shelf.LaysC
import Derived.Shelf.LaysM
import Derived.Shelf.SlLaysF0
import Derived.Shelf.SlLaysM
import Derived.Shelf.SlLaysN
import Derived.Shelf.SlicesG.CompactS
import Derived.Shelf.SortM.Plain
import Derived.Shelf.SortM.SortNone
import Derived.Shelf.Strconv.AtoiAll
import Derived.Shelf.Strconv.Itoa3
import Derived.Shelf.Strings.OnBuilder
import Derived.Sort.Walk0
import Derived.Test.YtkdnelaoagmeaaaGreatDoorCards
import Derived.Test.YtkdnelaoagmeaaaGreatDoorRows
import Derived.Test.YtkdnelaoagmeaaaGreatDoorTie
import Derived.WalkKit
import Derived.Test.YtkdnelaoagmeaaaGreatDoorExactRecover0
set_option autoImplicit true
set_option relaxedAutoImplicit true
set_option maxHeartbeats 4000000
set_option maxRecDepth 4000
set_option linter.unusedVariables false
set_option linter.unusedSimpArgs false
namespace Go.Proofs.YtkdnelaoagmeaaaGreatDoor
open Go.Ab Go.Fn
def s_find : FSpec := { ps := [.v (.slice tRec), .v .str], rs := [.v I], pre := fun _ => True, fn := fun x => (idx (Fn.atPath x.2.1) x.1, ()), upd := fun _ => () }
def L_find (l : List Rec) (p : List UInt8) : LoopAnn := { ι := Nat, inv := fun k => k <= l.length /\ ∀ (j : Nat) (y : Rec), j < k -> l[j]? = some y -> Fn.atPath p y = false, slots := fun k => [(5, .d I (Int.ofNat k))], objs := fun _ => [], μ := fun k => l.length - k }
theorem fo_l03At : FO 117 s_find := by
 refine fo (specs := []) (clos := []) (fun x => [(2, .lv [0, 1, 5] <| fun _ => L_find x.1 x.2.1)]) trivial trivial Tryz.func117 rfl rfl ?_
 rintro ⟨l, p, ⟨⟩⟩ -
 refine vcOf ((∃ (i : Nat), (i <= List.length l /\ ∀ (j : Nat) (y : Rec), j < i -> l[j]? = some y -> atPath p y = false) /\ (l = l /\ p = p /\ (0 : Int) = Int.ofNat i /\ True) /\ True /\ True) /\ ∀ (i : Nat), (i <= List.length l /\ ∀ (j : Nat) (y : Rec), j < i -> l[j]? = some y -> atPath p y = false) -> fits (lenL l) -> (decide (Int.ofNat i < iOf (lenL l)) = true -> bnd (Int.ofNat i) (lenL l) /\ ∀ (x : Int × List UInt8 × List UInt8 × Int × Bool × Unit), nthI l (Int.ofNat i) = some x -> 1 <= (4) /\ ((x.snd.fst == p) = true -> (Int.ofNat i, ()) = (idx (atPath p) l, ()) /\ () = ()) /\ ((x.snd.fst == p) = false -> ∃ (j : Nat), (j <= List.length l /\ ∀ (j_1 : Nat) (y : Rec), j_1 < j -> l[j_1]? = some y -> atPath p y = false) /\ (List.length l).sub j < (List.length l).sub i /\ (l = l /\ p = p /\ wAdd .i64 (Int.ofNat i) (1 : Int) = Int.ofNat j /\ True) /\ True /\ True)) /\ (decide (Int.ofNat i < iOf (lenL l)) = false -> ((-1 : Int), ()) = (idx (atPath p) l, ()) /\ () = ())) (by kernel_rfl) ?_
 simp only [NS, eq_self, ne_eq, forall_const, implies_true, Nat.reduceAdd, Nat.reduceLeDiff, nz, Int.reduceEq, Nat.reduceEqDiff, reduceCtorEq]; try simp only [lenL]
 refine ⟨⟨0, ⟨Nat.zero_le _, fun j y hj => absurd hj (Nat.not_lt_zero _)⟩, rfl⟩, fun i ⟨hk, hi⟩ hf => ⟨fun h => ⟨h, fun x hx => ⟨fun he => (idx_at hi hx (decide_eq_true he)).symm, fun hn => ⟨i + 1, ⟨h, below_succ (P := fun y => Fn.atPath p y = false) hi hx (decide_eq_false hn)⟩, Nat.sub_lt_sub_left h (Nat.lt_succ_self i), inc_in hf hk⟩⟩⟩, fun h => (idx_end hi h).symm⟩⟩
end Go.Proofs.YtkdnelaoagmeaaaGreatDoor
namespace Go.Proofs.YtkdnelaoagmeaaaGreatDoor
open Go.Ab Go.Fn
def s_IndexFunc_Rec : FSpec := { ps := [.v (.slice tRec), .f [tRec] .bool], rs := [.v I], pre := fun x => ∀ y, y ∈ x.1 -> x.2.1.2 (y, ()), fn := fun x => (idx (fun y => x.2.1.1 (y, ())) x.1, ()), upd := fun _ => () }
def L_IndexFunc_Rec (xs : List (tRec : Ty).den) (p : dens [tRec] -> Bool) : LoopAnn := { ι := Nat, inv := fun k => k <= List.length (α := (tRec : Ty).den) xs /\ ∀ (j : Nat) (y : (tRec : Ty).den), j < k -> xs[j]? = some y -> p (y, ()) = false, slots := fun k => [(8, .d I (Int.ofNat k))], objs := fun _ => [], μ := fun k => List.length (α := (tRec : Ty).den) xs - k }
theorem fo_IndexFunc_Rec : FO 244 s_IndexFunc_Rec := by
 refine fo (specs := []) (clos := []) (fun x => [(2, .lv [0, 1, 7, 8] <| fun _ => L_IndexFunc_Rec x.1 x.2.1.1)]) trivial trivial Tryz.func244 rfl rfl ?_
 rintro ⟨xs, ⟨p, q⟩, ⟨⟩⟩ hp
 refine vcOf (fits (lenL xs) -> (∃ (i : Nat), (i <= List.length xs /\ ∀ (j : Nat) (y : Int × List UInt8 × List UInt8 × Int × Bool × Unit), j < i -> xs[j]? = some y -> p (y, ()) = false) /\ (xs = xs /\ (p, q) = (p, q) /\ iOf (lenL xs) = iOf (lenL xs) /\ (0 : Int) = Int.ofNat i /\ True) /\ True /\ True) /\ ∀ (i : Nat), (i <= List.length xs /\ ∀ (j : Nat) (y : Int × List UInt8 × List UInt8 × Int × Bool × Unit), j < i -> xs[j]? = some y -> p (y, ()) = false) -> (decide (Int.ofNat i < iOf (lenL xs)) = true -> bnd (Int.ofNat i) (lenL xs) /\ ∀ (x : Int × List UInt8 × List UInt8 × Int × Bool × Unit), nthI xs (Int.ofNat i) = some x -> 5 <= (5) /\ q ((x.fst, x.snd.fst, x.snd.snd.fst, x.snd.snd.snd.fst, x.snd.snd.snd.snd.fst, ()), ()) /\ (p ((x.fst, x.snd.fst, x.snd.snd.fst, x.snd.snd.snd.fst, x.snd.snd.snd.snd.fst, ()), ()) = true -> (Int.ofNat i, ()) = (idx (fun (y : Int × List UInt8 × List UInt8 × Int × Bool × Unit) => p (y, ())) xs, ()) /\ () = ()) /\ (p ((x.fst, x.snd.fst, x.snd.snd.fst, x.snd.snd.snd.fst, x.snd.snd.snd.snd.fst, ()), ()) = false -> ∃ (j : Nat), (j <= List.length xs /\ ∀ (j_1 : Nat) (y : Int × List UInt8 × List UInt8 × Int × Bool × Unit), j_1 < j -> xs[j_1]? = some y -> p (y, ()) = false) /\ (List.length xs).sub j < (List.length xs).sub i /\ (xs = xs /\ (p, q) = (p, q) /\ iOf (lenL xs) = iOf (lenL xs) /\ wAdd .i64 (Int.ofNat i) (1 : Int) = Int.ofNat j /\ True) /\ True /\ True)) /\ (decide (Int.ofNat i < iOf (lenL xs)) = false -> ((-1 : Int), ()) = (idx (fun (y : Int × List UInt8 × List UInt8 × Int × Bool × Unit) => p (y, ())) xs, ()) /\ () = ())) (by kernel_rfl) ?_
 simp only [NS, eq_self, ne_eq, forall_const, implies_true, Nat.reduceAdd, Nat.reduceLeDiff, nz, Int.reduceEq, Nat.reduceEqDiff, reduceCtorEq]; try simp only [lenL]
 refine fun hf => ⟨⟨0, ⟨Nat.zero_le _, fun j y hj => absurd hj (Nat.not_lt_zero _)⟩, rfl⟩, fun k ⟨hk, hi⟩ => ⟨fun h => ⟨h, fun x hx => ⟨hp x (List.mem_of_getElem? hx), fun h1 => (idx_at hi hx h1).symm, fun h1 => ⟨k + 1, ⟨h, below_succ (P := fun y => p (y, ()) = false) hi hx h1⟩, by omega, inc_in hf hk⟩⟩⟩, fun h => (idx_end hi h).symm⟩⟩
end Go.Proofs.YtkdnelaoagmeaaaGreatDoor
namespace Go.Proofs.YtkdnelaoagmeaaaGreatDoor
open Go.Ab Go.Fn
def c_find : CSpec := { ats := [tRec], b := .bool, cs := [.r .str], pre := fun _ _ => True, fn := fun c a => Fn.atPath c.1 a.1 }
theorem fo_findc : FO 245 c_find.fspec := by
 refine fo (specs := []) (clos := []) (fun x => []) trivial trivial Tryz.func245 rfl rfl ?_
 rintro ⟨⟨k, p, b, m, o, ⟨⟩⟩, n, ⟨⟩⟩ -
 refine vcOf (2 <= (5) /\ 1 <= 1 /\ (p == n, ()) = (atPath n (k, p, b, m, o, ()), ()) /\ () = ()) (by kernel_rfl) ?_
 simp only [NS, eq_self, ne_eq, forall_const, implies_true, Nat.reduceAdd, Nat.reduceLeDiff, nz, Int.reduceEq, Nat.reduceEqDiff, reduceCtorEq]; try simp only [lenL]
 unfold Fn.atPath
 by_cases h : p = n
 · rw [decide_eq_true h, h]; simp
 · rw [decide_eq_false h]; simpa using h
theorem fo_find : FO 194 s_find := by
 refine fo (specs := [(244, s_IndexFunc_Rec)]) (clos := [(245, c_find)]) (fun x => []) ⟨fo_IndexFunc_Rec, trivial⟩ ⟨co fo_findc rfl rfl, trivial⟩ Tryz.func194 rfl rfl ?_
 rintro ⟨l, p, ⟨⟩⟩ -
 refine vcOf (true = true /\ (∀ (y : Int × List UInt8 × List UInt8 × Int × Bool × Unit), y ∈ l -> True) /\ (idx (fun (y : Int × List UInt8 × List UInt8 × Int × Bool × Unit) => (fun (a : (Int × List UInt8 × List UInt8 × Int × Bool × Unit) × Unit) => atPath p a.fst, fun (x : (Int × List UInt8 × List UInt8 × Int × Bool × Unit) × Unit) => True).fst (y, ())) l, ()) = (idx (atPath p) l, ()) /\ () = ()) (by kernel_rfl) ?_
 simp only [NS, eq_self, ne_eq, forall_const, implies_true, Nat.reduceAdd, Nat.reduceLeDiff, nz, Int.reduceEq, Nat.reduceEqDiff, reduceCtorEq]; try simp only [lenL]
end Go.Proofs.YtkdnelaoagmeaaaGreatDoor
namespace Go.Fn
open Go.Ab
def recAt (l : List Rec) (i : Nat) : Rec := l.getD i rec0
def upOf (l : List Rec) (i : Nat) : Int := if parentS (recAt l i).2.1 = [] then 0 else idx (atPath (parentS (recAt l i).2.1)) (l.take i)
def sameB (l : List Rec) (i : Int) : Bool := decide (i > 0) && decide ((recAt l (i.toNat - 1)).2.1 = (recAt l i.toNat).2.1)
def unlessB (l : List Rec) (i : Int) : Bool := decide (i > 0) && !(lessL (split 47 (recAt l (i.toNat - 1)).2.1) (split 47 (recAt l i.toNat).2.1))
def orderB (l : List Rec) (i : Int) : Bool := decide (i > 0) && !(pathLess (recAt l (i.toNat - 1)).2.1 (recAt l i.toNat).2.1)
def dirB (l : List Rec) (i : Int) : Bool := !(decide (parentS (recAt l i.toNat).2.1 = [])) && !(decide ((recAt l (upOf l i.toNat).toNat).1 = 3))
def faultAt (l : List Rec) (i : Nat) : Int := if 16 <= i then 6 else if ¬ recFault (recAt l i) = 0 then recFault (recAt l i) else if sameB l (Int.ofNat i) = true then 18 else if orderB l (Int.ofNat i) = true then 11 else if upOf l i < 0 then 12 else if dirB l (Int.ofNat i) = true then 13 else 0
def faultI (l : List Rec) (i : Int) : Int := faultAt l i.toNat
def okL (l : List Rec) : Prop := ∀ r ∈ l, r.2.1.length <= 100000000
end Go.Fn
namespace Go.Fn
open Go.Ab
def OKto (l : List Rec) (k : Nat) : Prop := k <= l.length /\ ∀ j, j < k -> faultAt l j = 0
def layI (l : List Rec) : Option Nat := (List.range l.length).find? fun i => !(decide (faultAt l i = 0))
def layN (l : List Rec) : Int := match layI l with | some i => Int.ofNat i | none => 0
def layC (l : List Rec) : Int := match layI l with | some i => faultAt l i | none => 0
end Go.Fn
namespace Go.Fn
open Go.Ab
theorem recAt_at {l : List Rec} {i : Nat} {x : Rec} (h : l[i]? = some x) : recAt l i = x := by unfold recAt; rw [List.getD_eq_getElem?_getD, h]; rfl
theorem ok0 (l : List Rec) : OKto l 0 := ⟨Nat.zero_le _, fun j hj => absurd hj (Nat.not_lt_zero _)⟩
theorem ok_step {l : List Rec} {i : Nat} (h : OKto l i) (hi : i < l.length) (hf : faultAt l i = 0) : OKto l (i + 1) := by
 refine ⟨hi, fun j hj => ?_⟩
 by_cases e : j = i
 · rw [e]; exact hf
 · exact h.2 j (by omega)
theorem lay_at {l : List Rec} {i : Nat} (h : OKto l i) (hi : i < l.length) (hf : ¬ faultAt l i = 0) : layI l = some i := by
 unfold layI
 rw [List.find?_range_eq_some]
 refine ⟨by simp [hf], List.mem_range.2 hi, fun j hj => by simp [h.2 j hj]⟩
theorem lay_c {l : List Rec} {i : Nat} {c : Int} (h : OKto l i) (hi : i < l.length) (hc : faultAt l i = c) (hn : ¬ c = 0) : Int.ofNat i = layN l /\ c = layC l := by
 have := lay_at h hi (by rw [hc]; exact hn)
 unfold layN layC
 rw [this]
 exact ⟨rfl, hc.symm⟩
theorem lay_end {l : List Rec} {i : Nat} (h : OKto l i) (hi : ¬ i < l.length) : 0 = layN l /\ 0 = layC l := by
 have : layI l = none := by
   unfold layI
   rw [List.find?_eq_none]
   intro j hj
   have := List.mem_range.1 hj
   simp [h.2 j (by omega)]
 unfold layN layC
 rw [this]
 exact ⟨rfl, rfl⟩
theorem fa_16 {l : List Rec} {i : Nat} (h : 16 <= i) : faultAt l i = 6 := by unfold faultAt; rw [if_pos h]
theorem ok_16 {l : List Rec} {i : Nat} (h : OKto l i) (hn : ¬ Int.ofNat i = 16) : ¬ 16 <= i := by
 intro hge
 have : ¬ i = 16 := fun e => hn (by rw [e]; rfl)
 have h2 := h.2 16 (by omega)
 rw [fa_16 (Nat.le_refl _)] at h2
 cases h2
theorem fa_rec {l : List Rec} {i : Nat} (h : ¬ 16 <= i) (hr : ¬ recFault (recAt l i) = 0) : faultAt l i = recFault (recAt l i) := by unfold faultAt; rw [if_neg h, if_pos hr]
theorem fa_18 {l : List Rec} {i : Nat} (h : ¬ 16 <= i) (hr : recFault (recAt l i) = 0) (hs : sameB l (Int.ofNat i) = true) : faultAt l i = 18 := by unfold faultAt; rw [if_neg h, if_neg (by simp [hr]), if_pos hs]
theorem fa_11 {l : List Rec} {i : Nat} (h : ¬ 16 <= i) (hr : recFault (recAt l i) = 0) (hs : sameB l (Int.ofNat i) = false) (ho : orderB l (Int.ofNat i) = true) : faultAt l i = 11 := by unfold faultAt; rw [if_neg h, if_neg (by simp [hr]), if_neg (by rw [hs]; exact Bool.false_ne_true), if_pos ho]
theorem fa_12 {l : List Rec} {i : Nat} (h : ¬ 16 <= i) (hr : recFault (recAt l i) = 0) (hs : sameB l (Int.ofNat i) = false) (ho : orderB l (Int.ofNat i) = false) (hu : upOf l i < 0) : faultAt l i = 12 := by unfold faultAt; rw [if_neg h, if_neg (by simp [hr]), if_neg (by rw [hs]; exact Bool.false_ne_true), if_neg (by rw [ho]; exact Bool.false_ne_true), if_pos hu]
theorem fa_13 {l : List Rec} {i : Nat} (h : ¬ 16 <= i) (hr : recFault (recAt l i) = 0) (hs : sameB l (Int.ofNat i) = false) (ho : orderB l (Int.ofNat i) = false) (hu : ¬ upOf l i < 0) (hd : dirB l (Int.ofNat i) = true) : faultAt l i = 13 := by unfold faultAt; rw [if_neg h, if_neg (by simp [hr]), if_neg (by rw [hs]; exact Bool.false_ne_true), if_neg (by rw [ho]; exact Bool.false_ne_true), if_neg hu, if_pos hd]
theorem fa_0 {l : List Rec} {i : Nat} (h : ¬ 16 <= i) (hr : recFault (recAt l i) = 0) (hs : sameB l (Int.ofNat i) = false) (ho : orderB l (Int.ofNat i) = false) (hu : ¬ upOf l i < 0) (hd : dirB l (Int.ofNat i) = false) : faultAt l i = 0 := by unfold faultAt; rw [if_neg h, if_neg (by simp [hr]), if_neg (by rw [hs]; exact Bool.false_ne_true), if_neg (by rw [ho]; exact Bool.false_ne_true), if_neg hu, if_neg (by rw [hd]; exact Bool.false_ne_true)]
theorem fa_fine {l : List Rec} {i : Nat} (h : faultAt l i = 0) : recFault (recAt l i) = 0 := by
 unfold faultAt at h
 split at h
 · cases h
 · split at h
   · exact h
   · rename_i h2
     simpa using h2
theorem rec_path {r : Rec} (h : recFault r = 0) : pathOK r.2.1 = true := by
 obtain ⟨k, p, b, m, o, ⟨⟩⟩ := r
 exact (rec_ok h).1
theorem order_eq {l : List Rec} {i : Nat} (h : OKto l i) (hr : recFault (recAt l i) = 0) : orderB l (Int.ofNat i) = unlessB l (Int.ofNat i) := by
 unfold orderB unlessB
 by_cases hp : Int.ofNat i > 0
 · have hp' : 0 < i := Int.ofNat_lt.1 hp
   have h1 : pathOK (recAt l (i - 1)).2.1 = true := rec_path (fa_fine (h.2 (i - 1) (by omega)))
   have h2 := rec_path hr
   unfold pathLess
   rw [show (Int.ofNat i).toNat = i from rfl, h1, h2]
   rfl
 · rw [decide_eq_false hp]; rfl
theorem ws1 {l : List Rec} {i : Nat} (hp : Int.ofNat i > 0) (hi : i < l.length) (hf : fits l.length) : wSub .i64 (Int.ofNat i) 1 = Int.ofNat (i - 1) := by
 have hf : l.length < 1099511627776 := hf
 have hp : 0 < i := Int.ofNat_lt.1 hp
 rw [wSub_in (by simp only [Int.ofNat_eq_natCast]; omega)]
 simp only [Int.ofNat_eq_natCast]
 omega
theorem same_at {l : List Rec} {i : Nat} {x y : Rec} (hp : Int.ofNat i > 0) (hx : l[i]? = some x) (hy : l[i - 1]? = some y) : (x.2.1 == y.2.1) = sameB l (Int.ofNat i) /\ (y.2.1 == x.2.1) = sameB l (Int.ofNat i) := by
 unfold sameB
 rw [decide_eq_true hp, show (Int.ofNat i).toNat = i from rfl, recAt_at hx, recAt_at hy]
 by_cases e : y.2.1 = x.2.1
 · rw [decide_eq_true e, e]; simp
 · have e' : ¬ x.2.1 = y.2.1 := fun h => e h.symm
   rw [decide_eq_false e]
   simp [e, e']
theorem same_no {l : List Rec} {i : Nat} (hp : ¬ Int.ofNat i > 0) : false = sameB l (Int.ofNat i) := by unfold sameB; rw [decide_eq_false hp]; rfl
theorem unless_at {l : List Rec} {i : Nat} {x y : Rec} (hp : Int.ofNat i > 0) (hx : l[i]? = some x) (hy : l[i - 1]? = some y) : (!lessL (split 47 y.2.1) (split 47 x.2.1)) = unlessB l (Int.ofNat i) := by
 unfold unlessB
 rw [decide_eq_true hp, show (Int.ofNat i).toNat = i from rfl, recAt_at hx, recAt_at hy]; rfl
theorem unless_no {l : List Rec} {i : Nat} (hp : ¬ Int.ofNat i > 0) : false = unlessB l (Int.ofNat i) := by unfold unlessB; rw [decide_eq_false hp]; rfl
theorem order_at {l : List Rec} {i : Nat} {x y : Rec} (hp : Int.ofNat i > 0) (hx : l[i]? = some x) (hy : l[i - 1]? = some y) : (!pathLess y.2.1 x.2.1) = orderB l (Int.ofNat i) := by
 unfold orderB
 rw [decide_eq_true hp, show (Int.ofNat i).toNat = i from rfl, recAt_at hx, recAt_at hy]; rfl
theorem order_no {l : List Rec} {i : Nat} (hp : ¬ Int.ofNat i > 0) : false = orderB l (Int.ofNat i) := by unfold orderB; rw [decide_eq_false hp]; rfl
theorem up_none {l : List Rec} {i : Nat} {x : Rec} (hx : l[i]? = some x) (hp : parentS x.2.1 = []) : upOf l i = 0 := by unfold upOf; rw [recAt_at hx, if_pos hp]
theorem up_some {l : List Rec} {i : Nat} {x : Rec} (hx : l[i]? = some x) (hp : ¬ parentS x.2.1 = []) : idx (atPath (parentS x.2.1)) (subL l 0 (tN (Int.ofNat i))) = upOf l i := by
 unfold upOf; rw [recAt_at hx, if_neg hp]
 have : subL l 0 (tN (Int.ofNat i)) = l.take i := rfl
 rw [this]
theorem idx_lt {α : Type} (p : α -> Bool) (l : List α) : idx p l < l.length /\ -1 <= idx p l := by
 unfold idx
 cases h : l.findIdx? p with
 | none => simp; omega
 | some i =>
   have := (List.findIdx?_eq_some_iff_getElem.1 h).1
   simp only
   omega
theorem up_lt {l : List Rec} {i : Nat} (hi : i < l.length) : upOf l i < l.length := by
 unfold upOf
 split
 · omega
 · have := (idx_lt (atPath (parentS (recAt l i).2.1)) (l.take i)).1
   simp at this
   omega
theorem dir_none {l : List Rec} {i : Nat} {x : Rec} (hx : l[i]? = some x) (hp : parentS x.2.1 = []) : dirB l (Int.ofNat i) = false := by
 unfold dirB; rw [show (Int.ofNat i).toNat = i from rfl, recAt_at hx, decide_eq_true hp]; rfl
theorem dir_some {l : List Rec} {i : Nat} {x z : Rec} (hx : l[i]? = some x) (hp : ¬ parentS x.2.1 = []) (hu : ¬ upOf l i < 0) (hz : nthI l (upOf l i) = some z) : dirB l (Int.ofNat i) = !(decide (z.1 = 3)) := by
 have hz : l[(upOf l i).toNat]? = some z := hz
 unfold dirB; rw [show (Int.ofNat i).toNat = i from rfl, recAt_at hx, decide_eq_false hp, recAt_at hz]; rfl
theorem mm_toNat {u : Int} : (mm true u 0).toNat = u.toNat /\ 0 <= mm true u 0 := by
 unfold mm
 simp only [if_true]
 split <;> omega
theorem ms1 {i : Nat} (hp : Int.ofNat i > 0) (hi : i < 1099511627776) : mm true (wSub .i64 (Int.ofNat i) 1) 0 = Int.ofNat (i - 1) := by
 have hp : 0 < i := Int.ofNat_lt.1 hp
 rw [wSub_in (by simp only [Int.ofNat_eq_natCast]; omega)]
 unfold mm
 simp only [if_true, Int.ofNat_eq_natCast]
 split <;> omega
theorem dir_any {l : List Rec} {i : Nat} {x : Rec} (hi : i < l.length) (hx : l[i]? = some x) (hp : ¬ parentS x.2.1 = []) : bnd (mm true (upOf l i) 0) l.length /\ ∀ z, nthI l (mm true (upOf l i) 0) = some z -> true = (!(parentS x.2.1 == [])) /\ (z.1 != 3) = dirB l (Int.ofNat i) := by
 have hu := up_lt hi
 refine ⟨⟨mm_toNat.2, ?_⟩, fun z hz => ⟨?_, ?_⟩⟩
 · unfold mm
   simp only [if_true]
   split <;> omega
 · simpa using hp
 · unfold nthI at hz
   rw [mm_toNat.1] at hz
   unfold dirB
   rw [show (Int.ofNat i).toNat = i from rfl, recAt_at hx, decide_eq_false hp, recAt_at hz]
   by_cases h3 : z.1 = 3
   · rw [h3]; rfl
   · rw [decide_eq_false h3]; simpa using h3
theorem ge_16 {i : Nat} : decide (Int.ofNat i ≥ 16) = decide (16 <= i) := by
 by_cases h : 16 <= i
 · rw [decide_eq_true h, decide_eq_true (p := Int.ofNat i ≥ 16) (by simp only [Int.ofNat_eq_natCast]; omega)]
 · rw [decide_eq_false h, decide_eq_false (p := Int.ofNat i ≥ 16) (by simp only [Int.ofNat_eq_natCast]; omega)]
theorem fa_first {l : List Rec} {i : Nat} {x : Rec} (hx : l[i]? = some x) {o : Bool} {u : Int} (ho : o = orderB l (Int.ofNat i)) (hu : u = upOf l i) :
   first [.b (decide (Int.ofNat i ≥ 16)), .n 6, .b true, .n (first [.b (!decide (recFault x = 0)), .n (recFault x), .b (sameB l (Int.ofNat i)), .n 18, .b o, .n 11, .b (decide (u < 0)), .n 12, .b (dirB l (Int.ofNat i)), .n 13])] = faultI l (Int.ofNat i) := by
 have e : faultI l (Int.ofNat i) = faultAt l i := rfl
 rw [e, ge_16, ho, hu, <- recAt_at hx]
 unfold faultAt
 by_cases h16 : 16 <= i
 · rw [decide_eq_true h16, if_pos h16]; rfl
 rw [decide_eq_false h16, if_neg h16]
 by_cases hr : recFault (recAt l i) = 0
 · rw [decide_eq_true hr, if_neg (not_not_intro hr)]
   cases sameB l (Int.ofNat i) with
   | true => rfl
   | false =>
     rw [if_neg Bool.false_ne_true]
     cases orderB l (Int.ofNat i) with
     | true => rfl
     | false =>
       rw [if_neg Bool.false_ne_true]
       by_cases h5 : upOf l i < 0
       · rw [decide_eq_true h5, if_pos h5]; rfl
       · rw [decide_eq_false h5, if_neg h5]
         cases dirB l (Int.ofNat i) <;> rfl
 · rw [decide_eq_false hr, if_pos hr]; rfl
end Go.Fn
namespace Go.Proofs.YtkdnelaoagmeaaaGreatDoor
open Go.Ab Go.Fn
def s_faultAt : FSpec := { ps := [.v (.slice tRec), .v I], rs := [.v I], pre := fun x => okL x.1 /\ ∃ k : Nat, x.2.1 = Int.ofNat k /\ k < List.length (α := Rec) x.1 /\ k < 1099511627776, fn := fun x => (Fn.faultI x.1 x.2.1, ()), upd := fun _ => () }
theorem fo_faultAt : FO 127 s_faultAt := by
 refine fo (specs := [(85, s_parent), (194, s_find), (121, s_recOK), (185, s_fault), (195, s_PathLess), (51, s_first)]) (clos := []) (fun x => [(2000005, .ofSegs fun _ => [(15, ([16,17,18,19,20,21,22,23,24,25], fun _ => [(47, .d .bool (Fn.sameB x.1 x.2.1))])), (54, ([55,56,57,58,59,60,61], fun _ => [(83, .d .bool (Fn.dirB x.1 x.2.1))]))])]) ⟨fo_parent, fo_find, fo_RecordOK, fo_RecordFault, fo_PathLess, fo_first, trivial⟩ trivial Tryz.func127 rfl rfl ?_
 rintro ⟨l, i, ⟨⟩⟩ ⟨hl, i, rfl, hi, hb⟩
 refine vcOf (bnd (Int.ofNat i) (lenL l) /\ ∀ (x : Int × List UInt8 × List UInt8 × Int × Bool × Unit), nthI l (Int.ofNat i) = some x -> 5 <= (5) /\ 5 <= 5 /\ 2 <= (5) /\ true = true /\ x.snd.fst.length <= (100000000 : Nat) /\ ((!parentS x.snd.fst == ([] : List UInt8)) = true -> boundLo (Int.ofNat i) (lenL l) /\ true = true /\ True /\ 5 <= (5) /\ 5 <= (5) /\ 2 <= (5) /\ true = true /\ x.snd.fst.length <= (100000000 : Nat) /\ true = true /\ x.snd.fst.length <= (100000000 : Nat) /\ ((decide (Int.ofNat i > (0 : Int)) = true -> IntKind.i64 = IntKind.i64 /\ bnd (mm true (wSub .i64 (Int.ofNat i) (1 : Int)) (0 : Int)) (lenL l) /\ ∀ (x_1 : Int × List UInt8 × List UInt8 × Int × Bool × Unit), nthI l (mm true (wSub .i64 (Int.ofNat i) (1 : Int)) (0 : Int)) = some x_1 -> 1 <= (4) /\ 2 <= (5) /\ (l = l /\ Int.ofNat i = Int.ofNat i /\ (0 : Int) = 0 /\ (0 = 0 /\ (0 : Nat) = 0) /\ idx (atPath (parentS x.snd.fst)) (subL l (0 : Nat) (tN (Int.ofNat i))) = idx (atPath (parentS x.snd.fst)) (subL l (0 : Nat) (tN (Int.ofNat i))) /\ parentS x.snd.fst = parentS x.snd.fst /\ l = l /\ Int.ofNat i = Int.ofNat i /\ (x.fst = x.fst /\ x.snd.fst = x.snd.fst /\ x.snd.snd.fst = x.snd.snd.fst /\ x.snd.snd.snd.fst = x.snd.snd.snd.fst /\ x.snd.snd.snd.snd.fst = x.snd.snd.snd.snd.fst /\ True) /\ (x.fst = x.fst /\ x.snd.fst = x.snd.fst /\ x.snd.snd.fst = x.snd.snd.fst /\ x.snd.snd.snd.fst = x.snd.snd.snd.fst /\ x.snd.snd.snd.snd.fst = x.snd.snd.snd.snd.fst /\ True) /\ (0 = 0 /\ 1 = 1) /\ x.snd.fst = x.snd.fst /\ parentS x.snd.fst = parentS x.snd.fst /\ parentS x.snd.fst = parentS x.snd.fst /\ (!parentS x.snd.fst == ([] : List UInt8)) = !parentS x.snd.fst == ([] : List UInt8) /\ l = l /\ Int.ofNat i = Int.ofNat i /\ subL l (0 : Nat) (tN (Int.ofNat i)) = subL l (0 : Nat) (tN (Int.ofNat i)) /\ parentS x.snd.fst = parentS x.snd.fst /\ idx (atPath (parentS x.snd.fst)) (subL l (0 : Nat) (tN (Int.ofNat i))) = idx (atPath (parentS x.snd.fst)) (subL l (0 : Nat) (tN (Int.ofNat i))) /\ Int.ofNat i = Int.ofNat i /\ decide (Int.ofNat i ≥ (16 : Int)) = decide (Int.ofNat i ≥ (16 : Int)) /\ ((4 : Nat) = 4 /\ decide (Int.ofNat i ≥ (16 : Int)) = decide (Int.ofNat i ≥ (16 : Int))) /\ ((3 : Nat) = 3 /\ (6 : Int) = 6) /\ ((4 : Nat) = 4 /\ true = true) /\ (x.fst = x.fst /\ x.snd.fst = x.snd.fst /\ x.snd.snd.fst = x.snd.snd.fst /\ x.snd.snd.snd.fst = x.snd.snd.snd.fst /\ x.snd.snd.snd.snd.fst = x.snd.snd.snd.snd.fst /\ True) /\ decide (recFault (x.fst, x.snd.fst, x.snd.snd.fst, x.snd.snd.snd.fst, x.snd.snd.snd.snd.fst, ()) = (0 : Int)) = decide (recFault (x.fst, x.snd.fst, x.snd.snd.fst, x.snd.snd.snd.fst, x.snd.snd.snd.snd.fst, ()) = (0 : Int)) /\ (!decide (recFault (x.fst, x.snd.fst, x.snd.snd.fst, x.snd.snd.snd.fst, x.snd.snd.snd.snd.fst, ()) = (0 : Int))) = !decide (recFault (x.fst, x.snd.fst, x.snd.snd.fst, x.snd.snd.snd.fst, x.snd.snd.snd.snd.fst, ()) = (0 : Int)) /\ ((4 : Nat) = 4 /\ (!decide (recFault (x.fst, x.snd.fst, x.snd.snd.fst, x.snd.snd.snd.fst, x.snd.snd.snd.snd.fst, ()) = (0 : Int))) = !decide (recFault (x.fst, x.snd.fst, x.snd.snd.fst, x.snd.snd.snd.fst, x.snd.snd.snd.snd.fst, ()) = (0 : Int))) /\ (x.fst = x.fst /\ x.snd.fst = x.snd.fst /\ x.snd.snd.fst = x.snd.snd.fst /\ x.snd.snd.snd.fst = x.snd.snd.snd.fst /\ x.snd.snd.snd.snd.fst = x.snd.snd.snd.snd.fst /\ True) /\ recFault (x.fst, x.snd.fst, x.snd.snd.fst, x.snd.snd.snd.fst, x.snd.snd.snd.snd.fst, ()) = recFault (x.fst, x.snd.fst, x.snd.snd.fst, x.snd.snd.snd.fst, x.snd.snd.snd.snd.fst, ()) /\ ((3 : Nat) = 3 /\ recFault (x.fst, x.snd.fst, x.snd.snd.fst, x.snd.snd.snd.fst, x.snd.snd.snd.snd.fst, ()) = recFault (x.fst, x.snd.fst, x.snd.snd.fst, x.snd.snd.snd.fst, x.snd.snd.snd.snd.fst, ())) /\ Int.ofNat i = Int.ofNat i /\ decide (Int.ofNat i > (0 : Int)) = decide (Int.ofNat i > (0 : Int)) /\ true = decide (Int.ofNat i > (0 : Int)) /\ (x_1.snd.fst == x.snd.fst) = sameB l (Int.ofNat i) /\ ((3 : Nat) = 3 /\ (18 : Int) = 18) /\ Int.ofNat i = Int.ofNat i /\ decide (Int.ofNat i > (0 : Int)) = decide (Int.ofNat i > (0 : Int)) /\ ((3 : Nat) = 3 /\ (11 : Int) = 11) /\ idx (atPath (parentS x.snd.fst)) (subL l (0 : Nat) (tN (Int.ofNat i))) = idx (atPath (parentS x.snd.fst)) (subL l (0 : Nat) (tN (Int.ofNat i))) /\ decide (idx (atPath (parentS x.snd.fst)) (subL l (0 : Nat) (tN (Int.ofNat i))) < (0 : Int)) = decide (idx (atPath (parentS x.snd.fst)) (subL l (0 : Nat) (tN (Int.ofNat i))) < (0 : Int)) /\ ((4 : Nat) = 4 /\ decide (idx (atPath (parentS x.snd.fst)) (subL l (0 : Nat) (tN (Int.ofNat i))) < (0 : Int)) = decide (idx (atPath (parentS x.snd.fst)) (subL l (0 : Nat) (tN (Int.ofNat i))) < (0 : Int))) /\ ((3 : Nat) = 3 /\ (12 : Int) = 12) /\ (0 = 0 /\ 1 = 1) /\ x.snd.fst = x.snd.fst /\ ((3 : Nat) = 3 /\ (13 : Int) = 13) /\ True) /\ ((x.fst = x.fst /\ x.snd.fst = x.snd.fst /\ x.snd.snd.fst = x.snd.snd.fst /\ x.snd.snd.snd.fst = x.snd.snd.snd.fst /\ x.snd.snd.snd.snd.fst = x.snd.snd.snd.snd.fst /\ True) /\ True) /\ True) /\ (decide (Int.ofNat i > (0 : Int)) = false -> (l = l /\ Int.ofNat i = Int.ofNat i /\ (0 : Int) = 0 /\ (0 = 0 /\ (0 : Nat) = 0) /\ idx (atPath (parentS x.snd.fst)) (subL l (0 : Nat) (tN (Int.ofNat i))) = idx (atPath (parentS x.snd.fst)) (subL l (0 : Nat) (tN (Int.ofNat i))) /\ parentS x.snd.fst = parentS x.snd.fst /\ l = l /\ Int.ofNat i = Int.ofNat i /\ (x.fst = x.fst /\ x.snd.fst = x.snd.fst /\ x.snd.snd.fst = x.snd.snd.fst /\ x.snd.snd.snd.fst = x.snd.snd.snd.fst /\ x.snd.snd.snd.snd.fst = x.snd.snd.snd.snd.fst /\ True) /\ (x.fst = x.fst /\ x.snd.fst = x.snd.fst /\ x.snd.snd.fst = x.snd.snd.fst /\ x.snd.snd.snd.fst = x.snd.snd.snd.fst /\ x.snd.snd.snd.snd.fst = x.snd.snd.snd.snd.fst /\ True) /\ (0 = 0 /\ 1 = 1) /\ x.snd.fst = x.snd.fst /\ parentS x.snd.fst = parentS x.snd.fst /\ parentS x.snd.fst = parentS x.snd.fst /\ (!parentS x.snd.fst == ([] : List UInt8)) = !parentS x.snd.fst == ([] : List UInt8) /\ l = l /\ Int.ofNat i = Int.ofNat i /\ subL l (0 : Nat) (tN (Int.ofNat i)) = subL l (0 : Nat) (tN (Int.ofNat i)) /\ parentS x.snd.fst = parentS x.snd.fst /\ idx (atPath (parentS x.snd.fst)) (subL l (0 : Nat) (tN (Int.ofNat i))) = idx (atPath (parentS x.snd.fst)) (subL l (0 : Nat) (tN (Int.ofNat i))) /\ Int.ofNat i = Int.ofNat i /\ decide (Int.ofNat i ≥ (16 : Int)) = decide (Int.ofNat i ≥ (16 : Int)) /\ ((4 : Nat) = 4 /\ decide (Int.ofNat i ≥ (16 : Int)) = decide (Int.ofNat i ≥ (16 : Int))) /\ ((3 : Nat) = 3 /\ (6 : Int) = 6) /\ ((4 : Nat) = 4 /\ true = true) /\ (x.fst = x.fst /\ x.snd.fst = x.snd.fst /\ x.snd.snd.fst = x.snd.snd.fst /\ x.snd.snd.snd.fst = x.snd.snd.snd.fst /\ x.snd.snd.snd.snd.fst = x.snd.snd.snd.snd.fst /\ True) /\ decide (recFault (x.fst, x.snd.fst, x.snd.snd.fst, x.snd.snd.snd.fst, x.snd.snd.snd.snd.fst, ()) = (0 : Int)) = decide (recFault (x.fst, x.snd.fst, x.snd.snd.fst, x.snd.snd.snd.fst, x.snd.snd.snd.snd.fst, ()) = (0 : Int)) /\ (!decide (recFault (x.fst, x.snd.fst, x.snd.snd.fst, x.snd.snd.snd.fst, x.snd.snd.snd.snd.fst, ()) = (0 : Int))) = !decide (recFault (x.fst, x.snd.fst, x.snd.snd.fst, x.snd.snd.snd.fst, x.snd.snd.snd.snd.fst, ()) = (0 : Int)) /\ ((4 : Nat) = 4 /\ (!decide (recFault (x.fst, x.snd.fst, x.snd.snd.fst, x.snd.snd.snd.fst, x.snd.snd.snd.snd.fst, ()) = (0 : Int))) = !decide (recFault (x.fst, x.snd.fst, x.snd.snd.fst, x.snd.snd.snd.fst, x.snd.snd.snd.snd.fst, ()) = (0 : Int))) /\ (x.fst = x.fst /\ x.snd.fst = x.snd.fst /\ x.snd.snd.fst = x.snd.snd.fst /\ x.snd.snd.snd.fst = x.snd.snd.snd.fst /\ x.snd.snd.snd.snd.fst = x.snd.snd.snd.snd.fst /\ True) /\ recFault (x.fst, x.snd.fst, x.snd.snd.fst, x.snd.snd.snd.fst, x.snd.snd.snd.snd.fst, ()) = recFault (x.fst, x.snd.fst, x.snd.snd.fst, x.snd.snd.snd.fst, x.snd.snd.snd.snd.fst, ()) /\ ((3 : Nat) = 3 /\ recFault (x.fst, x.snd.fst, x.snd.snd.fst, x.snd.snd.snd.fst, x.snd.snd.snd.snd.fst, ()) = recFault (x.fst, x.snd.fst, x.snd.snd.fst, x.snd.snd.snd.fst, x.snd.snd.snd.snd.fst, ())) /\ Int.ofNat i = Int.ofNat i /\ decide (Int.ofNat i > (0 : Int)) = decide (Int.ofNat i > (0 : Int)) /\ false = decide (Int.ofNat i > (0 : Int)) /\ false = sameB l (Int.ofNat i) /\ ((3 : Nat) = 3 /\ (18 : Int) = 18) /\ Int.ofNat i = Int.ofNat i /\ decide (Int.ofNat i > (0 : Int)) = decide (Int.ofNat i > (0 : Int)) /\ ((3 : Nat) = 3 /\ (11 : Int) = 11) /\ idx (atPath (parentS x.snd.fst)) (subL l (0 : Nat) (tN (Int.ofNat i))) = idx (atPath (parentS x.snd.fst)) (subL l (0 : Nat) (tN (Int.ofNat i))) /\ decide (idx (atPath (parentS x.snd.fst)) (subL l (0 : Nat) (tN (Int.ofNat i))) < (0 : Int)) = decide (idx (atPath (parentS x.snd.fst)) (subL l (0 : Nat) (tN (Int.ofNat i))) < (0 : Int)) /\ ((4 : Nat) = 4 /\ decide (idx (atPath (parentS x.snd.fst)) (subL l (0 : Nat) (tN (Int.ofNat i))) < (0 : Int)) = decide (idx (atPath (parentS x.snd.fst)) (subL l (0 : Nat) (tN (Int.ofNat i))) < (0 : Int))) /\ ((3 : Nat) = 3 /\ (12 : Int) = 12) /\ (0 = 0 /\ 1 = 1) /\ x.snd.fst = x.snd.fst /\ ((3 : Nat) = 3 /\ (13 : Int) = 13) /\ True) /\ ((x.fst = x.fst /\ x.snd.fst = x.snd.fst /\ x.snd.snd.fst = x.snd.snd.fst /\ x.snd.snd.snd.fst = x.snd.snd.snd.fst /\ x.snd.snd.snd.snd.fst = x.snd.snd.snd.snd.fst /\ True) /\ True) /\ True)) /\ (decide (Int.ofNat i > (0 : Int)) = true -> IntKind.i64 = IntKind.i64 /\ bnd (mm true (wSub .i64 (Int.ofNat i) (1 : Int)) (0 : Int)) (lenL l) /\ ∀ (x_1 : Int × List UInt8 × List UInt8 × Int × Bool × Unit), nthI l (mm true (wSub .i64 (Int.ofNat i) (1 : Int)) (0 : Int)) = some x_1 -> 1 <= (4) /\ 2 <= (5) /\ true = true /\ (x_1.snd.fst.length <= (100000000 : Nat) /\ x.snd.fst.length <= (100000000 : Nat)) /\ true = true /\ x.snd.fst.length <= (100000000 : Nat) /\ (((!parentS x.snd.fst == ([] : List UInt8)) = true -> IntKind.i64 = IntKind.i64 /\ bnd (mm true (idx (atPath (parentS x.snd.fst)) (subL l (0 : Nat) (tN (Int.ofNat i)))) (0 : Int)) (lenL l) /\ ∀ (x_2 : Int × List UInt8 × List UInt8 × Int × Bool × Unit), nthI l (mm true (idx (atPath (parentS x.snd.fst)) (subL l (0 : Nat) (tN (Int.ofNat i)))) (0 : Int)) = some x_2 -> 1 <= (5) /\ (l = l /\ Int.ofNat i = Int.ofNat i /\ (0 : Int) = 0 /\ (0 = 0 /\ (0 : Nat) = 0) /\ idx (atPath (parentS x.snd.fst)) (subL l (0 : Nat) (tN (Int.ofNat i))) = idx (atPath (parentS x.snd.fst)) (subL l (0 : Nat) (tN (Int.ofNat i))) /\ parentS x.snd.fst = parentS x.snd.fst /\ l = l /\ Int.ofNat i = Int.ofNat i /\ (x.fst = x.fst /\ x.snd.fst = x.snd.fst /\ x.snd.snd.fst = x.snd.snd.fst /\ x.snd.snd.snd.fst = x.snd.snd.snd.fst /\ x.snd.snd.snd.snd.fst = x.snd.snd.snd.snd.fst /\ True) /\ (x.fst = x.fst /\ x.snd.fst = x.snd.fst /\ x.snd.snd.fst = x.snd.snd.fst /\ x.snd.snd.snd.fst = x.snd.snd.snd.fst /\ x.snd.snd.snd.snd.fst = x.snd.snd.snd.snd.fst /\ True) /\ (0 = 0 /\ 1 = 1) /\ x.snd.fst = x.snd.fst /\ parentS x.snd.fst = parentS x.snd.fst /\ parentS x.snd.fst = parentS x.snd.fst /\ (!parentS x.snd.fst == ([] : List UInt8)) = !parentS x.snd.fst == ([] : List UInt8) /\ l = l /\ Int.ofNat i = Int.ofNat i /\ subL l (0 : Nat) (tN (Int.ofNat i)) = subL l (0 : Nat) (tN (Int.ofNat i)) /\ parentS x.snd.fst = parentS x.snd.fst /\ idx (atPath (parentS x.snd.fst)) (subL l (0 : Nat) (tN (Int.ofNat i))) = idx (atPath (parentS x.snd.fst)) (subL l (0 : Nat) (tN (Int.ofNat i))) /\ Int.ofNat i = Int.ofNat i /\ decide (Int.ofNat i ≥ (16 : Int)) = decide (Int.ofNat i ≥ (16 : Int)) /\ ((4 : Nat) = 4 /\ decide (Int.ofNat i ≥ (16 : Int)) = decide (Int.ofNat i ≥ (16 : Int))) /\ ((3 : Nat) = 3 /\ (6 : Int) = 6) /\ ((4 : Nat) = 4 /\ true = true) /\ (x.fst = x.fst /\ x.snd.fst = x.snd.fst /\ x.snd.snd.fst = x.snd.snd.fst /\ x.snd.snd.snd.fst = x.snd.snd.snd.fst /\ x.snd.snd.snd.snd.fst = x.snd.snd.snd.snd.fst /\ True) /\ decide (recFault (x.fst, x.snd.fst, x.snd.snd.fst, x.snd.snd.snd.fst, x.snd.snd.snd.snd.fst, ()) = (0 : Int)) = decide (recFault (x.fst, x.snd.fst, x.snd.snd.fst, x.snd.snd.snd.fst, x.snd.snd.snd.snd.fst, ()) = (0 : Int)) /\ (!decide (recFault (x.fst, x.snd.fst, x.snd.snd.fst, x.snd.snd.snd.fst, x.snd.snd.snd.snd.fst, ()) = (0 : Int))) = !decide (recFault (x.fst, x.snd.fst, x.snd.snd.fst, x.snd.snd.snd.fst, x.snd.snd.snd.snd.fst, ()) = (0 : Int)) /\ ((4 : Nat) = 4 /\ (!decide (recFault (x.fst, x.snd.fst, x.snd.snd.fst, x.snd.snd.snd.fst, x.snd.snd.snd.snd.fst, ()) = (0 : Int))) = !decide (recFault (x.fst, x.snd.fst, x.snd.snd.fst, x.snd.snd.snd.fst, x.snd.snd.snd.snd.fst, ()) = (0 : Int))) /\ (x.fst = x.fst /\ x.snd.fst = x.snd.fst /\ x.snd.snd.fst = x.snd.snd.fst /\ x.snd.snd.snd.fst = x.snd.snd.snd.fst /\ x.snd.snd.snd.snd.fst = x.snd.snd.snd.snd.fst /\ True) /\ recFault (x.fst, x.snd.fst, x.snd.snd.fst, x.snd.snd.snd.fst, x.snd.snd.snd.snd.fst, ()) = recFault (x.fst, x.snd.fst, x.snd.snd.fst, x.snd.snd.snd.fst, x.snd.snd.snd.snd.fst, ()) /\ ((3 : Nat) = 3 /\ recFault (x.fst, x.snd.fst, x.snd.snd.fst, x.snd.snd.snd.fst, x.snd.snd.snd.snd.fst, ()) = recFault (x.fst, x.snd.fst, x.snd.snd.fst, x.snd.snd.snd.fst, x.snd.snd.snd.snd.fst, ())) /\ Int.ofNat i = Int.ofNat i /\ decide (Int.ofNat i > (0 : Int)) = decide (Int.ofNat i > (0 : Int)) /\ decide (Int.ofNat i > (0 : Int)) = decide (Int.ofNat i > (0 : Int)) /\ sameB l (Int.ofNat i) = sameB l (Int.ofNat i) /\ ((4 : Nat) = 4 /\ sameB l (Int.ofNat i) = sameB l (Int.ofNat i)) /\ ((3 : Nat) = 3 /\ (18 : Int) = 18) /\ Int.ofNat i = Int.ofNat i /\ decide (Int.ofNat i > (0 : Int)) = decide (Int.ofNat i > (0 : Int)) /\ true = true /\ l = l /\ Int.ofNat i = Int.ofNat i /\ wSub .i64 (Int.ofNat i) (1 : Int) = wSub .i64 (Int.ofNat i) (1 : Int) /\ mm true (wSub .i64 (Int.ofNat i) (1 : Int)) (0 : Int) = mm true (wSub .i64 (Int.ofNat i) (1 : Int)) (0 : Int) /\ (x_1.fst = x_1.fst /\ x_1.snd.fst = x_1.snd.fst /\ x_1.snd.snd.fst = x_1.snd.snd.fst /\ x_1.snd.snd.snd.fst = x_1.snd.snd.snd.fst /\ x_1.snd.snd.snd.snd.fst = x_1.snd.snd.snd.snd.fst /\ True) /\ (x_1.snd.fst = x_1.snd.fst /\ x_1.snd.snd.fst = x_1.snd.snd.fst /\ x_1.snd.snd.snd.fst = x_1.snd.snd.snd.fst /\ x_1.snd.snd.snd.snd.fst = x_1.snd.snd.snd.snd.fst /\ True) /\ x_1.snd.fst = x_1.snd.fst /\ (0 = 0 /\ 1 = 1) /\ x.snd.fst = x.snd.fst /\ pathLess x_1.snd.fst x.snd.fst = pathLess x_1.snd.fst x.snd.fst /\ (!pathLess x_1.snd.fst x.snd.fst) = !pathLess x_1.snd.fst x.snd.fst /\ (!pathLess x_1.snd.fst x.snd.fst) = !pathLess x_1.snd.fst x.snd.fst /\ ((4 : Nat) = 4 /\ (!pathLess x_1.snd.fst x.snd.fst) = !pathLess x_1.snd.fst x.snd.fst) /\ ((3 : Nat) = 3 /\ (11 : Int) = 11) /\ idx (atPath (parentS x.snd.fst)) (subL l (0 : Nat) (tN (Int.ofNat i))) = idx (atPath (parentS x.snd.fst)) (subL l (0 : Nat) (tN (Int.ofNat i))) /\ decide (idx (atPath (parentS x.snd.fst)) (subL l (0 : Nat) (tN (Int.ofNat i))) < (0 : Int)) = decide (idx (atPath (parentS x.snd.fst)) (subL l (0 : Nat) (tN (Int.ofNat i))) < (0 : Int)) /\ ((4 : Nat) = 4 /\ decide (idx (atPath (parentS x.snd.fst)) (subL l (0 : Nat) (tN (Int.ofNat i))) < (0 : Int)) = decide (idx (atPath (parentS x.snd.fst)) (subL l (0 : Nat) (tN (Int.ofNat i))) < (0 : Int))) /\ ((3 : Nat) = 3 /\ (12 : Int) = 12) /\ (0 = 0 /\ 1 = 1) /\ x.snd.fst = x.snd.fst /\ parentS x.snd.fst = parentS x.snd.fst /\ (!parentS x.snd.fst == ([] : List UInt8)) = !parentS x.snd.fst == ([] : List UInt8) /\ true = !parentS x.snd.fst == ([] : List UInt8) /\ (x_2.fst != (3 : Int)) = dirB l (Int.ofNat i) /\ ((3 : Nat) = 3 /\ (13 : Int) = 13) /\ True) /\ ((x.fst = x.fst /\ x.snd.fst = x.snd.fst /\ x.snd.snd.fst = x.snd.snd.fst /\ x.snd.snd.snd.fst = x.snd.snd.snd.fst /\ x.snd.snd.snd.snd.fst = x.snd.snd.snd.snd.fst /\ True) /\ True) /\ True) /\ ((!parentS x.snd.fst == ([] : List UInt8)) = false -> (l = l /\ Int.ofNat i = Int.ofNat i /\ (0 : Int) = 0 /\ (0 = 0 /\ (0 : Nat) = 0) /\ idx (atPath (parentS x.snd.fst)) (subL l (0 : Nat) (tN (Int.ofNat i))) = idx (atPath (parentS x.snd.fst)) (subL l (0 : Nat) (tN (Int.ofNat i))) /\ parentS x.snd.fst = parentS x.snd.fst /\ l = l /\ Int.ofNat i = Int.ofNat i /\ (x.fst = x.fst /\ x.snd.fst = x.snd.fst /\ x.snd.snd.fst = x.snd.snd.fst /\ x.snd.snd.snd.fst = x.snd.snd.snd.fst /\ x.snd.snd.snd.snd.fst = x.snd.snd.snd.snd.fst /\ True) /\ (x.fst = x.fst /\ x.snd.fst = x.snd.fst /\ x.snd.snd.fst = x.snd.snd.fst /\ x.snd.snd.snd.fst = x.snd.snd.snd.fst /\ x.snd.snd.snd.snd.fst = x.snd.snd.snd.snd.fst /\ True) /\ (0 = 0 /\ 1 = 1) /\ x.snd.fst = x.snd.fst /\ parentS x.snd.fst = parentS x.snd.fst /\ parentS x.snd.fst = parentS x.snd.fst /\ (!parentS x.snd.fst == ([] : List UInt8)) = !parentS x.snd.fst == ([] : List UInt8) /\ l = l /\ Int.ofNat i = Int.ofNat i /\ subL l (0 : Nat) (tN (Int.ofNat i)) = subL l (0 : Nat) (tN (Int.ofNat i)) /\ parentS x.snd.fst = parentS x.snd.fst /\ idx (atPath (parentS x.snd.fst)) (subL l (0 : Nat) (tN (Int.ofNat i))) = idx (atPath (parentS x.snd.fst)) (subL l (0 : Nat) (tN (Int.ofNat i))) /\ Int.ofNat i = Int.ofNat i /\ decide (Int.ofNat i ≥ (16 : Int)) = decide (Int.ofNat i ≥ (16 : Int)) /\ ((4 : Nat) = 4 /\ decide (Int.ofNat i ≥ (16 : Int)) = decide (Int.ofNat i ≥ (16 : Int))) /\ ((3 : Nat) = 3 /\ (6 : Int) = 6) /\ ((4 : Nat) = 4 /\ true = true) /\ (x.fst = x.fst /\ x.snd.fst = x.snd.fst /\ x.snd.snd.fst = x.snd.snd.fst /\ x.snd.snd.snd.fst = x.snd.snd.snd.fst /\ x.snd.snd.snd.snd.fst = x.snd.snd.snd.snd.fst /\ True) /\ decide (recFault (x.fst, x.snd.fst, x.snd.snd.fst, x.snd.snd.snd.fst, x.snd.snd.snd.snd.fst, ()) = (0 : Int)) = decide (recFault (x.fst, x.snd.fst, x.snd.snd.fst, x.snd.snd.snd.fst, x.snd.snd.snd.snd.fst, ()) = (0 : Int)) /\ (!decide (recFault (x.fst, x.snd.fst, x.snd.snd.fst, x.snd.snd.snd.fst, x.snd.snd.snd.snd.fst, ()) = (0 : Int))) = !decide (recFault (x.fst, x.snd.fst, x.snd.snd.fst, x.snd.snd.snd.fst, x.snd.snd.snd.snd.fst, ()) = (0 : Int)) /\ ((4 : Nat) = 4 /\ (!decide (recFault (x.fst, x.snd.fst, x.snd.snd.fst, x.snd.snd.snd.fst, x.snd.snd.snd.snd.fst, ()) = (0 : Int))) = !decide (recFault (x.fst, x.snd.fst, x.snd.snd.fst, x.snd.snd.snd.fst, x.snd.snd.snd.snd.fst, ()) = (0 : Int))) /\ (x.fst = x.fst /\ x.snd.fst = x.snd.fst /\ x.snd.snd.fst = x.snd.snd.fst /\ x.snd.snd.snd.fst = x.snd.snd.snd.fst /\ x.snd.snd.snd.snd.fst = x.snd.snd.snd.snd.fst /\ True) /\ recFault (x.fst, x.snd.fst, x.snd.snd.fst, x.snd.snd.snd.fst, x.snd.snd.snd.snd.fst, ()) = recFault (x.fst, x.snd.fst, x.snd.snd.fst, x.snd.snd.snd.fst, x.snd.snd.snd.snd.fst, ()) /\ ((3 : Nat) = 3 /\ recFault (x.fst, x.snd.fst, x.snd.snd.fst, x.snd.snd.snd.fst, x.snd.snd.snd.snd.fst, ()) = recFault (x.fst, x.snd.fst, x.snd.snd.fst, x.snd.snd.snd.fst, x.snd.snd.snd.snd.fst, ())) /\ Int.ofNat i = Int.ofNat i /\ decide (Int.ofNat i > (0 : Int)) = decide (Int.ofNat i > (0 : Int)) /\ decide (Int.ofNat i > (0 : Int)) = decide (Int.ofNat i > (0 : Int)) /\ sameB l (Int.ofNat i) = sameB l (Int.ofNat i) /\ ((4 : Nat) = 4 /\ sameB l (Int.ofNat i) = sameB l (Int.ofNat i)) /\ ((3 : Nat) = 3 /\ (18 : Int) = 18) /\ Int.ofNat i = Int.ofNat i /\ decide (Int.ofNat i > (0 : Int)) = decide (Int.ofNat i > (0 : Int)) /\ true = true /\ l = l /\ Int.ofNat i = Int.ofNat i /\ wSub .i64 (Int.ofNat i) (1 : Int) = wSub .i64 (Int.ofNat i) (1 : Int) /\ mm true (wSub .i64 (Int.ofNat i) (1 : Int)) (0 : Int) = mm true (wSub .i64 (Int.ofNat i) (1 : Int)) (0 : Int) /\ (x_1.fst = x_1.fst /\ x_1.snd.fst = x_1.snd.fst /\ x_1.snd.snd.fst = x_1.snd.snd.fst /\ x_1.snd.snd.snd.fst = x_1.snd.snd.snd.fst /\ x_1.snd.snd.snd.snd.fst = x_1.snd.snd.snd.snd.fst /\ True) /\ (x_1.snd.fst = x_1.snd.fst /\ x_1.snd.snd.fst = x_1.snd.snd.fst /\ x_1.snd.snd.snd.fst = x_1.snd.snd.snd.fst /\ x_1.snd.snd.snd.snd.fst = x_1.snd.snd.snd.snd.fst /\ True) /\ x_1.snd.fst = x_1.snd.fst /\ (0 = 0 /\ 1 = 1) /\ x.snd.fst = x.snd.fst /\ pathLess x_1.snd.fst x.snd.fst = pathLess x_1.snd.fst x.snd.fst /\ (!pathLess x_1.snd.fst x.snd.fst) = !pathLess x_1.snd.fst x.snd.fst /\ (!pathLess x_1.snd.fst x.snd.fst) = !pathLess x_1.snd.fst x.snd.fst /\ ((4 : Nat) = 4 /\ (!pathLess x_1.snd.fst x.snd.fst) = !pathLess x_1.snd.fst x.snd.fst) /\ ((3 : Nat) = 3 /\ (11 : Int) = 11) /\ idx (atPath (parentS x.snd.fst)) (subL l (0 : Nat) (tN (Int.ofNat i))) = idx (atPath (parentS x.snd.fst)) (subL l (0 : Nat) (tN (Int.ofNat i))) /\ decide (idx (atPath (parentS x.snd.fst)) (subL l (0 : Nat) (tN (Int.ofNat i))) < (0 : Int)) = decide (idx (atPath (parentS x.snd.fst)) (subL l (0 : Nat) (tN (Int.ofNat i))) < (0 : Int)) /\ ((4 : Nat) = 4 /\ decide (idx (atPath (parentS x.snd.fst)) (subL l (0 : Nat) (tN (Int.ofNat i))) < (0 : Int)) = decide (idx (atPath (parentS x.snd.fst)) (subL l (0 : Nat) (tN (Int.ofNat i))) < (0 : Int))) /\ ((3 : Nat) = 3 /\ (12 : Int) = 12) /\ (0 = 0 /\ 1 = 1) /\ x.snd.fst = x.snd.fst /\ parentS x.snd.fst = parentS x.snd.fst /\ (!parentS x.snd.fst == ([] : List UInt8)) = !parentS x.snd.fst == ([] : List UInt8) /\ false = !parentS x.snd.fst == ([] : List UInt8) /\ false = dirB l (Int.ofNat i) /\ ((3 : Nat) = 3 /\ (13 : Int) = 13) /\ True) /\ ((x.fst = x.fst /\ x.snd.fst = x.snd.fst /\ x.snd.snd.fst = x.snd.snd.fst /\ x.snd.snd.snd.fst = x.snd.snd.snd.fst /\ x.snd.snd.snd.snd.fst = x.snd.snd.snd.snd.fst /\ True) /\ True) /\ True)) /\ true = true /\ True /\ true = true /\ True /\ (first (AnyV.b (decide (Int.ofNat i ≥ (16 : Int))) :: AnyV.n (6 : Int) :: AnyV.b true :: AnyV.n (first ((AnyV.b !decide (recFault (x.fst, x.snd.fst, x.snd.snd.fst, x.snd.snd.snd.fst, x.snd.snd.snd.snd.fst, ()) = (0 : Int))) :: AnyV.n (recFault (x.fst, x.snd.fst, x.snd.snd.fst, x.snd.snd.snd.fst, x.snd.snd.snd.snd.fst, ())) :: AnyV.b (sameB l (Int.ofNat i)) :: AnyV.n (18 : Int) :: (AnyV.b !pathLess x_1.snd.fst x.snd.fst) :: AnyV.n (11 : Int) :: AnyV.b (decide (idx (atPath (parentS x.snd.fst)) (subL l (0 : Nat) (tN (Int.ofNat i))) < (0 : Int))) :: AnyV.n (12 : Int) :: AnyV.b (dirB l (Int.ofNat i)) :: AnyV.n (13 : Int) :: ([] : List AnyV))) :: ([] : List AnyV)), ()) = (faultI l (Int.ofNat i), ()) /\ () = ()) /\ (decide (Int.ofNat i > (0 : Int)) = false -> true = true /\ x.snd.fst.length <= (100000000 : Nat) /\ (((!parentS x.snd.fst == ([] : List UInt8)) = true -> IntKind.i64 = IntKind.i64 /\ bnd (mm true (idx (atPath (parentS x.snd.fst)) (subL l (0 : Nat) (tN (Int.ofNat i)))) (0 : Int)) (lenL l) /\ ∀ (x_1 : Int × List UInt8 × List UInt8 × Int × Bool × Unit), nthI l (mm true (idx (atPath (parentS x.snd.fst)) (subL l (0 : Nat) (tN (Int.ofNat i)))) (0 : Int)) = some x_1 -> 1 <= (5) /\ (l = l /\ Int.ofNat i = Int.ofNat i /\ (0 : Int) = 0 /\ (0 = 0 /\ (0 : Nat) = 0) /\ idx (atPath (parentS x.snd.fst)) (subL l (0 : Nat) (tN (Int.ofNat i))) = idx (atPath (parentS x.snd.fst)) (subL l (0 : Nat) (tN (Int.ofNat i))) /\ parentS x.snd.fst = parentS x.snd.fst /\ l = l /\ Int.ofNat i = Int.ofNat i /\ (x.fst = x.fst /\ x.snd.fst = x.snd.fst /\ x.snd.snd.fst = x.snd.snd.fst /\ x.snd.snd.snd.fst = x.snd.snd.snd.fst /\ x.snd.snd.snd.snd.fst = x.snd.snd.snd.snd.fst /\ True) /\ (x.fst = x.fst /\ x.snd.fst = x.snd.fst /\ x.snd.snd.fst = x.snd.snd.fst /\ x.snd.snd.snd.fst = x.snd.snd.snd.fst /\ x.snd.snd.snd.snd.fst = x.snd.snd.snd.snd.fst /\ True) /\ (0 = 0 /\ 1 = 1) /\ x.snd.fst = x.snd.fst /\ parentS x.snd.fst = parentS x.snd.fst /\ parentS x.snd.fst = parentS x.snd.fst /\ (!parentS x.snd.fst == ([] : List UInt8)) = !parentS x.snd.fst == ([] : List UInt8) /\ l = l /\ Int.ofNat i = Int.ofNat i /\ subL l (0 : Nat) (tN (Int.ofNat i)) = subL l (0 : Nat) (tN (Int.ofNat i)) /\ parentS x.snd.fst = parentS x.snd.fst /\ idx (atPath (parentS x.snd.fst)) (subL l (0 : Nat) (tN (Int.ofNat i))) = idx (atPath (parentS x.snd.fst)) (subL l (0 : Nat) (tN (Int.ofNat i))) /\ Int.ofNat i = Int.ofNat i /\ decide (Int.ofNat i ≥ (16 : Int)) = decide (Int.ofNat i ≥ (16 : Int)) /\ ((4 : Nat) = 4 /\ decide (Int.ofNat i ≥ (16 : Int)) = decide (Int.ofNat i ≥ (16 : Int))) /\ ((3 : Nat) = 3 /\ (6 : Int) = 6) /\ ((4 : Nat) = 4 /\ true = true) /\ (x.fst = x.fst /\ x.snd.fst = x.snd.fst /\ x.snd.snd.fst = x.snd.snd.fst /\ x.snd.snd.snd.fst = x.snd.snd.snd.fst /\ x.snd.snd.snd.snd.fst = x.snd.snd.snd.snd.fst /\ True) /\ decide (recFault (x.fst, x.snd.fst, x.snd.snd.fst, x.snd.snd.snd.fst, x.snd.snd.snd.snd.fst, ()) = (0 : Int)) = decide (recFault (x.fst, x.snd.fst, x.snd.snd.fst, x.snd.snd.snd.fst, x.snd.snd.snd.snd.fst, ()) = (0 : Int)) /\ (!decide (recFault (x.fst, x.snd.fst, x.snd.snd.fst, x.snd.snd.snd.fst, x.snd.snd.snd.snd.fst, ()) = (0 : Int))) = !decide (recFault (x.fst, x.snd.fst, x.snd.snd.fst, x.snd.snd.snd.fst, x.snd.snd.snd.snd.fst, ()) = (0 : Int)) /\ ((4 : Nat) = 4 /\ (!decide (recFault (x.fst, x.snd.fst, x.snd.snd.fst, x.snd.snd.snd.fst, x.snd.snd.snd.snd.fst, ()) = (0 : Int))) = !decide (recFault (x.fst, x.snd.fst, x.snd.snd.fst, x.snd.snd.snd.fst, x.snd.snd.snd.snd.fst, ()) = (0 : Int))) /\ (x.fst = x.fst /\ x.snd.fst = x.snd.fst /\ x.snd.snd.fst = x.snd.snd.fst /\ x.snd.snd.snd.fst = x.snd.snd.snd.fst /\ x.snd.snd.snd.snd.fst = x.snd.snd.snd.snd.fst /\ True) /\ recFault (x.fst, x.snd.fst, x.snd.snd.fst, x.snd.snd.snd.fst, x.snd.snd.snd.snd.fst, ()) = recFault (x.fst, x.snd.fst, x.snd.snd.fst, x.snd.snd.snd.fst, x.snd.snd.snd.snd.fst, ()) /\ ((3 : Nat) = 3 /\ recFault (x.fst, x.snd.fst, x.snd.snd.fst, x.snd.snd.snd.fst, x.snd.snd.snd.snd.fst, ()) = recFault (x.fst, x.snd.fst, x.snd.snd.fst, x.snd.snd.snd.fst, x.snd.snd.snd.snd.fst, ())) /\ Int.ofNat i = Int.ofNat i /\ decide (Int.ofNat i > (0 : Int)) = decide (Int.ofNat i > (0 : Int)) /\ decide (Int.ofNat i > (0 : Int)) = decide (Int.ofNat i > (0 : Int)) /\ sameB l (Int.ofNat i) = sameB l (Int.ofNat i) /\ ((4 : Nat) = 4 /\ sameB l (Int.ofNat i) = sameB l (Int.ofNat i)) /\ ((3 : Nat) = 3 /\ (18 : Int) = 18) /\ Int.ofNat i = Int.ofNat i /\ decide (Int.ofNat i > (0 : Int)) = decide (Int.ofNat i > (0 : Int)) /\ false = false /\ True /\ True /\ True /\ True /\ True /\ True /\ True /\ True /\ True /\ True /\ True /\ false = false /\ ((4 : Nat) = 4 /\ false = false) /\ ((3 : Nat) = 3 /\ (11 : Int) = 11) /\ idx (atPath (parentS x.snd.fst)) (subL l (0 : Nat) (tN (Int.ofNat i))) = idx (atPath (parentS x.snd.fst)) (subL l (0 : Nat) (tN (Int.ofNat i))) /\ decide (idx (atPath (parentS x.snd.fst)) (subL l (0 : Nat) (tN (Int.ofNat i))) < (0 : Int)) = decide (idx (atPath (parentS x.snd.fst)) (subL l (0 : Nat) (tN (Int.ofNat i))) < (0 : Int)) /\ ((4 : Nat) = 4 /\ decide (idx (atPath (parentS x.snd.fst)) (subL l (0 : Nat) (tN (Int.ofNat i))) < (0 : Int)) = decide (idx (atPath (parentS x.snd.fst)) (subL l (0 : Nat) (tN (Int.ofNat i))) < (0 : Int))) /\ ((3 : Nat) = 3 /\ (12 : Int) = 12) /\ (0 = 0 /\ 1 = 1) /\ x.snd.fst = x.snd.fst /\ parentS x.snd.fst = parentS x.snd.fst /\ (!parentS x.snd.fst == ([] : List UInt8)) = !parentS x.snd.fst == ([] : List UInt8) /\ true = !parentS x.snd.fst == ([] : List UInt8) /\ (x_1.fst != (3 : Int)) = dirB l (Int.ofNat i) /\ ((3 : Nat) = 3 /\ (13 : Int) = 13) /\ True) /\ ((x.fst = x.fst /\ x.snd.fst = x.snd.fst /\ x.snd.snd.fst = x.snd.snd.fst /\ x.snd.snd.snd.fst = x.snd.snd.snd.fst /\ x.snd.snd.snd.snd.fst = x.snd.snd.snd.snd.fst /\ True) /\ True) /\ True) /\ ((!parentS x.snd.fst == ([] : List UInt8)) = false -> (l = l /\ Int.ofNat i = Int.ofNat i /\ (0 : Int) = 0 /\ (0 = 0 /\ (0 : Nat) = 0) /\ idx (atPath (parentS x.snd.fst)) (subL l (0 : Nat) (tN (Int.ofNat i))) = idx (atPath (parentS x.snd.fst)) (subL l (0 : Nat) (tN (Int.ofNat i))) /\ parentS x.snd.fst = parentS x.snd.fst /\ l = l /\ Int.ofNat i = Int.ofNat i /\ (x.fst = x.fst /\ x.snd.fst = x.snd.fst /\ x.snd.snd.fst = x.snd.snd.fst /\ x.snd.snd.snd.fst = x.snd.snd.snd.fst /\ x.snd.snd.snd.snd.fst = x.snd.snd.snd.snd.fst /\ True) /\ (x.fst = x.fst /\ x.snd.fst = x.snd.fst /\ x.snd.snd.fst = x.snd.snd.fst /\ x.snd.snd.snd.fst = x.snd.snd.snd.fst /\ x.snd.snd.snd.snd.fst = x.snd.snd.snd.snd.fst /\ True) /\ (0 = 0 /\ 1 = 1) /\ x.snd.fst = x.snd.fst /\ parentS x.snd.fst = parentS x.snd.fst /\ parentS x.snd.fst = parentS x.snd.fst /\ (!parentS x.snd.fst == ([] : List UInt8)) = !parentS x.snd.fst == ([] : List UInt8) /\ l = l /\ Int.ofNat i = Int.ofNat i /\ subL l (0 : Nat) (tN (Int.ofNat i)) = subL l (0 : Nat) (tN (Int.ofNat i)) /\ parentS x.snd.fst = parentS x.snd.fst /\ idx (atPath (parentS x.snd.fst)) (subL l (0 : Nat) (tN (Int.ofNat i))) = idx (atPath (parentS x.snd.fst)) (subL l (0 : Nat) (tN (Int.ofNat i))) /\ Int.ofNat i = Int.ofNat i /\ decide (Int.ofNat i ≥ (16 : Int)) = decide (Int.ofNat i ≥ (16 : Int)) /\ ((4 : Nat) = 4 /\ decide (Int.ofNat i ≥ (16 : Int)) = decide (Int.ofNat i ≥ (16 : Int))) /\ ((3 : Nat) = 3 /\ (6 : Int) = 6) /\ ((4 : Nat) = 4 /\ true = true) /\ (x.fst = x.fst /\ x.snd.fst = x.snd.fst /\ x.snd.snd.fst = x.snd.snd.fst /\ x.snd.snd.snd.fst = x.snd.snd.snd.fst /\ x.snd.snd.snd.snd.fst = x.snd.snd.snd.snd.fst /\ True) /\ decide (recFault (x.fst, x.snd.fst, x.snd.snd.fst, x.snd.snd.snd.fst, x.snd.snd.snd.snd.fst, ()) = (0 : Int)) = decide (recFault (x.fst, x.snd.fst, x.snd.snd.fst, x.snd.snd.snd.fst, x.snd.snd.snd.snd.fst, ()) = (0 : Int)) /\ (!decide (recFault (x.fst, x.snd.fst, x.snd.snd.fst, x.snd.snd.snd.fst, x.snd.snd.snd.snd.fst, ()) = (0 : Int))) = !decide (recFault (x.fst, x.snd.fst, x.snd.snd.fst, x.snd.snd.snd.fst, x.snd.snd.snd.snd.fst, ()) = (0 : Int)) /\ ((4 : Nat) = 4 /\ (!decide (recFault (x.fst, x.snd.fst, x.snd.snd.fst, x.snd.snd.snd.fst, x.snd.snd.snd.snd.fst, ()) = (0 : Int))) = !decide (recFault (x.fst, x.snd.fst, x.snd.snd.fst, x.snd.snd.snd.fst, x.snd.snd.snd.snd.fst, ()) = (0 : Int))) /\ (x.fst = x.fst /\ x.snd.fst = x.snd.fst /\ x.snd.snd.fst = x.snd.snd.fst /\ x.snd.snd.snd.fst = x.snd.snd.snd.fst /\ x.snd.snd.snd.snd.fst = x.snd.snd.snd.snd.fst /\ True) /\ recFault (x.fst, x.snd.fst, x.snd.snd.fst, x.snd.snd.snd.fst, x.snd.snd.snd.snd.fst, ()) = recFault (x.fst, x.snd.fst, x.snd.snd.fst, x.snd.snd.snd.fst, x.snd.snd.snd.snd.fst, ()) /\ ((3 : Nat) = 3 /\ recFault (x.fst, x.snd.fst, x.snd.snd.fst, x.snd.snd.snd.fst, x.snd.snd.snd.snd.fst, ()) = recFault (x.fst, x.snd.fst, x.snd.snd.fst, x.snd.snd.snd.fst, x.snd.snd.snd.snd.fst, ())) /\ Int.ofNat i = Int.ofNat i /\ decide (Int.ofNat i > (0 : Int)) = decide (Int.ofNat i > (0 : Int)) /\ decide (Int.ofNat i > (0 : Int)) = decide (Int.ofNat i > (0 : Int)) /\ sameB l (Int.ofNat i) = sameB l (Int.ofNat i) /\ ((4 : Nat) = 4 /\ sameB l (Int.ofNat i) = sameB l (Int.ofNat i)) /\ ((3 : Nat) = 3 /\ (18 : Int) = 18) /\ Int.ofNat i = Int.ofNat i /\ decide (Int.ofNat i > (0 : Int)) = decide (Int.ofNat i > (0 : Int)) /\ false = false /\ True /\ True /\ True /\ True /\ True /\ True /\ True /\ True /\ True /\ True /\ True /\ false = false /\ ((4 : Nat) = 4 /\ false = false) /\ ((3 : Nat) = 3 /\ (11 : Int) = 11) /\ idx (atPath (parentS x.snd.fst)) (subL l (0 : Nat) (tN (Int.ofNat i))) = idx (atPath (parentS x.snd.fst)) (subL l (0 : Nat) (tN (Int.ofNat i))) /\ decide (idx (atPath (parentS x.snd.fst)) (subL l (0 : Nat) (tN (Int.ofNat i))) < (0 : Int)) = decide (idx (atPath (parentS x.snd.fst)) (subL l (0 : Nat) (tN (Int.ofNat i))) < (0 : Int)) /\ ((4 : Nat) = 4 /\ decide (idx (atPath (parentS x.snd.fst)) (subL l (0 : Nat) (tN (Int.ofNat i))) < (0 : Int)) = decide (idx (atPath (parentS x.snd.fst)) (subL l (0 : Nat) (tN (Int.ofNat i))) < (0 : Int))) /\ ((3 : Nat) = 3 /\ (12 : Int) = 12) /\ (0 = 0 /\ 1 = 1) /\ x.snd.fst = x.snd.fst /\ parentS x.snd.fst = parentS x.snd.fst /\ (!parentS x.snd.fst == ([] : List UInt8)) = !parentS x.snd.fst == ([] : List UInt8) /\ false = !parentS x.snd.fst == ([] : List UInt8) /\ false = dirB l (Int.ofNat i) /\ ((3 : Nat) = 3 /\ (13 : Int) = 13) /\ True) /\ ((x.fst = x.fst /\ x.snd.fst = x.snd.fst /\ x.snd.snd.fst = x.snd.snd.fst /\ x.snd.snd.snd.fst = x.snd.snd.snd.fst /\ x.snd.snd.snd.snd.fst = x.snd.snd.snd.snd.fst /\ True) /\ True) /\ True)) /\ true = true /\ True /\ true = true /\ True /\ (first (AnyV.b (decide (Int.ofNat i ≥ (16 : Int))) :: AnyV.n (6 : Int) :: AnyV.b true :: AnyV.n (first ((AnyV.b !decide (recFault (x.fst, x.snd.fst, x.snd.snd.fst, x.snd.snd.snd.fst, x.snd.snd.snd.snd.fst, ()) = (0 : Int))) :: AnyV.n (recFault (x.fst, x.snd.fst, x.snd.snd.fst, x.snd.snd.snd.fst, x.snd.snd.snd.snd.fst, ())) :: AnyV.b (sameB l (Int.ofNat i)) :: AnyV.n (18 : Int) :: AnyV.b false :: AnyV.n (11 : Int) :: AnyV.b (decide (idx (atPath (parentS x.snd.fst)) (subL l (0 : Nat) (tN (Int.ofNat i))) < (0 : Int))) :: AnyV.n (12 : Int) :: AnyV.b (dirB l (Int.ofNat i)) :: AnyV.n (13 : Int) :: ([] : List AnyV))) :: ([] : List AnyV)), ()) = (faultI l (Int.ofNat i), ()) /\ () = ())) /\ ((!parentS x.snd.fst == ([] : List UInt8)) = false -> 5 <= (5) /\ 5 <= (5) /\ 2 <= (5) /\ true = true /\ x.snd.fst.length <= (100000000 : Nat) /\ true = true /\ x.snd.fst.length <= (100000000 : Nat) /\ ((decide (Int.ofNat i > (0 : Int)) = true -> IntKind.i64 = IntKind.i64 /\ bnd (mm true (wSub .i64 (Int.ofNat i) (1 : Int)) (0 : Int)) (lenL l) /\ ∀ (x_1 : Int × List UInt8 × List UInt8 × Int × Bool × Unit), nthI l (mm true (wSub .i64 (Int.ofNat i) (1 : Int)) (0 : Int)) = some x_1 -> 1 <= (4) /\ 2 <= (5) /\ (l = l /\ Int.ofNat i = Int.ofNat i /\ (0 : Int) = 0 /\ (0 = 0 /\ (0 : Nat) = 0) /\ (0 : Int) = 0 /\ parentS x.snd.fst = parentS x.snd.fst /\ l = l /\ Int.ofNat i = Int.ofNat i /\ (x.fst = x.fst /\ x.snd.fst = x.snd.fst /\ x.snd.snd.fst = x.snd.snd.fst /\ x.snd.snd.snd.fst = x.snd.snd.snd.fst /\ x.snd.snd.snd.snd.fst = x.snd.snd.snd.snd.fst /\ True) /\ (x.fst = x.fst /\ x.snd.fst = x.snd.fst /\ x.snd.snd.fst = x.snd.snd.fst /\ x.snd.snd.snd.fst = x.snd.snd.snd.fst /\ x.snd.snd.snd.snd.fst = x.snd.snd.snd.snd.fst /\ True) /\ (0 = 0 /\ 1 = 1) /\ x.snd.fst = x.snd.fst /\ parentS x.snd.fst = parentS x.snd.fst /\ parentS x.snd.fst = parentS x.snd.fst /\ (!parentS x.snd.fst == ([] : List UInt8)) = !parentS x.snd.fst == ([] : List UInt8) /\ Int.ofNat i = Int.ofNat i /\ decide (Int.ofNat i ≥ (16 : Int)) = decide (Int.ofNat i ≥ (16 : Int)) /\ ((4 : Nat) = 4 /\ decide (Int.ofNat i ≥ (16 : Int)) = decide (Int.ofNat i ≥ (16 : Int))) /\ ((3 : Nat) = 3 /\ (6 : Int) = 6) /\ ((4 : Nat) = 4 /\ true = true) /\ (x.fst = x.fst /\ x.snd.fst = x.snd.fst /\ x.snd.snd.fst = x.snd.snd.fst /\ x.snd.snd.snd.fst = x.snd.snd.snd.fst /\ x.snd.snd.snd.snd.fst = x.snd.snd.snd.snd.fst /\ True) /\ decide (recFault (x.fst, x.snd.fst, x.snd.snd.fst, x.snd.snd.snd.fst, x.snd.snd.snd.snd.fst, ()) = (0 : Int)) = decide (recFault (x.fst, x.snd.fst, x.snd.snd.fst, x.snd.snd.snd.fst, x.snd.snd.snd.snd.fst, ()) = (0 : Int)) /\ (!decide (recFault (x.fst, x.snd.fst, x.snd.snd.fst, x.snd.snd.snd.fst, x.snd.snd.snd.snd.fst, ()) = (0 : Int))) = !decide (recFault (x.fst, x.snd.fst, x.snd.snd.fst, x.snd.snd.snd.fst, x.snd.snd.snd.snd.fst, ()) = (0 : Int)) /\ ((4 : Nat) = 4 /\ (!decide (recFault (x.fst, x.snd.fst, x.snd.snd.fst, x.snd.snd.snd.fst, x.snd.snd.snd.snd.fst, ()) = (0 : Int))) = !decide (recFault (x.fst, x.snd.fst, x.snd.snd.fst, x.snd.snd.snd.fst, x.snd.snd.snd.snd.fst, ()) = (0 : Int))) /\ (x.fst = x.fst /\ x.snd.fst = x.snd.fst /\ x.snd.snd.fst = x.snd.snd.fst /\ x.snd.snd.snd.fst = x.snd.snd.snd.fst /\ x.snd.snd.snd.snd.fst = x.snd.snd.snd.snd.fst /\ True) /\ recFault (x.fst, x.snd.fst, x.snd.snd.fst, x.snd.snd.snd.fst, x.snd.snd.snd.snd.fst, ()) = recFault (x.fst, x.snd.fst, x.snd.snd.fst, x.snd.snd.snd.fst, x.snd.snd.snd.snd.fst, ()) /\ ((3 : Nat) = 3 /\ recFault (x.fst, x.snd.fst, x.snd.snd.fst, x.snd.snd.snd.fst, x.snd.snd.snd.snd.fst, ()) = recFault (x.fst, x.snd.fst, x.snd.snd.fst, x.snd.snd.snd.fst, x.snd.snd.snd.snd.fst, ())) /\ Int.ofNat i = Int.ofNat i /\ decide (Int.ofNat i > (0 : Int)) = decide (Int.ofNat i > (0 : Int)) /\ true = decide (Int.ofNat i > (0 : Int)) /\ (x_1.snd.fst == x.snd.fst) = sameB l (Int.ofNat i) /\ ((3 : Nat) = 3 /\ (18 : Int) = 18) /\ Int.ofNat i = Int.ofNat i /\ decide (Int.ofNat i > (0 : Int)) = decide (Int.ofNat i > (0 : Int)) /\ ((3 : Nat) = 3 /\ (11 : Int) = 11) /\ (0 : Int) = 0 /\ decide ((0 : Int) < (0 : Int)) = decide ((0 : Int) < (0 : Int)) /\ ((4 : Nat) = 4 /\ decide ((0 : Int) < (0 : Int)) = decide ((0 : Int) < (0 : Int))) /\ ((3 : Nat) = 3 /\ (12 : Int) = 12) /\ (0 = 0 /\ 1 = 1) /\ x.snd.fst = x.snd.fst /\ ((3 : Nat) = 3 /\ (13 : Int) = 13) /\ True) /\ ((x.fst = x.fst /\ x.snd.fst = x.snd.fst /\ x.snd.snd.fst = x.snd.snd.fst /\ x.snd.snd.snd.fst = x.snd.snd.snd.fst /\ x.snd.snd.snd.snd.fst = x.snd.snd.snd.snd.fst /\ True) /\ True) /\ True) /\ (decide (Int.ofNat i > (0 : Int)) = false -> (l = l /\ Int.ofNat i = Int.ofNat i /\ (0 : Int) = 0 /\ (0 = 0 /\ (0 : Nat) = 0) /\ (0 : Int) = 0 /\ parentS x.snd.fst = parentS x.snd.fst /\ l = l /\ Int.ofNat i = Int.ofNat i /\ (x.fst = x.fst /\ x.snd.fst = x.snd.fst /\ x.snd.snd.fst = x.snd.snd.fst /\ x.snd.snd.snd.fst = x.snd.snd.snd.fst /\ x.snd.snd.snd.snd.fst = x.snd.snd.snd.snd.fst /\ True) /\ (x.fst = x.fst /\ x.snd.fst = x.snd.fst /\ x.snd.snd.fst = x.snd.snd.fst /\ x.snd.snd.snd.fst = x.snd.snd.snd.fst /\ x.snd.snd.snd.snd.fst = x.snd.snd.snd.snd.fst /\ True) /\ (0 = 0 /\ 1 = 1) /\ x.snd.fst = x.snd.fst /\ parentS x.snd.fst = parentS x.snd.fst /\ parentS x.snd.fst = parentS x.snd.fst /\ (!parentS x.snd.fst == ([] : List UInt8)) = !parentS x.snd.fst == ([] : List UInt8) /\ Int.ofNat i = Int.ofNat i /\ decide (Int.ofNat i ≥ (16 : Int)) = decide (Int.ofNat i ≥ (16 : Int)) /\ ((4 : Nat) = 4 /\ decide (Int.ofNat i ≥ (16 : Int)) = decide (Int.ofNat i ≥ (16 : Int))) /\ ((3 : Nat) = 3 /\ (6 : Int) = 6) /\ ((4 : Nat) = 4 /\ true = true) /\ (x.fst = x.fst /\ x.snd.fst = x.snd.fst /\ x.snd.snd.fst = x.snd.snd.fst /\ x.snd.snd.snd.fst = x.snd.snd.snd.fst /\ x.snd.snd.snd.snd.fst = x.snd.snd.snd.snd.fst /\ True) /\ decide (recFault (x.fst, x.snd.fst, x.snd.snd.fst, x.snd.snd.snd.fst, x.snd.snd.snd.snd.fst, ()) = (0 : Int)) = decide (recFault (x.fst, x.snd.fst, x.snd.snd.fst, x.snd.snd.snd.fst, x.snd.snd.snd.snd.fst, ()) = (0 : Int)) /\ (!decide (recFault (x.fst, x.snd.fst, x.snd.snd.fst, x.snd.snd.snd.fst, x.snd.snd.snd.snd.fst, ()) = (0 : Int))) = !decide (recFault (x.fst, x.snd.fst, x.snd.snd.fst, x.snd.snd.snd.fst, x.snd.snd.snd.snd.fst, ()) = (0 : Int)) /\ ((4 : Nat) = 4 /\ (!decide (recFault (x.fst, x.snd.fst, x.snd.snd.fst, x.snd.snd.snd.fst, x.snd.snd.snd.snd.fst, ()) = (0 : Int))) = !decide (recFault (x.fst, x.snd.fst, x.snd.snd.fst, x.snd.snd.snd.fst, x.snd.snd.snd.snd.fst, ()) = (0 : Int))) /\ (x.fst = x.fst /\ x.snd.fst = x.snd.fst /\ x.snd.snd.fst = x.snd.snd.fst /\ x.snd.snd.snd.fst = x.snd.snd.snd.fst /\ x.snd.snd.snd.snd.fst = x.snd.snd.snd.snd.fst /\ True) /\ recFault (x.fst, x.snd.fst, x.snd.snd.fst, x.snd.snd.snd.fst, x.snd.snd.snd.snd.fst, ()) = recFault (x.fst, x.snd.fst, x.snd.snd.fst, x.snd.snd.snd.fst, x.snd.snd.snd.snd.fst, ()) /\ ((3 : Nat) = 3 /\ recFault (x.fst, x.snd.fst, x.snd.snd.fst, x.snd.snd.snd.fst, x.snd.snd.snd.snd.fst, ()) = recFault (x.fst, x.snd.fst, x.snd.snd.fst, x.snd.snd.snd.fst, x.snd.snd.snd.snd.fst, ())) /\ Int.ofNat i = Int.ofNat i /\ decide (Int.ofNat i > (0 : Int)) = decide (Int.ofNat i > (0 : Int)) /\ false = decide (Int.ofNat i > (0 : Int)) /\ false = sameB l (Int.ofNat i) /\ ((3 : Nat) = 3 /\ (18 : Int) = 18) /\ Int.ofNat i = Int.ofNat i /\ decide (Int.ofNat i > (0 : Int)) = decide (Int.ofNat i > (0 : Int)) /\ ((3 : Nat) = 3 /\ (11 : Int) = 11) /\ (0 : Int) = 0 /\ decide ((0 : Int) < (0 : Int)) = decide ((0 : Int) < (0 : Int)) /\ ((4 : Nat) = 4 /\ decide ((0 : Int) < (0 : Int)) = decide ((0 : Int) < (0 : Int))) /\ ((3 : Nat) = 3 /\ (12 : Int) = 12) /\ (0 = 0 /\ 1 = 1) /\ x.snd.fst = x.snd.fst /\ ((3 : Nat) = 3 /\ (13 : Int) = 13) /\ True) /\ ((x.fst = x.fst /\ x.snd.fst = x.snd.fst /\ x.snd.snd.fst = x.snd.snd.fst /\ x.snd.snd.snd.fst = x.snd.snd.snd.fst /\ x.snd.snd.snd.snd.fst = x.snd.snd.snd.snd.fst /\ True) /\ True) /\ True)) /\ (decide (Int.ofNat i > (0 : Int)) = true -> IntKind.i64 = IntKind.i64 /\ bnd (mm true (wSub .i64 (Int.ofNat i) (1 : Int)) (0 : Int)) (lenL l) /\ ∀ (x_1 : Int × List UInt8 × List UInt8 × Int × Bool × Unit), nthI l (mm true (wSub .i64 (Int.ofNat i) (1 : Int)) (0 : Int)) = some x_1 -> 1 <= (4) /\ 2 <= (5) /\ true = true /\ (x_1.snd.fst.length <= (100000000 : Nat) /\ x.snd.fst.length <= (100000000 : Nat)) /\ true = true /\ x.snd.fst.length <= (100000000 : Nat) /\ (((!parentS x.snd.fst == ([] : List UInt8)) = true -> IntKind.i64 = IntKind.i64 /\ bnd (mm true (0 : Int) (0 : Int)) (lenL l) /\ ∀ (x_2 : Int × List UInt8 × List UInt8 × Int × Bool × Unit), nthI l (mm true (0 : Int) (0 : Int)) = some x_2 -> 1 <= (5) /\ (l = l /\ Int.ofNat i = Int.ofNat i /\ (0 : Int) = 0 /\ (0 = 0 /\ (0 : Nat) = 0) /\ (0 : Int) = 0 /\ parentS x.snd.fst = parentS x.snd.fst /\ l = l /\ Int.ofNat i = Int.ofNat i /\ (x.fst = x.fst /\ x.snd.fst = x.snd.fst /\ x.snd.snd.fst = x.snd.snd.fst /\ x.snd.snd.snd.fst = x.snd.snd.snd.fst /\ x.snd.snd.snd.snd.fst = x.snd.snd.snd.snd.fst /\ True) /\ (x.fst = x.fst /\ x.snd.fst = x.snd.fst /\ x.snd.snd.fst = x.snd.snd.fst /\ x.snd.snd.snd.fst = x.snd.snd.snd.fst /\ x.snd.snd.snd.snd.fst = x.snd.snd.snd.snd.fst /\ True) /\ (0 = 0 /\ 1 = 1) /\ x.snd.fst = x.snd.fst /\ parentS x.snd.fst = parentS x.snd.fst /\ parentS x.snd.fst = parentS x.snd.fst /\ (!parentS x.snd.fst == ([] : List UInt8)) = !parentS x.snd.fst == ([] : List UInt8) /\ Int.ofNat i = Int.ofNat i /\ decide (Int.ofNat i ≥ (16 : Int)) = decide (Int.ofNat i ≥ (16 : Int)) /\ ((4 : Nat) = 4 /\ decide (Int.ofNat i ≥ (16 : Int)) = decide (Int.ofNat i ≥ (16 : Int))) /\ ((3 : Nat) = 3 /\ (6 : Int) = 6) /\ ((4 : Nat) = 4 /\ true = true) /\ (x.fst = x.fst /\ x.snd.fst = x.snd.fst /\ x.snd.snd.fst = x.snd.snd.fst /\ x.snd.snd.snd.fst = x.snd.snd.snd.fst /\ x.snd.snd.snd.snd.fst = x.snd.snd.snd.snd.fst /\ True) /\ decide (recFault (x.fst, x.snd.fst, x.snd.snd.fst, x.snd.snd.snd.fst, x.snd.snd.snd.snd.fst, ()) = (0 : Int)) = decide (recFault (x.fst, x.snd.fst, x.snd.snd.fst, x.snd.snd.snd.fst, x.snd.snd.snd.snd.fst, ()) = (0 : Int)) /\ (!decide (recFault (x.fst, x.snd.fst, x.snd.snd.fst, x.snd.snd.snd.fst, x.snd.snd.snd.snd.fst, ()) = (0 : Int))) = !decide (recFault (x.fst, x.snd.fst, x.snd.snd.fst, x.snd.snd.snd.fst, x.snd.snd.snd.snd.fst, ()) = (0 : Int)) /\ ((4 : Nat) = 4 /\ (!decide (recFault (x.fst, x.snd.fst, x.snd.snd.fst, x.snd.snd.snd.fst, x.snd.snd.snd.snd.fst, ()) = (0 : Int))) = !decide (recFault (x.fst, x.snd.fst, x.snd.snd.fst, x.snd.snd.snd.fst, x.snd.snd.snd.snd.fst, ()) = (0 : Int))) /\ (x.fst = x.fst /\ x.snd.fst = x.snd.fst /\ x.snd.snd.fst = x.snd.snd.fst /\ x.snd.snd.snd.fst = x.snd.snd.snd.fst /\ x.snd.snd.snd.snd.fst = x.snd.snd.snd.snd.fst /\ True) /\ recFault (x.fst, x.snd.fst, x.snd.snd.fst, x.snd.snd.snd.fst, x.snd.snd.snd.snd.fst, ()) = recFault (x.fst, x.snd.fst, x.snd.snd.fst, x.snd.snd.snd.fst, x.snd.snd.snd.snd.fst, ()) /\ ((3 : Nat) = 3 /\ recFault (x.fst, x.snd.fst, x.snd.snd.fst, x.snd.snd.snd.fst, x.snd.snd.snd.snd.fst, ()) = recFault (x.fst, x.snd.fst, x.snd.snd.fst, x.snd.snd.snd.fst, x.snd.snd.snd.snd.fst, ())) /\ Int.ofNat i = Int.ofNat i /\ decide (Int.ofNat i > (0 : Int)) = decide (Int.ofNat i > (0 : Int)) /\ decide (Int.ofNat i > (0 : Int)) = decide (Int.ofNat i > (0 : Int)) /\ sameB l (Int.ofNat i) = sameB l (Int.ofNat i) /\ ((4 : Nat) = 4 /\ sameB l (Int.ofNat i) = sameB l (Int.ofNat i)) /\ ((3 : Nat) = 3 /\ (18 : Int) = 18) /\ Int.ofNat i = Int.ofNat i /\ decide (Int.ofNat i > (0 : Int)) = decide (Int.ofNat i > (0 : Int)) /\ true = true /\ l = l /\ Int.ofNat i = Int.ofNat i /\ wSub .i64 (Int.ofNat i) (1 : Int) = wSub .i64 (Int.ofNat i) (1 : Int) /\ mm true (wSub .i64 (Int.ofNat i) (1 : Int)) (0 : Int) = mm true (wSub .i64 (Int.ofNat i) (1 : Int)) (0 : Int) /\ (x_1.fst = x_1.fst /\ x_1.snd.fst = x_1.snd.fst /\ x_1.snd.snd.fst = x_1.snd.snd.fst /\ x_1.snd.snd.snd.fst = x_1.snd.snd.snd.fst /\ x_1.snd.snd.snd.snd.fst = x_1.snd.snd.snd.snd.fst /\ True) /\ (x_1.snd.fst = x_1.snd.fst /\ x_1.snd.snd.fst = x_1.snd.snd.fst /\ x_1.snd.snd.snd.fst = x_1.snd.snd.snd.fst /\ x_1.snd.snd.snd.snd.fst = x_1.snd.snd.snd.snd.fst /\ True) /\ x_1.snd.fst = x_1.snd.fst /\ (0 = 0 /\ 1 = 1) /\ x.snd.fst = x.snd.fst /\ pathLess x_1.snd.fst x.snd.fst = pathLess x_1.snd.fst x.snd.fst /\ (!pathLess x_1.snd.fst x.snd.fst) = !pathLess x_1.snd.fst x.snd.fst /\ (!pathLess x_1.snd.fst x.snd.fst) = !pathLess x_1.snd.fst x.snd.fst /\ ((4 : Nat) = 4 /\ (!pathLess x_1.snd.fst x.snd.fst) = !pathLess x_1.snd.fst x.snd.fst) /\ ((3 : Nat) = 3 /\ (11 : Int) = 11) /\ (0 : Int) = 0 /\ decide ((0 : Int) < (0 : Int)) = decide ((0 : Int) < (0 : Int)) /\ ((4 : Nat) = 4 /\ decide ((0 : Int) < (0 : Int)) = decide ((0 : Int) < (0 : Int))) /\ ((3 : Nat) = 3 /\ (12 : Int) = 12) /\ (0 = 0 /\ 1 = 1) /\ x.snd.fst = x.snd.fst /\ parentS x.snd.fst = parentS x.snd.fst /\ (!parentS x.snd.fst == ([] : List UInt8)) = !parentS x.snd.fst == ([] : List UInt8) /\ true = !parentS x.snd.fst == ([] : List UInt8) /\ (x_2.fst != (3 : Int)) = dirB l (Int.ofNat i) /\ ((3 : Nat) = 3 /\ (13 : Int) = 13) /\ True) /\ ((x.fst = x.fst /\ x.snd.fst = x.snd.fst /\ x.snd.snd.fst = x.snd.snd.fst /\ x.snd.snd.snd.fst = x.snd.snd.snd.fst /\ x.snd.snd.snd.snd.fst = x.snd.snd.snd.snd.fst /\ True) /\ True) /\ True) /\ ((!parentS x.snd.fst == ([] : List UInt8)) = false -> (l = l /\ Int.ofNat i = Int.ofNat i /\ (0 : Int) = 0 /\ (0 = 0 /\ (0 : Nat) = 0) /\ (0 : Int) = 0 /\ parentS x.snd.fst = parentS x.snd.fst /\ l = l /\ Int.ofNat i = Int.ofNat i /\ (x.fst = x.fst /\ x.snd.fst = x.snd.fst /\ x.snd.snd.fst = x.snd.snd.fst /\ x.snd.snd.snd.fst = x.snd.snd.snd.fst /\ x.snd.snd.snd.snd.fst = x.snd.snd.snd.snd.fst /\ True) /\ (x.fst = x.fst /\ x.snd.fst = x.snd.fst /\ x.snd.snd.fst = x.snd.snd.fst /\ x.snd.snd.snd.fst = x.snd.snd.snd.fst /\ x.snd.snd.snd.snd.fst = x.snd.snd.snd.snd.fst /\ True) /\ (0 = 0 /\ 1 = 1) /\ x.snd.fst = x.snd.fst /\ parentS x.snd.fst = parentS x.snd.fst /\ parentS x.snd.fst = parentS x.snd.fst /\ (!parentS x.snd.fst == ([] : List UInt8)) = !parentS x.snd.fst == ([] : List UInt8) /\ Int.ofNat i = Int.ofNat i /\ decide (Int.ofNat i ≥ (16 : Int)) = decide (Int.ofNat i ≥ (16 : Int)) /\ ((4 : Nat) = 4 /\ decide (Int.ofNat i ≥ (16 : Int)) = decide (Int.ofNat i ≥ (16 : Int))) /\ ((3 : Nat) = 3 /\ (6 : Int) = 6) /\ ((4 : Nat) = 4 /\ true = true) /\ (x.fst = x.fst /\ x.snd.fst = x.snd.fst /\ x.snd.snd.fst = x.snd.snd.fst /\ x.snd.snd.snd.fst = x.snd.snd.snd.fst /\ x.snd.snd.snd.snd.fst = x.snd.snd.snd.snd.fst /\ True) /\ decide (recFault (x.fst, x.snd.fst, x.snd.snd.fst, x.snd.snd.snd.fst, x.snd.snd.snd.snd.fst, ()) = (0 : Int)) = decide (recFault (x.fst, x.snd.fst, x.snd.snd.fst, x.snd.snd.snd.fst, x.snd.snd.snd.snd.fst, ()) = (0 : Int)) /\ (!decide (recFault (x.fst, x.snd.fst, x.snd.snd.fst, x.snd.snd.snd.fst, x.snd.snd.snd.snd.fst, ()) = (0 : Int))) = !decide (recFault (x.fst, x.snd.fst, x.snd.snd.fst, x.snd.snd.snd.fst, x.snd.snd.snd.snd.fst, ()) = (0 : Int)) /\ ((4 : Nat) = 4 /\ (!decide (recFault (x.fst, x.snd.fst, x.snd.snd.fst, x.snd.snd.snd.fst, x.snd.snd.snd.snd.fst, ()) = (0 : Int))) = !decide (recFault (x.fst, x.snd.fst, x.snd.snd.fst, x.snd.snd.snd.fst, x.snd.snd.snd.snd.fst, ()) = (0 : Int))) /\ (x.fst = x.fst /\ x.snd.fst = x.snd.fst /\ x.snd.snd.fst = x.snd.snd.fst /\ x.snd.snd.snd.fst = x.snd.snd.snd.fst /\ x.snd.snd.snd.snd.fst = x.snd.snd.snd.snd.fst /\ True) /\ recFault (x.fst, x.snd.fst, x.snd.snd.fst, x.snd.snd.snd.fst, x.snd.snd.snd.snd.fst, ()) = recFault (x.fst, x.snd.fst, x.snd.snd.fst, x.snd.snd.snd.fst, x.snd.snd.snd.snd.fst, ()) /\ ((3 : Nat) = 3 /\ recFault (x.fst, x.snd.fst, x.snd.snd.fst, x.snd.snd.snd.fst, x.snd.snd.snd.snd.fst, ()) = recFault (x.fst, x.snd.fst, x.snd.snd.fst, x.snd.snd.snd.fst, x.snd.snd.snd.snd.fst, ())) /\ Int.ofNat i = Int.ofNat i /\ decide (Int.ofNat i > (0 : Int)) = decide (Int.ofNat i > (0 : Int)) /\ decide (Int.ofNat i > (0 : Int)) = decide (Int.ofNat i > (0 : Int)) /\ sameB l (Int.ofNat i) = sameB l (Int.ofNat i) /\ ((4 : Nat) = 4 /\ sameB l (Int.ofNat i) = sameB l (Int.ofNat i)) /\ ((3 : Nat) = 3 /\ (18 : Int) = 18) /\ Int.ofNat i = Int.ofNat i /\ decide (Int.ofNat i > (0 : Int)) = decide (Int.ofNat i > (0 : Int)) /\ true = true /\ l = l /\ Int.ofNat i = Int.ofNat i /\ wSub .i64 (Int.ofNat i) (1 : Int) = wSub .i64 (Int.ofNat i) (1 : Int) /\ mm true (wSub .i64 (Int.ofNat i) (1 : Int)) (0 : Int) = mm true (wSub .i64 (Int.ofNat i) (1 : Int)) (0 : Int) /\ (x_1.fst = x_1.fst /\ x_1.snd.fst = x_1.snd.fst /\ x_1.snd.snd.fst = x_1.snd.snd.fst /\ x_1.snd.snd.snd.fst = x_1.snd.snd.snd.fst /\ x_1.snd.snd.snd.snd.fst = x_1.snd.snd.snd.snd.fst /\ True) /\ (x_1.snd.fst = x_1.snd.fst /\ x_1.snd.snd.fst = x_1.snd.snd.fst /\ x_1.snd.snd.snd.fst = x_1.snd.snd.snd.fst /\ x_1.snd.snd.snd.snd.fst = x_1.snd.snd.snd.snd.fst /\ True) /\ x_1.snd.fst = x_1.snd.fst /\ (0 = 0 /\ 1 = 1) /\ x.snd.fst = x.snd.fst /\ pathLess x_1.snd.fst x.snd.fst = pathLess x_1.snd.fst x.snd.fst /\ (!pathLess x_1.snd.fst x.snd.fst) = !pathLess x_1.snd.fst x.snd.fst /\ (!pathLess x_1.snd.fst x.snd.fst) = !pathLess x_1.snd.fst x.snd.fst /\ ((4 : Nat) = 4 /\ (!pathLess x_1.snd.fst x.snd.fst) = !pathLess x_1.snd.fst x.snd.fst) /\ ((3 : Nat) = 3 /\ (11 : Int) = 11) /\ (0 : Int) = 0 /\ decide ((0 : Int) < (0 : Int)) = decide ((0 : Int) < (0 : Int)) /\ ((4 : Nat) = 4 /\ decide ((0 : Int) < (0 : Int)) = decide ((0 : Int) < (0 : Int))) /\ ((3 : Nat) = 3 /\ (12 : Int) = 12) /\ (0 = 0 /\ 1 = 1) /\ x.snd.fst = x.snd.fst /\ parentS x.snd.fst = parentS x.snd.fst /\ (!parentS x.snd.fst == ([] : List UInt8)) = !parentS x.snd.fst == ([] : List UInt8) /\ false = !parentS x.snd.fst == ([] : List UInt8) /\ false = dirB l (Int.ofNat i) /\ ((3 : Nat) = 3 /\ (13 : Int) = 13) /\ True) /\ ((x.fst = x.fst /\ x.snd.fst = x.snd.fst /\ x.snd.snd.fst = x.snd.snd.fst /\ x.snd.snd.snd.fst = x.snd.snd.snd.fst /\ x.snd.snd.snd.snd.fst = x.snd.snd.snd.snd.fst /\ True) /\ True) /\ True)) /\ true = true /\ True /\ true = true /\ True /\ (first (AnyV.b (decide (Int.ofNat i ≥ (16 : Int))) :: AnyV.n (6 : Int) :: AnyV.b true :: AnyV.n (first ((AnyV.b !decide (recFault (x.fst, x.snd.fst, x.snd.snd.fst, x.snd.snd.snd.fst, x.snd.snd.snd.snd.fst, ()) = (0 : Int))) :: AnyV.n (recFault (x.fst, x.snd.fst, x.snd.snd.fst, x.snd.snd.snd.fst, x.snd.snd.snd.snd.fst, ())) :: AnyV.b (sameB l (Int.ofNat i)) :: AnyV.n (18 : Int) :: (AnyV.b !pathLess x_1.snd.fst x.snd.fst) :: AnyV.n (11 : Int) :: AnyV.b (decide ((0 : Int) < (0 : Int))) :: AnyV.n (12 : Int) :: AnyV.b (dirB l (Int.ofNat i)) :: AnyV.n (13 : Int) :: ([] : List AnyV))) :: ([] : List AnyV)), ()) = (faultI l (Int.ofNat i), ()) /\ () = ()) /\ (decide (Int.ofNat i > (0 : Int)) = false -> true = true /\ x.snd.fst.length <= (100000000 : Nat) /\ (((!parentS x.snd.fst == ([] : List UInt8)) = true -> IntKind.i64 = IntKind.i64 /\ bnd (mm true (0 : Int) (0 : Int)) (lenL l) /\ ∀ (x_1 : Int × List UInt8 × List UInt8 × Int × Bool × Unit), nthI l (mm true (0 : Int) (0 : Int)) = some x_1 -> 1 <= (5) /\ (l = l /\ Int.ofNat i = Int.ofNat i /\ (0 : Int) = 0 /\ (0 = 0 /\ (0 : Nat) = 0) /\ (0 : Int) = 0 /\ parentS x.snd.fst = parentS x.snd.fst /\ l = l /\ Int.ofNat i = Int.ofNat i /\ (x.fst = x.fst /\ x.snd.fst = x.snd.fst /\ x.snd.snd.fst = x.snd.snd.fst /\ x.snd.snd.snd.fst = x.snd.snd.snd.fst /\ x.snd.snd.snd.snd.fst = x.snd.snd.snd.snd.fst /\ True) /\ (x.fst = x.fst /\ x.snd.fst = x.snd.fst /\ x.snd.snd.fst = x.snd.snd.fst /\ x.snd.snd.snd.fst = x.snd.snd.snd.fst /\ x.snd.snd.snd.snd.fst = x.snd.snd.snd.snd.fst /\ True) /\ (0 = 0 /\ 1 = 1) /\ x.snd.fst = x.snd.fst /\ parentS x.snd.fst = parentS x.snd.fst /\ parentS x.snd.fst = parentS x.snd.fst /\ (!parentS x.snd.fst == ([] : List UInt8)) = !parentS x.snd.fst == ([] : List UInt8) /\ Int.ofNat i = Int.ofNat i /\ decide (Int.ofNat i ≥ (16 : Int)) = decide (Int.ofNat i ≥ (16 : Int)) /\ ((4 : Nat) = 4 /\ decide (Int.ofNat i ≥ (16 : Int)) = decide (Int.ofNat i ≥ (16 : Int))) /\ ((3 : Nat) = 3 /\ (6 : Int) = 6) /\ ((4 : Nat) = 4 /\ true = true) /\ (x.fst = x.fst /\ x.snd.fst = x.snd.fst /\ x.snd.snd.fst = x.snd.snd.fst /\ x.snd.snd.snd.fst = x.snd.snd.snd.fst /\ x.snd.snd.snd.snd.fst = x.snd.snd.snd.snd.fst /\ True) /\ decide (recFault (x.fst, x.snd.fst, x.snd.snd.fst, x.snd.snd.snd.fst, x.snd.snd.snd.snd.fst, ()) = (0 : Int)) = decide (recFault (x.fst, x.snd.fst, x.snd.snd.fst, x.snd.snd.snd.fst, x.snd.snd.snd.snd.fst, ()) = (0 : Int)) /\ (!decide (recFault (x.fst, x.snd.fst, x.snd.snd.fst, x.snd.snd.snd.fst, x.snd.snd.snd.snd.fst, ()) = (0 : Int))) = !decide (recFault (x.fst, x.snd.fst, x.snd.snd.fst, x.snd.snd.snd.fst, x.snd.snd.snd.snd.fst, ()) = (0 : Int)) /\ ((4 : Nat) = 4 /\ (!decide (recFault (x.fst, x.snd.fst, x.snd.snd.fst, x.snd.snd.snd.fst, x.snd.snd.snd.snd.fst, ()) = (0 : Int))) = !decide (recFault (x.fst, x.snd.fst, x.snd.snd.fst, x.snd.snd.snd.fst, x.snd.snd.snd.snd.fst, ()) = (0 : Int))) /\ (x.fst = x.fst /\ x.snd.fst = x.snd.fst /\ x.snd.snd.fst = x.snd.snd.fst /\ x.snd.snd.snd.fst = x.snd.snd.snd.fst /\ x.snd.snd.snd.snd.fst = x.snd.snd.snd.snd.fst /\ True) /\ recFault (x.fst, x.snd.fst, x.snd.snd.fst, x.snd.snd.snd.fst, x.snd.snd.snd.snd.fst, ()) = recFault (x.fst, x.snd.fst, x.snd.snd.fst, x.snd.snd.snd.fst, x.snd.snd.snd.snd.fst, ()) /\ ((3 : Nat) = 3 /\ recFault (x.fst, x.snd.fst, x.snd.snd.fst, x.snd.snd.snd.fst, x.snd.snd.snd.snd.fst, ()) = recFault (x.fst, x.snd.fst, x.snd.snd.fst, x.snd.snd.snd.fst, x.snd.snd.snd.snd.fst, ())) /\ Int.ofNat i = Int.ofNat i /\ decide (Int.ofNat i > (0 : Int)) = decide (Int.ofNat i > (0 : Int)) /\ decide (Int.ofNat i > (0 : Int)) = decide (Int.ofNat i > (0 : Int)) /\ sameB l (Int.ofNat i) = sameB l (Int.ofNat i) /\ ((4 : Nat) = 4 /\ sameB l (Int.ofNat i) = sameB l (Int.ofNat i)) /\ ((3 : Nat) = 3 /\ (18 : Int) = 18) /\ Int.ofNat i = Int.ofNat i /\ decide (Int.ofNat i > (0 : Int)) = decide (Int.ofNat i > (0 : Int)) /\ false = false /\ True /\ True /\ True /\ True /\ True /\ True /\ True /\ True /\ True /\ True /\ True /\ false = false /\ ((4 : Nat) = 4 /\ false = false) /\ ((3 : Nat) = 3 /\ (11 : Int) = 11) /\ (0 : Int) = 0 /\ decide ((0 : Int) < (0 : Int)) = decide ((0 : Int) < (0 : Int)) /\ ((4 : Nat) = 4 /\ decide ((0 : Int) < (0 : Int)) = decide ((0 : Int) < (0 : Int))) /\ ((3 : Nat) = 3 /\ (12 : Int) = 12) /\ (0 = 0 /\ 1 = 1) /\ x.snd.fst = x.snd.fst /\ parentS x.snd.fst = parentS x.snd.fst /\ (!parentS x.snd.fst == ([] : List UInt8)) = !parentS x.snd.fst == ([] : List UInt8) /\ true = !parentS x.snd.fst == ([] : List UInt8) /\ (x_1.fst != (3 : Int)) = dirB l (Int.ofNat i) /\ ((3 : Nat) = 3 /\ (13 : Int) = 13) /\ True) /\ ((x.fst = x.fst /\ x.snd.fst = x.snd.fst /\ x.snd.snd.fst = x.snd.snd.fst /\ x.snd.snd.snd.fst = x.snd.snd.snd.fst /\ x.snd.snd.snd.snd.fst = x.snd.snd.snd.snd.fst /\ True) /\ True) /\ True) /\ ((!parentS x.snd.fst == ([] : List UInt8)) = false -> (l = l /\ Int.ofNat i = Int.ofNat i /\ (0 : Int) = 0 /\ (0 = 0 /\ (0 : Nat) = 0) /\ (0 : Int) = 0 /\ parentS x.snd.fst = parentS x.snd.fst /\ l = l /\ Int.ofNat i = Int.ofNat i /\ (x.fst = x.fst /\ x.snd.fst = x.snd.fst /\ x.snd.snd.fst = x.snd.snd.fst /\ x.snd.snd.snd.fst = x.snd.snd.snd.fst /\ x.snd.snd.snd.snd.fst = x.snd.snd.snd.snd.fst /\ True) /\ (x.fst = x.fst /\ x.snd.fst = x.snd.fst /\ x.snd.snd.fst = x.snd.snd.fst /\ x.snd.snd.snd.fst = x.snd.snd.snd.fst /\ x.snd.snd.snd.snd.fst = x.snd.snd.snd.snd.fst /\ True) /\ (0 = 0 /\ 1 = 1) /\ x.snd.fst = x.snd.fst /\ parentS x.snd.fst = parentS x.snd.fst /\ parentS x.snd.fst = parentS x.snd.fst /\ (!parentS x.snd.fst == ([] : List UInt8)) = !parentS x.snd.fst == ([] : List UInt8) /\ Int.ofNat i = Int.ofNat i /\ decide (Int.ofNat i ≥ (16 : Int)) = decide (Int.ofNat i ≥ (16 : Int)) /\ ((4 : Nat) = 4 /\ decide (Int.ofNat i ≥ (16 : Int)) = decide (Int.ofNat i ≥ (16 : Int))) /\ ((3 : Nat) = 3 /\ (6 : Int) = 6) /\ ((4 : Nat) = 4 /\ true = true) /\ (x.fst = x.fst /\ x.snd.fst = x.snd.fst /\ x.snd.snd.fst = x.snd.snd.fst /\ x.snd.snd.snd.fst = x.snd.snd.snd.fst /\ x.snd.snd.snd.snd.fst = x.snd.snd.snd.snd.fst /\ True) /\ decide (recFault (x.fst, x.snd.fst, x.snd.snd.fst, x.snd.snd.snd.fst, x.snd.snd.snd.snd.fst, ()) = (0 : Int)) = decide (recFault (x.fst, x.snd.fst, x.snd.snd.fst, x.snd.snd.snd.fst, x.snd.snd.snd.snd.fst, ()) = (0 : Int)) /\ (!decide (recFault (x.fst, x.snd.fst, x.snd.snd.fst, x.snd.snd.snd.fst, x.snd.snd.snd.snd.fst, ()) = (0 : Int))) = !decide (recFault (x.fst, x.snd.fst, x.snd.snd.fst, x.snd.snd.snd.fst, x.snd.snd.snd.snd.fst, ()) = (0 : Int)) /\ ((4 : Nat) = 4 /\ (!decide (recFault (x.fst, x.snd.fst, x.snd.snd.fst, x.snd.snd.snd.fst, x.snd.snd.snd.snd.fst, ()) = (0 : Int))) = !decide (recFault (x.fst, x.snd.fst, x.snd.snd.fst, x.snd.snd.snd.fst, x.snd.snd.snd.snd.fst, ()) = (0 : Int))) /\ (x.fst = x.fst /\ x.snd.fst = x.snd.fst /\ x.snd.snd.fst = x.snd.snd.fst /\ x.snd.snd.snd.fst = x.snd.snd.snd.fst /\ x.snd.snd.snd.snd.fst = x.snd.snd.snd.snd.fst /\ True) /\ recFault (x.fst, x.snd.fst, x.snd.snd.fst, x.snd.snd.snd.fst, x.snd.snd.snd.snd.fst, ()) = recFault (x.fst, x.snd.fst, x.snd.snd.fst, x.snd.snd.snd.fst, x.snd.snd.snd.snd.fst, ()) /\ ((3 : Nat) = 3 /\ recFault (x.fst, x.snd.fst, x.snd.snd.fst, x.snd.snd.snd.fst, x.snd.snd.snd.snd.fst, ()) = recFault (x.fst, x.snd.fst, x.snd.snd.fst, x.snd.snd.snd.fst, x.snd.snd.snd.snd.fst, ())) /\ Int.ofNat i = Int.ofNat i /\ decide (Int.ofNat i > (0 : Int)) = decide (Int.ofNat i > (0 : Int)) /\ decide (Int.ofNat i > (0 : Int)) = decide (Int.ofNat i > (0 : Int)) /\ sameB l (Int.ofNat i) = sameB l (Int.ofNat i) /\ ((4 : Nat) = 4 /\ sameB l (Int.ofNat i) = sameB l (Int.ofNat i)) /\ ((3 : Nat) = 3 /\ (18 : Int) = 18) /\ Int.ofNat i = Int.ofNat i /\ decide (Int.ofNat i > (0 : Int)) = decide (Int.ofNat i > (0 : Int)) /\ false = false /\ True /\ True /\ True /\ True /\ True /\ True /\ True /\ True /\ True /\ True /\ True /\ false = false /\ ((4 : Nat) = 4 /\ false = false) /\ ((3 : Nat) = 3 /\ (11 : Int) = 11) /\ (0 : Int) = 0 /\ decide ((0 : Int) < (0 : Int)) = decide ((0 : Int) < (0 : Int)) /\ ((4 : Nat) = 4 /\ decide ((0 : Int) < (0 : Int)) = decide ((0 : Int) < (0 : Int))) /\ ((3 : Nat) = 3 /\ (12 : Int) = 12) /\ (0 = 0 /\ 1 = 1) /\ x.snd.fst = x.snd.fst /\ parentS x.snd.fst = parentS x.snd.fst /\ (!parentS x.snd.fst == ([] : List UInt8)) = !parentS x.snd.fst == ([] : List UInt8) /\ false = !parentS x.snd.fst == ([] : List UInt8) /\ false = dirB l (Int.ofNat i) /\ ((3 : Nat) = 3 /\ (13 : Int) = 13) /\ True) /\ ((x.fst = x.fst /\ x.snd.fst = x.snd.fst /\ x.snd.snd.fst = x.snd.snd.fst /\ x.snd.snd.snd.fst = x.snd.snd.snd.fst /\ x.snd.snd.snd.snd.fst = x.snd.snd.snd.snd.fst /\ True) /\ True) /\ True)) /\ true = true /\ True /\ true = true /\ True /\ (first (AnyV.b (decide (Int.ofNat i ≥ (16 : Int))) :: AnyV.n (6 : Int) :: AnyV.b true :: AnyV.n (first ((AnyV.b !decide (recFault (x.fst, x.snd.fst, x.snd.snd.fst, x.snd.snd.snd.fst, x.snd.snd.snd.snd.fst, ()) = (0 : Int))) :: AnyV.n (recFault (x.fst, x.snd.fst, x.snd.snd.fst, x.snd.snd.snd.fst, x.snd.snd.snd.snd.fst, ())) :: AnyV.b (sameB l (Int.ofNat i)) :: AnyV.n (18 : Int) :: AnyV.b false :: AnyV.n (11 : Int) :: AnyV.b (decide ((0 : Int) < (0 : Int))) :: AnyV.n (12 : Int) :: AnyV.b (dirB l (Int.ofNat i)) :: AnyV.n (13 : Int) :: ([] : List AnyV))) :: ([] : List AnyV)), ()) = (faultI l (Int.ofNat i), ()) /\ () = ()))) (by kernel_rfl) ?_
 simp only [NS, eq_self, ne_eq, forall_const, implies_true, Nat.reduceAdd, Nat.reduceLeDiff, nz, Int.reduceEq, Nat.reduceEqDiff, reduceCtorEq]; try simp only [lenL]
 have hl : okL l := hl
 have hi : i < List.length l := hi
 refine ⟨hi, fun x hx => ?_⟩
 have hlx := hl x (List.mem_of_getElem? hx)
 have hA : (Int.ofNat i > 0 -> bnd (mm true (wSub .i64 (Int.ofNat i) 1) 0) (List.length l) /\ ∀ y, nthI l (mm true (wSub .i64 (Int.ofNat i) 1) 0) = some y -> true = decide (Int.ofNat i > 0) /\ (y.2.1 == x.2.1) = sameB l (Int.ofNat i)) /\ (¬ Int.ofNat i > 0 -> false = decide (Int.ofNat i > 0) /\ false = sameB l (Int.ofNat i)) := by
   refine ⟨fun h0 => ?_, fun h0 => ⟨(decide_eq_false h0).symm, same_no h0⟩⟩
   rw [ms1 h0 hb]
   exact ⟨bnd_nat (by omega), fun y hy => ⟨(decide_eq_true h0).symm, (same_at h0 hx hy).2⟩⟩
 refine ⟨hlx, fun hp => ⟨⟨Int.natCast_nonneg _, Int.ofNat_le.2 (Nat.le_of_lt hi)⟩, hlx, hlx, hA, ?_, ?_⟩, fun hp => ⟨hlx, hlx, hA, ?_, ?_⟩⟩
 · intro h0
   rw [ms1 h0 hb]
   refine ⟨bnd_nat (by omega), fun y hy => ⟨⟨hl y (List.mem_of_getElem? hy), hlx⟩, hlx, ⟨fun _ => ?_, fun h => absurd h hp⟩, fa_first hx (order_at h0 hx hy) (up_some hx hp)⟩⟩
   rw [up_some hx hp]
   exact dir_any hi hx hp
 · intro h0
   refine ⟨hlx, ⟨fun _ => ?_, fun h => absurd h hp⟩, fa_first hx (order_no h0) (up_some hx hp)⟩
   rw [up_some hx hp]
   exact dir_any hi hx hp
 · intro h0
   rw [ms1 h0 hb]
   exact ⟨bnd_nat (by omega), fun y hy => ⟨⟨hl y (List.mem_of_getElem? hy), hlx⟩, hlx, ⟨fun h => absurd hp h, fun _ => ⟨by rw [hp]; rfl, (dir_none hx hp).symm⟩⟩, fa_first hx (order_at h0 hx hy) (up_none hx hp).symm⟩⟩
 · intro h0
   exact ⟨hlx, ⟨fun h => absurd hp h, fun _ => ⟨by rw [hp]; rfl, (dir_none hx hp).symm⟩⟩, fa_first hx (order_no h0) (up_none hx hp).symm⟩
end Go.Proofs.YtkdnelaoagmeaaaGreatDoor
namespace Go.Proofs.YtkdnelaoagmeaaaGreatDoor
open Go.Ab Go.Fn
def s_layF : FSpec := { ps := [.v (.slice tRec)], rs := [.v I, .v I], pre := fun x => okL x.1, fn := fun x => (Fn.layN x.1, Fn.layC x.1, ()), upd := fun _ => () }
def L_l03Fault (l : List Rec) : LoopAnn := { ι := Nat, inv := fun k => Fn.OKto l k, slots := fun k => [(4, .d I (Int.ofNat k))], objs := fun _ => [], μ := fun k => l.length - k }
theorem fo_l03Fault : FO 61 s_layF := by
 refine fo (specs := [(115, s_fault), (114, s_l01Less), (116, s_parent), (117, s_find)]) (clos := []) (fun x => [(2, .lv [0, 4] <| fun _ => L_l03Fault x.1), (1000009, .lv [0, 4, 41] <| .ofCut fun s => [(41, .d .bool (Fn.sameB x.1 (s.tI 4)))]), (1000011, .lv [0, 4, 59] <| .ofCut fun s => [(59, .d .bool (Fn.unlessB x.1 (s.tI 4)))])]) ⟨fo_l02Fault, fo_l01Less, fo_l01Parent, fo_l03At, trivial⟩ trivial Tryz.func61 rfl rfl ?_
 rintro ⟨l, ⟨⟩⟩ hl
 refine vcOf ((∃ (i : Nat), OKto l i /\ (l = l /\ (0 : Int) = Int.ofNat i /\ True) /\ True /\ True) /\ ∀ (i : Nat), OKto l i -> fits (lenL l) -> (decide (Int.ofNat i < iOf (lenL l)) = true -> ((Int.ofNat i == (16 : Int)) = true -> (Int.ofNat i, (6 : Int), ()) = (layN l, layC l, ()) /\ () = ()) /\ ((Int.ofNat i == (16 : Int)) = false -> bnd (Int.ofNat i) (lenL l) /\ ∀ (x : Int × List UInt8 × List UInt8 × Int × Bool × Unit), nthI l (Int.ofNat i) = some x -> 5 <= (5) /\ true = true /\ x.snd.fst.length <= (100000000 : Nat) /\ ((recFault (x.fst, x.snd.fst, x.snd.snd.fst, x.snd.snd.snd.fst, x.snd.snd.snd.snd.fst, ()) != (0 : Int)) = true -> (Int.ofNat i, recFault (x.fst, x.snd.fst, x.snd.snd.fst, x.snd.snd.snd.fst, x.snd.snd.snd.snd.fst, ()), ()) = (layN l, layC l, ()) /\ () = ()) /\ ((recFault (x.fst, x.snd.fst, x.snd.snd.fst, x.snd.snd.snd.fst, x.snd.snd.snd.snd.fst, ()) != (0 : Int)) = false -> ((decide (Int.ofNat i > (0 : Int)) = true -> bnd (Int.ofNat i) (lenL l) /\ ∀ (x : Int × List UInt8 × List UInt8 × Int × Bool × Unit), nthI l (Int.ofNat i) = some x -> 1 <= (4) /\ bnd (wSub .i64 (Int.ofNat i) (1 : Int)) (lenL l) /\ ∀ (x_1 : Int × List UInt8 × List UInt8 × Int × Bool × Unit), nthI l (wSub .i64 (Int.ofNat i) (1 : Int)) = some x_1 -> 1 <= (4) /\ (l = l /\ Int.ofNat i = Int.ofNat i /\ (x.snd.fst == x_1.snd.fst) = sameB l (Int.ofNat i) /\ True) /\ True /\ True) /\ (decide (Int.ofNat i > (0 : Int)) = false -> (l = l /\ Int.ofNat i = Int.ofNat i /\ false = sameB l (Int.ofNat i) /\ True) /\ True /\ True)) /\ (sameB l (Int.ofNat i) = true -> (Int.ofNat i, (18 : Int), ()) = (layN l, layC l, ()) /\ () = ()) /\ (sameB l (Int.ofNat i) = false -> ((decide (Int.ofNat i > (0 : Int)) = true -> bnd (wSub .i64 (Int.ofNat i) (1 : Int)) (lenL l) /\ ∀ (x : Int × List UInt8 × List UInt8 × Int × Bool × Unit), nthI l (wSub .i64 (Int.ofNat i) (1 : Int)) = some x -> 1 <= (4) /\ bnd (Int.ofNat i) (lenL l) /\ ∀ (x_1 : Int × List UInt8 × List UInt8 × Int × Bool × Unit), nthI l (Int.ofNat i) = some x_1 -> 1 <= (4) /\ true = true /\ (x.snd.fst.length <= (100000000 : Nat) /\ x_1.snd.fst.length <= (100000000 : Nat)) /\ (l = l /\ Int.ofNat i = Int.ofNat i /\ (!lessL (split (47 : UInt8) x.snd.fst) (split (47 : UInt8) x_1.snd.fst)) = unlessB l (Int.ofNat i) /\ True) /\ True /\ True) /\ (decide (Int.ofNat i > (0 : Int)) = false -> (l = l /\ Int.ofNat i = Int.ofNat i /\ false = unlessB l (Int.ofNat i) /\ True) /\ True /\ True)) /\ (unlessB l (Int.ofNat i) = true -> (Int.ofNat i, (11 : Int), ()) = (layN l, layC l, ()) /\ () = ()) /\ (unlessB l (Int.ofNat i) = false -> bnd (Int.ofNat i) (lenL l) /\ ∀ (x : Int × List UInt8 × List UInt8 × Int × Bool × Unit), nthI l (Int.ofNat i) = some x -> 1 <= (4) /\ true = true /\ x.snd.fst.length <= (100000000 : Nat) /\ ((parentS x.snd.fst == ([] : List UInt8)) = true -> ∃ (j : Nat), OKto l j /\ (List.length l).sub j < (List.length l).sub i /\ (l = l /\ wAdd .i64 (Int.ofNat i) (1 : Int) = Int.ofNat j /\ True) /\ True /\ True) /\ ((parentS x.snd.fst == ([] : List UInt8)) = false -> boundLo (Int.ofNat i) (lenL l) /\ true = true /\ True /\ (decide (idx (atPath (parentS x.snd.fst)) (subL l (0 : Nat) (tN (Int.ofNat i))) < (0 : Int)) = true -> (Int.ofNat i, (12 : Int), ()) = (layN l, layC l, ()) /\ () = ()) /\ (decide (idx (atPath (parentS x.snd.fst)) (subL l (0 : Nat) (tN (Int.ofNat i))) < (0 : Int)) = false -> bnd (idx (atPath (parentS x.snd.fst)) (subL l (0 : Nat) (tN (Int.ofNat i)))) (lenL l) /\ ∀ (x_1 : Int × List UInt8 × List UInt8 × Int × Bool × Unit), nthI l (idx (atPath (parentS x.snd.fst)) (subL l (0 : Nat) (tN (Int.ofNat i)))) = some x_1 -> 1 <= (5) /\ ((x_1.fst != (3 : Int)) = true -> (Int.ofNat i, (13 : Int), ()) = (layN l, layC l, ()) /\ () = ()) /\ ((x_1.fst != (3 : Int)) = false -> ∃ (j : Nat), OKto l j /\ (List.length l).sub j < (List.length l).sub i /\ (l = l /\ wAdd .i64 (Int.ofNat i) (1 : Int) = Int.ofNat j /\ True) /\ True /\ True)))))))) /\ (decide (Int.ofNat i < iOf (lenL l)) = false -> ((0 : Int), (0 : Int), ()) = (layN l, layC l, ()) /\ () = ())) (by kernel_rfl) ?_
 simp only [NS, eq_self, ne_eq, forall_const, implies_true, Nat.reduceAdd, Nat.reduceLeDiff, nz, Int.reduceEq, Nat.reduceEqDiff, reduceCtorEq]; try simp only [lenL]
 have hl : okL l := hl
 refine ⟨⟨0, ok0 l, rfl⟩, fun i h hf => ⟨fun hi => ⟨fun h16 => lay_c h hi (fa_16 (Nat.le_of_eq (Int.ofNat.inj h16).symm)) (by decide), fun h16 => ⟨hi, fun x hx => ⟨hl x (List.mem_of_getElem? hx), ?_⟩⟩⟩, fun he => lay_end h he⟩⟩
 have hlt := ok_16 h h16
 have ex := recAt_at hx
 refine ⟨fun hr => lay_c h hi (by rw [fa_rec hlt (by rw [ex]; exact hr), ex]) hr, fun hr => ?_⟩
 have hr' : recFault (recAt l i) = 0 := by rw [ex]; exact hr
 refine ⟨⟨fun hp => ⟨hi, fun x' hx' => ?_⟩, fun hn => same_no hn⟩, fun hs => lay_c h hi (fa_18 hlt hr' hs) (by decide), fun hs => ⟨⟨fun hp => ?_, fun hn => unless_no hn⟩, fun ho => lay_c h hi (fa_11 hlt hr' hs (by rw [order_eq h hr']; exact ho)) (by decide), fun ho => ⟨hi, fun x' hx' => ?_⟩⟩⟩
 · rw [ws1 hp hi hf]
   exact ⟨bnd_nat (by omega), fun y hy => (same_at hp hx' hy).1⟩
 · rw [ws1 hp hi hf]
   exact ⟨bnd_nat (by omega), fun y hy => ⟨hi, fun x' hx' => ⟨⟨hl y (List.mem_of_getElem? hy), hl x' (List.mem_of_getElem? hx')⟩, unless_at hp hx' hy⟩⟩⟩
 · have ho' : orderB l (Int.ofNat i) = false := by rw [order_eq h hr']; exact ho
   refine ⟨hl x' (List.mem_of_getElem? hx'), fun hp => ?_, fun hp => ⟨⟨Int.natCast_nonneg _, Int.ofNat_le.2 (Nat.le_of_lt hi)⟩, ?_⟩⟩
   · exact ⟨i + 1, ok_step h hi (fa_0 hlt hr' hs ho' (by rw [up_none hx' hp]; decide) (dir_none hx' hp)), Nat.sub_lt_sub_left hi (Nat.lt_succ_self i), inc_in hf h.1⟩
   · rw [up_some hx' hp]
     refine ⟨fun hu => lay_c h hi (fa_12 hlt hr' hs ho' hu) (by decide), fun hu => ⟨⟨by omega, up_lt hi⟩, fun z hz => ⟨fun hk => lay_c h hi (fa_13 hlt hr' hs ho' hu (by rw [dir_some hx' hp hu hz]; simp [hk])) (by decide), fun hk => ⟨i + 1, ok_step h hi (fa_0 hlt hr' hs ho' hu (by rw [dir_some hx' hp hu hz]; simp [hk])), Nat.sub_lt_sub_left hi (Nat.lt_succ_self i), inc_in hf h.1⟩⟩⟩⟩
end Go.Proofs.YtkdnelaoagmeaaaGreatDoor
namespace Go.Fn
open Go.Ab
def stepBad (t : List UInt8) (k : Nat) : Bool := decide (decL (t.drop k) = 0) || decide (t.length < k + decL (t.drop k) + 2)
def stepSum (t : List UInt8) (k : Nat) : Bool := decide (subL t (k + decL (t.drop k)) (k + decL (t.drop k) + 2) = two (sum (subL t k (k + decL (t.drop k)))))
def readL (t : List UInt8) : Nat -> List Rec -> Nat -> List Rec × Int × Int
 | 0, out, k => if ¬ t.length = k + 2 then ([], Int.ofNat k, 3) else if ¬ t.drop k = two (sum (t.take k)) then ([], Int.ofNat k, 15) else (out, 0, 0)
 | n + 1, out, k => if stepBad t k = true then ([], Int.ofNat k, 3) else if stepSum t k = false then ([], Int.ofNat k, 15)
   else if ¬ faultAt (out ++ [decR (t.drop k)]) out.length = 0 then ([], Int.ofNat k, faultAt (out ++ [decR (t.drop k)]) out.length)
   else readL t n (out ++ [decR (t.drop k)]) (k + decL (t.drop k) + 2)
def headBad (t : List UInt8) : Bool := decide (t.length < 4) || !(hasPre t [76, 89, 82])
def whole (t : List UInt8) : List Rec × Int × Int := if headBad t = true then ([], 0, 3) else readL t (byteN t 3) [] 4
def wholeL (t : List UInt8) : List Rec := (whole t).1
def wholeN (t : List UInt8) : Int := (whole t).2.1
def wholeC (t : List UInt8) : Int := (whole t).2.2
def RInv (t : List UInt8) (q : List Rec × Nat × Nat) : Prop := q.2.1 <= t.length /\ readL t q.2.2 q.1 q.2.1 = whole t /\ OKto q.1 q.1.length /\ q.1.length + q.2.2 = byteN t 3 /\ okL q.1
theorem wh_head {t : List UInt8} (h : headBad t = true) : [] = wholeL t /\ 0 = wholeN t /\ 3 = wholeC t := by
 unfold wholeL wholeN wholeC whole; rw [if_pos h]; exact ⟨rfl, rfl, rfl⟩
theorem head_a {t : List UInt8} (h : iOf t.length < 4) : headBad t = true := by
 have h : (t.length : Int) < 4 := h
 unfold headBad; rw [decide_eq_true (p := t.length < 4) (by omega)]; rfl
theorem take3 {t : List UInt8} : subL t 0 (tN 3) = t.take 3 := rfl
theorem head_b {t : List UInt8} (h : ¬ subL t 0 (tN 3) = [76, 89, 82]) : headBad t = true := by
 rw [take3] at h
 unfold headBad hasPre
 have : ¬ t.take [(76 : UInt8), 89, 82].length = [76, 89, 82] := h
 rw [decide_eq_false this, Bool.and_false]
 simp
theorem head_no {t : List UInt8} (h : ¬ iOf t.length < 4) (h2 : subL t 0 (tN 3) = [76, 89, 82]) : headBad t = false := by
 have h : ¬ (t.length : Int) < 4 := h
 rw [take3] at h2
 unfold headBad hasPre
 have : t.take [(76 : UInt8), 89, 82].length = [76, 89, 82] := h2
 rw [decide_eq_true this, decide_eq_false (p := t.length < 4) (by omega), decide_eq_true (p := [(76 : UInt8), 89, 82].length <= t.length) (by show 3 <= t.length; omega)]
 rfl
theorem head_len {t : List UInt8} (h : headBad t = false) : 4 <= t.length := by
 unfold headBad at h
 simp only [Bool.or_eq_false_iff, decide_eq_false_iff_not] at h
 omega
theorem r_start {t : List UInt8} (h : headBad t = false) : RInv t ([], 4, byteN t 3) :=
 ⟨head_len h, by unfold whole; rw [if_neg (by rw [h]; exact Bool.false_ne_true)], ⟨Nat.le_refl _, fun j hj => absurd hj (Nat.not_lt_zero _)⟩, Nat.zero_add _, fun r hr => by cases hr⟩
theorem wh_of {t : List UInt8} {a : List Rec × Int × Int} (h : a = whole t) : a.1 = wholeL t /\ a.2.1 = wholeN t /\ a.2.2 = wholeC t := by subst h; exact ⟨rfl, rfl, rfl⟩
theorem readL_succ (t : List UInt8) (n : Nat) (out : List Rec) (k : Nat) : readL t (n + 1) out k = if stepBad t k = true then ([], Int.ofNat k, 3) else if stepSum t k = false then ([], Int.ofNat k, 15)
   else if ¬ faultAt (out ++ [decR (t.drop k)]) out.length = 0 then ([], Int.ofNat k, faultAt (out ++ [decR (t.drop k)]) out.length)
   else readL t n (out ++ [decR (t.drop k)]) (k + decL (t.drop k) + 2) := rfl
theorem wh_a {t : List UInt8} {out : List Rec} {k n : Nat} (h : RInv t (out, k, n + 1)) (hb : stepBad t k = true) : [] = wholeL t /\ Int.ofNat k = wholeN t /\ 3 = wholeC t := by
 have e : readL t (n + 1) out k = whole t := h.2.1
 rw [readL_succ, if_pos hb] at e
 exact wh_of e
theorem wh_b {t : List UInt8} {out : List Rec} {k n : Nat} (h : RInv t (out, k, n + 1)) (hb : ¬ stepBad t k = true) (hs : stepSum t k = false) : [] = wholeL t /\ Int.ofNat k = wholeN t /\ 15 = wholeC t := by
 have e : readL t (n + 1) out k = whole t := h.2.1
 rw [readL_succ, if_neg hb, if_pos hs] at e
 exact wh_of e
theorem wh_c {t : List UInt8} {out : List Rec} {k n : Nat} {c : Int} (h : RInv t (out, k, n + 1)) (hb : ¬ stepBad t k = true) (hs : ¬ stepSum t k = false) (hc : faultAt (out ++ [decR (t.drop k)]) out.length = c) (hn : ¬ c = 0) : [] = wholeL t /\ Int.ofNat k = wholeN t /\ c = wholeC t := by
 have e : readL t (n + 1) out k = whole t := h.2.1
 rw [readL_succ, if_neg hb, if_neg hs, hc, if_pos hn] at e
 exact wh_of e
theorem recAt_pre {out : List Rec} {r : Rec} {j : Nat} (hj : j < out.length) : recAt (out ++ [r]) j = recAt out j := by
 unfold recAt
 rw [List.getD_eq_getElem?_getD, List.getD_eq_getElem?_getD, List.getElem?_append_left hj]
theorem up_pre {out : List Rec} {r : Rec} {j : Nat} (hj : j < out.length) : upOf (out ++ [r]) j = upOf out j := by
 unfold upOf
 rw [recAt_pre hj, List.take_append_of_le_length (Nat.le_of_lt hj)]
theorem fa_pre {out : List Rec} {r : Rec} {j : Nat} (hj : j < out.length) : faultAt (out ++ [r]) j = faultAt out j := by
 have h1 : recAt (out ++ [r]) (j - 1) = recAt out (j - 1) := recAt_pre (by omega)
 have h2 := recAt_pre (r := r) hj
 have h3 := up_pre (r := r) hj
 have h4 : recAt (out ++ [r]) (upOf out j).toNat = recAt out (upOf out j).toNat := recAt_pre (by have := up_lt hj; omega)
 unfold faultAt sameB orderB dirB
 simp only [show (Int.ofNat j).toNat = j from rfl, h1, h2, h3, h4]
theorem ok_pre {out : List Rec} {r : Rec} (h : OKto out out.length) : OKto (out ++ [r]) out.length :=
 ⟨by simp, fun j hj => by rw [fa_pre hj]; exact h.2 j hj⟩
theorem wh_step {t : List UInt8} {out : List Rec} {k n : Nat} (h : RInv t (out, k, n + 1)) (ht : t.length <= 100000000) (hb : ¬ stepBad t k = true) (hs : ¬ stepSum t k = false) (hc : faultAt (out ++ [decR (t.drop k)]) out.length = 0) : RInv t (out ++ [decR (t.drop k)], k + decL (t.drop k) + 2, n) := by
 obtain ⟨h1, e, h3, h4, h5⟩ := h
 have e : readL t (n + 1) out k = whole t := e
 rw [readL_succ, if_neg hb, if_neg hs, if_neg (not_not_intro hc)] at e
 have h4 : out.length + (n + 1) = byteN t 3 := h4
 have hb' : ¬ t.length < k + decL (t.drop k) + 2 := by
   intro hlt
   apply hb
   unfold stepBad
   rw [decide_eq_true hlt]; simp
 refine ⟨?_, e, ?_, ?_, ?_⟩
 · show k + decL (t.drop k) + 2 <= t.length
   omega
 · have := ok_step (ok_pre (r := decR (t.drop k)) h3) (by simp) hc
   simpa using this
 · show (out ++ [decR (t.drop k)]).length + n = byteN t 3
   simp; omega
 · intro r hr
   rcases List.mem_append.1 hr with hr | hr
   · exact h5 r hr
   · rw [List.mem_singleton.1 hr]
     have := decR_path (t.drop k)
     simp at this
     omega
theorem okL_snoc {t : List UInt8} {out : List Rec} {k n : Nat} (h : RInv t (out, k, n)) (ht : t.length <= 100000000) : okL (out ++ [decR (t.drop k)]) := by
 intro r hr
 rcases List.mem_append.1 hr with hr | hr
 · exact h.2.2.2.2 r hr
 · rw [List.mem_singleton.1 hr]
   have := decR_path (t.drop k)
   simp at this
   omega
theorem wh_e1 {t : List UInt8} {out : List Rec} {k : Nat} (h : RInv t (out, k, 0)) (h1 : ¬ t.length = k + 2) : [] = wholeL t /\ Int.ofNat k = wholeN t /\ 3 = wholeC t := by
 have e : readL t 0 out k = whole t := h.2.1
 unfold readL at e
 rw [if_pos h1] at e
 exact wh_of e
theorem wh_e2 {t : List UInt8} {out : List Rec} {k : Nat} (h : RInv t (out, k, 0)) (h1 : t.length = k + 2) (h2 : ¬ t.drop k = two (sum (t.take k))) : [] = wholeL t /\ Int.ofNat k = wholeN t /\ 15 = wholeC t := by
 have e : readL t 0 out k = whole t := h.2.1
 unfold readL at e
 rw [if_neg (not_not_intro h1), if_pos h2] at e
 exact wh_of e
theorem wh_e3 {t : List UInt8} {out : List Rec} {k : Nat} (h : RInv t (out, k, 0)) (h1 : t.length = k + 2) (h2 : t.drop k = two (sum (t.take k))) : out = wholeL t /\ 0 = wholeN t /\ 0 = wholeC t := by
 have e : readL t 0 out k = whole t := h.2.1
 unfold readL at e
 rw [if_neg (not_not_intro h1), if_neg (not_not_intro h2)] at e
 exact wh_of e
theorem decL_le (t : List UInt8) : decL t <= t.length := by
 unfold decL
 split
 · omega
 · split
   · omega
   · split <;> omega
theorem sub_all {α : Type} {l : List α} {k : Nat} : subL l k l.length = l.drop k := by unfold subL; rw [List.take_length]
theorem sum_two {t : List UInt8} : (0 : Int) <= sum t /\ sum t < 65536 := ⟨(sum_range t).1, Int.lt_trans (sum_range t).2 (by decide)⟩
theorem lay_last {l : List Rec} {r : Rec} (h : OKto l l.length) : (¬ layC (l ++ [r]) = 0 -> layN (l ++ [r]) = Int.ofNat l.length /\ faultAt (l ++ [r]) l.length = layC (l ++ [r])) /\ (layC (l ++ [r]) = 0 -> faultAt (l ++ [r]) l.length = 0) := by
 by_cases hf : faultAt (l ++ [r]) l.length = 0
 · have := lay_end (l := l ++ [r]) (i := l.length + 1) (by have := ok_step (ok_pre (r := r) h) (by simp) hf; exact this) (by simp)
   exact ⟨fun hn => absurd this.2.symm hn, fun _ => hf⟩
 · have := lay_c (ok_pre (r := r) h) (by simp) rfl hf
   exact ⟨fun _ => ⟨this.1.symm, this.2⟩, fun h0 => by rw [this.2]; exact h0⟩
end Go.Fn
namespace Go.Proofs.YtkdnelaoagmeaaaGreatDoor
open Go.Ab Go.Fn
def s_wholeV : FSpec := { ps := [.v .str], rs := [.v (.slice tRec), .v I, .v I], pre := fun x => List.length (α := UInt8) x.1 <= 100000000, fn := fun x => (Fn.wholeL x.1, Fn.wholeN x.1, Fn.wholeC x.1, ()), upd := fun _ => () }
def L_l09WholeV (t : List UInt8) : LoopAnn := { ι := List Rec × Nat × Nat, inv := fun q => Fn.RInv t q, slots := fun q => [(5, .os 1), (6, .d I (Int.ofNat q.2.1)), (7, .d I (Int.ofNat q.2.2))], objs := fun q => [(1, .arr tRec q.1 false)], μ := fun q => q.2.2 }
theorem fo_l09WholeV : FO 144 s_wholeV := by
 refine fo (specs := [(203, s_l09Read), (199, s_l09Sum), (198, s_two), (61, s_layF)]) (clos := []) (fun x => [(6, .lv [0, 5, 6, 7] <| fun _ => L_l09WholeV x.1)]) ⟨fo_l09Read, fo_l09Sum, fo_l09Two, fo_l03Fault, trivial⟩ trivial Tryz.func144 rfl rfl ?_
 rintro ⟨t, ⟨⟩⟩ hl
 refine vcOf (fits (lenL t) -> (decide (iOf (lenL t) < (4 : Int)) = false -> boundLo (3 : Int) (lenL t) /\ ((!subL t (0 : Nat) (tN (3 : Int)) == ([76, 89, 82] : List UInt8)) = true -> (([] : List (Int × List UInt8 × List UInt8 × Int × Bool × Unit)), (0 : Int), (3 : Int), ()) = (wholeL t, wholeN t, wholeC t, ()) /\ () = ()) /\ ((!subL t (0 : Nat) (tN (3 : Int)) == ([76, 89, 82] : List UInt8)) = false -> bnd (3 : Int) (lenL t) /\ ∀ (c : UInt8), nthI t (3 : Int) = some c -> (∃ (i : List Rec × Nat × Nat), RInv t i /\ (t = t /\ 1 = (1 : Nat) /\ (4 : Int) = Int.ofNat i.snd.fst /\ IntKind.i64.wrap (Int.ofNat c.toNat) = Int.ofNat i.snd.snd /\ True) /\ ((([] : List (Int × List UInt8 × List UInt8 × Int × Bool × Unit)) = ([] : List (Int × List UInt8 × List UInt8 × Int × Bool × Unit)) /\ false = false) /\ (([] : List (Int × List UInt8 × List UInt8 × Int × Bool × Unit)) = i.fst /\ false = false) /\ True) /\ True) /\ ∀ (i : List Rec × Nat × Nat), RInv t i -> (decide (Int.ofNat i.snd.snd > (0 : Int)) = true -> true = true /\ (List.length t <= (100000000 : Nat) /\ ∃ (k : Nat), Int.ofNat i.snd.fst = Int.ofNat k /\ k <= List.length t) /\ 5 <= 5 /\ ((!rdB t (Int.ofNat i.snd.fst)) = false -> fits (lenL t) -> (decide (wAdd .i64 (rdN t (Int.ofNat i.snd.fst)) (2 : Int) > iOf (lenL t)) = true -> (([] : List (Int × List UInt8 × List UInt8 × Int × Bool × Unit)), Int.ofNat i.snd.fst, (3 : Int), ()) = (wholeL t, wholeN t, wholeC t, ()) /\ () = ()) /\ (decide (wAdd .i64 (rdN t (Int.ofNat i.snd.fst)) (2 : Int) > iOf (lenL t)) = false -> boundLH (rdN t (Int.ofNat i.snd.fst)) (wAdd .i64 (rdN t (Int.ofNat i.snd.fst)) (2 : Int)) (lenL t) /\ boundLH (Int.ofNat i.snd.fst) (rdN t (Int.ofNat i.snd.fst)) (lenL t) /\ true = true /\ True /\ true = true /\ ((0 : Int) <= sum (subL t (tN (Int.ofNat i.snd.fst)) (tN (rdN t (Int.ofNat i.snd.fst)))) /\ sum (subL t (tN (Int.ofNat i.snd.fst)) (tN (rdN t (Int.ofNat i.snd.fst)))) < (65536 : (PTy.v I).den)) /\ ((!subL t (tN (rdN t (Int.ofNat i.snd.fst))) (tN (wAdd .i64 (rdN t (Int.ofNat i.snd.fst)) (2 : Int))) == two (sum (subL t (tN (Int.ofNat i.snd.fst)) (tN (rdN t (Int.ofNat i.snd.fst)))))) = true -> (([] : List (Int × List UInt8 × List UInt8 × Int × Bool × Unit)), Int.ofNat i.snd.fst, (15 : Int), ()) = (wholeL t, wholeN t, wholeC t, ()) /\ () = ()) /\ ((!subL t (tN (rdN t (Int.ofNat i.snd.fst))) (tN (wAdd .i64 (rdN t (Int.ofNat i.snd.fst)) (2 : Int))) == two (sum (subL t (tN (Int.ofNat i.snd.fst)) (tN (rdN t (Int.ofNat i.snd.fst)))))) = false -> 5 <= (5) /\ fits (lenL i.fst + lenL (((rdR t (Int.ofNat i.snd.fst)).fst, (rdR t (Int.ofNat i.snd.fst)).snd.fst, (rdR t (Int.ofNat i.snd.fst)).snd.snd.fst, (rdR t (Int.ofNat i.snd.fst)).snd.snd.snd.fst, (rdR t (Int.ofNat i.snd.fst)).snd.snd.snd.snd.fst, ()) :: ([] : List (Int × List UInt8 × List UInt8 × Int × Bool × Unit)))) /\ true = true /\ okL (i.fst ++ ((rdR t (Int.ofNat i.snd.fst)).fst, (rdR t (Int.ofNat i.snd.fst)).snd.fst, (rdR t (Int.ofNat i.snd.fst)).snd.snd.fst, (rdR t (Int.ofNat i.snd.fst)).snd.snd.snd.fst, (rdR t (Int.ofNat i.snd.fst)).snd.snd.snd.snd.fst, ()) :: ([] : List (Int × List UInt8 × List UInt8 × Int × Bool × Unit))) /\ ((layC (i.fst ++ ((rdR t (Int.ofNat i.snd.fst)).fst, (rdR t (Int.ofNat i.snd.fst)).snd.fst, (rdR t (Int.ofNat i.snd.fst)).snd.snd.fst, (rdR t (Int.ofNat i.snd.fst)).snd.snd.snd.fst, (rdR t (Int.ofNat i.snd.fst)).snd.snd.snd.snd.fst, ()) :: ([] : List (Int × List UInt8 × List UInt8 × Int × Bool × Unit))) != (0 : Int)) = true -> fits (lenL (i.fst ++ ((rdR t (Int.ofNat i.snd.fst)).fst, (rdR t (Int.ofNat i.snd.fst)).snd.fst, (rdR t (Int.ofNat i.snd.fst)).snd.snd.fst, (rdR t (Int.ofNat i.snd.fst)).snd.snd.snd.fst, (rdR t (Int.ofNat i.snd.fst)).snd.snd.snd.snd.fst, ()) :: ([] : List (Int × List UInt8 × List UInt8 × Int × Bool × Unit)))) -> ((layN (i.fst ++ ((rdR t (Int.ofNat i.snd.fst)).fst, (rdR t (Int.ofNat i.snd.fst)).snd.fst, (rdR t (Int.ofNat i.snd.fst)).snd.snd.fst, (rdR t (Int.ofNat i.snd.fst)).snd.snd.snd.fst, (rdR t (Int.ofNat i.snd.fst)).snd.snd.snd.snd.fst, ()) :: ([] : List (Int × List UInt8 × List UInt8 × Int × Bool × Unit))) == wSub .i64 (iOf (lenL (i.fst ++ ((rdR t (Int.ofNat i.snd.fst)).fst, (rdR t (Int.ofNat i.snd.fst)).snd.fst, (rdR t (Int.ofNat i.snd.fst)).snd.snd.fst, (rdR t (Int.ofNat i.snd.fst)).snd.snd.snd.fst, (rdR t (Int.ofNat i.snd.fst)).snd.snd.snd.snd.fst, ()) :: ([] : List (Int × List UInt8 × List UInt8 × Int × Bool × Unit))))) (1 : Int)) = true -> (([] : List (Int × List UInt8 × List UInt8 × Int × Bool × Unit)), Int.ofNat i.snd.fst, layC (i.fst ++ ((rdR t (Int.ofNat i.snd.fst)).fst, (rdR t (Int.ofNat i.snd.fst)).snd.fst, (rdR t (Int.ofNat i.snd.fst)).snd.snd.fst, (rdR t (Int.ofNat i.snd.fst)).snd.snd.snd.fst, (rdR t (Int.ofNat i.snd.fst)).snd.snd.snd.snd.fst, ()) :: ([] : List (Int × List UInt8 × List UInt8 × Int × Bool × Unit))), ()) = (wholeL t, wholeN t, wholeC t, ()) /\ () = ()) /\ ((layN (i.fst ++ ((rdR t (Int.ofNat i.snd.fst)).fst, (rdR t (Int.ofNat i.snd.fst)).snd.fst, (rdR t (Int.ofNat i.snd.fst)).snd.snd.fst, (rdR t (Int.ofNat i.snd.fst)).snd.snd.snd.fst, (rdR t (Int.ofNat i.snd.fst)).snd.snd.snd.snd.fst, ()) :: ([] : List (Int × List UInt8 × List UInt8 × Int × Bool × Unit))) == wSub .i64 (iOf (lenL (i.fst ++ ((rdR t (Int.ofNat i.snd.fst)).fst, (rdR t (Int.ofNat i.snd.fst)).snd.fst, (rdR t (Int.ofNat i.snd.fst)).snd.snd.fst, (rdR t (Int.ofNat i.snd.fst)).snd.snd.snd.fst, (rdR t (Int.ofNat i.snd.fst)).snd.snd.snd.snd.fst, ()) :: ([] : List (Int × List UInt8 × List UInt8 × Int × Bool × Unit))))) (1 : Int)) = false -> ∃ (j : List Rec × Nat × Nat), RInv t j /\ j.snd.snd < i.snd.snd /\ (t = t /\ (1 : Nat) = 1 /\ wAdd .i64 (rdN t (Int.ofNat i.snd.fst)) (2 : Int) = Int.ofNat j.snd.fst /\ wSub .i64 (Int.ofNat i.snd.snd) (1 : Int) = Int.ofNat j.snd.snd /\ True) /\ ((([] : List (Int × List UInt8 × List UInt8 × Int × Bool × Unit)) = ([] : List (Int × List UInt8 × List UInt8 × Int × Bool × Unit)) /\ false = false) /\ (i.fst ++ ((rdR t (Int.ofNat i.snd.fst)).fst, (rdR t (Int.ofNat i.snd.fst)).snd.fst, (rdR t (Int.ofNat i.snd.fst)).snd.snd.fst, (rdR t (Int.ofNat i.snd.fst)).snd.snd.snd.fst, (rdR t (Int.ofNat i.snd.fst)).snd.snd.snd.snd.fst, ()) :: ([] : List (Int × List UInt8 × List UInt8 × Int × Bool × Unit)) = j.fst /\ false = false) /\ True) /\ True)) /\ ((layC (i.fst ++ ((rdR t (Int.ofNat i.snd.fst)).fst, (rdR t (Int.ofNat i.snd.fst)).snd.fst, (rdR t (Int.ofNat i.snd.fst)).snd.snd.fst, (rdR t (Int.ofNat i.snd.fst)).snd.snd.snd.fst, (rdR t (Int.ofNat i.snd.fst)).snd.snd.snd.snd.fst, ()) :: ([] : List (Int × List UInt8 × List UInt8 × Int × Bool × Unit))) != (0 : Int)) = false -> ∃ (j : List Rec × Nat × Nat), RInv t j /\ j.snd.snd < i.snd.snd /\ (t = t /\ (1 : Nat) = 1 /\ wAdd .i64 (rdN t (Int.ofNat i.snd.fst)) (2 : Int) = Int.ofNat j.snd.fst /\ wSub .i64 (Int.ofNat i.snd.snd) (1 : Int) = Int.ofNat j.snd.snd /\ True) /\ ((([] : List (Int × List UInt8 × List UInt8 × Int × Bool × Unit)) = ([] : List (Int × List UInt8 × List UInt8 × Int × Bool × Unit)) /\ false = false) /\ (i.fst ++ ((rdR t (Int.ofNat i.snd.fst)).fst, (rdR t (Int.ofNat i.snd.fst)).snd.fst, (rdR t (Int.ofNat i.snd.fst)).snd.snd.fst, (rdR t (Int.ofNat i.snd.fst)).snd.snd.snd.fst, (rdR t (Int.ofNat i.snd.fst)).snd.snd.snd.snd.fst, ()) :: ([] : List (Int × List UInt8 × List UInt8 × Int × Bool × Unit)) = j.fst /\ false = false) /\ True) /\ True)))) /\ ((!rdB t (Int.ofNat i.snd.fst)) = true -> (([] : List (Int × List UInt8 × List UInt8 × Int × Bool × Unit)), Int.ofNat i.snd.fst, (3 : Int), ()) = (wholeL t, wholeN t, wholeC t, ()) /\ () = ())) /\ (decide (Int.ofNat i.snd.snd > (0 : Int)) = false -> fits (lenL t) -> ((wAdd .i64 (Int.ofNat i.snd.fst) (2 : Int) != iOf (lenL t)) = true -> (([] : List (Int × List UInt8 × List UInt8 × Int × Bool × Unit)), Int.ofNat i.snd.fst, (3 : Int), ()) = (wholeL t, wholeN t, wholeC t, ()) /\ () = ()) /\ ((wAdd .i64 (Int.ofNat i.snd.fst) (2 : Int) != iOf (lenL t)) = false -> boundLo (Int.ofNat i.snd.fst) (lenL t) /\ boundLo (Int.ofNat i.snd.fst) (lenL t) /\ true = true /\ True /\ true = true /\ ((0 : Int) <= sum (subL t (0 : Nat) (tN (Int.ofNat i.snd.fst))) /\ sum (subL t (0 : Nat) (tN (Int.ofNat i.snd.fst))) < (65536 : (PTy.v I).den)) /\ ((!subL t (tN (Int.ofNat i.snd.fst)) (lenL t) == two (sum (subL t (0 : Nat) (tN (Int.ofNat i.snd.fst))))) = true -> (([] : List (Int × List UInt8 × List UInt8 × Int × Bool × Unit)), Int.ofNat i.snd.fst, (15 : Int), ()) = (wholeL t, wholeN t, wholeC t, ()) /\ () = ()) /\ ((!subL t (tN (Int.ofNat i.snd.fst)) (lenL t) == two (sum (subL t (0 : Nat) (tN (Int.ofNat i.snd.fst))))) = false -> (i.fst, (0 : Int), (0 : Int), ()) = (wholeL t, wholeN t, wholeC t, ()) /\ () = ()))))) /\ (decide (iOf (lenL t) < (4 : Int)) = true -> (([] : List (Int × List UInt8 × List UInt8 × Int × Bool × Unit)), (0 : Int), (3 : Int), ()) = (wholeL t, wholeN t, wholeC t, ()) /\ () = ())) (by kernel_rfl) ?_
 simp only [NS, eq_self, ne_eq, forall_const, implies_true, Nat.reduceAdd, Nat.reduceLeDiff, nz, Int.reduceEq, Nat.reduceEqDiff, reduceCtorEq]; try simp only [lenL]
 have hl : List.length t <= 100000000 := hl
 refine fun _ => ⟨fun h4 => ⟨⟨by decide, by have h4 : ¬ (t.length : Int) < 4 := h4; omega⟩, fun hh => wh_head (head_b hh), fun hh => ?_⟩, fun h4 => wh_head (head_a h4)⟩
 have hb := head_no h4 hh
 have hlen := head_len hb
 refine ⟨bnd_nat (k := 3) (by omega), fun c hc => ⟨⟨([], 4, byteN t 3), r_start hb, ⟨rfl, ?_⟩, rfl⟩, ?_⟩⟩
 · rw [byte_in, byteN_at (t := t) (i := 3) hc]
 rintro ⟨out, k, n⟩ hR
 have hk : k <= t.length := hR.1
 have hn : out.length + n = byteN t 3 := hR.2.2.2.1
 have hbyte := byteN_lt t 3
 have hdl : decL (t.drop k) <= t.length - k := by have := decL_le (t.drop k); simpa using this
 have e2 : wAdd .i64 (Int.ofNat k) 2 = Int.ofNat (k + 2) := wA (b := 2) (by omega)
 have e3 : wAdd .i64 (Int.ofNat (k + decL (t.drop k))) 2 = Int.ofNat (k + decL (t.drop k) + 2) := wA (b := 2) (by omega)
 refine ⟨fun hpos => ⟨⟨hl, k, rfl, hk⟩, fun hB _ => ?_, fun hB => ?_⟩, fun hpos _ => ?_⟩
 · cases n with
   | zero => exact absurd hpos (by simp)
   | succ n =>
   have hd : ¬ decL (t.drop k) = 0 := by
     have : (!(decide (decL (t.drop k) = 0))) = true := hB
     simpa using this
   have eN : rdN t (Int.ofNat k) = Int.ofNat (k + decL (t.drop k)) := by
     have : rdN t (Int.ofNat k) = if decL (t.drop k) = 0 then 0 else Int.ofNat (k + decL (t.drop k)) := rfl
     rw [this, if_neg hd]
   have eR : rdR t (Int.ofNat k) = decR (t.drop k) := rfl
   simp only [eN, eR, e3, gt_iOf, tN_nat, bLH]
   refine ⟨fun hs => wh_a hR (by unfold stepBad; rw [decide_eq_true hs]; simp), fun hs => ?_⟩
   have hsb : ¬ stepBad t k = true := by unfold stepBad; rw [decide_eq_false hs, decide_eq_false hd]; exact Bool.false_ne_true
   refine ⟨⟨by omega, by omega⟩, ⟨by omega, by omega⟩, sum_two, fun hq => wh_b hR hsb (by unfold stepSum; exact decide_eq_false hq), fun hq => ?_⟩
   have hss : ¬ stepSum t k = false := by unfold stepSum; rw [decide_eq_true hq]; exact fun h => Bool.noConfusion h
   have hll := lay_last (r := decR (t.drop k)) hR.2.2.1
   have e4 : wSub .i64 (iOf (out ++ [decR (t.drop k)]).length) 1 = Int.ofNat out.length := by
     unfold iOf
     rw [wSub_in (by simp; omega)]
     simp
   have e5 : wSub .i64 (Int.ofNat (n + 1)) 1 = Int.ofNat n := by
     rw [wSub_in (by simp only [Int.ofNat_eq_natCast]; omega)]
     simp
   simp only [e4, e5]
   refine ⟨by show out.length + 1 < 1099511627776; omega, okL_snoc hR hl, fun hc _ => ⟨fun _ => wh_c hR hsb hss (hll.1 hc).2 hc, fun hne => absurd (hll.1 hc).1 hne⟩, fun hc => ⟨(out ++ [decR (t.drop k)], k + decL (t.drop k) + 2, n), wh_step hR hl hsb hss (hll.2 hc), Nat.lt_succ_self n, ⟨rfl, rfl⟩, rfl⟩⟩
 · cases n with
   | zero => exact absurd hpos (by simp)
   | succ n =>
   have hd : decL (t.drop k) = 0 := by
     have : (!(decide (decL (t.drop k) = 0))) = false := hB
     simpa using this
   exact wh_a hR (by unfold stepBad; rw [decide_eq_true hd]; rfl)
 · cases n with
   | succ n => exact absurd (Int.ofNat_lt.2 (Nat.succ_pos n)) hpos
   | zero =>
   have e6 : (Int.ofNat (k + 2) = iOf t.length) = (t.length = k + 2) := by
     unfold iOf
     simp only [Int.ofNat_eq_natCast, eq_iff_iff]
     omega
   simp only [e2, e6, tN_nat, sub_all]
   exact ⟨fun h => wh_e1 hR h, fun h => ⟨⟨Int.natCast_nonneg _, Int.ofNat_le.2 hk⟩, ⟨Int.natCast_nonneg _, Int.ofNat_le.2 hk⟩, sum_two, fun h2 => wh_e2 hR h h2, fun h2 => wh_e3 hR h h2⟩⟩
end Go.Proofs.YtkdnelaoagmeaaaGreatDoor
namespace Go.Proofs.YtkdnelaoagmeaaaGreatDoor
open Go.Ab Go.Fn
def L_readLayerV (t : List UInt8) : LoopAnn := { ι := List Rec × Nat × Nat, inv := fun q => Fn.RInv t q, slots := fun q => [(5, .os 1), (6, .d I (Int.ofNat q.2.1)), (23, .d I (Int.ofNat q.1.length))], objs := fun q => [(1, .arr tRec q.1 false)], μ := fun q => q.2.2 }
theorem fo_readLayerV : FO 146 s_wholeV := by
 refine fo (specs := [(205, s_decode), (142, s_l09Sum), (141, s_two), (127, s_faultAt), (160, s_hasPre)]) (clos := []) (fun x => [(5, .lv [0, 5, 6, 22, 23] <| fun _ => L_readLayerV x.1)]) ⟨fo_decode, fo_layerSum, fo_two, fo_faultAt, fo_hasPre, trivial⟩ trivial Tryz.func146 rfl rfl ?_
 rintro ⟨t, ⟨⟩⟩ hl
 refine vcOf (fits (lenL t) -> (decide (iOf (lenL t) < (4 : Int)) = false -> true = true /\ True /\ ((!hasPre t (([76, 89, 82] : List UInt8))) = true -> (([] : List (Int × List UInt8 × List UInt8 × Int × Bool × Unit)), (0 : Int), (3 : Int), ()) = (wholeL t, wholeN t, wholeC t, ()) /\ () = ()) /\ ((!hasPre t (([76, 89, 82] : List UInt8))) = false -> bnd (3 : Int) (lenL t) /\ ∀ (c : UInt8), nthI t (3 : Int) = some c -> (∃ (i : List Rec × Nat × Nat), RInv t i /\ (t = t /\ 1 = (1 : Nat) /\ (4 : Int) = Int.ofNat i.snd.fst /\ IntKind.i64.wrap (Int.ofNat c.toNat) = IntKind.i64.wrap (Int.ofNat c.toNat) /\ (0 : Int) = Int.ofNat i.fst.length /\ True) /\ ((([] : List (Int × List UInt8 × List UInt8 × Int × Bool × Unit)) = ([] : List (Int × List UInt8 × List UInt8 × Int × Bool × Unit)) /\ false = false) /\ (([] : List (Int × List UInt8 × List UInt8 × Int × Bool × Unit)) = i.fst /\ false = false) /\ True) /\ True) /\ ∀ (i : List Rec × Nat × Nat), RInv t i -> (decide (Int.ofNat i.fst.length < IntKind.i64.wrap (Int.ofNat c.toNat)) = true -> boundLo (Int.ofNat i.snd.fst) (lenL t) /\ true = true /\ (subL t (tN (Int.ofNat i.snd.fst)) (lenL t)).length <= (100000000 : Nat) /\ 5 <= 5 /\ ((decN (subL t (tN (Int.ofNat i.snd.fst)) (lenL t)) == (0 : Int)) = false -> fits (lenL t) -> (decide (wAdd .i64 (wAdd .i64 (Int.ofNat i.snd.fst) (decN (subL t (tN (Int.ofNat i.snd.fst)) (lenL t)))) (2 : Int) > iOf (lenL t)) = true -> (([] : List (Int × List UInt8 × List UInt8 × Int × Bool × Unit)), Int.ofNat i.snd.fst, (3 : Int), ()) = (wholeL t, wholeN t, wholeC t, ()) /\ () = ()) /\ (decide (wAdd .i64 (wAdd .i64 (Int.ofNat i.snd.fst) (decN (subL t (tN (Int.ofNat i.snd.fst)) (lenL t)))) (2 : Int) > iOf (lenL t)) = false -> boundLH (wAdd .i64 (Int.ofNat i.snd.fst) (decN (subL t (tN (Int.ofNat i.snd.fst)) (lenL t)))) (wAdd .i64 (wAdd .i64 (Int.ofNat i.snd.fst) (decN (subL t (tN (Int.ofNat i.snd.fst)) (lenL t)))) (2 : Int)) (lenL t) /\ boundLH (Int.ofNat i.snd.fst) (wAdd .i64 (Int.ofNat i.snd.fst) (decN (subL t (tN (Int.ofNat i.snd.fst)) (lenL t)))) (lenL t) /\ true = true /\ True /\ true = true /\ ((0 : Int) <= sum (subL t (tN (Int.ofNat i.snd.fst)) (tN (wAdd .i64 (Int.ofNat i.snd.fst) (decN (subL t (tN (Int.ofNat i.snd.fst)) (lenL t)))))) /\ sum (subL t (tN (Int.ofNat i.snd.fst)) (tN (wAdd .i64 (Int.ofNat i.snd.fst) (decN (subL t (tN (Int.ofNat i.snd.fst)) (lenL t)))))) < (65536 : (PTy.v I).den)) /\ ((!subL t (tN (wAdd .i64 (Int.ofNat i.snd.fst) (decN (subL t (tN (Int.ofNat i.snd.fst)) (lenL t))))) (tN (wAdd .i64 (wAdd .i64 (Int.ofNat i.snd.fst) (decN (subL t (tN (Int.ofNat i.snd.fst)) (lenL t)))) (2 : Int))) == two (sum (subL t (tN (Int.ofNat i.snd.fst)) (tN (wAdd .i64 (Int.ofNat i.snd.fst) (decN (subL t (tN (Int.ofNat i.snd.fst)) (lenL t)))))))) = true -> (([] : List (Int × List UInt8 × List UInt8 × Int × Bool × Unit)), Int.ofNat i.snd.fst, (15 : Int), ()) = (wholeL t, wholeN t, wholeC t, ()) /\ () = ()) /\ ((!subL t (tN (wAdd .i64 (Int.ofNat i.snd.fst) (decN (subL t (tN (Int.ofNat i.snd.fst)) (lenL t))))) (tN (wAdd .i64 (wAdd .i64 (Int.ofNat i.snd.fst) (decN (subL t (tN (Int.ofNat i.snd.fst)) (lenL t)))) (2 : Int))) == two (sum (subL t (tN (Int.ofNat i.snd.fst)) (tN (wAdd .i64 (Int.ofNat i.snd.fst) (decN (subL t (tN (Int.ofNat i.snd.fst)) (lenL t)))))))) = false -> 5 <= (5) /\ fits (lenL i.fst + lenL (((decR (subL t (tN (Int.ofNat i.snd.fst)) (lenL t))).fst, (decR (subL t (tN (Int.ofNat i.snd.fst)) (lenL t))).snd.fst, (decR (subL t (tN (Int.ofNat i.snd.fst)) (lenL t))).snd.snd.fst, (decR (subL t (tN (Int.ofNat i.snd.fst)) (lenL t))).snd.snd.snd.fst, (decR (subL t (tN (Int.ofNat i.snd.fst)) (lenL t))).snd.snd.snd.snd.fst, ()) :: ([] : List (Int × List UInt8 × List UInt8 × Int × Bool × Unit)))) /\ (fits (lenL (i.fst ++ ((decR (subL t (tN (Int.ofNat i.snd.fst)) (lenL t))).fst, (decR (subL t (tN (Int.ofNat i.snd.fst)) (lenL t))).snd.fst, (decR (subL t (tN (Int.ofNat i.snd.fst)) (lenL t))).snd.snd.fst, (decR (subL t (tN (Int.ofNat i.snd.fst)) (lenL t))).snd.snd.snd.fst, (decR (subL t (tN (Int.ofNat i.snd.fst)) (lenL t))).snd.snd.snd.snd.fst, ()) :: ([] : List (Int × List UInt8 × List UInt8 × Int × Bool × Unit)))) -> true = true /\ (okL (i.fst ++ ((decR (subL t (tN (Int.ofNat i.snd.fst)) (lenL t))).fst, (decR (subL t (tN (Int.ofNat i.snd.fst)) (lenL t))).snd.fst, (decR (subL t (tN (Int.ofNat i.snd.fst)) (lenL t))).snd.snd.fst, (decR (subL t (tN (Int.ofNat i.snd.fst)) (lenL t))).snd.snd.snd.fst, (decR (subL t (tN (Int.ofNat i.snd.fst)) (lenL t))).snd.snd.snd.snd.fst, ()) :: ([] : List (Int × List UInt8 × List UInt8 × Int × Bool × Unit))) /\ ∃ (k : Nat), wSub .i64 (iOf (lenL (i.fst ++ ((decR (subL t (tN (Int.ofNat i.snd.fst)) (lenL t))).fst, (decR (subL t (tN (Int.ofNat i.snd.fst)) (lenL t))).snd.fst, (decR (subL t (tN (Int.ofNat i.snd.fst)) (lenL t))).snd.snd.fst, (decR (subL t (tN (Int.ofNat i.snd.fst)) (lenL t))).snd.snd.snd.fst, (decR (subL t (tN (Int.ofNat i.snd.fst)) (lenL t))).snd.snd.snd.snd.fst, ()) :: ([] : List (Int × List UInt8 × List UInt8 × Int × Bool × Unit))))) (1 : Int) = Int.ofNat k /\ k < (i.fst ++ ((decR (subL t (tN (Int.ofNat i.snd.fst)) (lenL t))).fst, (decR (subL t (tN (Int.ofNat i.snd.fst)) (lenL t))).snd.fst, (decR (subL t (tN (Int.ofNat i.snd.fst)) (lenL t))).snd.snd.fst, (decR (subL t (tN (Int.ofNat i.snd.fst)) (lenL t))).snd.snd.snd.fst, (decR (subL t (tN (Int.ofNat i.snd.fst)) (lenL t))).snd.snd.snd.snd.fst, ()) :: ([] : List (Int × List UInt8 × List UInt8 × Int × Bool × Unit))).length /\ k < (1099511627776 : Nat)) /\ ((faultI (i.fst ++ ((decR (subL t (tN (Int.ofNat i.snd.fst)) (lenL t))).fst, (decR (subL t (tN (Int.ofNat i.snd.fst)) (lenL t))).snd.fst, (decR (subL t (tN (Int.ofNat i.snd.fst)) (lenL t))).snd.snd.fst, (decR (subL t (tN (Int.ofNat i.snd.fst)) (lenL t))).snd.snd.snd.fst, (decR (subL t (tN (Int.ofNat i.snd.fst)) (lenL t))).snd.snd.snd.snd.fst, ()) :: ([] : List (Int × List UInt8 × List UInt8 × Int × Bool × Unit))) (wSub .i64 (iOf (lenL (i.fst ++ ((decR (subL t (tN (Int.ofNat i.snd.fst)) (lenL t))).fst, (decR (subL t (tN (Int.ofNat i.snd.fst)) (lenL t))).snd.fst, (decR (subL t (tN (Int.ofNat i.snd.fst)) (lenL t))).snd.snd.fst, (decR (subL t (tN (Int.ofNat i.snd.fst)) (lenL t))).snd.snd.snd.fst, (decR (subL t (tN (Int.ofNat i.snd.fst)) (lenL t))).snd.snd.snd.snd.fst, ()) :: ([] : List (Int × List UInt8 × List UInt8 × Int × Bool × Unit))))) (1 : Int)) != (0 : Int)) = true -> (([] : List (Int × List UInt8 × List UInt8 × Int × Bool × Unit)), Int.ofNat i.snd.fst, faultI (i.fst ++ ((decR (subL t (tN (Int.ofNat i.snd.fst)) (lenL t))).fst, (decR (subL t (tN (Int.ofNat i.snd.fst)) (lenL t))).snd.fst, (decR (subL t (tN (Int.ofNat i.snd.fst)) (lenL t))).snd.snd.fst, (decR (subL t (tN (Int.ofNat i.snd.fst)) (lenL t))).snd.snd.snd.fst, (decR (subL t (tN (Int.ofNat i.snd.fst)) (lenL t))).snd.snd.snd.snd.fst, ()) :: ([] : List (Int × List UInt8 × List UInt8 × Int × Bool × Unit))) (wSub .i64 (iOf (lenL (i.fst ++ ((decR (subL t (tN (Int.ofNat i.snd.fst)) (lenL t))).fst, (decR (subL t (tN (Int.ofNat i.snd.fst)) (lenL t))).snd.fst, (decR (subL t (tN (Int.ofNat i.snd.fst)) (lenL t))).snd.snd.fst, (decR (subL t (tN (Int.ofNat i.snd.fst)) (lenL t))).snd.snd.snd.fst, (decR (subL t (tN (Int.ofNat i.snd.fst)) (lenL t))).snd.snd.snd.snd.fst, ()) :: ([] : List (Int × List UInt8 × List UInt8 × Int × Bool × Unit))))) (1 : Int)), ()) = (wholeL t, wholeN t, wholeC t, ()) /\ () = ()) /\ ((faultI (i.fst ++ ((decR (subL t (tN (Int.ofNat i.snd.fst)) (lenL t))).fst, (decR (subL t (tN (Int.ofNat i.snd.fst)) (lenL t))).snd.fst, (decR (subL t (tN (Int.ofNat i.snd.fst)) (lenL t))).snd.snd.fst, (decR (subL t (tN (Int.ofNat i.snd.fst)) (lenL t))).snd.snd.snd.fst, (decR (subL t (tN (Int.ofNat i.snd.fst)) (lenL t))).snd.snd.snd.snd.fst, ()) :: ([] : List (Int × List UInt8 × List UInt8 × Int × Bool × Unit))) (wSub .i64 (iOf (lenL (i.fst ++ ((decR (subL t (tN (Int.ofNat i.snd.fst)) (lenL t))).fst, (decR (subL t (tN (Int.ofNat i.snd.fst)) (lenL t))).snd.fst, (decR (subL t (tN (Int.ofNat i.snd.fst)) (lenL t))).snd.snd.fst, (decR (subL t (tN (Int.ofNat i.snd.fst)) (lenL t))).snd.snd.snd.fst, (decR (subL t (tN (Int.ofNat i.snd.fst)) (lenL t))).snd.snd.snd.snd.fst, ()) :: ([] : List (Int × List UInt8 × List UInt8 × Int × Bool × Unit))))) (1 : Int)) != (0 : Int)) = false -> ∃ (j : List Rec × Nat × Nat), RInv t j /\ j.snd.snd < i.snd.snd /\ (t = t /\ (1 : Nat) = 1 /\ wAdd .i64 (wAdd .i64 (Int.ofNat i.snd.fst) (decN (subL t (tN (Int.ofNat i.snd.fst)) (lenL t)))) (2 : Int) = Int.ofNat j.snd.fst /\ IntKind.i64.wrap (Int.ofNat c.toNat) = IntKind.i64.wrap (Int.ofNat c.toNat) /\ wAdd .i64 (Int.ofNat i.fst.length) (1 : Int) = Int.ofNat j.fst.length /\ True) /\ ((([] : List (Int × List UInt8 × List UInt8 × Int × Bool × Unit)) = ([] : List (Int × List UInt8 × List UInt8 × Int × Bool × Unit)) /\ false = false) /\ (i.fst ++ ((decR (subL t (tN (Int.ofNat i.snd.fst)) (lenL t))).fst, (decR (subL t (tN (Int.ofNat i.snd.fst)) (lenL t))).snd.fst, (decR (subL t (tN (Int.ofNat i.snd.fst)) (lenL t))).snd.snd.fst, (decR (subL t (tN (Int.ofNat i.snd.fst)) (lenL t))).snd.snd.snd.fst, (decR (subL t (tN (Int.ofNat i.snd.fst)) (lenL t))).snd.snd.snd.snd.fst, ()) :: ([] : List (Int × List UInt8 × List UInt8 × Int × Bool × Unit)) = j.fst /\ false = false) /\ True) /\ True))))) /\ ((decN (subL t (tN (Int.ofNat i.snd.fst)) (lenL t)) == (0 : Int)) = true -> (([] : List (Int × List UInt8 × List UInt8 × Int × Bool × Unit)), Int.ofNat i.snd.fst, (3 : Int), ()) = (wholeL t, wholeN t, wholeC t, ()) /\ () = ())) /\ (decide (Int.ofNat i.fst.length < IntKind.i64.wrap (Int.ofNat c.toNat)) = false -> fits (lenL t) -> ((iOf (lenL t) != wAdd .i64 (Int.ofNat i.snd.fst) (2 : Int)) = true -> (([] : List (Int × List UInt8 × List UInt8 × Int × Bool × Unit)), Int.ofNat i.snd.fst, (3 : Int), ()) = (wholeL t, wholeN t, wholeC t, ()) /\ () = ()) /\ ((iOf (lenL t) != wAdd .i64 (Int.ofNat i.snd.fst) (2 : Int)) = false -> boundLo (Int.ofNat i.snd.fst) (lenL t) /\ boundLo (Int.ofNat i.snd.fst) (lenL t) /\ true = true /\ True /\ true = true /\ ((0 : Int) <= sum (subL t (0 : Nat) (tN (Int.ofNat i.snd.fst))) /\ sum (subL t (0 : Nat) (tN (Int.ofNat i.snd.fst))) < (65536 : (PTy.v I).den)) /\ ((!subL t (tN (Int.ofNat i.snd.fst)) (lenL t) == two (sum (subL t (0 : Nat) (tN (Int.ofNat i.snd.fst))))) = true -> (([] : List (Int × List UInt8 × List UInt8 × Int × Bool × Unit)), Int.ofNat i.snd.fst, (15 : Int), ()) = (wholeL t, wholeN t, wholeC t, ()) /\ () = ()) /\ ((!subL t (tN (Int.ofNat i.snd.fst)) (lenL t) == two (sum (subL t (0 : Nat) (tN (Int.ofNat i.snd.fst))))) = false -> (i.fst, (0 : Int), (0 : Int), ()) = (wholeL t, wholeN t, wholeC t, ()) /\ () = ()))))) /\ (decide (iOf (lenL t) < (4 : Int)) = true -> (([] : List (Int × List UInt8 × List UInt8 × Int × Bool × Unit)), (0 : Int), (3 : Int), ()) = (wholeL t, wholeN t, wholeC t, ()) /\ () = ())) (by kernel_rfl) ?_
 simp only [NS, eq_self, ne_eq, forall_const, implies_true, Nat.reduceAdd, Nat.reduceLeDiff, nz, Int.reduceEq, Nat.reduceEqDiff, reduceCtorEq]; try simp only [lenL]
 have hl : List.length t <= 100000000 := hl
 refine fun _ => ⟨fun h4 => ⟨fun hh => wh_head (by unfold Fn.headBad; rw [hh]; simp), fun hh => ?_⟩, fun h4 => wh_head (head_a h4)⟩
 have hb : headBad t = false := by
   have h4 : ¬ (t.length : Int) < 4 := h4
   unfold Fn.headBad
   rw [hh, decide_eq_false (p := t.length < 4) (by omega)]; rfl
 have hlen := head_len hb
 refine ⟨bnd_nat (k := 3) (by omega), fun c hc => ⟨⟨([], 4, byteN t 3), r_start hb, ⟨rfl, rfl⟩, rfl⟩, ?_⟩⟩
 rw [byte_in, byteN_at (t := t) (i := 3) hc]
 rintro ⟨out, k, n⟩ hR
 have hk : k <= t.length := hR.1
 have hn : out.length + n = byteN t 3 := hR.2.2.2.1
 have hbyte := byteN_lt t 3
 have hdl : decL (t.drop k) <= t.length - k := by have := decL_le (t.drop k); simpa using this
 have e2 : wAdd .i64 (Int.ofNat k) 2 = Int.ofNat (k + 2) := wA (b := 2) (by omega)
 have e1 : wAdd .i64 (Int.ofNat k) (decN (t.drop k)) = Int.ofNat (k + decL (t.drop k)) := wA (b := decL (t.drop k)) (by omega)
 have e3 : wAdd .i64 (Int.ofNat (k + decL (t.drop k))) 2 = Int.ofNat (k + decL (t.drop k) + 2) := wA (b := 2) (by omega)
 have e4 : wSub .i64 (iOf (out ++ [decR (t.drop k)]).length) 1 = Int.ofNat out.length := by
   unfold iOf
   rw [wSub_in (by simp; omega)]
   simp
 have e5 : wAdd .i64 (Int.ofNat out.length) 1 = Int.ofNat (out.length + 1) := wA (b := 1) (by omega)
 have e6 : (iOf t.length = Int.ofNat (k + 2)) = (t.length = k + 2) := by
   unfold iOf
   simp only [Int.ofNat_eq_natCast, eq_iff_iff]
   omega
 have e7 : (decN (t.drop k) = 0) = (decL (t.drop k) = 0) := by
   unfold decN
   simp only [Int.ofNat_eq_natCast, eq_iff_iff]
   omega
 have e8 : (Int.ofNat out.length < Int.ofNat (byteN t 3)) = (0 < n) := by
   simp only [Int.ofNat_eq_natCast, eq_iff_iff]
   omega
 simp only [tN_nat, sub_all, e1, e2, e3, e4, e5, e6, e7, e8, gt_iOf, bLH]
 refine ⟨fun hpos => ⟨⟨Int.natCast_nonneg _, Int.ofNat_le.2 hk⟩, by simp; omega, fun hd _ => ?_, fun hd => ?_⟩, fun hpos _ => ?_⟩
 · cases n with
   | zero => exact absurd hpos (Nat.lt_irrefl 0)
   | succ n =>
   refine ⟨fun hs => wh_a hR (by unfold Fn.stepBad; rw [decide_eq_true hs]; simp), fun hs => ?_⟩
   have hsb : ¬ stepBad t k = true := by unfold Fn.stepBad; rw [decide_eq_false hs, decide_eq_false hd]; exact Bool.false_ne_true
   refine ⟨⟨by omega, by omega⟩, ⟨by omega, by omega⟩, sum_two, fun hq => wh_b hR hsb (by unfold Fn.stepSum; exact decide_eq_false hq), fun hq => ?_⟩
   have hss : ¬ stepSum t k = false := by unfold Fn.stepSum; rw [decide_eq_true hq]; exact fun h => Bool.noConfusion h
   refine ⟨by show out.length + 1 < 1099511627776; omega, fun _ => ⟨⟨okL_snoc hR hl, out.length, rfl, by simp, by omega⟩, fun hc => wh_c hR hsb hss rfl hc, fun hc => ⟨(out ++ [decR (t.drop k)], k + decL (t.drop k) + 2, n), wh_step hR hl hsb hss hc, Nat.lt_succ_self n, ⟨rfl, ?_⟩, rfl⟩⟩⟩
   show Int.ofNat (out.length + 1) = Int.ofNat (out ++ [decR (t.drop k)]).length
   simp
 · cases n with
   | zero => exact absurd hpos (Nat.lt_irrefl 0)
   | succ n => exact wh_a hR (by unfold Fn.stepBad; rw [decide_eq_true hd]; rfl)
 · cases n with
   | succ n => exact absurd (Nat.succ_pos n) hpos
   | zero => exact ⟨fun h => wh_e1 hR h, fun h => ⟨⟨Int.natCast_nonneg _, Int.ofNat_le.2 hk⟩, ⟨Int.natCast_nonneg _, Int.ofNat_le.2 hk⟩, sum_two, fun h2 => wh_e2 hR h h2, fun h2 => wh_e3 hR h h2⟩⟩
end Go.Proofs.YtkdnelaoagmeaaaGreatDoor
namespace Go.Proofs
open Go.Shelf
def Tryz.laysM171_ren : Go.Shelf.Ren := ⟨fun | 171 => 139 | 243 => 202 | 246 => 249 | 283 => 283 | 284 => 284 | 285 => 285 | 286 => 286 | 129 => 298 | 317 => 307 | 318 => 308 | 319 => 309 | 320 => 310 | 337 => 339 | 338 => 340 | n => n, fun | 3 => 3 | 9 => 9 | 2 => 2 | 4 => 4 | 171 => 252 | 0 => 0 | 53 => 242 | 37 => 160 | 5 => 5 | 173 => 255 | 212 => 277 | 51 => 233 | 20 => 20 | 213 => 278 | 46 => 189 | 232 => 308 | 233 => 309 | n => n, fun | 17 => 3 | 18 => 6 | 19 => 7 | n => n⟩
theorem Tryz.laysM171 : Go.Proofs.LaysM.n171 Tryz.prog Tryz.laysM171_ren := {
 mixed := by kernel_rfl
 f129 := Tryz.func298.trans (congrArg some (by kernel_rfl))
 f171 := Tryz.func139.trans (congrArg some (by kernel_rfl))
 f243 := Tryz.func202.trans (congrArg some (by kernel_rfl))
 f246 := Tryz.func249.trans (congrArg some (by kernel_rfl))
 f283 := Tryz.func283.trans (congrArg some (by kernel_rfl))
 f284 := Tryz.func284.trans (congrArg some (by kernel_rfl))
 f285 := Tryz.func285.trans (congrArg some (by kernel_rfl))
 f286 := Tryz.func286.trans (congrArg some (by kernel_rfl))
 f317 := Tryz.func307.trans (congrArg some (by kernel_rfl))
 f318 := Tryz.func308.trans (congrArg some (by kernel_rfl))
 f319 := Tryz.func309.trans (congrArg some (by kernel_rfl))
 f320 := Tryz.func310.trans (congrArg some (by kernel_rfl))
 f337 := Tryz.func339.trans (congrArg some (by kernel_rfl))
 f338 := Tryz.func340.trans (congrArg some (by kernel_rfl))
 t0 := Tryz.underlying0
 a0 := Tryz.isAgg0
 z0 := Tryz.sizeOf0
 v0 := Tryz.zeroValue0
 t2 := Tryz.underlying2
 a2 := Tryz.isAgg2
 z2 := Tryz.sizeOf2
 v2 := Tryz.zeroValue2
 t3 := Tryz.underlying3
 a3 := Tryz.isAgg3
 z3 := Tryz.sizeOf3
 v3 := Tryz.zeroValue3
 t4 := Tryz.underlying4
 a4 := Tryz.isAgg4
 z4 := Tryz.sizeOf4
 v4 := Tryz.zeroValue4
 t5 := Tryz.underlying5
 a5 := Tryz.isAgg5
 z5 := Tryz.sizeOf5
 v5 := Tryz.zeroValue5
 t9 := Tryz.underlying9
 a9 := Tryz.isAgg9
 z9 := Tryz.sizeOf9
 v9 := Tryz.zeroValue9
 t20 := Tryz.underlying20
 a20 := Tryz.isAgg20
 z20 := Tryz.sizeOf20
 v20 := Tryz.zeroValue20
 t37 := Tryz.underlying160
 a37 := Tryz.isAgg160
 z37 := Tryz.sizeOf160
 v37 := Tryz.zeroValue160
 t46 := Tryz.underlying189
 a46 := Tryz.isAgg189
 z46 := Tryz.sizeOf189
 v46 := Tryz.zeroValue189
 t51 := Tryz.underlying233
 a51 := Tryz.isAgg233
 z51 := Tryz.sizeOf233
 v51 := Tryz.zeroValue233
 t53 := Tryz.underlying242
 a53 := Tryz.isAgg242
 z53 := Tryz.sizeOf242
 v53 := Tryz.zeroValue242
 t171 := Tryz.underlying252
 a171 := Tryz.isAgg252
 z171 := Tryz.sizeOf252
 v171 := Tryz.zeroValue252
 t173 := Tryz.underlying255
 a173 := Tryz.isAgg255
 z173 := Tryz.sizeOf255
 v173 := Tryz.zeroValue255
 t212 := Tryz.underlying277
 a212 := Tryz.isAgg277
 z212 := Tryz.sizeOf277
 v212 := Tryz.zeroValue277
 t213 := Tryz.underlying278
 a213 := Tryz.isAgg278
 z213 := Tryz.sizeOf278
 t232 := Tryz.underlying308
 a232 := Tryz.isAgg308
 z232 := Tryz.sizeOf308
 v232 := Tryz.zeroValue308
 t233 := Tryz.underlying309
 a233 := Tryz.isAgg309
 z233 := Tryz.sizeOf309
 v233 := Tryz.zeroValue309
 g17 := by kernel_rfl
 g18 := by kernel_rfl
 g19 := by kernel_rfl
 i0 := by kernel_rfl
 i2 := by kernel_rfl
 i3 := by kernel_rfl
 i4 := by kernel_rfl
 i5 := by kernel_rfl
 i9 := by kernel_rfl
 i20 := by kernel_rfl
 i37 := by kernel_rfl
 i46 := by kernel_rfl
 i51 := by kernel_rfl
 i53 := by kernel_rfl
 i171 := by kernel_rfl
 i173 := by kernel_rfl
 i212 := by kernel_rfl
 i232 := by kernel_rfl
 i233 := by kernel_rfl
 m17 := by kernel_rfl
 m18 := by kernel_rfl
 m19 := by kernel_rfl }
open Go.RowKit Go.Sort Go.Lib in
theorem Tryz.strconv_Itoa (n : Int) (h0 : -9223372036854775808 <= n) (h1 : n <= 9223372036854775807) (w : World) (htab : Lib.TabIs Tryz.prog w "internal/strconv.uint64pow10" .u64 Lib.pow10Tab) :
   Calls Tryz.prog 139 #[.int .i64 n] w fun e w' => e = .returned (.string ⟨(Lib.itoa n).toArray⟩) /\ ∃ k os, w' = grow (w.drewN k) os := Any.strconv_Itoa Tryz.laysM171 n h0 h1 w htab
end Go.Proofs
namespace Go.Fn
open Go.Ab
def itoaS (n : Int) : List UInt8 := Lib.itoa n
def inI (n : Int) : Prop := -9223372036854775808 <= n /\ n <= 9223372036854775807
def dm (n : Int) : Nat := 2 * n.natAbs + (if n < 0 then 1 else 0)
theorem itoa_len {n : Int} (h : inI n) : (itoaS n).length <= 21 := Lib.itoa_length_le n h.1 h.2
theorem dig_neg {n : Int} (h : inI n) (hm : ¬ n = -9223372036854775808) (hn : n < 0) : wNeg .i64 n = -n /\ inI (-n) /\ dm (-n) < dm n /\ catS [45] (itoaS (-n)) = itoaS n := by
 unfold inI at *
 refine ⟨?_, by omega, ?_, ?_⟩
 · unfold wNeg
   rw [IntKind.wrap_i64]
   omega
 · unfold dm
   rw [if_pos hn, if_neg (by omega)]
   omega
 · obtain ⟨u, rfl⟩ : ∃ u : Nat, n = -(u : Int) := ⟨n.natAbs, by omega⟩
   unfold itoaS catS
   rw [Int.neg_neg, Lib.itoa_nonneg, Lib.itoa_neg u (by omega)]
   rfl
theorem dig_min : ([45, 57, 50, 50, 51, 51, 55, 50, 48, 51, 54, 56, 53, 52, 55, 55, 53, 56, 48, 56] : List UInt8) = itoaS (-9223372036854775808) := by
 have e : (-9223372036854775808 : Int) = -((9223372036854775808 : Nat) : Int) := rfl
 unfold itoaS
 rw [e, Lib.itoa_neg _ (by decide)]
 simp [Lib.decDigits]
theorem dig_small {n : Int} (hn : ¬ n < 0) (h : n < 10) : [UInt8.ofNat (IntKind.u8.wrap (wAdd .i64 48 n)).toNat] = itoaS n := by
 obtain ⟨u, rfl⟩ : ∃ u : Nat, n = (u : Int) := ⟨n.toNat, by omega⟩
 unfold itoaS
 rw [Lib.itoa_nonneg, Lib.decDigits, dif_pos (by omega), wAdd_in (by omega), IntKind.wrap_u8]
 congr 2
 omega
theorem dig_big {n : Int} (h : inI n) (hn : ¬ n < 0) (h10 : ¬ n < 10) : wQuo .i64 n 10 = n / 10 /\ inI (n / 10) /\ dm (n / 10) < dm n /\ catS (itoaS (n / 10)) [UInt8.ofNat (IntKind.u8.wrap (wAdd .i64 48 (wRem n 10))).toNat] = itoaS n := by
 unfold inI at *
 obtain ⟨u, rfl⟩ : ∃ u : Nat, n = (u : Int) := ⟨n.toNat, by omega⟩
 have hq : ((u : Int) / 10) = ((u / 10 : Nat) : Int) := by omega
 refine ⟨?_, by omega, ?_, ?_⟩
 · unfold wQuo
   rw [Int.tdiv_eq_ediv_of_nonneg (by omega), i64_in (by omega)]
 · unfold dm
   rw [if_neg hn, if_neg (by omega)]
   omega
 · unfold itoaS catS
   have e2 : wRem (u : Int) 10 = ((u % 10 : Nat) : Int) := rfl
   rw [hq, Lib.itoa_nonneg, Lib.itoa_nonneg, Lib.decDigits.eq_1 u, dif_neg (by omega), e2, wAdd_in (by omega), IntKind.wrap_u8]
   congr 3
   omega
end Go.Fn
namespace Go.Fn
open Go.Ab
theorem f_cat {a b : List UInt8} (h : a.length + b.length <= 1000000) : fits (a.length + b.length) := by show _ < 1099511627776; omega
end Go.Fn
namespace Go.Proofs.YtkdnelaoagmeaaaGreatDoor
open Go.Ab Go.Fn
def tabP (w : World) : Prop := Lib.TabIs Tryz.prog w "internal/strconv.uint64pow10" .u64 Lib.pow10Tab
theorem gPow : Tryz.prog.globalNamed "internal/strconv.uint64pow10" = some 3 := by kernel_rfl
def mkT (specs : List (Nat × FSpec)) (clos : List (Nat × CSpec)) : Env := { tys := tys, specs := specs, clos := clos, anyB := 4, anyN := 3, anyS := 9, gl := 3 + 1, tab := tabP }
theorem tabT (specs clos) : TabS (mkT specs clos) := by
 intro w w' h hb
 have hb0 : w'.heap[3]? = w.heap[3]? := hb 3 (Nat.lt_succ_self _)
 have h : w.var? Tryz.prog "internal/strconv.uint64pow10" = _ := h
 show w'.var? Tryz.prog "internal/strconv.uint64pow10" = _
 rw [<- h]
 unfold World.var?
 rw [gPow]
 simp only [Option.bind_some, hb0]
theorem envT (specs clos) : EnvOK Tryz.prog (mkT specs clos) :=
 { tys := (envOK specs clos []).tys, distinct := (envOK specs clos []).distinct, anyTys := (envOK specs clos []).anyTys, anyZ := (envOK specs clos []).anyZ }
def FT (f : Nat) (sp : FSpec) : Prop := FOK Tryz.prog (mkT [] []) f sp
theorem toT {f : Nat} {sp : FSpec} (h : FO f sp) : FT f sp := fok_env (E := E0) (E' := mkT [] []) ⟨rfl, rfl, rfl⟩ ⟨fun _ _ => trivial, Nat.zero_le _, fun _ _ _ _ => trivial⟩ h
def AllT : List (Nat × FSpec) -> Prop
 | [] => True
 | (f, sp) :: r => FT f sp /\ AllT r
theorem AllT.get : ∀ {l : List (Nat × FSpec)}, AllT l -> ∀ {f sp} , Go.Ab.look l f = some sp -> FT f sp
 | [], _, f, sp, h => by cases h
 | (k, x) :: r, ⟨h1, h2⟩, f, sp, h => by
   simp only [Go.Ab.look] at h
   cases hk : Nat.beq k f with
   | true => rw [hk] at h; cases h; rw [<- Nat.eq_of_beq_eq_true hk]; exact h1
   | false => rw [hk] at h; exact AllT.get h2 h
theorem progT {specs clos} (h1 : AllT specs) (h2 : AllC clos) : ProgOK Tryz.prog (mkT specs clos) :=
 { env := envT specs clos, specs := fun f sp h => fok_env (E := mkT [] []) (E' := mkT specs clos) ⟨rfl, rfl, rfl⟩ ⟨fun _ h => h, Nat.le_refl _, tabT [] []⟩ (h1.get h), clos := fun f cl h => cok_env (E := E0) (E' := mkT specs clos) ⟨rfl, rfl, rfl⟩ (h2.get h), inl := fun f T h => (by cases h), mixed := by kernel_rfl }
theorem foT {specs clos f fn sp} (A : pdens sp.ps -> List (Nat × (St -> LoopAnn))) (h1 : AllT specs) (h2 : AllC clos) (hf : Tryz.prog.funcs[f]? = some fn) (hn : (fn.name == "runtime.NumGoroutine") = false) (hb : fn.body.isSome = true) (hv : ∀ x, sp.pre x -> vc (mkT specs clos) (A x) fn sp x) : FT f sp :=
 fok_env (E := mkT specs clos) (E' := mkT [] []) ⟨rfl, rfl, rfl⟩ ⟨fun _ h => h, Nat.le_refl _, tabT specs clos⟩ (fok_of_vc (progT h1 h2) hf hn A hv hb)
end Go.Proofs.YtkdnelaoagmeaaaGreatDoor
namespace Go.Proofs.YtkdnelaoagmeaaaGreatDoor
open Go.Ab Go.Fn
def s_Itoa : FSpec := { ps := [.v I], rs := [.v .str], pre := fun x => Fn.inI x.1, fn := fun x => (Fn.itoaS x.1, ()), upd := fun _ => () }
theorem ft_Itoa : FT 139 s_Itoa := by
 refine fok_raw (ps := [.v I]) (fn := fun x => Fn.itoaS x.1) rfl ⟨_, Tryz.func139, rfl, rfl⟩ ?_
 rintro ⟨(n : Int), ⟨⟩⟩ c vs hE hT ⟨h1, h2⟩ hV
 have h1 : -9223372036854775808 <= n := h1
 have h2 : n <= 9223372036854775807 := h2
 have hV : VRelL c [.d (.int .i64) n] vs := hV
 simp only [VRelL] at hV
 obtain ⟨v, q, rfl, r, rfl⟩ := hV
 have hv := int_ok (k := .i64) (n := n) r
 subst hv
 refine Calls.mono (Tryz.strconv_Itoa n h1 h2 c.w hT) fun e w' he => ?_
 obtain ⟨rfl, k, os, rfl⟩ := he
 refine ⟨rfl, ?_, keep_of rfl rfl rfl ?_ ?_⟩
 · have := Lib.itoa_length_le n h1 h2
   show (Lib.itoa n).length < lim
   unfold lim
   omega
 · unfold Sort.grow World.drewN; simp
 · intro b hb
   unfold Sort.grow World.drewN
   simp only
   rw [Array.getElem?_append_left hb]
end Go.Proofs.YtkdnelaoagmeaaaGreatDoor
namespace Go.Proofs.YtkdnelaoagmeaaaGreatDoor
open Go.Ab Go.Fn
def s_dig (N : Nat) : FSpec := { ps := [.v I], rs := [.v .str], pre := fun x => Fn.inI x.1 /\ Fn.dm x.1 < N, fn := fun x => (Fn.itoaS x.1, ()), upd := fun _ => () }
theorem fo_dig : ∀ N, FO 130 (s_dig N)
 | 0 => ⟨⟨_, Tryz.func130, rfl, rfl⟩, fun _ _ _ _ _ _ hp => absurd hp.2 (Nat.not_lt_zero _)⟩
 | N + 1 => by
   refine fo (specs := [(130, s_dig N)]) (clos := []) (fun x => []) ⟨fo_dig N, trivial⟩ trivial Tryz.func130 rfl rfl ?_
   rintro ⟨n, ⟨⟩⟩ ⟨hi, hd⟩
   refine vcOf (((n == (-9223372036854775808 : Int)) = true -> (([45, 57, 50, 50, 51, 51, 55, 50, 48, 51, 54, 56, 53, 52, 55, 55, 53, 56, 48, 56] : List UInt8), ()) = (itoaS n, ()) /\ () = ()) /\ ((n == (-9223372036854775808 : Int)) = false -> (decide (n < (0 : Int)) = true -> true = true /\ (inI (wNeg IntKind.i64 n) /\ dm (wNeg IntKind.i64 n) < N) /\ fits (lenL (([45] : List UInt8)) + lenL (itoaS (wNeg IntKind.i64 n))) /\ (catS (([45] : List UInt8)) (itoaS (wNeg IntKind.i64 n)), ()) = (itoaS n, ()) /\ () = ()) /\ (decide (n < (0 : Int)) = false -> (decide (n < (10 : Int)) = true -> (UInt8.ofNat (IntKind.u8.wrap (wAdd .i64 (48 : Int) n)).toNat :: ([] : List UInt8), ()) = (itoaS n, ()) /\ () = ()) /\ (decide (n < (10 : Int)) = false -> nz (10 : Int) /\ nz (10 : Int) /\ (true = true /\ (inI (wQuo .i64 n (10 : Int)) /\ dm (wQuo .i64 n (10 : Int)) < N) /\ fits (lenL (itoaS (wQuo .i64 n (10 : Int))) + lenL (UInt8.ofNat (IntKind.u8.wrap (wAdd .i64 (48 : Int) (wRem n (10 : Int)))).toNat :: ([] : List UInt8))) /\ (catS (itoaS (wQuo .i64 n (10 : Int))) (UInt8.ofNat (IntKind.u8.wrap (wAdd .i64 (48 : Int) (wRem n (10 : Int)))).toNat :: ([] : List UInt8)), ()) = (itoaS n, ()) /\ () = ()) /\ true = true /\ (inI (wQuo .i64 n (10 : Int)) /\ dm (wQuo .i64 n (10 : Int)) < N) /\ fits (lenL (itoaS (wQuo .i64 n (10 : Int))) + lenL (UInt8.ofNat (IntKind.u8.wrap (wAdd .i64 (48 : Int) (wRem n (10 : Int)))).toNat :: ([] : List UInt8))) /\ (catS (itoaS (wQuo .i64 n (10 : Int))) (UInt8.ofNat (IntKind.u8.wrap (wAdd .i64 (48 : Int) (wRem n (10 : Int)))).toNat :: ([] : List UInt8)), ()) = (itoaS n, ()) /\ () = ())))) (by kernel_rfl) ?_
   simp only [NS, eq_self, ne_eq, forall_const, implies_true, Nat.reduceAdd, Nat.reduceLeDiff, nz, Int.reduceEq, Nat.reduceEqDiff, reduceCtorEq]; try simp only [lenL]
   have hi : Fn.inI n := hi
   have hd : Fn.dm n < N + 1 := hd
   refine ⟨fun h => by rw [h]; exact dig_min, fun hm => ⟨fun hn => ?_, fun hn => ⟨fun h10 => dig_small hn h10, fun h10 => ?_⟩⟩⟩
   · obtain ⟨e, h1, h2, h3⟩ := dig_neg hi hm hn
     rw [e]
     have := itoa_len h1
     exact ⟨⟨h1, by omega⟩, f_cat (by simp only [List.length_cons, List.length_nil]; omega), h3⟩
   · obtain ⟨e, h1, h2, h3⟩ := dig_big hi hn h10
     rw [e]
     have := itoa_len h1
     exact ⟨⟨h1, by omega⟩, f_cat (by simp only [List.length_cons, List.length_nil]; omega), h3⟩
def s_Digits : FSpec := { ps := [.v I], rs := [.v .str], pre := fun x => Fn.inI x.1, fn := fun x => (Fn.itoaS x.1, ()), upd := fun _ => () }
theorem fo_l00Digits : FO 130 s_Digits :=
 fok_pre (sp := s_Digits) ⟨_, Tryz.func130, rfl, rfl⟩ fun x hx => ⟨fun y => Fn.inI y.1 /\ Fn.dm y.1 < Fn.dm x.1 + 1, ⟨hx, Nat.lt_succ_self _⟩, fo_dig (Fn.dm x.1 + 1)⟩
end Go.Proofs.YtkdnelaoagmeaaaGreatDoor
namespace Go.Proofs
open Go.Shelf
def Tryz.sortStr_ren : Go.Shelf.Ren := ⟨fun | 6 => 263 | 8 => 259 | 9 => 300 | 19 => 297 | 20 => 298 | 21 => 321 | 22 => 322 | 23 => 323 | 24 => 324 | 25 => 325 | 26 => 326 | 27 => 327 | 28 => 328 | 29 => 329 | 36 => 344 | 31 => 314 | 32 => 315 | 37 => 345 | 38 => 346 | 39 => 243 | 41 => 350 | n => n, fun | 27 => 37 | 29 => 9 | 3 => 3 | 32 => 189 | 26 => 37 | 0 => 0 | 44 => 233 | 46 => 242 | 4 => 4 | 36 => 262 | 35 => 261 | 41 => 142 | 5 => 5 | 9 => 9 | 53 => 282 | 57 => 286 | 63 => 298 | 64 => 86 | n => n, fun | n => n⟩
theorem Tryz.sortStr : Go.Proofs.SlLaysM.n6 Tryz.prog Tryz.sortStr_ren := {
 mixed := by kernel_rfl
 f6 := ⟨Tryz.f263.name, by decide, Tryz.func263.trans (congrArg some (by kernel_rfl))⟩
 f8 := Tryz.func259.trans (congrArg some (by kernel_rfl))
 f9 := ⟨Tryz.f300.name, by decide, Tryz.func300.trans (congrArg some (by kernel_rfl))⟩
 f19 := Tryz.func297.trans (congrArg some (by kernel_rfl))
 f20 := Tryz.func298.trans (congrArg some (by kernel_rfl))
 f21 := ⟨Tryz.f321.name, by decide, Tryz.func321.trans (congrArg some (by kernel_rfl))⟩
 f22 := ⟨Tryz.f322.name, by decide, Tryz.func322.trans (congrArg some (by kernel_rfl))⟩
 f23 := ⟨Tryz.f323.name, by decide, Tryz.func323.trans (congrArg some (by kernel_rfl))⟩
 f24 := ⟨Tryz.f324.name, by decide, Tryz.func324.trans (congrArg some (by kernel_rfl))⟩
 f25 := ⟨Tryz.f325.name, by decide, Tryz.func325.trans (congrArg some (by kernel_rfl))⟩
 f26 := ⟨Tryz.f326.name, by decide, Tryz.func326.trans (congrArg some (by kernel_rfl))⟩
 f27 := ⟨Tryz.f327.name, by decide, Tryz.func327.trans (congrArg some (by kernel_rfl))⟩
 f28 := ⟨Tryz.f328.name, by decide, Tryz.func328.trans (congrArg some (by kernel_rfl))⟩
 f29 := ⟨Tryz.f329.name, by decide, Tryz.func329.trans (congrArg some (by kernel_rfl))⟩
 f31 := Tryz.func314.trans (congrArg some (by kernel_rfl))
 f32 := Tryz.func315.trans (congrArg some (by kernel_rfl))
 f36 := ⟨Tryz.f344.name, by decide, Tryz.func344.trans (congrArg some (by kernel_rfl))⟩
 f37 := ⟨Tryz.f345.name, by decide, Tryz.func345.trans (congrArg some (by kernel_rfl))⟩
 f38 := ⟨Tryz.f346.name, by decide, Tryz.func346.trans (congrArg some (by kernel_rfl))⟩
 f39 := ⟨Tryz.f243.name, by decide, Tryz.func243.trans (congrArg some (by kernel_rfl))⟩
 f41 := ⟨Tryz.f350.name, by decide, Tryz.func350.trans (congrArg some (by kernel_rfl))⟩
 t0 := Tryz.underlying0
 a0 := Tryz.isAgg0
 z0 := Tryz.sizeOf0
 v0 := Tryz.zeroValue0
 t3 := Tryz.underlying3
 a3 := Tryz.isAgg3
 z3 := Tryz.sizeOf3
 v3 := Tryz.zeroValue3
 t4 := Tryz.underlying4
 a4 := Tryz.isAgg4
 z4 := Tryz.sizeOf4
 v4 := Tryz.zeroValue4
 t5 := Tryz.underlying5
 a5 := Tryz.isAgg5
 z5 := Tryz.sizeOf5
 v5 := Tryz.zeroValue5
 t9 := Tryz.underlying9
 a9 := Tryz.isAgg9
 z9 := Tryz.sizeOf9
 v9 := Tryz.zeroValue9
 t26 := Tryz.underlying37
 a26 := Tryz.isAgg37
 z26 := Tryz.sizeOf37
 v26 := Tryz.zeroValue37
 t27 := Tryz.underlying37
 a27 := Tryz.isAgg37
 z27 := Tryz.sizeOf37
 v27 := Tryz.zeroValue37
 t29 := Tryz.underlying9
 a29 := Tryz.isAgg9
 z29 := Tryz.sizeOf9
 v29 := Tryz.zeroValue9
 t32 := Tryz.underlying189
 a32 := Tryz.isAgg189
 z32 := Tryz.sizeOf189
 v32 := Tryz.zeroValue189
 t35 := Tryz.underlying261
 a35 := Tryz.isAgg261
 z35 := Tryz.sizeOf261
 v35 := Tryz.zeroValue261
 t36 := Tryz.underlying262
 a36 := Tryz.isAgg262
 z36 := Tryz.sizeOf262
 v36 := Tryz.zeroValue262
 t41 := Tryz.underlying142
 a41 := Tryz.isAgg142
 z41 := Tryz.sizeOf142
 v41 := Tryz.zeroValue142
 t44 := Tryz.underlying233
 a44 := Tryz.isAgg233
 z44 := Tryz.sizeOf233
 v44 := Tryz.zeroValue233
 t46 := Tryz.underlying242
 a46 := Tryz.isAgg242
 z46 := Tryz.sizeOf242
 v46 := Tryz.zeroValue242
 t53 := Tryz.underlying282
 a53 := Tryz.isAgg282
 z53 := Tryz.sizeOf282
 v53 := Tryz.zeroValue282
 t57 := Tryz.underlying286
 a57 := Tryz.isAgg286
 z57 := Tryz.sizeOf286
 v57 := Tryz.zeroValue286
 t63 := Tryz.underlying298
 a63 := Tryz.isAgg298
 z63 := Tryz.sizeOf298
 v63 := Tryz.zeroValue298
 t64 := Tryz.underlying86
 a64 := Tryz.isAgg86
 z64 := Tryz.sizeOf86
 v64 := Tryz.zeroValue86 }
def Tryz.compStr_ren : Go.Shelf.Ren := ⟨fun | 44 => 217 | n => n, fun | 25 => 37 | 26 => 9 | 3 => 3 | 4 => 4 | 0 => 0 | n => n, fun | n => n⟩
theorem Tryz.compStr : Go.Proofs.SlLaysN.n44 Tryz.prog Tryz.compStr_ren := {
 mixed := by kernel_rfl
 f44 := ⟨Tryz.f217.name, by decide, Tryz.func217.trans (congrArg some (by kernel_rfl))⟩
 t0 := Tryz.underlying0
 a0 := Tryz.isAgg0
 z0 := Tryz.sizeOf0
 v0 := Tryz.zeroValue0
 t3 := Tryz.underlying3
 a3 := Tryz.isAgg3
 z3 := Tryz.sizeOf3
 v3 := Tryz.zeroValue3
 t4 := Tryz.underlying4
 a4 := Tryz.isAgg4
 z4 := Tryz.sizeOf4
 v4 := Tryz.zeroValue4
 t25 := Tryz.underlying37
 a25 := Tryz.isAgg37
 z25 := Tryz.sizeOf37
 v25 := Tryz.zeroValue37
 t26 := Tryz.underlying9
 a26 := Tryz.isAgg9
 z26 := Tryz.sizeOf9
 v26 := Tryz.zeroValue9
 i26 := by kernel_rfl }
end Go.Proofs
namespace Go.Fn
open Go.Ab
def drop (n : List UInt8) (l : List Slot) : List Slot := l.filter (fun s => !(nameIs n s))
def dropTo (n : List UInt8) (l : List Slot) (k : Nat) : List Slot := (l.take k).filter (fun s => !(nameIs n s))
theorem dropTo_keep {n : List UInt8} {l : List Slot} {k : Nat} {x : Slot} (hx : l[k]? = some x) (h : ¬ x.1 = n) : dropTo n l k ++ [x] = dropTo n l (k + 1) := by
 have : nameIs n x = false := by unfold nameIs; simpa using h
 unfold dropTo; rw [List.take_add_one, hx]; simp [this]
theorem dropTo_del {n : List UInt8} {l : List Slot} {k : Nat} {x : Slot} (hx : l[k]? = some x) (h : x.1 = n) : dropTo n l k = dropTo n l (k + 1) := by
 have : nameIs n x = true := by unfold nameIs; simpa using h
 unfold dropTo; rw [List.take_add_one, hx]; simp [this]
theorem dropTo_end {n : List UInt8} {l : List Slot} {k : Nat} (h : ¬ k < l.length) : dropTo n l k = drop n l := by
 unfold dropTo drop; rw [List.take_of_length_le (by omega)]
theorem dropTo_less (n : List UInt8) {l : List Slot} {k : Nat} (hk : k <= l.length) (h : k < l.length) : (dropTo n l k).length + 1 <= l.length := by
 have h1 : (dropTo n l k).length <= (l.take k).length := List.length_filter_le _ _
 rw [List.length_take] at h1
 omega
def removeC (d : Disk) (n : List UInt8) : Int := if short n = false then 2 else if diskOK d = false then 1 else if readB d n = false then 5 else 0
def removeD (d : Disk) (n : List UInt8) : Disk := if short n = false then zeroDisk else if diskOK d = false then zeroDisk else if readB d n = false then d else tidy (d.1, drop n d.2.1, d.2.2.1, d.2.2.2.1, ())
theorem used_all {d : Disk} (h : diskOK d = true) : ∀ x ∈ d.1, used d x.1 = true := by
 intro x hx
 obtain ⟨j, hj, rfl⟩ := List.getElem_of_mem hx
 unfold diskOK at h
 simp only [Bool.and_eq_true] at h
 have := allI_iff.1 h.1.2 j _ (List.getElem?_eq_getElem hj)
 simp only [Bool.not_eq_true', Bool.or_eq_false_iff, Bool.not_eq_false'] at this
 exact this.2
theorem tidy_all {d : Disk} (h : ∀ x ∈ d.1, used d x.1 = true) : tidy d = d := by
 unfold tidy
 rw [List.filter_eq_self.2 h]
theorem tidy_ok {d : Disk} (h : diskOK d = true) : tidy d = d := tidy_all (used_all h)
theorem del_none {α : Type} {p : α -> Bool} {xs : List α} (h : idx p xs = -1) : xs = xs.filter (fun x => !(p x)) := by
 symm
 rw [List.filter_eq_self]
 intro x hx
 unfold idx at h
 cases hf : xs.findIdx? p with
 | none => rw [List.findIdx?_eq_none_iff] at hf; simp [hf x hx]
 | some k => rw [hf] at h; cases h
end Go.Fn
namespace Go.Fn
open Go.Ab
def setSync (a : List Inode) (i : Int) : List Inode := match nthI a i with | some x => a.set i.toNat (x.1, x.2.1, true, ()) | none => a
def syncC (d : Disk) (n : List UInt8) : Int := removeC d n
def syncD (d : Disk) (n : List UInt8) : Disk := if short n = false then zeroDisk else if diskOK d = false then zeroDisk else if readB d n = false then d else (setSync d.1 (inodeAt d.1 (slotId d.2.1 n)), d.2.1, d.2.2.1, d.2.2.2.1, ())
theorem setSync_len (a : List Inode) (i : Int) : (setSync a i).length = a.length := by
 unfold setSync; split
 · rw [List.length_set]
 · rfl
theorem setSync_at {a : List Inode} {i : Int} {x : Inode} (h : nthI a i = some x) : a.set i.toNat (x.1, x.2.1, true, ()) = setSync a i := by
 unfold setSync; rw [h]
theorem setSync_mem {a : List Inode} {i : Int} {x : Inode} (h : x ∈ setSync a i) : ∃ y ∈ a, y.1 = x.1 := by
 unfold setSync at h
 split at h
 · rename_i y hy
   rcases List.mem_or_eq_of_mem_set h with h | h
   · exact ⟨x, h, rfl⟩
   · subst h; exact ⟨y, List.mem_of_getElem? hy, rfl⟩
 · exact ⟨x, h, rfl⟩
theorem tidy_sync {a : List Inode} {b c : List Slot} {d i : Int} (h : diskOK (a, b, c, d, ()) = true) : tidy (setSync a i, b, c, d, ()) = (setSync a i, b, c, d, ()) := by
 refine tidy_all (d := (setSync a i, b, c, d, ())) fun x hx => ?_
 obtain ⟨y, hy, e⟩ := setSync_mem hx
 have := used_all h y hy
 rw [<- e]; exact this
theorem bnd_tN {i : Int} {n : Nat} (h : bnd i n) : tN i < n := by
 unfold bnd at h; unfold tN; omega
theorem slotId_at {l : List Slot} {n : List UInt8} {x : Slot} (h : nthI l (slotAt l n) = some x) : slotId l n = x.2.1 := by
 unfold slotId; rw [h]
end Go.Fn
namespace Go.Fn
open Go.Ab
theorem bl_trans : ∀ {x y z : List UInt8}, Op.bytesLess x y = true -> Op.bytesLess y z = true -> Op.bytesLess x z = true
 | _, [], _, h, _ => by simp [Op.bytesLess] at h
 | _, _ :: _, [], _, h => by simp [Op.bytesLess] at h
 | [], _ :: _, _ :: _, _, _ => by simp [Op.bytesLess]
 | a :: x, b :: y, c :: z, h1, h2 => by
   simp only [Op.bytesLess, Bool.or_eq_true, Bool.and_eq_true, decide_eq_true_eq, beq_iff_eq] at h1 h2 ⊢
   rcases h1 with h1 | ⟨rfl, h1⟩
   · rcases h2 with h2 | ⟨rfl, h2⟩
     · exact .inl (UInt8.lt_trans h1 h2)
     · exact .inl h1
   · rcases h2 with h2 | ⟨rfl, h2⟩
     · exact .inl h2
     · exact .inr ⟨rfl, bl_trans h1 h2⟩
theorem bl_total : ∀ {x y : List UInt8}, Op.bytesLess x y = false -> Op.bytesLess y x = false -> x = y
 | [], [], _, _ => rfl
 | [], _ :: _, h, _ => by simp [Op.bytesLess] at h
 | _ :: _, [], _, h => by simp [Op.bytesLess] at h
 | a :: x, b :: y, h1, h2 => by
   simp only [Op.bytesLess, Bool.or_eq_false_iff, Bool.and_eq_false_iff, decide_eq_false_iff_not, beq_eq_false_iff_ne, ne_eq] at h1 h2
   have e : a = b := by
     have h3 := UInt8.not_lt.1 h1.1
     have h4 := UInt8.not_lt.1 h2.1
     exact UInt8.le_antisymm h4 h3
   subst e
   have h1 : Op.bytesLess x y = false := by rcases h1.2 with h | h; exact absurd rfl h; exact h
   have h2 : Op.bytesLess y x = false := by rcases h2.2 with h | h; exact absurd rfl h; exact h
   rw [bl_total h1 h2]
theorem bl_asymm {x y : List UInt8} (h : Op.bytesLess x y = true) : Op.bytesLess y x = false := by
 cases e : Op.bytesLess y x with
 | false => rfl
 | true => have := bl_trans h e; rw [bl_irrefl] at this; cases this
theorem bl_ne {x y : List UInt8} (h : Op.bytesLess x y = true) : x ≠ y := by rintro rfl; rw [bl_irrefl] at h; cases h
theorem bl_flip {x y : List UInt8} (h1 : Op.bytesLess x y = false) (h2 : x ≠ y) : Op.bytesLess y x = true := by
 cases e : Op.bytesLess y x with
 | true => rfl
 | false => exact absurd (bl_total h1 e) h2
end Go.Fn
namespace Go.Fn
open Go.Ab
def ltN (a b : Slot) : Bool := Op.bytesLess a.1 b.1
def SortedN (l : List Slot) : Prop := l.Pairwise (fun a b => ltN a b = true)
def put (s : Slot) : List Slot -> List Slot
 | [] => [s]
 | y :: r => if Op.bytesLess y.1 s.1 = true then y :: put s r else if y.1 = s.1 then s :: r else s :: y :: r
theorem sorted_drop {n : List UInt8} {l : List Slot} (h : SortedN l) : SortedN (drop n l) := List.Pairwise.filter _ h
theorem slots_sorted {ino : List Inode} {l : List Slot} (h : slotsOK ino l = true) : SortedN l := by
 unfold slotsOK at h
 rw [allI_iff] at h
 have hstep : ∀ (k : Nat) (x y : Slot), l[k]? = some x -> l[k + 1]? = some y -> ltN x y = true := fun k x y hx hy => by
   have := h (k + 1) y hy
   simp only [Nat.zero_add, badSlot, Bool.not_eq_true', Bool.or_eq_false_iff, Bool.and_eq_false_iff, decide_eq_false_iff_not] at this
   have h2 := this.1.2
   rcases h2 with h2 | h2
   · exact absurd (by simp only [Int.ofNat_eq_natCast]; omega) h2
   · unfold prevSlot at h2
     have e : nthI l (Int.ofNat (k + 1) - 1) = some x := by
       have : (Int.ofNat (k + 1) - 1).toNat = k := by simp only [Int.ofNat_eq_natCast]; omega
       unfold nthI; rw [this]; exact hx
     rw [e] at h2
     simp only [leS, Bool.or_eq_false_iff, beq_eq_false_iff_ne] at h2
     exact bl_flip h2.1 h2.2
 have hall : ∀ (n k : Nat) (x y : Slot), l[k]? = some x -> l[k + 1 + n]? = some y -> ltN x y = true := by
   intro n
   induction n with
   | zero => intro k x y hx hy; exact hstep k x y hx hy
   | succ n ih =>
     intro k x y hx hy
     have hlt : k + 1 + n < l.length := by
       have := (List.getElem?_eq_some_iff.1 hy).1; omega
     have hz := List.getElem?_eq_getElem hlt
     exact bl_trans (ih k x _ hx hz) (hstep (k + 1 + n) _ y hz hy)
 unfold SortedN
 rw [List.pairwise_iff_getElem]
 intro i j hi hj hij
 exact hall (j - i - 1) i _ _ (List.getElem?_eq_getElem hi) (by rw [show i + 1 + (j - i - 1) = j by omega]; exact List.getElem?_eq_getElem hj)
end Go.Fn
namespace Go.Fn
open Go.Ab
theorem sub_take {α : Type} (l : List α) (k : Nat) : subL l 0 (tN (Int.ofNat k)) = l.take k := by unfold subL tN; simp
theorem sub_drop {α : Type} (l : List α) (k : Nat) : subL l (tN (Int.ofNat k)) l.length = l.drop k := by unfold subL tN; simp
theorem bound_lo {k n : Nat} (h : k <= n) : boundLo (Int.ofNat k) n := ⟨Int.natCast_nonneg _, Int.ofNat_le.2 h⟩
end Go.Fn
namespace Go.Fn
open Go.Ab
theorem disk_next {d : Disk} (h : diskOK d = true) : 1 <= d.2.2.2.1 /\ d.2.2.2.1 <= 1000000 := by
 unfold diskOK at h
 simp only [Bool.and_eq_true] at h
 have h1 := h.1.1
 unfold badHead within at h1
 simp only [Bool.not_eq_true', Bool.or_eq_false_iff, Bool.not_eq_false', Bool.and_eq_true, decide_eq_true_eq] at h1
 omega
end Go.Fn
namespace Go.Fn
open Go.Ab
def compactL : List (List UInt8) -> List (List UInt8)
 | [] => []
 | x :: r => match compactL r with
   | [] => [x]
   | y :: q => if x = y then y :: q else x :: y :: q
def ltT (a b : List UInt8) : Bool := Op.bytesLess a b
def SortedT (l : List (List UInt8)) : Prop := l.Pairwise (fun a b => ltT a b = true)
def WeakT (l : List (List UInt8)) : Prop := l.Pairwise (fun a b => ltT b a = false)
theorem compact_mem {x : List UInt8} : ∀ {l : List (List UInt8)}, x ∈ compactL l ↔ x ∈ l
 | [] => by simp [compactL]
 | y :: r => by
   have ih := compact_mem (x := x) (l := r)
   unfold compactL
   split
   · rename_i h
     rw [h] at ih
     have hr : ¬ x ∈ r := fun hx => by simpa using ih.2 hx
     simp [hr]
   · rename_i z q h
     rw [h] at ih
     split
     · rename_i he
       subst he
       rw [ih]
       constructor
       · intro hx; exact List.mem_cons_of_mem _ hx
       · intro hx
         rcases List.mem_cons.1 hx with rfl | hx
         · exact ih.1 List.mem_cons_self
         · exact hx
     · rw [List.mem_cons, ih, List.mem_cons]
theorem compact_sorted : ∀ {l : List (List UInt8)}, WeakT l -> SortedT (compactL l)
 | [], _ => by simp [compactL, SortedT]
 | y :: r, h => by
   unfold WeakT at h
   rw [List.pairwise_cons] at h
   have ih := compact_sorted h.2
   unfold compactL
   split
   · simp [SortedT]
   · rename_i z q hc
     rw [hc] at ih
     split
     · exact ih
     · rename_i hne
       refine List.pairwise_cons.2 ⟨fun x hx => ?_, ih⟩
       have hz : z ∈ r := compact_mem.1 (by rw [hc]; exact List.mem_cons_self)
       have hyz : ltT y z = true := bl_flip (h.1 z hz) (fun e => hne e.symm)
       rcases List.mem_cons.1 hx with rfl | hx
       · exact hyz
       · exact bl_trans hyz ((List.pairwise_cons.1 ih).1 x hx)
theorem compact_len : ∀ l : List (List UInt8), (compactL l).length <= l.length
 | [] => Nat.le_refl _
 | y :: r => by
   have ih := compact_len r
   unfold compactL
   split
   · simp
   · rename_i z q hc
     rw [hc] at ih
     split
     · simp only [List.length_cons] at ih ⊢; omega
     · simp only [List.length_cons] at ih ⊢; omega
theorem sortedT_nodup {l : List (List UInt8)} (h : SortedT l) : l.Nodup := List.Pairwise.imp (fun h => bl_ne h) h
theorem compact_cons (y : List UInt8) (r : List (List UInt8)) : compactL (y :: r) = (match compactL r with | [] => [y] | z :: q => if y = z then z :: q else y :: z :: q) := rfl
theorem compact_same : ∀ {l : List (List UInt8)}, (compactL l).length = l.length -> compactL l = l
 | [], _ => rfl
 | y :: r, h => by
   have hl := compact_len r
   rw [compact_cons] at h ⊢
   cases hc : compactL r with
   | nil =>
     rw [hc] at h
     simp only [List.length_cons, List.length_nil] at h
     rw [List.eq_nil_of_length_eq_zero (l := r) (by omega)]
   | cons z q =>
     rw [hc] at h hl
     simp only at h ⊢
     by_cases hne : y = z
     · rw [if_pos hne] at h
       simp only [List.length_cons] at h hl; omega
     · rw [if_neg hne] at h ⊢
       have hr := compact_same (l := r) (by rw [hc]; simp only [List.length_cons] at h ⊢; omega)
       rw [hc] at hr
       rw [hr]
theorem compact_nodup {l : List (List UInt8)} (h : WeakT l) : (compactL l).length = l.length ↔ l.Nodup := by
 constructor
 · intro he
   have hs := compact_sorted h
   rw [compact_same he] at hs
   exact sortedT_nodup hs
 · intro hn
   have := (List.perm_ext_iff_of_nodup (sortedT_nodup (compact_sorted h)) hn).2 (fun x => compact_mem)
   exact this.length_eq
theorem compact_ne {w : List UInt8} {r : List (List UInt8)} : ∃ q, compactL (w :: r) = w :: q := by
 rw [compact_cons]
 cases hc : compactL r with
 | nil => exact ⟨[], rfl⟩
 | cons z q =>
   simp only
   by_cases h : w = z
   · rw [if_pos h, h]; exact ⟨q, rfl⟩
   · rw [if_neg h]; exact ⟨z :: q, rfl⟩
theorem compact_snoc {x y : List UInt8} : ∀ {l : List (List UInt8)}, l.getLast? = some y -> compactL (l ++ [x]) = if y = x then compactL l else compactL l ++ [x]
 | [], h => by simp at h
 | [z], h => by
   simp only [List.getLast?_singleton, Option.some.injEq] at h
   subst h
   show compactL [z, x] = _
   rw [compact_cons]
   show (if z = x then [x] else [z, x]) = if z = x then [z] else [z] ++ [x]
   by_cases h : z = x
   · rw [if_pos h, if_pos h, h]
   · rw [if_neg h, if_neg h]; rfl
 | z :: w :: r, h => by
   have h' : (w :: r).getLast? = some y := by rw [List.getLast?_cons_cons] at h; exact h
   have ih := compact_snoc (x := x) h'
   obtain ⟨q, hq⟩ := compact_ne (w := w) (r := r)
   show compactL (z :: (w :: r ++ [x])) = _
   rw [compact_cons z (w :: r ++ [x]), ih, compact_cons z (w :: r), hq]
   by_cases hy : y = x
   · rw [if_pos hy, if_pos hy]
   · rw [if_neg hy, if_neg hy]
     show (if z = w then w :: (q ++ [x]) else z :: w :: (q ++ [x])) = (if z = w then w :: q else z :: w :: q) ++ [x]
     by_cases hz : z = w
     · rw [if_pos hz, if_pos hz]; rfl
     · rw [if_neg hz, if_neg hz]; rfl
theorem take_last {l : List (List UInt8)} {k : Nat} {y : List UInt8} (hk : 0 < k) (hy : l[k - 1]? = some y) : (l.take k).getLast? = some y := by
 have hl := (List.getElem?_eq_some_iff.1 hy).1
 rw [List.getLast?_eq_getElem?, List.length_take, Nat.min_eq_left (by omega), List.getElem?_take_of_lt (by omega), hy]
theorem compact_take {l : List (List UInt8)} {k : Nat} {x y : List UInt8} (hk : 0 < k) (hy : l[k - 1]? = some y) (hx : l[k]? = some x) : compactL (l.take (k + 1)) = if y = x then compactL (l.take k) else compactL (l.take k) ++ [x] := by
 have e : l.take (k + 1) = l.take k ++ [x] := by rw [List.take_add_one, hx]; rfl
 rw [e]
 exact compact_snoc (take_last hk hy)
end Go.Fn
namespace Go.Ab
open Go.Sort
theorem flat_at {t : Ty} [Inhabited t.den] {ys : List t.den} (ht : flatB t = true) {k j : Nat} {x : t.den} (hx : ys[k]? = some x) (hj : j < t.size) : (flatK (cellsV t) t.size ys.toArray)[k * t.size + j]? = (cellsV t x)[j]? := by
 obtain ⟨hk, hx⟩ := List.getElem?_eq_some_iff.1 hx
 have hpos : 0 < t.size := by omega
 have hlt : k * t.size + j < ys.toArray.size * t.size := by
   have h1 : (k + 1) * t.size <= ys.length * t.size := Nat.mul_le_mul_right _ hk
   rw [Nat.add_mul, Nat.one_mul] at h1
   have h2 : ys.toArray.size = ys.length := by simp
   rw [h2]; omega
 have hg := get_flatK (cellsV t) t.size ys.toArray _ hlt
 have e1 : (k * t.size + j) / t.size = k := by rw [Nat.add_comm, Nat.add_mul_div_right _ _ hpos, Nat.div_eq_of_lt hj, Nat.zero_add]
 have e2 : (k * t.size + j) % t.size = j := by rw [Nat.add_comm, Nat.add_mul_mod_self_right, Nat.mod_eq_of_lt hj]
 rw [e1, e2] at hg
 have e3 : ys.toArray[k]! = x := by
   rw [getElem!_pos ys.toArray k (by simpa using hk)]
   simpa using hx
 rw [e3] at hg
 have hs : k * t.size + j < (flatK (cellsV t) t.size ys.toArray).size := by rw [size_flatK]; exact hlt
 have hl : j < (cellsV t x).length := by rw [cellsV_len ht]; exact hj
 rw [getElem!_pos (flatK (cellsV t) t.size ys.toArray) _ hs, getElem!_pos (cellsV t x) _ hl] at hg
 rw [Array.getElem?_eq_getElem hs, List.getElem?_eq_getElem hl, hg]
theorem flat_holds {t : Ty} [Inhabited t.den] {xs : List t.den} (ht : flatB t = true) {w : World} {b : Nat} {cs : List Value} {e : TypeId} (hb : w.heap[b]? = some (.cells cs.toArray e (0, 0)))
   (hr : ∀ (k : Nat) x, xs[k]? = some x -> (cs.drop (k * t.size)).take t.size = cellsV t x) : Sort.Holds id w b 0 (flatK (cellsV t) t.size xs.toArray) := by
 intro q hq
 rw [size_flatK] at hq
 have hpos : 0 < t.size := by
   rcases Nat.eq_zero_or_pos t.size with h | h
   · rw [h] at hq; omega
   · exact h
 have hk : q / t.size < xs.length := by
   have : q / t.size < xs.toArray.size := Nat.div_lt_of_lt_mul (by rw [Nat.mul_comm]; exact hq)
   simpa using this
 have hx := List.getElem?_eq_getElem hk
 have hm : q % t.size < t.size := Nat.mod_lt _ hpos
 have hf := flat_at ht hx hm
 have eq : q / t.size * t.size + q % t.size = q := by rw [Nat.mul_comm]; exact Nat.div_add_mod q t.size
 rw [eq] at hf
 have hc := hr _ _ hx
 have hcq : cs[q]? = (cellsV t xs[q / t.size])[q % t.size]? := by
   rw [<- hc, List.getElem?_take_of_lt hm, List.getElem?_drop, eq]
 have hs : q < (flatK (cellsV t) t.size xs.toArray).size := by rw [size_flatK]; exact hq
 have e1 : cs[q]? = some ((flatK (cellsV t) t.size xs.toArray)[q]!) := by
   rw [hcq, <- hf, getElem!_pos (flatK (cellsV t) t.size xs.toArray) _ hs, Array.getElem?_eq_getElem hs]
 refine ⟨?_, ?_⟩
 · simp only [World.cell?, Nat.zero_add, hb, Option.isSome_none, Bool.false_eq_true, if_false, List.getElem?_toArray, id]
   exact e1
 · simp [World.frozen?, hb]
theorem flat_rows {t : Ty} [Inhabited t.den] {ys : List t.den} (ht : flatB t = true) (r : List Value) {k : Nat} {x : t.den} (hx : ys[k]? = some x) : (((flatK (cellsV t) t.size ys.toArray).toList ++ r).drop (k * t.size)).take t.size = cellsV t x := by
 refine chunk_at (cellsV_len ht) fun j hj => ?_
 have hf := flat_at ht hx hj
 have hlt : k * t.size + j < (flatK (cellsV t) t.size ys.toArray).toList.length := by
   have hl : j < (cellsV t x).length := by rw [cellsV_len ht]; exact hj
   rw [List.getElem?_eq_getElem hl] at hf
   have := (Array.getElem?_eq_some_iff.1 hf).1
   simpa using this
 rw [List.getElem?_append_left hlt, Array.getElem?_toList, hf]
theorem sorted_row {t : Ty} [Inhabited t.den] {ys xs : List t.den} (ht : flatB t = true) {w : World} {b : Nat} {cs : List Value} {e : TypeId} (hb : w.heap[b]? = some (.cells cs.toArray e (0, 0))) (hlen : ys.length = xs.length) {cap : Nat} (hcs : cs.length = cap * t.size) (hcap : xs.length <= cap) (n : Nat) (os : Array _root_.Go.Obj) :
   ∃ cs' : List Value, cs'.length = cs.length /\ (∀ (k : Nat) x, ys[k]? = some x -> (cs'.drop (k * t.size)).take t.size = cellsV t x) /\ grow (putRow id (Sort.ahead w n) b 0 (flatK (cellsV t) t.size ys.toArray)) os = grow (Sort.ahead (w.setRow b cs'.toArray) n) os := by
 have hF : (flatK (cellsV t) t.size ys.toArray).size <= cs.length := by
   rw [size_flatK, hcs]
   have : ys.toArray.size = xs.length := by simpa using hlen
   rw [this]
   exact Nat.mul_le_mul_right _ hcap
 refine ⟨(flatK (cellsV t) t.size ys.toArray).toList ++ cs.drop (flatK (cellsV t) t.size ys.toArray).size, ?_, fun k x hx => flat_rows ht _ hx, ?_⟩
 · rw [List.length_append, List.length_drop, Array.length_toList]; omega
 · rw [putRow_ahead, row_set hb hF]
end Go.Ab
namespace Go.Ab
open Go.Sort
def cutT (t : Ty) (fn : List t.den -> List t.den) : Inl := fun s args K =>
 match args with
 | [.os i] => (match s.heap i with
   | some (.arr u xs false) => match castTy (.slice u) (.slice t) xs with
     | some xs => K ((s.kill i).setObj i (some (.arr t (fn xs) false))) [.os i]
     | none => False
   | _ => False)
 | _ => False
theorem cutOK {P : Program} {E : Env} {f : Nat} {t : Ty} {fn : List t.den -> List t.den} (ht : flatB t = true) (hE : Enters P f) (hlen : ∀ xs, (fn xs).length <= xs.length) (hmem : ∀ xs x, x ∈ fn xs -> x ∈ xs)
   (h0 : ∀ ad w, Calls P f [.slice ad 0 0].toArray w fun e w' => e = .returned (.slice ad 0 0) /\ w' = w)
   (hc : ∀ (w : World) (b cap : Nat) (cs : List Value) (e : TypeId) (xs : List t.den), w.heap[b]? = some (.cells cs.toArray e (0, 0)) -> cs.length = cap * t.size -> xs.length <= cap -> xs.length < lim ->
     (∀ (k : Nat) x, xs[k]? = some x -> (cs.drop (k * t.size)).take t.size = cellsV t x) ->
     Calls P f [.slice (some ⟨b, 0, none⟩) xs.length cap].toArray w fun e' w' => e' = .returned (.slice (some ⟨b, 0, none⟩) (fn xs).length cap) /\ ∃ (cs' : List Value) (n : Nat) (os : Array _root_.Go.Obj),
       cs'.length = cs.length /\ (∀ (k : Nat) x, (fn xs)[k]? = some x -> (cs'.drop (k * t.size)).take t.size = cellsV t x) /\ w' = Sort.grow (Sort.ahead (w.setRow b cs'.toArray) n) os) :
   InlOK P E f (cutT t fn) := by
 refine .inl ⟨hE, fun {G s a w m args vals K} hP hEq h hv hk => ?_⟩
 unfold cutT at hk
 split at hk
 · rename_i i
   split at hk
   · rename_i u xs0 hi
     split at hk
     · rename_i xs hcast
       unfold castTy at hcast
       split at hcast
       · rename_i e
         injection e with e
         subst e
         cases hcast
         obtain ⟨v, q, rfl, hv1, hv2⟩ := hv
         obtain rfl : q = [] := hv2
         obtain ⟨hin, hvm, _⟩ := hv1
         obtain ⟨ad, n, cap, hm, hn, hcap, hl, hr⟩ := (h.heap i _ hi).2
         have hvm : v = m i := hvm
         have hm : m i = .slice ad n cap := hm
         have hn : n = List.length xs0 := hn
         subst hn
         have fin : ∀ (w' : World) (v' : Value), (∃ av cv, v' = .slice av (fn xs0).length cv) -> Keep (fun b => rows (m i) b) w w' -> (∀ b, rows v' b -> rows (m i) b) ->
             (LeX i (G.rc s.objs m w) (G.rc (renewed s.objs i (some (.arr u (fn xs0) false))) (upd1 m i v') w') -> ORel (G.rc (renewed s.objs i (some (.arr u (fn xs0) false))) (upd1 m i v') w') v' (.arr u (fn xs0) false)) ->
             ∃ s' m' rs rvals, Ending.returned v' = .returned (retVal rvals) /\ K s' rs /\ Holds G s' a w' m' /\ VRelL (G.rc s'.objs m' w') rs rvals := fun w' v' hv' hkeep hb hrel => by
           obtain ⟨h1, h2⟩ := h.o.renew (heap_get hi) v' (some (.arr u (fn xs0) false)) hkeep (fun p b _ hh => .inl (hb b hh)) (fun p hh _ hf => by cases hh; cases hf) (fun hle p hp => by cases hp; exact hrel hle)
           refine ⟨_, upd1 m i v', [.os i], [v'], rfl, hk, { o := h1, tmps := h.tmps.killed h2, defers := h.defers, kp := h.kp.killed h2 }, v', [], rfl, ⟨?_, ?_, ?_⟩, rfl⟩
           · have := get_lt (heap_get hi)
             simpa [Ctx.rc, St.setObj, St.kill] using this
           · simp [Ctx.rc]
           · obtain ⟨av, cv, e⟩ := hv'
             exact ⟨av, _, cv, e⟩
         rcases Nat.eq_zero_or_pos cap with h0c | hpos
         · subst h0c
           have hx : List.length xs0 = 0 := Nat.le_zero.1 hcap
           have hf0 : (fn xs0).length = 0 := Nat.le_zero.1 (hx ▸ hlen xs0)
           rw [hvm, hm, hx]
           refine Calls.mono (h0 ad w) fun e w' he => ?_
           obtain ⟨rfl, rfl⟩ := he
           refine fin _ (.slice ad 0 0) ⟨ad, 0, by rw [hf0]⟩ (Keep.refl _ _) (fun b hb => by cases ad <;> simp [rows_s, blk] at hb) fun hle => ?_
           exact ⟨ad, 0, 0, rfl, hf0.symm, Nat.le_refl _, by unfold lim; decide, .inl rfl⟩
         · rcases hr with hr | ⟨b, cs, e', rfl, hb, hvl, hcm, hrep⟩
           · omega
           rw [hvm, hm]
           have hrep' : ∀ (k : Nat) x, xs0[k]? = some x -> (cs.drop (k * u.size)).take u.size = cellsV u x /\ smallV u x := fun k x hx => rep_flat ht (hrep k x hx)
           refine Calls.mono (hc w b cap cs e' xs0 hb hvl hcap hl (fun k x hx => (hrep' k x hx).1)) fun e w' he => ?_
           obtain ⟨rfl, cs', nn, os, hlen', hrows, rfl⟩ := he
           refine fin _ _ ⟨_, cap, rfl⟩ (keep_sorted.weaken fun k _ e => by subst e; rw [hm]; simp [rows_s, blk]; omega) (fun k hk => by rw [hm]; exact hk) fun hle => ?_
           have hll := hlen xs0
           refine ⟨_, _, cap, rfl, rfl, by omega, by omega, .inr ⟨b, cs', e', rfl, ?_, by rw [hlen']; exact hvl, hcm, fun k x hx => ?_⟩⟩
           · show (Array.append (w.setRow b cs'.toArray).heap os)[b]? = _
             have hs := setRow_heap w b cs.toArray cs'.toArray e' (0, 0) hb
             have hlt : b < (w.setRow b cs'.toArray).heap.size := (Array.getElem?_eq_some_iff.1 hs).1
             exact (Array.getElem?_append_left hlt).trans hs
           · rw [hrows k x hx]
             refine flat_rep ht ?_
             obtain ⟨j, hj⟩ := List.mem_iff_getElem?.1 (hmem _ _ (List.mem_of_getElem? hx))
             exact (hrep' j x hj).2
       · cases hcast
     · cases hk
   · cases hk
 · cases hk
end Go.Ab
namespace Go.Proofs.YtkdnelaoagmeaaaGreatDoor
open Go.Ab Go.Fn
theorem putRow_map {α : Type} [Inhabited α] (enc : α -> Value) (w : World) (b off : Nat) (d : Array α) : Go.Sort.putRow enc w b off d = Go.Sort.putRow id w b off (d.map enc) := by
 unfold Go.Sort.putRow
 refine Go.Sort.mapBlock_congr _ _ _ _ fun c e fr _ => ?_
 apply Array.ext_getElem?
 intro k
 simp only [Go.Sort.putCells, Array.getElem?_mapIdx, Array.size_map, id]
 cases c[k]? with
 | none => rfl
 | some y =>
   simp only [Option.map_some]
   by_cases h : off <= k /\ k < off + d.size
   · rw [if_pos h, if_pos h]
     have hk : k - off < d.size := by omega
     rw [getElem!_pos d _ hk, getElem!_pos (d.map enc) _ (by simpa using hk), Array.getElem_map]
   · rw [if_neg h, if_neg h]
theorem flat_str (d : Array (List UInt8)) : Go.Sort.flatK (cellsV .str) 1 d = d.map (fun s => Value.string ⟨s.toArray⟩) := by
 apply Array.ext
 · simp
 · intro i h1 h2
   have hi : i < d.size := by simpa using h2
   rw [<- getElem!_pos (Go.Sort.flatK (cellsV .str) 1 d) i h1, Go.Sort.get_flatK _ _ _ _ (by simpa using hi), Nat.div_one, Nat.mod_one, Array.getElem_map, getElem!_pos d i hi]
   rfl
theorem le_bl (x y : List UInt8) : decide (x <= y) = !(Op.bytesLess y x) := by
 rw [bytesLess_eq]
 by_cases h : y < x
 · rw [decide_eq_true h, decide_eq_false (fun hn => hn h)]; rfl
 · rw [decide_eq_false h, decide_eq_true (p := x <= y) h]; rfl
theorem merge_weak (xs : List (List UInt8)) : (xs.mergeSort fun x y => decide (x <= y)).Pairwise (fun a b => Fn.ltT b a = false) := by
 have h := List.pairwise_mergeSort (le := fun x y : List UInt8 => decide (x <= y)) (fun a b c h1 h2 => by
   simp only [le_bl, Bool.not_eq_true'] at h1 h2 ⊢
   cases h : Op.bytesLess c a with
   | false => rfl
   | true =>
     by_cases e : b = a
     · subst e; rw [h] at h2; cases h2
     · have h3 : Op.bytesLess a b = true := bl_flip h1 e
       rw [bl_trans h h3] at h2; cases h2) (fun a b => by
   simp only [le_bl]
   cases h : Op.bytesLess b a with
   | false => rfl
   | true => rw [bl_asymm h]; rfl) xs
 refine List.Pairwise.imp (fun {a b} h => ?_) h
 simp only [le_bl, Bool.not_eq_true'] at h
 exact h
theorem hold_str {w : World} {b : Nat} {cs : List Value} {e : TypeId} {xs : List (List UInt8)} (hb : w.heap[b]? = some (.cells cs.toArray e (0, 0))) (hr : ∀ (k : Nat) x, xs[k]? = some x -> (cs.drop (k * 1)).take 1 = cellsV .str x) : Go.Sort.Holds Go.Proofs.encStr w b 0 xs.toArray := fun j hj => by
 have hH0 : Go.Sort.Holds id w b 0 (Go.Sort.flatK (cellsV .str) 1 xs.toArray) := flat_holds (t := .str) rfl hb hr
 rw [flat_str] at hH0
 have := hH0 j (by simpa using hj)
 rw [getElem!_pos (xs.toArray.map _) j (by simpa using hj), Array.getElem_map] at this
 rw [getElem!_pos xs.toArray j hj]
 exact this
def i_SortStr : Inl := sortT .str Fn.ltT []
theorem in_SortStr : InO 263 i_SortStr := fun s c i => sortOK (exs := []) rfl ⟨_, Tryz.func263, rfl, rfl⟩
 (fun c vs h => h)
 (fun ad w => AnyM.slices_Sort_string_none Tryz.sortStr ad 0 w)
 (fun w b cap cs e xs hb hcs hcap hl hr hsm => by
   have hH := hold_str hb hr
   have hblk : b < w.heap.size := (Array.getElem?_eq_some_iff.1 hb).1
   have hsz : xs.length < 4611686018427387904 := by unfold lim at hl; omega
   have hcon := AnyM.slices_Sort_string Tryz.sortStr b 0 cap xs w hH hblk hsz
   refine Calls.mono hcon fun e' w' he => ?_
   obtain ⟨he, n, os, hw⟩ := he
   have hperm := List.mergeSort_perm xs (fun x y => decide (x <= y))
   obtain ⟨cs', hl', hr', hw'⟩ := sorted_row (t := .str) (ys := xs.mergeSort fun x y => decide (x <= y)) (xs := xs) rfl hb hperm.length_eq hcs hcap n os
   refine ⟨he, _, cs', n, os, hperm, merge_weak xs, hl', hr', ?_⟩
   rw [hw, putRow_map, <- hw']
   show _ = Go.Sort.grow (Go.Sort.putRow id (Go.Sort.ahead w n) b 0 (Go.Sort.flatK (cellsV .str) 1 _)) os
   rw [flat_str])
end Go.Proofs.YtkdnelaoagmeaaaGreatDoor
namespace Go.Proofs.YtkdnelaoagmeaaaGreatDoor
open Go.Ab Go.Fn
theorem comp_upto (l : List (List UInt8)) : ∀ k, k <= l.length -> Go.Lib.compactUpTo l.toArray k = Fn.compactL (l.take k)
 | 0, _ => rfl
 | k + 1, hk => by
   rw [Go.Lib.compactUpTo_succ, comp_upto l k (by omega)]
   have hx := List.getElem?_eq_getElem (show k < l.length by omega)
   have hxe : l.toArray[k]! = l[k] := by rw [getElem!_pos l.toArray k (by simp; omega)]; simp
   rcases Nat.eq_zero_or_pos k with h0 | h0
   · subst h0
     rw [Go.Lib.keeps_lt_one _ 0 Nat.one_pos, if_pos rfl, hxe, List.take_add_one, hx]; rfl
   · have hy := List.getElem?_eq_getElem (show k - 1 < l.length by omega)
     have hye : l.toArray[k - 1]! = l[k - 1] := by rw [getElem!_pos l.toArray (k - 1) (by simp; omega)]; simp
     rw [compact_take h0 hy hx]
     by_cases he : l[k - 1] = l[k]
     · rw [Go.Lib.keeps_neg h0 (by rw [hxe, hye, he]), if_pos he]; simp
     · rw [Go.Lib.keeps_pos (by rw [hxe, hye]; exact fun e => he e.symm), if_neg he, if_pos rfl, hxe]
theorem lib_compact (l : List (List UInt8)) : Go.Lib.compact l = Fn.compactL l := by
 unfold Go.Lib.compact
 rw [comp_upto l l.length (Nat.le_refl _), List.take_length]
def i_CompStr : Inl := cutT .str Fn.compactL
theorem in_CompStr : InO 217 i_CompStr := fun s c i => cutOK rfl ⟨_, Tryz.func217, rfl, rfl⟩
 (fun xs => compact_len xs) (fun xs x hx => compact_mem.1 hx)
 (fun ad w => AnyG.slices_Compact_string_empty Tryz.compStr ad 0 w)
 (fun w b cap cs e xs hb hcs hcap hl hr => by
   have hH := hold_str hb hr
   have hcon := AnyG.slices_Compact_string Tryz.compStr b 0 cap xs w hH (by unfold lim at hl; omega) hcap
   rw [lib_compact] at hcon
   refine Calls.mono hcon fun e' w' he => ?_
   obtain ⟨he, n, hw⟩ := he
   have hcl := compact_len xs
   have hlen : (Fn.compactL xs ++ List.replicate (xs.length - (Fn.compactL xs).length) []).length = xs.length := by rw [List.length_append, List.length_replicate]; omega
   obtain ⟨cs', hl', hr', hw'⟩ := sorted_row (t := .str) (ys := Fn.compactL xs ++ List.replicate (xs.length - (Fn.compactL xs).length) []) (xs := xs) rfl hb hlen hcs hcap n #[]
   refine ⟨he, cs', n, #[], hl', fun k x hx => hr' k x (by rw [List.getElem?_append_left (List.getElem?_eq_some_iff.1 hx).1]; exact hx), ?_⟩
   rw [hw, putRow_map, <- hw', Go.Sort.grow_empty]
   show _ = Go.Sort.putRow id (Go.Sort.ahead w n) b 0 (Go.Sort.flatK (cellsV .str) 1 _)
   rw [flat_str])
end Go.Proofs.YtkdnelaoagmeaaaGreatDoor
namespace Go.Fn
open Go.Ab
def badName (n : List UInt8) : Bool := !(nameOK n) || (decide (n = [77, 65, 78, 73, 70, 69, 83, 84]) || (decide (n = [116, 109, 112]) || decide (n = [109, 116, 109, 112])))
def nameS (l : List (List UInt8)) (i : Nat) : List UInt8 := l.getD i []
def nameBad (l : List (List UInt8)) (i : Nat) : Bool := badName (nameS l i) || (l.take i).any (fun y => decide (y = nameS l i))
def nameBadI (l : List (List UInt8)) (i : Int) : Bool := nameBad l i.toNat
def namesOK (l : List (List UInt8)) : Bool := decide (l.length <= 5) && (List.range l.length).all fun i => !(nameBad l i)
def OKM (l : List (List UInt8)) (k : Nat) : Prop := k <= l.length /\ ∀ j, j < k -> nameBad l j = false
theorem nameS_at {l : List (List UInt8)} {i : Nat} {x : List UInt8} (h : l[i]? = some x) : nameS l i = x := by unfold nameS; rw [List.getD_eq_getElem?_getD, h]; rfl
theorem okm0 (l : List (List UInt8)) : OKM l 0 := ⟨Nat.zero_le _, fun j hj => absurd hj (Nat.not_lt_zero _)⟩
theorem okm_step {l : List (List UInt8)} {i : Nat} (h : OKM l i) (hi : i < l.length) (hf : nameBad l i = false) : OKM l (i + 1) := by
 refine ⟨hi, fun j hj => ?_⟩
 rcases Nat.lt_or_ge j i with h1 | h1
 · exact h.2 j h1
 · obtain rfl : j = i := by omega
   exact hf
theorem okm_bad {l : List (List UInt8)} {i : Nat} (hi : i < l.length) (hf : nameBad l i = true) : false = namesOK l := by
 symm
 unfold namesOK
 rw [show ((List.range l.length).all fun i => !(nameBad l i)) = false from List.all_eq_false.2 ⟨i, List.mem_range.2 hi, by simp [hf]⟩, Bool.and_false]
theorem okm_end {l : List (List UInt8)} {i : Nat} (h : OKM l i) (hi : ¬ i < l.length) (h16 : ¬ iOf l.length > 5) : true = namesOK l := by
 symm
 unfold namesOK
 rw [decide_eq_true (p := l.length <= 5) (by unfold iOf at h16; omega), Bool.true_and, List.all_eq_true]
 intro j hj
 simp [h.2 j (by have := List.mem_range.1 hj; omega)]
theorem okm_16 {l : List (List UInt8)} (h : iOf l.length > 5) : false = namesOK l := by
 unfold namesOK
 rw [decide_eq_false (p := l.length <= 5) (by unfold iOf at h; omega)]; rfl
theorem nodup_take {l : List (List UInt8)} : l.Nodup ↔ ∀ i, i < l.length -> (l.take i).any (fun y => decide (y = nameS l i)) = false := by
 rw [List.nodup_iff_pairwise_ne, List.pairwise_iff_getElem]
 constructor
 · intro h i hi
   rw [List.any_eq_false]
   intro y hy
   obtain ⟨j, hj⟩ := List.mem_iff_getElem?.1 hy
   have hji : j < i := by
     have := (List.getElem?_eq_some_iff.1 hj).1
     simp at this; omega
   rw [List.getElem?_take_of_lt hji] at hj
   have e1 := (List.getElem?_eq_some_iff.1 hj)
   obtain ⟨h1, e1⟩ := e1
   have e2 := nameS_at (List.getElem?_eq_getElem hi)
   have := h j i h1 hi hji
   rw [e2, <- e1]
   simpa using this
 · intro h i j hi hj hij e
   have := h j hj
   rw [List.any_eq_false] at this
   refine this l[i] ?_ ?_
   · rw [List.mem_iff_getElem?]
     exact ⟨i, by rw [List.getElem?_take_of_lt hij]; exact List.getElem?_eq_getElem hi⟩
   · rw [nameS_at (List.getElem?_eq_getElem hj)]
     exact decide_eq_true e
theorem all_names {l : List (List UInt8)} : (l.all fun n => !(badName n)) = true ↔ ∀ i, i < l.length -> badName (nameS l i) = false := by
 rw [List.all_eq_true]
 constructor
 · intro h i hi
   rw [nameS_at (List.getElem?_eq_getElem hi)]
   have := h _ (List.getElem_mem hi)
   simpa using this
 · intro h x hx
   obtain ⟨j, hj⟩ := List.mem_iff_getElem?.1 hx
   have := h j (List.getElem?_eq_some_iff.1 hj).1
   rw [nameS_at hj] at this
   simp [this]
theorem namesOK_iff {l : List (List UInt8)} : namesOK l = (decide (l.length <= 5) && (decide (l.Nodup) && (l.all fun n => !(badName n)))) := by
 rw [Bool.eq_iff_iff]
 unfold namesOK
 simp only [Bool.and_eq_true, decide_eq_true_eq, all_names, nodup_take]
 refine and_congr_right fun _ => ?_
 rw [List.all_eq_true]
 simp only [nameBad, Bool.not_eq_true', Bool.or_eq_false_iff, List.mem_range]
 constructor
 · intro h; exact ⟨fun i hi => (h i hi).2, fun i hi => (h i hi).1⟩
 · intro h i hi; exact ⟨h.2 i hi, h.1 i hi⟩
theorem names_ok {l : List (List UInt8)} (h : namesOK l = true) : l.length <= 5 /\ ∀ x ∈ l, x.length <= 12 := by
 rw [namesOK_iff] at h
 simp only [Bool.and_eq_true, decide_eq_true_eq] at h
 refine ⟨h.1, fun x hx => ?_⟩
 have := List.all_eq_true.1 h.2.2 x hx
 simp only [Bool.not_eq_true', badName, Bool.or_eq_false_iff, Bool.not_eq_false'] at this
 have hn := this.1
 unfold nameOK within at hn
 simp only [Bool.and_eq_true, decide_eq_true_eq] at hn
 omega
def manStep (acc t : List UInt8) : List UInt8 := catS acc (catS t [10])
def manTo (l : List (List UInt8)) (k : Nat) : List UInt8 := (l.take k).foldl manStep []
def manT (l : List (List UInt8)) : List UInt8 := catS (catS (catS (manTo l l.length) [115, 117, 109, 32]) (itoaS (sum (manTo l l.length)))) [10]
theorem man_succ {l : List (List UInt8)} {k : Nat} {x : List UInt8} (hx : l[k]? = some x) : catS (manTo l k) (catS x [10]) = manTo l (k + 1) := by
 unfold manTo
 rw [List.take_add_one, hx]
 simp [manStep]
theorem man_len {l : List (List UInt8)} (h : ∀ x ∈ l, x.length <= 12) : ∀ k, k <= l.length -> (manTo l k).length <= 13 * k
 | 0, _ => by simp [manTo]
 | k + 1, hk => by
   have ih := man_len h k (by omega)
   have hx := List.getElem?_eq_getElem (show k < l.length by omega)
   rw [<- man_succ hx]
   have := h _ (List.mem_of_getElem? hx)
   simp only [catS, List.length_append, List.length_cons, List.length_nil]
   omega
theorem sum_inI (t : List UInt8) : inI (sum t) := by
 unfold inI
 have h := sum_range t
 omega
end Go.Fn
namespace Go.Fn
open Go.Ab
theorem bn_no {t : List UInt8} (h : nameOK t = false) : badName t = true := by unfold badName; rw [h]; rfl
theorem bn_a {t : List UInt8} (h : t = [77, 65, 78, 73, 70, 69, 83, 84]) : badName t = true := by unfold badName; rw [decide_eq_true h]; simp
theorem bn_b {t : List UInt8} (h : t = [116, 109, 112]) : badName t = true := by unfold badName; rw [decide_eq_true h]; simp
theorem bn_c {t : List UInt8} (h : t = [109, 116, 109, 112]) : badName t = true := by unfold badName; rw [decide_eq_true h]; simp
theorem bn_ok {t : List UInt8} (hn : nameOK t = true) (h1 : ¬ t = [77, 65, 78, 73, 70, 69, 83, 84]) (h2 : ¬ t = [116, 109, 112]) (h3 : ¬ t = [109, 116, 109, 112]) : badName t = false := by
 unfold badName
 rw [hn, decide_eq_false h1, decide_eq_false h2, decide_eq_false h3]; rfl
theorem bn_last {t : List UInt8} (hn : nameOK t = true) (h1 : ¬ t = [77, 65, 78, 73, 70, 69, 83, 84]) (h2 : ¬ t = [116, 109, 112]) : (!(t == [109, 116, 109, 112])) = !(badName t) := by
 by_cases h3 : t = [109, 116, 109, 112]
 · rw [bn_c h3, h3]; rfl
 · rw [bn_ok hn h1 h2 h3]
   simp [h3]
theorem nb_eq {l : List (List UInt8)} {i : Nat} {x : List UInt8} (hx : l[i]? = some x) : nameBadI l (Int.ofNat i) = (badName x || (l.take i).any (fun y => decide (y = x))) := by
 show nameBad l i = _
 unfold nameBad
 rw [nameS_at hx]
theorem nb_bad {l : List (List UInt8)} {i : Nat} {x : List UInt8} (hx : l[i]? = some x) (h : badName x = true) : true = nameBadI l (Int.ofNat i) := by rw [nb_eq hx, h]; rfl
theorem nb_has {l : List (List UInt8)} {i : Nat} {x : List UInt8} (hx : l[i]? = some x) (h : badName x = false) : ((subL l 0 (tN (Int.ofNat i))).any fun y => decide (y = x)) = nameBadI l (Int.ofNat i) := by
 rw [nb_eq hx, h, Bool.false_or, sub_take]
theorem are_l {ys l : List (List UInt8)} (hp : ys.Perm l) (hw : WeakT ys) : iOf (compactL ys).length = iOf l.length ↔ l.Nodup := by
 rw [<- hp.nodup_iff, <- compact_nodup hw, hp.length_eq]
 unfold iOf
 omega
theorem are_yes {ys l : List (List UInt8)} (hp : ys.Perm l) (hw : WeakT ys) (h5 : iOf l.length <= 5) (h : iOf (compactL ys).length = iOf l.length) : (l.all fun y => !(badName y)) = namesOK l := by
 rw [namesOK_iff, decide_eq_true (p := l.length <= 5) (by unfold iOf at h5; omega), decide_eq_true (p := l.Nodup) ((are_l hp hw).1 h)]; rfl
theorem are_no {ys l : List (List UInt8)} (hp : ys.Perm l) (hw : WeakT ys) (h : ¬ iOf (compactL ys).length = iOf l.length) : false = namesOK l := by
 rw [namesOK_iff, decide_eq_false (p := l.Nodup) (fun hn => h ((are_l hp hw).2 hn))]; simp
theorem are_5 {l : List (List UInt8)} (h : ¬ iOf l.length <= 5) : false = namesOK l := okm_16 (by omega)
theorem man_65 {l : List (List UInt8)} (h : namesOK l = true) {k : Nat} (hk : k <= l.length) : (manTo l k).length <= 65 := by
 have h2 := names_ok h
 have := man_len h2.2 k hk
 omega
theorem man_f1 {l : List (List UInt8)} (h : namesOK l = true) {k : Nat} {x : List UInt8} (hx : l[k]? = some x) : fits (x.length + [(10 : UInt8)].length) /\ fits ((manTo l k).length + (catS x [10]).length) := by
 have h2 := (names_ok h).2 x (List.mem_of_getElem? hx)
 have h3 := man_65 h (Nat.le_of_lt (List.getElem?_eq_some_iff.1 hx).1)
 unfold fits
 simp only [catS, List.length_append, List.length_cons, List.length_nil]
 omega
theorem man_f2 {l : List (List UInt8)} (h : namesOK l = true) {k : Nat} (hk : k <= l.length) : fits ((manTo l k).length + [(115 : UInt8), 117, 109, 32].length) /\ inI (sum (manTo l k)) /\ fits ((catS (manTo l k) [115, 117, 109, 32]).length + (itoaS (sum (manTo l k))).length) /\ fits ((catS (catS (manTo l k) [115, 117, 109, 32]) (itoaS (sum (manTo l k)))).length + [(10 : UInt8)].length) := by
 have h3 := man_65 h hk
 have h4 := sum_inI (manTo l k)
 have h5 := itoa_len h4
 unfold fits
 simp only [catS, List.length_append, List.length_cons, List.length_nil]
 exact ⟨by omega, h4, by omega, by omega⟩
theorem man_end {l : List (List UInt8)} {k : Nat} (hk : k <= l.length) (h : ¬ k < l.length) : catS (catS (catS (manTo l k) [115, 117, 109, 32]) (itoaS (sum (manTo l k)))) [10] = manT l := by
 have : k = l.length := by omega
 subst this; rfl
end Go.Fn
namespace Go.Proofs.YtkdnelaoagmeaaaGreatDoor
open Go.Ab Go.Fn
theorem met_tail {P : Program} {x : String × DataW Unit} {r : List (String × DataW Unit)} {W : World} (h : laidMet P (x :: r) W) : laidMet P r W := by
 obtain ⟨ps, ⟨g, t, cs, fuel, p, q, h1, h2, h3, h4, h5, h6⟩, hn, hc⟩ := h
 subst h6
 exact ⟨q, h5, (List.nodup_append.1 hn).2.1, fun b off hb => hc b off (List.mem_append_right _ hb)⟩
theorem tab_head {rest : List (String × DataW Unit)} {W : World} (h : laidMet Tryz.prog (("internal/strconv.uint64pow10", Rows.laid_internal_strconv_uint64pow10) :: rest) W) : tabP W :=
 Lib.tabIs_of_head (t := 277) (e := 242) (n := 20) gPow (by kernel_rfl) Tryz.underlying277 Tryz.underlying242 (by kernel_rfl) (by kernel_rfl) h
theorem tab_lt {W : World} (h : tabP W) {b : Nat} (hb : b < 3 + 1) : b < W.heap.size := by
 have h : W.var? Tryz.prog "internal/strconv.uint64pow10" = _ := h
 unfold World.var? at h
 rw [gPow] at h
 simp only [Option.bind_some] at h
 split at h
 · rename_i hh
   exact Nat.lt_of_lt_of_le hb (Array.getElem?_eq_some_iff.1 hh).1
 · cases h
end Go.Proofs.YtkdnelaoagmeaaaGreatDoor
namespace Go.Proofs.YtkdnelaoagmeaaaGreatDoor
open Go.Ab Go.Fn
def s_markText : FSpec := { ps := [.v I], rs := [.v .str], pre := fun x => (x.1 : Int) <= 9000000000000000, fn := fun x => (markText x.1, ()), upd := fun _ => () }
def L_markText (k : Int) : LoopAnn := { ι := Nat × List UInt8, inv := fun p => p.1 <= 9000000000000000 /\ digs p.1 ++ p.2 = digs k.toNat, slots := fun p => [(0, .d I (Int.ofNat p.1)), (3, .d .str p.2)], objs := fun _ => [], μ := fun p => p.1 }
theorem fo_markText : FO 69 s_markText := by
 refine fo (specs := []) (clos := []) (fun x => [(4, .lv [0, 3] <| fun _ => L_markText x.1)]) trivial trivial Tryz.func69 rfl rfl ?_
 rintro ⟨(k : Int), ⟨⟩⟩ (hp : k <= 9000000000000000)
 refine vcOf ((decide (k <= (0 : Int)) = true -> (([109, 48] : List UInt8), ()) = (markText k, ()) /\ () = ()) /\ (decide (k <= (0 : Int)) = false -> (∃ (i : Nat × List UInt8), (i.fst <= (9000000000000000 : Nat) /\ digs i.fst ++ i.snd = digs k.toNat) /\ (k = Int.ofNat i.fst /\ ([] : List UInt8) = i.snd /\ True) /\ True /\ True) /\ ∀ (i : Nat × List UInt8), i.fst <= (9000000000000000 : Nat) /\ digs i.fst ++ i.snd = digs k.toNat -> (decide (Int.ofNat i.fst > (0 : Int)) = true -> nz (10 : Int) /\ fits (lenL (UInt8.ofNat (IntKind.u8.wrap (wAdd .i64 (48 : Int) (wRem (Int.ofNat i.fst) (10 : Int)))).toNat :: ([] : List UInt8)) + lenL i.snd) /\ nz (10 : Int) /\ ∃ (j : Nat × List UInt8), (j.fst <= (9000000000000000 : Nat) /\ digs j.fst ++ j.snd = digs k.toNat) /\ j.fst < i.fst /\ (wQuo .i64 (Int.ofNat i.fst) (10 : Int) = Int.ofNat j.fst /\ catS (UInt8.ofNat (IntKind.u8.wrap (wAdd .i64 (48 : Int) (wRem (Int.ofNat i.fst) (10 : Int)))).toNat :: ([] : List UInt8)) i.snd = j.snd /\ True) /\ True /\ True) /\ (decide (Int.ofNat i.fst > (0 : Int)) = false -> fits (lenL (([109] : List UInt8)) + lenL i.snd) /\ (catS (([109] : List UInt8)) i.snd, ()) = (markText k, ()) /\ () = ()))) (by kernel_rfl) ?_
 simp only [NS, eq_self, ne_eq, forall_const, implies_true, Nat.reduceAdd, Nat.reduceLeDiff, nz, Int.reduceEq, Nat.reduceEqDiff, reduceCtorEq]; try simp only [lenL]
 refine ⟨fun h => (markText_neg h).symm, fun h => ⟨⟨(Int.toNat k, []), ⟨by omega, by simp⟩, mark_start h, rfl⟩, ?_⟩⟩
 rintro ⟨n, out⟩ ⟨hn, he⟩
 have hkn : Int.toNat k <= 9000000000000000 := by omega
 refine ⟨fun hpos => ?_, fun hz => ?_⟩
 · have hpos : 0 < n := by simpa using hpos
   rw [digit_eq, quo_eq hn]
   refine ⟨digs_bound hkn he _, (n / 10, UInt8.ofNat (48 + n % 10) :: out), ⟨by omega, ?_⟩, by omega, rfl, rfl⟩
   rw [<- he, digs_pos hpos]; simp
 · have hz : n = 0 := by simpa using hz
   subst hz
   have he : out = digs (Int.toNat k) := by simpa [digs_zero] using he
   refine ⟨digs_bound (n := 0) hkn (by simpa [digs_zero] using he) _, ?_⟩
   rw [markText_pos h, <- he]; rfl
end Go.Proofs.YtkdnelaoagmeaaaGreatDoor
namespace Go.Proofs.YtkdnelaoagmeaaaGreatDoor
open Go.Ab Go.Fn
def s_Clone_Str : FSpec := { ps := [.v (.slice .str)], rs := [.o (.slice .str)], pre := fun _ => True, fn := fun x => (x.1, ()), upd := fun _ => () }
theorem fo_Clone_Str : FO 262 s_Clone_Str := by
 refine fo (specs := []) (clos := []) (fun x => []) trivial trivial Tryz.func262 rfl rfl ?_
 rintro ⟨xs, ⟨⟩⟩ -
 refine vcOf (∀ (b : Bool), (b = true -> xs = ([] : List (List UInt8))) -> (b = true -> (([] : List (List UInt8)), ()) = (xs, ()) /\ () = ()) /\ (b = false -> fits (lenL xs) -> (xs, ()) = (xs, ()) /\ () = ())) (by kernel_rfl) ?_
 simp only [NS, eq_self, ne_eq, forall_const, implies_true, Nat.reduceAdd, Nat.reduceLeDiff, nz, Int.reduceEq, Nat.reduceEqDiff, reduceCtorEq]; try simp only [lenL]
 exact fun b h hb => (h hb).symm
end Go.Proofs.YtkdnelaoagmeaaaGreatDoor
namespace Go.Proofs.YtkdnelaoagmeaaaGreatDoor
open Go.Ab Go.Fn
def c_layers : CSpec := { ats := [.str], b := .bool, cs := [], pre := fun _ _ => True, fn := fun _ a => !(Fn.badName a.1) }
theorem fo_layersc : FO 264 c_layers.fspec := by
 refine fo (specs := [(171, s_NameOK)]) (clos := []) (fun x => []) ⟨fo_NameOK, trivial⟩ trivial Tryz.func264 rfl rfl ?_
 rintro ⟨t, ⟨⟩⟩ -
 refine vcOf (true = true /\ True /\ (nameOK t = true -> ((!t == ([77, 65, 78, 73, 70, 69, 83, 84] : List UInt8)) = true -> ((!t == ([116, 109, 112] : List UInt8)) = true -> (!t == ([109, 116, 109, 112] : List UInt8), ()) = (match badName t with | true => false | false => true, ()) /\ () = ()) /\ ((!t == ([116, 109, 112] : List UInt8)) = false -> (false, ()) = (match badName t with | true => false | false => true, ()) /\ () = ())) /\ ((!t == ([77, 65, 78, 73, 70, 69, 83, 84] : List UInt8)) = false -> (false, ()) = (match badName t with | true => false | false => true, ()) /\ () = ())) /\ (nameOK t = false -> (false, ()) = (match badName t with | true => false | false => true, ()) /\ () = ())) (by kernel_rfl) ?_
 simp only [NS, eq_self, ne_eq, forall_const, implies_true, Nat.reduceAdd, Nat.reduceLeDiff, nz, Int.reduceEq, Nat.reduceEqDiff, reduceCtorEq]; try simp only [lenL]
 exact ⟨fun hn => ⟨fun h1 => ⟨fun h2 => bn_last hn h1 h2, fun h2 => by rw [bn_b h2]⟩, fun h1 => by rw [bn_a h1]⟩, fun hn => by rw [bn_no hn]⟩
def s_namesOK : FSpec := { ps := [.v (.slice .str)], rs := [.v .bool], pre := fun x => List.length (α := List UInt8) x.1 <= 10000000, fn := fun x => (Fn.namesOK x.1, ()), upd := fun _ => () }
theorem fo_areLayers : FO 226 s_namesOK := by
 refine foI (specs := [(262, s_Clone_Str), (210, s_all_str)]) (clos := [(264, c_layers)]) (inl := [(263, i_SortStr), (217, i_CompStr)]) (fun x => []) ⟨fo_Clone_Str, fo_all_str, trivial⟩ ⟨co fo_layersc rfl rfl, trivial⟩ ⟨in_SortStr, in_CompStr, trivial⟩ Tryz.func226 rfl rfl ?_
 rintro ⟨l, ⟨⟩⟩ hl
 refine vcOf (true = true /\ True /\ ([] : List AV) = ([] : List AV) /\ ∀ (ys : List (List UInt8)), ys.Perm l -> List.Pairwise (fun (a b : List UInt8) => ltT b a = false) ys -> fits (lenL l) -> (decide (iOf (lenL l) <= (5 : Int)) = true -> fits (lenL (compactL ys)) -> fits (lenL l) -> ((iOf (lenL (compactL ys)) == iOf (lenL l)) = true -> true = true /\ (∀ (y : List UInt8), y ∈ l -> True) /\ (List.all l fun (y : List UInt8) => (fun (a : List UInt8 × Unit) => !badName a.fst, fun (x : List UInt8 × Unit) => True).fst (y, ()), ()) = (namesOK l, ()) /\ () = ()) /\ ((iOf (lenL (compactL ys)) == iOf (lenL l)) = false -> (false, ()) = (namesOK l, ()) /\ () = ())) /\ (decide (iOf (lenL l) <= (5 : Int)) = false -> (false, ()) = (namesOK l, ()) /\ () = ())) (by kernel_rfl) ?_
 simp only [NS, eq_self, ne_eq, forall_const, implies_true, Nat.reduceAdd, Nat.reduceLeDiff, nz, Int.reduceEq, Nat.reduceEqDiff, reduceCtorEq]; try simp only [lenL]
 exact fun ys hp hw _ => ⟨fun h5 _ _ => ⟨fun he => are_yes hp hw h5 he, fun he => are_no hp hw he⟩, fun h5 => are_5 h5⟩
end Go.Proofs.YtkdnelaoagmeaaaGreatDoor
namespace Go.Proofs.YtkdnelaoagmeaaaGreatDoor
open Go.Ab Go.Fn
def s_hasStr : FSpec := { ps := [.v (.slice .str), .v .str], rs := [.v .bool], pre := fun _ => True, fn := fun x => (List.any x.1 (fun y => decide (y = x.2.1)), ()), upd := fun _ => () }
def L_has (l : List (List UInt8)) (t : List UInt8) : LoopAnn := { ι := Nat, inv := fun k => k <= l.length /\ ∀ (j : Nat) (y : List UInt8), j < k -> l[j]? = some y -> ¬ y = t, slots := fun k => [(5, .d I (Int.ofNat k))], objs := fun _ => [], μ := fun k => l.length - k }
theorem fo_l01Has : FO 96 s_hasStr := by
 refine fo (specs := []) (clos := []) (fun x => [(2, .lv [0, 1, 5] <| fun _ => L_has x.1 x.2.1)]) trivial trivial Tryz.func96 rfl rfl ?_
 rintro ⟨l, t, ⟨⟩⟩ -
 refine vcOf ((∃ (i : Nat), (i <= List.length l /\ ∀ (j : Nat) (y : List UInt8), j < i -> l[j]? = some y -> ¬y = t) /\ (l = l /\ t = t /\ (0 : Int) = Int.ofNat i /\ True) /\ True /\ True) /\ ∀ (i : Nat), (i <= List.length l /\ ∀ (j : Nat) (y : List UInt8), j < i -> l[j]? = some y -> ¬y = t) -> fits (lenL l) -> (decide (Int.ofNat i < iOf (lenL l)) = true -> bnd (Int.ofNat i) (lenL l) /\ ∀ (x : List UInt8), nthI l (Int.ofNat i) = some x -> 1 <= 1 /\ ((x == t) = true -> (true, ()) = (List.any l fun (y : List UInt8) => decide (y = t), ()) /\ () = ()) /\ ((x == t) = false -> ∃ (j : Nat), (j <= List.length l /\ ∀ (j_1 : Nat) (y : List UInt8), j_1 < j -> l[j_1]? = some y -> ¬y = t) /\ (List.length l).sub j < (List.length l).sub i /\ (l = l /\ t = t /\ wAdd .i64 (Int.ofNat i) (1 : Int) = Int.ofNat j /\ True) /\ True /\ True)) /\ (decide (Int.ofNat i < iOf (lenL l)) = false -> (false, ()) = (List.any l fun (y : List UInt8) => decide (y = t), ()) /\ () = ())) (by kernel_rfl) ?_
 simp only [NS, eq_self, ne_eq, forall_const, implies_true, Nat.reduceAdd, Nat.reduceLeDiff, nz, Int.reduceEq, Nat.reduceEqDiff, reduceCtorEq]; try simp only [lenL]
 refine ⟨⟨0, ⟨Nat.zero_le _, fun j y hj => absurd hj (Nat.not_lt_zero _)⟩, rfl⟩, fun i ⟨hk, hi⟩ hf => ⟨fun h => ⟨h, fun x hx => ⟨fun he => (List.any_eq_true.2 ⟨x, List.mem_of_getElem? hx, decide_eq_true he⟩).symm, fun hn => ⟨i + 1, ⟨h, below_succ (P := fun y => ¬ y = t) hi hx hn⟩, Nat.sub_lt_sub_left h (Nat.lt_succ_self i), inc_in hf hk⟩⟩⟩, fun h => ?_⟩⟩
 symm
 rw [List.any_eq_false]
 intro y hy
 obtain ⟨j, hj⟩ := List.mem_iff_getElem?.1 hy
 have := (List.getElem?_eq_some_iff.1 hj).1
 simp [hi j y (by omega) hj]
def L_names (l : List (List UInt8)) : LoopAnn := { ι := Nat, inv := fun k => Fn.OKM l k, slots := fun k => [(3, .d I (Int.ofNat k))], objs := fun _ => [], μ := fun k => l.length - k }
theorem fo_l12NamesOK : FO 223 s_namesOK := by
 refine fo (specs := [(161, s_NameOK), (96, s_hasStr)]) (clos := []) (fun x => [(4, .lv [0, 3] <| fun _ => L_names x.1), (1000006, .lv [0, 3, 49] <| .ofCut fun s => [(49, .d .bool (Fn.nameBadI x.1 (s.tI 3)))])]) ⟨fo_l00Word, fo_l01Has, trivial⟩ trivial Tryz.func223 rfl rfl ?_
 rintro ⟨l, ⟨⟩⟩ hl
 refine vcOf (fits (lenL l) -> (decide (iOf (lenL l) > (5 : Int)) = true -> (false, ()) = (namesOK l, ()) /\ () = ()) /\ (decide (iOf (lenL l) > (5 : Int)) = false -> (∃ (i : Nat), OKM l i /\ (l = l /\ (0 : Int) = Int.ofNat i /\ True) /\ True /\ True) /\ ∀ (i : Nat), OKM l i -> fits (lenL l) -> (decide (Int.ofNat i < iOf (lenL l)) = true -> (bnd (Int.ofNat i) (lenL l) /\ ∀ (x : List UInt8), nthI l (Int.ofNat i) = some x -> 1 <= 1 /\ true = true /\ True /\ ((!nameOK x) = false -> bnd (Int.ofNat i) (lenL l) /\ ∀ (x : List UInt8), nthI l (Int.ofNat i) = some x -> 1 <= 1 /\ ((x == ([77, 65, 78, 73, 70, 69, 83, 84] : List UInt8)) = false -> bnd (Int.ofNat i) (lenL l) /\ ∀ (x : List UInt8), nthI l (Int.ofNat i) = some x -> 1 <= 1 /\ ((x == ([116, 109, 112] : List UInt8)) = false -> bnd (Int.ofNat i) (lenL l) /\ ∀ (x : List UInt8), nthI l (Int.ofNat i) = some x -> 1 <= 1 /\ ((x == ([109, 116, 109, 112] : List UInt8)) = false -> boundLo (Int.ofNat i) (lenL l) /\ bnd (Int.ofNat i) (lenL l) /\ ∀ (x : List UInt8), nthI l (Int.ofNat i) = some x -> 1 <= 1 /\ true = true /\ True /\ (l = l /\ Int.ofNat i = Int.ofNat i /\ ((subL l (0 : Nat) (tN (Int.ofNat i))).any fun (y : List UInt8) => decide (y = x)) = nameBadI l (Int.ofNat i) /\ True) /\ True /\ True) /\ ((x == ([109, 116, 109, 112] : List UInt8)) = true -> (l = l /\ Int.ofNat i = Int.ofNat i /\ true = nameBadI l (Int.ofNat i) /\ True) /\ True /\ True)) /\ ((x == ([116, 109, 112] : List UInt8)) = true -> (l = l /\ Int.ofNat i = Int.ofNat i /\ true = nameBadI l (Int.ofNat i) /\ True) /\ True /\ True)) /\ ((x == ([77, 65, 78, 73, 70, 69, 83, 84] : List UInt8)) = true -> (l = l /\ Int.ofNat i = Int.ofNat i /\ true = nameBadI l (Int.ofNat i) /\ True) /\ True /\ True)) /\ ((!nameOK x) = true -> (l = l /\ Int.ofNat i = Int.ofNat i /\ true = nameBadI l (Int.ofNat i) /\ True) /\ True /\ True)) /\ (nameBadI l (Int.ofNat i) = true -> (false, ()) = (namesOK l, ()) /\ () = ()) /\ (nameBadI l (Int.ofNat i) = false -> ∃ (j : Nat), OKM l j /\ (List.length l).sub j < (List.length l).sub i /\ (l = l /\ wAdd .i64 (Int.ofNat i) (1 : Int) = Int.ofNat j /\ True) /\ True /\ True)) /\ (decide (Int.ofNat i < iOf (lenL l)) = false -> (true, ()) = (namesOK l, ()) /\ () = ()))) (by kernel_rfl) ?_
 simp only [NS, eq_self, ne_eq, forall_const, implies_true, Nat.reduceAdd, Nat.reduceLeDiff, nz, Int.reduceEq, Nat.reduceEqDiff, reduceCtorEq]; try simp only [lenL]
 refine fun _ => ⟨fun h => okm_16 h, fun h5 => ⟨⟨0, okm0 l, rfl⟩, fun i h hf => ⟨fun hi => ⟨⟨hi, fun x hx => ⟨fun hn => ⟨hi, fun x2 hx2 => ?_⟩, fun hn => nb_bad hx (bn_no hn)⟩⟩, fun hb => okm_bad hi hb, fun hb => ⟨i + 1, okm_step h hi hb, Nat.sub_lt_sub_left hi (Nat.lt_succ_self i), inc_in hf h.1⟩⟩, fun he => okm_end h he h5⟩⟩⟩
 rw [hx] at hx2; cases hx2
 refine ⟨fun h1 => ⟨hi, fun x3 hx3 => ?_⟩, fun h1 => nb_bad hx (bn_a h1)⟩
 rw [hx] at hx3; cases hx3
 refine ⟨fun h2 => ⟨hi, fun x4 hx4 => ?_⟩, fun h2 => nb_bad hx (bn_b h2)⟩
 rw [hx] at hx4; cases hx4
 refine ⟨fun h3 => ⟨bound_lo h.1, hi, fun x5 hx5 => ?_⟩, fun h3 => nb_bad hx (bn_c h3)⟩
 rw [hx] at hx5; cases hx5
 exact nb_has hx (bn_ok hn h1 h2 h3)
end Go.Proofs.YtkdnelaoagmeaaaGreatDoor
namespace Go.Proofs.YtkdnelaoagmeaaaGreatDoor
open Go.Ab Go.Fn
def s_man : FSpec := { ps := [.v (.slice .str)], rs := [.v .str], pre := fun x => Fn.namesOK x.1 = true, fn := fun x => (Fn.manT x.1, ()), upd := fun _ => () }
def L_man (i : Nat) (l : List (List UInt8)) : LoopAnn := { ι := Nat, inv := fun k => k <= l.length, slots := fun k => [(3, .d .str (Fn.manTo l k)), (i, .d I (Int.ofNat k))], objs := fun _ => [], μ := fun k => l.length - k }
theorem fo_l12Manifest : FO 134 s_man := by
 refine fo (specs := [(130, s_Digits), (199, s_l09Sum)]) (clos := []) (fun x => [(3, .lv [0, 3, 4] <| fun _ => L_man 4 x.1)]) ⟨fo_l00Digits, fo_l09Sum, trivial⟩ trivial Tryz.func134 rfl rfl ?_
 rintro ⟨l, ⟨⟩⟩ hl
 refine vcOf ((∃ (i : Nat), i <= List.length l /\ (l = l /\ ([] : List UInt8) = manTo l i /\ (0 : Int) = Int.ofNat i /\ True) /\ True /\ True) /\ ∀ (i : Nat), i <= List.length l -> fits (lenL l) -> (decide (Int.ofNat i < iOf (lenL l)) = true -> bnd (Int.ofNat i) (lenL l) /\ ∀ (x : List UInt8), nthI l (Int.ofNat i) = some x -> 1 <= 1 /\ fits (lenL x + lenL (([10] : List UInt8))) /\ fits (lenL (manTo l i) + lenL (catS x (([10] : List UInt8)))) /\ ∃ (j : Nat), j <= List.length l /\ (List.length l).sub j < (List.length l).sub i /\ (l = l /\ catS (manTo l i) (catS x (([10] : List UInt8))) = manTo l j /\ wAdd .i64 (Int.ofNat i) (1 : Int) = Int.ofNat j /\ True) /\ True /\ True) /\ (decide (Int.ofNat i < iOf (lenL l)) = false -> fits (lenL (manTo l i) + lenL (([115, 117, 109, 32] : List UInt8))) /\ true = true /\ True /\ true = true /\ inI (sum (manTo l i)) /\ fits (lenL (catS (manTo l i) (([115, 117, 109, 32] : List UInt8))) + lenL (itoaS (sum (manTo l i)))) /\ fits (lenL (catS (catS (manTo l i) (([115, 117, 109, 32] : List UInt8))) (itoaS (sum (manTo l i)))) + lenL (([10] : List UInt8))) /\ (catS (catS (catS (manTo l i) (([115, 117, 109, 32] : List UInt8))) (itoaS (sum (manTo l i)))) (([10] : List UInt8)), ()) = (manT l, ()) /\ () = ())) (by kernel_rfl) ?_
 simp only [NS, eq_self, ne_eq, forall_const, implies_true, Nat.reduceAdd, Nat.reduceLeDiff, nz, Int.reduceEq, Nat.reduceEqDiff, reduceCtorEq]; try simp only [lenL]
 have hl : namesOK l = true := hl
 exact ⟨⟨0, Nat.zero_le _, rfl, rfl⟩, fun i hi hf => ⟨fun h => ⟨h, fun x hx => ⟨(man_f1 hl hx).1, (man_f1 hl hx).2, i + 1, h, Nat.sub_lt_sub_left h (Nat.lt_succ_self i), man_succ hx, inc_in hf hi⟩⟩, fun h => ⟨(man_f2 hl hi).1, (man_f2 hl hi).2.1, (man_f2 hl hi).2.2.1, (man_f2 hl hi).2.2.2, man_end hi h⟩⟩⟩
theorem ft_manifest : FT 77 s_man := by
 refine foT (specs := [(139, s_Itoa), (142, s_l09Sum)]) (clos := []) (fun x => [(3, .lv [3, 6, 7, 8] <| fun _ => L_man 8 x.1)]) ⟨ft_Itoa, toT fo_layerSum, trivial⟩ trivial Tryz.func77 rfl rfl ?_
 rintro ⟨l, ⟨⟩⟩ hl
 refine vcOf (fits (lenL l) -> (∃ (i : Nat), i <= List.length l /\ (([] : List UInt8) = manTo l i /\ l = l /\ iOf (lenL l) = iOf (lenL l) /\ (0 : Int) = Int.ofNat i /\ True) /\ True /\ True) /\ ∀ (i : Nat), i <= List.length l -> (decide (Int.ofNat i < iOf (lenL l)) = true -> bnd (Int.ofNat i) (lenL l) /\ ∀ (x : List UInt8), nthI l (Int.ofNat i) = some x -> 1 <= 1 /\ fits (lenL x + lenL (([10] : List UInt8))) /\ fits (lenL (manTo l i) + lenL (catS x (([10] : List UInt8)))) /\ ∃ (j : Nat), j <= List.length l /\ (List.length l).sub j < (List.length l).sub i /\ (catS (manTo l i) (catS x (([10] : List UInt8))) = manTo l j /\ l = l /\ iOf (lenL l) = iOf (lenL l) /\ wAdd .i64 (Int.ofNat i) (1 : Int) = Int.ofNat j /\ True) /\ True /\ True) /\ (decide (Int.ofNat i < iOf (lenL l)) = false -> fits (lenL (manTo l i) + lenL (([115, 117, 109, 32] : List UInt8))) /\ true = true /\ True /\ true = true /\ inI (sum (manTo l i)) /\ fits (lenL (catS (manTo l i) (([115, 117, 109, 32] : List UInt8))) + lenL (itoaS (sum (manTo l i)))) /\ fits (lenL (catS (catS (manTo l i) (([115, 117, 109, 32] : List UInt8))) (itoaS (sum (manTo l i)))) + lenL (([10] : List UInt8))) /\ (catS (catS (catS (manTo l i) (([115, 117, 109, 32] : List UInt8))) (itoaS (sum (manTo l i)))) (([10] : List UInt8)), ()) = (manT l, ()) /\ () = ())) (by kernel_rfl) ?_
 simp only [NS, eq_self, ne_eq, forall_const, implies_true, Nat.reduceAdd, Nat.reduceLeDiff, nz, Int.reduceEq, Nat.reduceEqDiff, reduceCtorEq]; try simp only [lenL]
 have hl : namesOK l = true := hl
 exact fun hf => ⟨⟨0, Nat.zero_le _, rfl, rfl⟩, fun i hi => ⟨fun h => ⟨h, fun x hx => ⟨(man_f1 hl hx).1, (man_f1 hl hx).2, i + 1, h, Nat.sub_lt_sub_left h (Nat.lt_succ_self i), man_succ hx, inc_in hf hi⟩⟩, fun h => ⟨(man_f2 hl hi).1, (man_f2 hl hi).2.1, (man_f2 hl hi).2.2.1, (man_f2 hl hi).2.2.2, man_end hi h⟩⟩⟩
end Go.Proofs.YtkdnelaoagmeaaaGreatDoor
namespace Go.Fn
open Go.Ab
def cutHas (s u : List UInt8) : Bool := decide (¬ indexS s u < 0)
def cutBef (s u : List UInt8) : List UInt8 := if indexS s u < 0 then s else s.take (indexS s u).toNat
def cutAft (s u : List UInt8) : List UInt8 := if indexS s u < 0 then [] else s.drop ((indexS s u).toNat + 1)
end Go.Fn
namespace Go.Fn
open Go.Ab
def sumM : List UInt8 := [115, 117, 109, 32]
def lastN (t : List UInt8) : Nat := (split 10 t).length - 2
def namesOf (t : List UInt8) : List (List UInt8) := (split 10 t).take (lastN t)
def formOK (t : List UInt8) : Bool := decide (2 <= (split 10 t).length) && (decide (nameS (split 10 t) (lastN t + 1) = []) && (namesOK (namesOf t) && (decide (5 <= (nameS (split 10 t) (lastN t)).length) && hasPre (nameS (split 10 t) (lastN t)) sumM)))
theorem two_last {l : List (List UInt8)} (h : 2 <= l.length) : l = l.take (l.length - 2) ++ [nameS l (l.length - 2), nameS l (l.length - 2 + 1)] := by
 have h1 : l.length - 2 < l.length := by omega
 have h2 : l.length - 2 + 1 < l.length := by omega
 have e1 : l.drop (l.length - 2) = l[l.length - 2] :: l.drop (l.length - 2 + 1) := List.drop_eq_getElem_cons h1
 have e2 : l.drop (l.length - 2 + 1) = l[l.length - 2 + 1] :: l.drop (l.length - 2 + 1 + 1) := List.drop_eq_getElem_cons h2
 have e3 : l.drop (l.length - 2 + 1 + 1) = [] := List.drop_eq_nil_of_le (by omega)
 rw [e3] at e2
 rw [e2] at e1
 rw [nameS_at (List.getElem?_eq_getElem h1), nameS_at (List.getElem?_eq_getElem h2), <- e1, List.take_append_drop]
theorem form_iff {t : List UInt8} : formOK t = true ↔ ∃ ns line, split 10 t = ns ++ [line, []] /\ namesOK ns = true /\ 5 <= line.length /\ hasPre line sumM = true := by
 unfold formOK
 simp only [Bool.and_eq_true, decide_eq_true_eq]
 constructor
 · rintro ⟨h1, h2, h3, h4, h5⟩
   refine ⟨namesOf t, nameS (split 10 t) (lastN t), ?_, h3, h4, h5⟩
   have := two_last h1
   rw [<- h2]
   exact this
 · rintro ⟨ns, line, e, h3, h4, h5⟩
   have hl : (split 10 t).length = ns.length + 2 := by rw [e]; simp
   have hn : lastN t = ns.length := by unfold lastN; omega
   have a1 : nameS (split 10 t) (lastN t) = line := nameS_at (by rw [hn, e]; simp)
   have a2 : nameS (split 10 t) (lastN t + 1) = [] := nameS_at (by rw [hn, e]; simp)
   have a3 : namesOf t = ns := by unfold namesOf; rw [hn, e]; simp
   rw [a1, a2, a3]
   exact ⟨by omega, rfl, h3, h4, h5⟩
theorem form_names {t : List UInt8} {ns : List (List UInt8)} {line : List UInt8} (e : split 10 t = ns ++ [line, []]) : namesOf t = ns := by
 have hl : (split 10 t).length = ns.length + 2 := by rw [e]; simp
 unfold namesOf lastN
 rw [hl, e]; simp
theorem pre_sum {x : List UInt8} : hasPre x sumM = true ↔ ∃ r, x = sumM ++ r := by
 unfold hasPre
 simp only [Bool.and_eq_true, decide_eq_true_eq]
 constructor
 · rintro ⟨_, h⟩
   exact ⟨x.drop sumM.length, by conv => lhs; rw [<- List.take_append_drop sumM.length x, h]⟩
 · rintro ⟨r, rfl⟩
   exact ⟨by simp, by simp⟩
theorem name_nosum {x : List UInt8} (h : badName x = false) : hasPre x sumM = false := by
 cases hp : hasPre x sumM with
 | false => rfl
 | true =>
   obtain ⟨r, rfl⟩ := pre_sum.1 hp
   unfold badName nameOK at h
   simp only [Bool.or_eq_false_iff, Bool.not_eq_false', Bool.and_eq_true] at h
   have := allI_iff.1 h.1.2 3 32 rfl
   exact absurd this (by decide)
theorem names_nosum {ns : List (List UInt8)} (h : namesOK ns = true) {x : List UInt8} (hx : x ∈ ns) : hasPre x sumM = false := by
 rw [namesOK_iff] at h
 simp only [Bool.and_eq_true] at h
 have := List.all_eq_true.1 h.2.2 x hx
 exact name_nosum (by simpa using this)
theorem split2_of {c : UInt8} {s a : List UInt8} (h : split c s = [a, []]) : Go.Lib.indexByte s c = Int.ofNat (s.length - 1) /\ a.length + 1 = s.length := by
 by_cases hneg : Go.Lib.indexByte s c < 0
 · rw [index_none c s hneg] at h
   cases h
 · obtain ⟨k, h1, h2, h3⟩ := index_some c s hneg
   rw [h3] at h
   simp only [List.cons.injEq] at h
   have := split_total c (s.drop (k + 1))
   rw [show split c (s.drop (k + 1)) = [[]] from h.2] at this
   simp only [total, List.length_nil, List.length_drop] at this
   have e : k = s.length - 1 := by omega
   refine ⟨by rw [h1, e], ?_⟩
   rw [<- h.1, List.length_take]; omega
theorem split2_to {c : UInt8} {s : List UInt8} (h : Go.Lib.indexByte s c = Int.ofNat (s.length - 1)) (hp : 0 < s.length) : split c s = [s.take (s.length - 1), []] := by
 have hneg : ¬ Go.Lib.indexByte s c < 0 := by rw [h]; exact Int.not_lt.2 (Int.natCast_nonneg _)
 obtain ⟨k, h1, h2, h3⟩ := index_some c s hneg
 rw [h1] at h
 have e : k = s.length - 1 := Int.ofNat.inj h
 rw [h3, e, List.drop_eq_nil_of_le (by omega)]
 rfl
theorem split_sum (r : List UInt8) : ∃ y ys, split 10 r = y :: ys /\ split 10 (sumM ++ r) = (sumM ++ y) :: ys := by
 have hp := split_pos 10 r
 cases h : split 10 r with
 | nil => rw [h] at hp; cases hp
 | cons y ys =>
   refine ⟨y, ys, rfl, ?_⟩
   show split 10 (115 :: 117 :: 109 :: 32 :: r) = _
   rw [split_cons, if_neg (by decide), split_cons, if_neg (by decide), split_cons, if_neg (by decide), split_cons, if_neg (by decide), h]
   rfl
def ManAt (t : List UInt8) (ns : List (List UInt8)) (rest : List UInt8) : Prop := ns ++ split 10 rest = split 10 t /\ ns.length <= 6 /\ (∀ x ∈ ns, hasPre x sumM = false) /\ rest.length <= t.length
theorem mat_start (t : List UInt8) : ManAt t [] t := ⟨rfl, by simp, fun x hx => (by cases hx), Nat.le_refl _⟩
theorem pre_take {s p : List UInt8} {k : Nat} (h : hasPre s p = false) : hasPre (s.take k) p = false := by
 cases hp : hasPre (s.take k) p with
 | false => rfl
 | true =>
   exfalso
   unfold hasPre at hp h
   simp only [Bool.and_eq_true, decide_eq_true_eq, List.length_take, List.take_take] at hp
   have e : min p.length k = p.length := by omega
   rw [e] at hp
   simp only [Bool.and_eq_false_iff, decide_eq_false_iff_not] at h
   rcases h with h | h
   · omega
   · exact h hp.2
theorem mat_step {t : List UInt8} {ns : List (List UInt8)} {rest : List UInt8} (h : ManAt t ns rest) (hp : hasPre rest sumM = false) (h5 : ¬ ns.length > 5) {k : Nat} (hk : k < rest.length) (hs : split 10 rest = rest.take k :: split 10 (rest.drop (k + 1))) : ManAt t (ns ++ [rest.take k]) (rest.drop (k + 1)) := by
 obtain ⟨h1, h2, h3, h4⟩ := h
 refine ⟨by rw [<- h1, hs]; simp, by simp; omega, fun x hx => ?_, by rw [List.length_drop]; omega⟩
 simp only [List.mem_append, List.mem_singleton] at hx
 rcases hx with hx | rfl
 · exact h3 x hx
 · exact pre_take hp
theorem mat_short {t : List UInt8} {ns : List (List UInt8)} {rest : List UInt8} (h : ManAt t ns rest) (hi : Go.Lib.indexByte rest 10 < 0) : formOK t = false := by
 obtain ⟨h1, h2, h3, h4⟩ := h
 cases hf : formOK t with
 | false => rfl
 | true =>
   exfalso
   obtain ⟨ms, line, e, _, _, h5⟩ := form_iff.1 hf
   rw [index_none 10 rest hi, e] at h1
   have : ns = ms ++ [line] := by
     have e2 : ms ++ [line, []] = (ms ++ [line]) ++ [[]] := by simp
     rw [e2] at h1
     exact (List.append_inj' h1 rfl).1
   rw [h3 line (by rw [this]; simp)] at h5
   cases h5
theorem mat_many {t : List UInt8} {ns : List (List UInt8)} {rest : List UInt8} (h : ManAt t ns rest) (h5 : ns.length > 5) : formOK t = false := by
 obtain ⟨h1, h2, h3, h4⟩ := h
 cases hf : formOK t with
 | false => rfl
 | true =>
   exfalso
   obtain ⟨ms, line, e, hn, _, h6⟩ := form_iff.1 hf
   have hm := (names_ok hn).1
   rw [e] at h1
   have e1 : ns[ms.length]? = some line := by
     have : (ns ++ split 10 rest)[ms.length]? = some line := by rw [h1]; simp
     rwa [List.getElem?_append_left (by omega)] at this
   rw [h3 line (List.mem_of_getElem? e1)] at h6
   cases h6
theorem mat_end {t : List UInt8} {ns : List (List UInt8)} {rest : List UInt8} (h : ManAt t ns rest) (hp : hasPre rest sumM = true) : (formOK t = true ↔ namesOK ns = true /\ 6 <= rest.length /\ Go.Lib.indexByte rest 10 = Int.ofNat (rest.length - 1)) /\ (formOK t = true -> namesOf t = ns) := by
 obtain ⟨h1, h2, h3, h4⟩ := h
 obtain ⟨r, rfl⟩ := pre_sum.1 hp
 obtain ⟨y, ys, hy, hs⟩ := split_sum r
 have key : formOK t = true -> split 10 (sumM ++ r) = [sumM ++ y, []] /\ namesOK ns = true /\ 5 <= (sumM ++ y).length /\ namesOf t = ns := fun hf => by
   obtain ⟨ms, line, e, hn, h5, h6⟩ := form_iff.1 hf
   rw [e, hs] at h1
   have hl : ns.length = ms.length := by
     rcases Nat.lt_trichotomy ns.length ms.length with hlt | heq | hgt
     · exfalso
       have e1 : ms[ns.length]? = some (sumM ++ y) := by
         have : (ms ++ [line, []])[ns.length]? = some (sumM ++ y) := by rw [<- h1]; simp
         rwa [List.getElem?_append_left hlt] at this
       have := names_nosum hn (List.mem_of_getElem? e1)
       rw [pre_sum.2 ⟨y, rfl⟩] at this
       cases this
     · exact heq
     · exfalso
       have e1 : ns[ms.length]? = some line := by
         have : (ns ++ (sumM ++ y) :: ys)[ms.length]? = some line := by rw [h1]; simp
         rwa [List.getElem?_append_left hgt] at this
       rw [h3 line (List.mem_of_getElem? e1)] at h6
       cases h6
   obtain ⟨e1, e2⟩ := List.append_inj h1 hl
   simp only [List.cons.injEq] at e2
   subst e1
   rw [hs, e2.2, e2.1]
   exact ⟨rfl, hn, h5, form_names e⟩
 refine ⟨⟨fun hf => ?_, fun hf => ?_⟩, fun hf => (key hf).2.2.2⟩
 · obtain ⟨k1, k2, k3, _⟩ := key hf
   have := split2_of k1
   exact ⟨k2, by omega, this.1⟩
 · obtain ⟨g1, g2, g3⟩ := hf
   have hsp := split2_to g3 (by omega)
   rw [hs] at hsp
   simp only [List.cons.injEq] at hsp
   refine form_iff.2 ⟨ns, sumM ++ y, ?_, g1, ?_, pre_sum.2 ⟨y, rfl⟩⟩
   · rw [<- h1, hs, hsp.2]
   · rw [hsp.1, List.length_take]; omega
def rmC (t : List UInt8) : Int := if formOK t = false then 3 else if t = manT (namesOf t) then 0 else 15
def rmS (t : List UInt8) : List (List UInt8) := if rmC t = 0 then namesOf t else []
end Go.Fn
namespace Go.Fn
open Go.Ab
theorem rm_bad {t : List UInt8} (h : formOK t = false) : [] = rmS t /\ 3 = rmC t := by
 have e : rmC t = 3 := by unfold rmC; rw [if_pos h]
 unfold rmS
 rw [e]; exact ⟨rfl, rfl⟩
theorem rm_sum {t : List UInt8} (h : formOK t = true) (hn : ¬ t = manT (namesOf t)) : [] = rmS t /\ 15 = rmC t := by
 have e : rmC t = 15 := by unfold rmC; rw [if_neg (by rw [h]; exact fun e => Bool.noConfusion e), if_neg hn]
 unfold rmS
 rw [e]; exact ⟨rfl, rfl⟩
theorem rm_ok {t : List UInt8} (h : formOK t = true) (hn : t = manT (namesOf t)) : namesOf t = rmS t /\ 0 = rmC t := by
 have e : rmC t = 0 := by unfold rmC; rw [if_neg (by rw [h]; exact fun e => Bool.noConfusion e), if_pos hn]
 unfold rmS
 rw [e]; exact ⟨rfl, rfl⟩
theorem form_short {t : List UInt8} (h : (split 10 t).length < 2) : formOK t = false := by
 unfold formOK; rw [decide_eq_false (by omega)]; rfl
theorem form_x {t : List UInt8} (h : 2 <= (split 10 t).length) : formOK t = (decide (nameS (split 10 t) (lastN t + 1) = []) && (namesOK ((split 10 t).take (lastN t)) && (decide (5 <= (nameS (split 10 t) (lastN t)).length) && hasPre (nameS (split 10 t) (lastN t)) sumM))) := by
 unfold formOK; rw [decide_eq_true h]; rfl
theorem form_a {t x : List UInt8} (h : 2 <= (split 10 t).length) (hx : (split 10 t)[lastN t + 1]? = some x) (h0 : ¬ x = []) : true = !(formOK t) := by
 rw [form_x h, nameS_at hx, decide_eq_false h0]; rfl
theorem form_b {t : List UInt8} (h : 2 <= (split 10 t).length) (hn : namesOK ((split 10 t).take (lastN t)) = false) : true = !(formOK t) := by
 rw [form_x h, hn]; simp
theorem form_c {t x : List UInt8} (h : 2 <= (split 10 t).length) (hx : (split 10 t)[lastN t]? = some x) (h5 : iOf x.length < 5) : true = !(formOK t) := by
 have h5 : (x.length : Int) < 5 := h5
 rw [form_x h, nameS_at hx, decide_eq_false (p := 5 <= x.length) (by omega)]; simp
theorem form_d {t x y : List UInt8} (h : 2 <= (split 10 t).length) (hx : (split 10 t)[lastN t + 1]? = some x) (h0 : x = []) (hn : namesOK ((split 10 t).take (lastN t)) = true) (hy : (split 10 t)[lastN t]? = some y) (h5 : ¬ iOf y.length < 5) : boundLo 4 y.length /\ (!(subL y 0 (tN 4) == [115, 117, 109, 32])) = !(formOK t) := by
 have h5 : ¬ (y.length : Int) < 5 := h5
 have hp := hp_yes (s := y) (p := sumM) (show (y.length : Int) ≥ 4 by omega)
 refine ⟨⟨by decide, by omega⟩, ?_⟩
 rw [form_x h, nameS_at hx, decide_eq_true h0, hn, nameS_at hy, decide_eq_true (p := 5 <= y.length) (by omega), Bool.true_and, Bool.true_and, Bool.true_and, <- hp.2]
 rfl
theorem form_names_ok {t : List UInt8} (h : formOK t = true) : 2 <= (split 10 t).length /\ namesOK ((split 10 t).take (lastN t)) = true := by
 unfold formOK at h
 simp only [Bool.and_eq_true, decide_eq_true_eq] at h
 exact ⟨h.1, h.2.2.1⟩
end Go.Fn
namespace Go.Proofs.YtkdnelaoagmeaaaGreatDoor
open Go.Ab Go.Fn
def s_Cut : FSpec := { ps := [.v .str, .v .str], rs := [.v .str, .v .str, .v .bool], pre := fun x => (∃ c : UInt8, x.2.1 = [c]) /\ List.length (α := UInt8) x.1 <= 100000000, fn := fun x => (Fn.cutBef x.1 x.2.1, Fn.cutAft x.1 x.2.1, Fn.cutHas x.1 x.2.1, ()), upd := fun _ => () }
theorem fo_Cut0 : FO 261 s_Cut := by
 refine fo (specs := [(299, s_Index1)]) (clos := []) (fun x => []) ⟨fo_sIndex, trivial⟩ trivial Tryz.func261 rfl rfl ?_
 rintro ⟨s, u, ⟨⟩⟩ ⟨⟨c, hu⟩, hl⟩
 have hu : u = [c] := hu
 subst hu
 refine vcOf (true = true /\ (∃ (c_1 : UInt8), c :: ([] : List UInt8) = c_1 :: ([] : List UInt8)) /\ (decide (indexS s (c :: ([] : List UInt8)) ≥ (0 : Int)) = true -> boundLo (indexS s (c :: ([] : List UInt8))) (lenL s) /\ (fits (lenL (c :: ([] : List UInt8))) -> boundLo (wAdd .i64 (indexS s (c :: ([] : List UInt8))) (iOf (lenL (c :: ([] : List UInt8))))) (lenL s) /\ (subL s (0 : Nat) (tN (indexS s (c :: ([] : List UInt8)))), subL s (tN (wAdd .i64 (indexS s (c :: ([] : List UInt8))) (iOf (lenL (c :: ([] : List UInt8)))))) (lenL s), true, ()) = (cutBef s (c :: ([] : List UInt8)), cutAft s (c :: ([] : List UInt8)), cutHas s (c :: ([] : List UInt8)), ()) /\ () = ())) /\ (decide (indexS s (c :: ([] : List UInt8)) ≥ (0 : Int)) = false -> (s, ([] : List UInt8), false, ()) = (cutBef s (c :: ([] : List UInt8)), cutAft s (c :: ([] : List UInt8)), cutHas s (c :: ([] : List UInt8)), ()) /\ () = ())) (by kernel_rfl) ?_
 simp only [NS, eq_self, ne_eq, forall_const, implies_true, Nat.reduceAdd, Nat.reduceLeDiff, nz, Int.reduceEq, Nat.reduceEqDiff, reduceCtorEq]; try simp only [lenL]
 have hl : List.length s <= 100000000 := hl
 refine ⟨⟨c, rfl⟩, fun h => ?_, fun h => ?_⟩
 · obtain ⟨k, h1, h2, _⟩ := index_some c s (Int.not_lt.2 h)
   have e1 : indexS s [c] = Int.ofNat k := h1
   have e2 : wAdd .i64 (Int.ofNat k) (iOf [c].length) = Int.ofNat (k + 1) := by
     have : iOf [c].length = 1 := rfl
     rw [this, wAdd_in (by simp only [Int.ofNat_eq_natCast]; omega)]; rfl
   have hn : ¬ Int.ofNat k < 0 := Int.not_lt.2 (Int.natCast_nonneg _)
   unfold cutBef cutAft cutHas
   rw [e1, e2, if_neg hn, if_neg hn, decide_eq_true hn]
   exact ⟨⟨Int.natCast_nonneg _, Int.ofNat_le.2 (Nat.le_of_lt h2)⟩, fun _ => ⟨⟨Int.natCast_nonneg _, Int.ofNat_le.2 h2⟩, sub_take s k, sub_drop s (k + 1), rfl⟩⟩
 · have h := Int.not_le.1 h
   unfold cutBef cutAft cutHas
   rw [if_pos h, if_pos h, decide_eq_false (fun hn => hn h)]
   exact ⟨rfl, rfl, rfl⟩
theorem fo_Cut : FO 225 s_Cut := by
 refine fo (specs := [(261, s_Cut)]) (clos := []) (fun x => []) ⟨fo_Cut0, trivial⟩ trivial Tryz.func225 rfl rfl ?_
 rintro ⟨s, u, ⟨⟩⟩ hp
 refine vcOf (true = true /\ ((∃ (c : UInt8), u = c :: ([] : List UInt8)) /\ List.length s <= (100000000 : Nat)) /\ (cutBef s u, cutAft s u, cutHas s u, ()) = (cutBef s u, cutAft s u, cutHas s u, ()) /\ () = ()) (by kernel_rfl) ?_
 simp only [NS, eq_self, ne_eq, forall_const, implies_true, Nat.reduceAdd, Nat.reduceLeDiff, nz, Int.reduceEq, Nat.reduceEqDiff, reduceCtorEq]; try simp only [lenL]
 exact hp
end Go.Proofs.YtkdnelaoagmeaaaGreatDoor
namespace Go.Proofs.YtkdnelaoagmeaaaGreatDoor
open Go.Ab Go.Fn
theorem fo_sIndexByte : FO 182 s_IndexByte := by
 refine fo (specs := [(234, s_IndexByte)]) (clos := []) (fun x => []) ⟨fo_IndexByte, trivial⟩ trivial Tryz.func182 rfl rfl ?_
 rintro ⟨s, u, ⟨⟩⟩ hp
 refine vcOf (true = true /\ True /\ (indexB s u, ()) = (indexB s u, ()) /\ () = ()) (by kernel_rfl) ?_
 simp only [NS, eq_self, ne_eq, forall_const, implies_true, Nat.reduceAdd, Nat.reduceLeDiff, nz, Int.reduceEq, Nat.reduceEqDiff, reduceCtorEq]; try simp only [lenL]
end Go.Proofs.YtkdnelaoagmeaaaGreatDoor
namespace Go.Ab

def lendT (E1 : Env) (ats : List Ty) (b : Ty) (pre : dens ats -> Prop) (fn : dens ats -> b.den) : Inl := fun s args K =>
 match callFp.go E1 s.heap ats args with
 | some x => pre x /\ K s [.d b (fn x)]
 | none => False
theorem lendOK {P : Program} {E E1 : Env} {f : Nat} {ats : List Ty} {b : Ty} {pre : dens ats -> Prop} {fn : dens ats -> b.den} (hq : AnyEq E E1) (ht : TabLe E E1) (hb : b.leafB = true) (hs : b.shares = false)
   (h : FOK P E1 f (CSpec.fspec { ats := ats, b := b, cs := [], pre := fun _ x => pre x, fn := fun _ x => fn x })) : InlOK P E f (lendT E1 ats b pre fn) := by
 refine .inl ⟨h.1, fun {G s a w m args vals K} hP hEq hh hv hk => ?_⟩
 unfold lendT at hk
 split at hk
 · rename_i x hx
   subst hP hEq
   have hargs : ArgsD E1 (fun _ => True) w ats x vals := goD_ok (c := { G.rc s.objs m w with E := E1 }) (h := s.heap) (fun i o hi => ⟨(hh.heap i o hi).1, orel_env (c := G.rc s.objs m w) hq (hh.heap i o hi).2⟩) hx (VRelL.env (c := G.rc s.objs m w) hq hv)
   have hta : E1.tab w := ht.tab w (G.tabS _ _ G.tab (fun b hb => hh.o.keep.block b (G.tabO b hb).2 (G.tabO b hb).1))
   have hto : ∀ b, b < E1.gl -> ¬ False /\ b < w.heap.size := fun b hb => ⟨fun h => h, Nat.lt_of_lt_of_le (G.tabO b (Nat.lt_of_lt_of_le hb ht.gl)).2 hh.o.keep.size⟩
   let G1 : Ctx := { P := G.P, E := E1, w0 := w, O0 := fun _ => False, X0 := fun _ => True, m0 := fun _ => undef, n0 := 0, sub := fun _ h => h.elim, tab := hta, tabO := hto, tabS := ht.st }
   have hno : ∀ m b, ¬ Own [] m b := by rintro m b ⟨i, o, hi, _⟩; simp at hi
   obtain ⟨g1, g2⟩ := args_entry (P := G.P) (E := E1) (S := fun _ => True) (w := w) (G1.rc [] G1.m0 w) rfl rfl rfl (fun b => hno _ b) (fun b => ⟨.inl trivial, hno _ b⟩) 0 hargs (show CapsD G.P E1 (fun _ => True) w [] () [] from rfl)
   have hO : HoldsO G1 (entry (vps ats []) (joinP ats [] x ()) 0).2 G1.m0 G1.w0 := by
     rw [show (entry (vps ats []) (joinP ats [] x ()) 0).2 = [] from g1]
     exact { rel := fun i o hi => by simp at hi, disj := fun i j o o' b hi => by simp at hi, keep := Keep.refl _ _, new := fun b hb => absurd hb (hno _ b), len := Nat.le_refl _, fix := fun i o hi => by simp at hi }
   have hV : VRelL (G1.rc (entry (vps ats []) (joinP ats [] x ()) 0).2 G1.m0 G1.w0) (entry (vps ats []) (joinP ats [] x ()) 0).1 (vals ++ []) := by
     rw [show (entry (vps ats []) (joinP ats [] x ()) 0).2 = [] from g1]
     exact g2
   have := h.2 G1 (joinP ats [] x ()) (vals ++ []) rfl rfl (by rw [show (entry (CSpec.fspec { ats := ats, b := b, cs := [], pre := fun _ x => pre x, fn := fun _ x => fn x }).ps (joinP ats [] x ()) 0).2 = [] from g1]; rfl) (by
     show pre (splitA ats [] (joinP ats [] x ()))
     rw [splitA_join]; exact hk.1) hO hV
   rw [List.append_nil] at this
   refine Calls.mono this fun en w' he => ?_
   obtain ⟨m', vls, rfl, q1, q2⟩ := he
   simp only [CSpec.fspec, ressV, resV, VRelL] at q2
   obtain ⟨v, q, rfl, r1, rfl⟩ := q2
   rw [leaf_val hb] at r1
   have r2 := r1.2
   rw [splitA_join] at r2
   have hk1 : Keep (fun _ => False) w w' := q1.keep
   have hg := hh.o.grow hk1
   exact ⟨s, m, _, [v], rfl, hk.2, { o := hg.1, tmps := hh.tmps.mono hg.2, defers := hh.defers, kp := hh.kp.mono hg.2 }, v, [], rfl, ⟨hb, rep_scalar hs (rep_env hq.symm r2)⟩, rfl⟩
 · cases hk
end Go.Ab
namespace Go.Proofs.YtkdnelaoagmeaaaGreatDoor
open Go.Ab Go.Fn
def mkTI (specs : List (Nat × FSpec)) (clos : List (Nat × CSpec)) (inl : List (Nat × Inl)) : Env := { tys := tys, specs := specs, clos := clos, anyB := 4, anyN := 3, anyS := 9, inl := inl, gl := 3 + 1, tab := tabP }
theorem tabTI (specs clos inl) : TabS (mkTI specs clos inl) := tabT specs clos
theorem envTI (specs clos inl) : EnvOK Tryz.prog (mkTI specs clos inl) :=
 { tys := (envOK specs clos []).tys, distinct := (envOK specs clos []).distinct, anyTys := (envOK specs clos []).anyTys, anyZ := (envOK specs clos []).anyZ }
def InT (f : Nat) (T : Inl) : Prop := ∀ s c i, InlOK Tryz.prog (mkTI s c i) f T
def AllIT : List (Nat × Inl) -> Prop
 | [] => True
 | (f, T) :: r => InT f T /\ AllIT r
theorem AllIT.get : ∀ {l : List (Nat × Inl)}, AllIT l -> ∀ {f T} , Go.Ab.look l f = some T -> InT f T
 | [], _, f, T, h => by cases h
 | (k, x) :: r, ⟨h1, h2⟩, f, T, h => by
   simp only [Go.Ab.look] at h
   cases hk : Nat.beq k f with
   | true => rw [hk] at h; cases h; rw [<- Nat.eq_of_beq_eq_true hk]; exact h1
   | false => rw [hk] at h; exact AllIT.get h2 h
theorem progTI {specs clos inl} (h1 : AllT specs) (h2 : AllC clos) (h3 : AllIT inl) : ProgOK Tryz.prog (mkTI specs clos inl) :=
 { env := envTI specs clos inl, specs := fun f sp h => fok_env (E := mkT [] []) (E' := mkTI specs clos inl) ⟨rfl, rfl, rfl⟩ ⟨fun _ h => h, Nat.le_refl _, tabT [] []⟩ (h1.get h), clos := fun f cl h => cok_env (E := E0) (E' := mkTI specs clos inl) ⟨rfl, rfl, rfl⟩ (h2.get h), inl := fun f T h => h3.get h _ _ _, mixed := by kernel_rfl }
theorem foTI {specs clos inl f fn sp} (A : pdens sp.ps -> List (Nat × (St -> LoopAnn))) (h1 : AllT specs) (h2 : AllC clos) (h3 : AllIT inl) (hf : Tryz.prog.funcs[f]? = some fn) (hn : (fn.name == "runtime.NumGoroutine") = false) (hb : fn.body.isSome = true) (hv : ∀ x, sp.pre x -> vc (mkTI specs clos inl) (A x) fn sp x) : FT f sp :=
 fok_env (E := mkTI specs clos inl) (E' := mkT [] []) ⟨rfl, rfl, rfl⟩ ⟨fun _ h => h, Nat.le_refl _, tabTI specs clos inl⟩ (fok_of_vc (progTI h1 h2 h3) hf hn A hv hb)
theorem inT {specs clos inl f fn} (A : St -> List AV -> List (Nat × (St -> LoopAnn))) (h1 : AllF specs) (h2 : AllC clos) (h3 : AllI inl) (hf : Tryz.prog.funcs[f]? = some fn) (hn : (fn.name == "runtime.NumGoroutine") = false) (hb : fn.body.isSome = true) : InT f (inlT (mkE specs clos inl) A fn) :=
 fun s c i => inlOK_of (E := mkTI s c i) (progOK h1 h2 h3) ⟨rfl, rfl, rfl⟩ ⟨fun _ _ => trivial, Nat.zero_le _, fun _ _ _ _ => trivial⟩ hf hn hb A
end Go.Proofs.YtkdnelaoagmeaaaGreatDoor
namespace Go.Proofs.YtkdnelaoagmeaaaGreatDoor
open Go.Ab Go.Fn
def i_areLayers : Inl := lendT (mkE [] []) [.slice .str] .bool (fun x => List.length (α := List UInt8) x.1 <= 10000000) (fun x => Fn.namesOK x.1)
def i_manifest : Inl := lendT (mkT [] []) [.slice .str] .str (fun x => Fn.namesOK x.1 = true) (fun x => Fn.manT x.1)
theorem in_areLayers : InT 226 i_areLayers := fun s c i => lendOK (E := mkTI s c i) (E1 := mkE [] []) ⟨rfl, rfl, rfl⟩ ⟨fun _ _ => trivial, Nat.zero_le _, fun _ _ _ _ => trivial⟩ rfl rfl fo_areLayers
theorem in_manifest : InT 77 i_manifest := fun s c i => lendOK (E := mkTI s c i) (E1 := mkT [] []) ⟨rfl, rfl, rfl⟩ ⟨fun _ h => h, Nat.le_refl _, tabT [] []⟩ rfl rfl ft_manifest
theorem in_namesOK : InO 223 i_areLayers := fun s c i => lendOK (E := mkE s c i) (E1 := mkE [] []) (eqE ..) (eqT ..) rfl rfl fo_l12NamesOK
def i_lManifest : Inl := lendT (mkE [] []) [.slice .str] .str (fun x => Fn.namesOK x.1 = true) (fun x => Fn.manT x.1)
theorem in_lManifest : InO 134 i_lManifest := fun s c i => lendOK (E := mkE s c i) (E1 := mkE [] []) (eqE ..) (eqT ..) rfl rfl fo_l12Manifest
end Go.Proofs.YtkdnelaoagmeaaaGreatDoor
namespace Go.Proofs.YtkdnelaoagmeaaaGreatDoor
open Go.Ab Go.Fn
def s_readM : FSpec := { ps := [.v .str], rs := [.o (.slice .str), .v I], pre := fun x => List.length (α := UInt8) x.1 <= 65536, fn := fun x => (Fn.rmS x.1, Fn.rmC x.1, ()), upd := fun _ => () }
def L_readM (t : List UInt8) : LoopAnn := { ι := List (List UInt8) × List UInt8, inv := fun q => ManAt t q.1 q.2, slots := fun q => [(4, .os 1), (5, .d .str q.2)], objs := fun q => [(1, .arr .str q.1 false)], μ := fun q => q.2.length }
end Go.Proofs.YtkdnelaoagmeaaaGreatDoor
namespace Go.Proofs.YtkdnelaoagmeaaaGreatDoor
open Go.Ab Go.Fn
theorem fo_l12ReadManifest : FO 163 s_readM := by
 refine foI (specs := [(151, s_l00Cut)]) (clos := []) (inl := [(223, i_areLayers), (134, i_lManifest)]) (fun x => [(1000003, .lv [0, 4, 5, 43] <| .ofCut fun _ => [(43, .d .bool (!(Fn.formOK x.1)))])]) ⟨fo_l00Cut, trivial⟩ trivial ⟨in_namesOK, in_lManifest, trivial⟩ Tryz.func163 rfl rfl ?_
 rintro ⟨t, ⟨⟩⟩ hl
 refine vcOf (true = true /\ ((∃ (c : UInt8), (10 : Int) = Int.ofNat c.toNat) /\ List.length t <= (100000000 : Nat)) /\ (fits (lenL (split (bOf (10 : Int)) t)) -> ((decide (wSub .i64 (iOf (lenL (split (bOf (10 : Int)) t))) (2 : Int) < (0 : Int)) = false -> bnd (wAdd .i64 (wSub .i64 (iOf (lenL (split (bOf (10 : Int)) t))) (2 : Int)) (1 : Int)) (lenL (split (bOf (10 : Int)) t)) /\ 1 = 1 /\ 1 <= 1 /\ tN (wAdd .i64 (wSub .i64 (iOf (lenL (split (bOf (10 : Int)) t))) (2 : Int)) (1 : Int)) < lenL (split (bOf (10 : Int)) t) /\ ∀ (x : List UInt8), nth (split (bOf (10 : Int)) t) (tN (wAdd .i64 (wSub .i64 (iOf (lenL (split (bOf (10 : Int)) t))) (2 : Int)) (1 : Int))) = some x -> ((!x == ([] : List UInt8)) = false -> boundLo (wSub .i64 (iOf (lenL (split (bOf (10 : Int)) t))) (2 : Int)) (lenL (split (bOf (10 : Int)) t)) /\ (List.drop (0 : Nat) (List.take (tN (wSub .i64 (iOf (lenL (split (bOf (10 : Int)) t))) (2 : Int))) (split (bOf (10 : Int)) t))).length <= (10000000 : Nat) /\ ((!namesOK (List.drop (0 : Nat) (List.take (tN (wSub .i64 (iOf (lenL (split (bOf (10 : Int)) t))) (2 : Int))) (split (bOf (10 : Int)) t)))) = false -> bnd (wSub .i64 (iOf (lenL (split (bOf (10 : Int)) t))) (2 : Int)) (lenL (split (bOf (10 : Int)) t)) /\ 1 = 1 /\ 1 <= 1 /\ tN (wSub .i64 (iOf (lenL (split (bOf (10 : Int)) t))) (2 : Int)) < lenL (split (bOf (10 : Int)) t) /\ ∀ (x : List UInt8), nth (split (bOf (10 : Int)) t) (tN (wSub .i64 (iOf (lenL (split (bOf (10 : Int)) t))) (2 : Int))) = some x -> fits (lenL x) -> (decide (iOf (lenL x) < (5 : Int)) = false -> bnd (wSub .i64 (iOf (lenL (split (bOf (10 : Int)) t))) (2 : Int)) (lenL (split (bOf (10 : Int)) t)) /\ 1 = 1 /\ 1 <= 1 /\ tN (wSub .i64 (iOf (lenL (split (bOf (10 : Int)) t))) (2 : Int)) < lenL (split (bOf (10 : Int)) t) /\ ∀ (x : List UInt8), nth (split (bOf (10 : Int)) t) (tN (wSub .i64 (iOf (lenL (split (bOf (10 : Int)) t))) (2 : Int))) = some x -> boundLo (4 : Int) (lenL x) /\ (t = t /\ 1 = 1 /\ wSub .i64 (iOf (lenL (split (bOf (10 : Int)) t))) (2 : Int) = wSub .i64 (iOf (lenL (split (bOf (10 : Int)) t))) (2 : Int) /\ (!subL x (0 : Nat) (tN (4 : Int)) == ([115, 117, 109, 32] : List UInt8)) = !formOK t /\ True) /\ ((([] : List (List UInt8)) = ([] : List (List UInt8)) /\ false = false) /\ (split (bOf (10 : Int)) t = split (bOf (10 : Int)) t /\ false = false) /\ True) /\ True) /\ (decide (iOf (lenL x) < (5 : Int)) = true -> (t = t /\ 1 = 1 /\ wSub .i64 (iOf (lenL (split (bOf (10 : Int)) t))) (2 : Int) = wSub .i64 (iOf (lenL (split (bOf (10 : Int)) t))) (2 : Int) /\ true = !formOK t /\ True) /\ ((([] : List (List UInt8)) = ([] : List (List UInt8)) /\ false = false) /\ (split (bOf (10 : Int)) t = split (bOf (10 : Int)) t /\ false = false) /\ True) /\ True)) /\ ((!namesOK (List.drop (0 : Nat) (List.take (tN (wSub .i64 (iOf (lenL (split (bOf (10 : Int)) t))) (2 : Int))) (split (bOf (10 : Int)) t)))) = true -> (t = t /\ 1 = 1 /\ wSub .i64 (iOf (lenL (split (bOf (10 : Int)) t))) (2 : Int) = wSub .i64 (iOf (lenL (split (bOf (10 : Int)) t))) (2 : Int) /\ true = !formOK t /\ True) /\ ((([] : List (List UInt8)) = ([] : List (List UInt8)) /\ false = false) /\ (split (bOf (10 : Int)) t = split (bOf (10 : Int)) t /\ false = false) /\ True) /\ True)) /\ ((!x == ([] : List UInt8)) = true -> (t = t /\ 1 = 1 /\ wSub .i64 (iOf (lenL (split (bOf (10 : Int)) t))) (2 : Int) = wSub .i64 (iOf (lenL (split (bOf (10 : Int)) t))) (2 : Int) /\ true = !formOK t /\ True) /\ ((([] : List (List UInt8)) = ([] : List (List UInt8)) /\ false = false) /\ (split (bOf (10 : Int)) t = split (bOf (10 : Int)) t /\ false = false) /\ True) /\ True)) /\ (decide (wSub .i64 (iOf (lenL (split (bOf (10 : Int)) t))) (2 : Int) < (0 : Int)) = true -> (t = t /\ 1 = 1 /\ wSub .i64 (iOf (lenL (split (bOf (10 : Int)) t))) (2 : Int) = wSub .i64 (iOf (lenL (split (bOf (10 : Int)) t))) (2 : Int) /\ true = !formOK t /\ True) /\ ((([] : List (List UInt8)) = ([] : List (List UInt8)) /\ false = false) /\ (split (bOf (10 : Int)) t = split (bOf (10 : Int)) t /\ false = false) /\ True) /\ True)) /\ ((!formOK t) = true -> (([] : List (List UInt8)), (3 : Int), ()) = (rmS t, rmC t, ()) /\ () = ()) /\ ((!formOK t) = false -> boundLo (wSub .i64 (iOf (lenL (split (bOf (10 : Int)) t))) (2 : Int)) (lenL (split (bOf (10 : Int)) t)) /\ namesOK (List.drop (0 : Nat) (List.take (tN (wSub .i64 (iOf (lenL (split (bOf (10 : Int)) t))) (2 : Int))) (split (bOf (10 : Int)) t))) = true /\ ((!t == manT (List.drop (0 : Nat) (List.take (tN (wSub .i64 (iOf (lenL (split (bOf (10 : Int)) t))) (2 : Int))) (split (bOf (10 : Int)) t)))) = true -> (([] : List (List UInt8)), (15 : Int), ()) = (rmS t, rmC t, ()) /\ () = ()) /\ ((!t == manT (List.drop (0 : Nat) (List.take (tN (wSub .i64 (iOf (lenL (split (bOf (10 : Int)) t))) (2 : Int))) (split (bOf (10 : Int)) t)))) = false -> boundLo (wSub .i64 (iOf (lenL (split (bOf (10 : Int)) t))) (2 : Int)) (lenL (split (bOf (10 : Int)) t)) /\ tN (wSub .i64 (iOf (lenL (split (bOf (10 : Int)) t))) (2 : Int)) <= lenL (split (bOf (10 : Int)) t) /\ (subL (split (bOf (10 : Int)) t) (0 : Nat) (tN (wSub .i64 (iOf (lenL (split (bOf (10 : Int)) t))) (2 : Int))), (0 : Int), ()) = (rmS t, rmC t, ()) /\ () = ())))) (by kernel_rfl) ?_
 simp only [NS, eq_self, ne_eq, forall_const, implies_true, Nat.reduceAdd, Nat.reduceLeDiff, nz, Int.reduceEq, Nat.reduceEqDiff, reduceCtorEq]; try simp only [lenL]
 have hl : List.length t <= 65536 := hl
 have eb : bOf 10 = 10 := rfl
 rw [eb]
 have hW := split_le 10 t
 have ew : wSub .i64 (iOf (split 10 t).length) 2 = iOf (split 10 t).length - 2 := wSub_in (by unfold iOf; omega)
 refine ⟨⟨⟨10, rfl⟩, by omega⟩, fun _ => ?_⟩
 rw [ew]
 rcases Nat.lt_or_ge (split 10 t).length 2 with h2 | h2
 · have hneg : iOf (split 10 t).length - 2 < 0 := by unfold iOf; omega
   have hf := form_short h2
   exact ⟨⟨fun h => absurd hneg h, fun _ => by rw [hf]; rfl⟩, fun _ => rm_bad hf, fun h => by rw [hf] at h; cases h⟩
 · have en : iOf (split 10 t).length - 2 = Int.ofNat (lastN t) := by unfold iOf lastN; simp only [Int.ofNat_eq_natCast]; omega
   have e1 : wAdd .i64 (Int.ofNat (lastN t)) 1 = Int.ofNat (lastN t + 1) := by rw [wAdd_in (by unfold lastN; simp only [Int.ofNat_eq_natCast]; omega)]; rfl
   have hn1 : lastN t + 1 < (split 10 t).length := by unfold lastN; omega
   rw [en, e1]
   simp only [tN_nat, List.drop_zero]
   have h0 : ¬ Int.ofNat (lastN t) < 0 := Int.not_lt.2 (Int.natCast_nonneg _)
   refine ⟨⟨fun _ => ⟨bnd_nat hn1, hn1, fun x hx => ⟨fun hx0 => ⟨bound_lo (by omega), by rw [List.length_take]; omega, fun hn => ⟨bnd_nat (by omega), by omega, fun y hy _ => ⟨fun h5 => ⟨bnd_nat (by omega), by omega, fun z hz => ?_⟩, fun h5 => form_c h2 hy h5⟩⟩, fun hn => form_b h2 hn⟩, fun hx0 => form_a h2 hx hx0⟩⟩, fun h => absurd h h0⟩, fun h => rm_bad h, fun h => ⟨bound_lo (by omega), (form_names_ok h).2, fun hn => rm_sum h hn, fun hn => ⟨bound_lo (by omega), by omega, ?_⟩⟩⟩
   · cases hy.symm.trans hz
     exact form_d h2 hx hx0 hn hy h5
   · have q := rm_ok h hn
     exact ⟨(sub_take (split 10 t) (lastN t)).trans q.1, q.2⟩
end Go.Proofs.YtkdnelaoagmeaaaGreatDoor
namespace Go.Proofs.YtkdnelaoagmeaaaGreatDoor
open Go.Ab Go.Fn
theorem ft_readManifest : FT 167 s_readM := by
 refine foTI (specs := [(160, s_hasPre), (225, s_Cut), (182, s_IndexByte)]) (clos := []) (inl := [(226, i_areLayers), (77, i_manifest)]) (fun x => [(2, .lv [0, 4, 5] <| fun _ => L_readM x.1), (1000007, .lv [0, 4, 47] <| .ofCut fun _ => [(47, .d .bool (!(Fn.formOK x.1)))])]) ⟨toT fo_hasPre, toT fo_Cut, toT fo_sIndexByte, trivial⟩ trivial ⟨in_areLayers, in_manifest, trivial⟩ Tryz.func167 rfl rfl ?_
 rintro ⟨t, ⟨⟩⟩ hl
 refine vcOf ((∃ (i : List (List UInt8) × List UInt8), ManAt t i.fst i.snd /\ (t = t /\ 1 = (1 : Nat) /\ t = i.snd /\ True) /\ ((([] : List (List UInt8)) = ([] : List (List UInt8)) /\ false = false) /\ (([] : List (List UInt8)) = i.fst /\ false = false) /\ True) /\ True) /\ ∀ (i : List (List UInt8) × List UInt8), ManAt t i.fst i.snd -> true = true /\ True /\ ((!hasPre i.snd (([115, 117, 109, 32] : List UInt8))) = true -> true = true /\ ((∃ (c : UInt8), ([10] : List UInt8) = c :: ([] : List UInt8)) /\ i.snd.length <= (100000000 : Nat)) /\ ((!cutHas i.snd (([10] : List UInt8))) = false -> fits (lenL i.fst) -> (decide (iOf (lenL i.fst) > (5 : Int)) = true -> (([] : List (List UInt8)), (3 : Int), ()) = (rmS t, rmC t, ()) /\ () = ()) /\ (decide (iOf (lenL i.fst) > (5 : Int)) = false -> fits (lenL i.fst + lenL (cutBef i.snd (([10] : List UInt8)) :: ([] : List (List UInt8)))) /\ ∃ (j : List (List UInt8) × List UInt8), ManAt t j.fst j.snd /\ j.snd.length < i.snd.length /\ (t = t /\ (1 : Nat) = 1 /\ cutAft i.snd (([10] : List UInt8)) = j.snd /\ True) /\ ((([] : List (List UInt8)) = ([] : List (List UInt8)) /\ false = false) /\ (i.fst ++ cutBef i.snd (([10] : List UInt8)) :: ([] : List (List UInt8)) = j.fst /\ false = false) /\ True) /\ True)) /\ ((!cutHas i.snd (([10] : List UInt8))) = true -> (([] : List (List UInt8)), (3 : Int), ()) = (rmS t, rmC t, ()) /\ () = ())) /\ ((!hasPre i.snd (([115, 117, 109, 32] : List UInt8))) = false -> (i.fst.length <= (10000000 : Nat) /\ ((!namesOK i.fst) = false -> fits (lenL i.snd) -> (decide (iOf (lenL i.snd) < (6 : Int)) = false -> true = true /\ True /\ (fits (lenL i.snd) -> (t = t /\ (1 : Nat) = 1 /\ (indexB i.snd (10 : Int) != wSub .i64 (iOf (lenL i.snd)) (1 : Int)) = !formOK t /\ True) /\ ((([] : List (List UInt8)) = ([] : List (List UInt8)) /\ false = false) /\ (i.fst = i.fst /\ false = false) /\ True) /\ True)) /\ (decide (iOf (lenL i.snd) < (6 : Int)) = true -> (t = t /\ (1 : Nat) = 1 /\ true = !formOK t /\ True) /\ ((([] : List (List UInt8)) = ([] : List (List UInt8)) /\ false = false) /\ (i.fst = i.fst /\ false = false) /\ True) /\ True)) /\ ((!namesOK i.fst) = true -> (t = t /\ (1 : Nat) = 1 /\ true = !formOK t /\ True) /\ ((([] : List (List UInt8)) = ([] : List (List UInt8)) /\ false = false) /\ (i.fst = i.fst /\ false = false) /\ True) /\ True)) /\ ((!formOK t) = true -> (([] : List (List UInt8)), (3 : Int), ()) = (rmS t, rmC t, ()) /\ () = ()) /\ ((!formOK t) = false -> namesOK i.fst = true /\ ((!manT i.fst == t) = true -> (([] : List (List UInt8)), (15 : Int), ()) = (rmS t, rmC t, ()) /\ () = ()) /\ ((!manT i.fst == t) = false -> (i.fst, (0 : Int), ()) = (rmS t, rmC t, ()) /\ () = ())))) (by kernel_rfl) ?_
 simp only [NS, eq_self, ne_eq, forall_const, implies_true, Nat.reduceAdd, Nat.reduceLeDiff, nz, Int.reduceEq, Nat.reduceEqDiff, reduceCtorEq]; try simp only [lenL]
 have hl : List.length t <= 65536 := hl
 refine ⟨⟨([], t), mat_start t, rfl, rfl⟩, ?_⟩
 rintro ⟨ns, rest⟩ hm
 have hm : ManAt t ns rest := hm
 have q2 : ns.length <= 6 := hm.2.1
 have q4 : rest.length <= List.length t := hm.2.2.2
 refine ⟨fun hp => ⟨⟨⟨10, rfl⟩, Nat.le_trans q4 (by omega)⟩, fun hc hf => ⟨fun h5 => rm_bad (mat_many hm (Int.ofNat_lt.1 h5)), fun h5 => ?_⟩, fun hc => rm_bad (mat_short hm (Classical.not_not.1 (of_decide_eq_false hc)))⟩, fun hp => ?_⟩
 · have hi : ¬ indexS rest [10] < 0 := of_decide_eq_true hc
   obtain ⟨k, h1, h2, h3⟩ := index_some 10 rest hi
   have e1 : indexS rest [10] = Int.ofNat k := h1
   have ea : cutAft rest [10] = rest.drop (k + 1) := by unfold cutAft; rw [if_neg hi, e1]; rfl
   have eb : cutBef rest [10] = rest.take k := by unfold cutBef; rw [if_neg hi, e1]; rfl
   refine ⟨?_, (ns ++ [rest.take k], rest.drop (k + 1)), mat_step hm hp (fun h => h5 (Int.ofNat_lt.2 h)) h2 h3, ?_, ea, by rw [eb]⟩
   · show ns.length + 1 < 1099511627776; omega
   · show (rest.drop (k + 1)).length < rest.length
     rw [List.length_drop]; omega
 · obtain ⟨f1, f2⟩ := mat_end hm hp
   refine ⟨⟨show ns.length <= 10000000 by omega, fun hn _ => ⟨fun h6 _ => ?_, fun h6 => ?_⟩, fun hn => ?_⟩, fun h => rm_bad h, fun h => ⟨(f1.1 h).1, fun hx => rm_sum h (by rw [f2 h]; exact fun e => hx e.symm), fun hx => ?_⟩⟩
   · have h6 : ¬ (rest.length : Int) < 6 := h6
     have ew : wSub .i64 (iOf rest.length) 1 = Int.ofNat (rest.length - 1) := by unfold iOf; rw [wSub_in (by omega)]; simp only [Int.ofNat_eq_natCast]; omega
     show (indexB rest 10 != wSub .i64 (iOf rest.length) 1) = !(formOK t)
     rw [ew]
     by_cases he : Go.Lib.indexByte rest 10 = Int.ofNat (rest.length - 1)
     · rw [f1.2 ⟨hn, by omega, he⟩, show indexB rest 10 = Int.ofNat (rest.length - 1) from he]; simp
     · have hf : formOK t = false := by
         cases hf : formOK t with
         | false => rfl
         | true => exact absurd (f1.1 hf).2.2 he
       rw [hf]
       exact bne_iff_ne.2 he
   · have h6 : (rest.length : Int) < 6 := h6
     cases hf : formOK t with
     | false => rfl
     | true => have := (f1.1 hf).2.1; omega
   · cases hf : formOK t with
     | false => rfl
     | true => have := (f1.1 hf).1; rw [show namesOK ns = false from hn] at this; cases this
   · have q := rm_ok h (by rw [f2 h]; exact hx.symm)
     exact ⟨(f2 h).symm.trans q.1, q.2⟩
end Go.Proofs.YtkdnelaoagmeaaaGreatDoor
namespace Go.Proofs.YtkdnelaoagmeaaaGreatDoor
open Go.Ab Go.Fn
def s_slotsOK : FSpec := { ps := [.v tDisk, .v (.slice tSlot)], rs := [.v .bool], pre := fun x => True, fn := fun x => (Fn.slotsOK x.1.1 x.2.1, ()), upd := fun _ => () }
def L_slotsOK (ino : List Fn.Inode) (l : List Fn.Slot) (t : Nat) : LoopAnn := { ι := Nat, inv := fun k => k <= l.length /\ ∀ (j : Nat) (s : Fn.Slot), j < k -> l[j]? = some s -> (!(Fn.badSlot ino l (Int.ofNat j) s.1 s.2.1)) = true, slots := fun k => [(t, .d I (Int.ofNat k))], objs := fun _ => [], μ := fun k => l.length - k }
theorem fo_slotsOK : FO 104 s_slotsOK := by
 refine fo (specs := [(171, s_NameOK), (172, s_inode)]) (clos := []) (fun x => [(2, .lv [1, 2, 7, 8, 9] <| fun _ => L_slotsOK x.1.1 x.2.1 9), (1000004, .lv [1, 2, 7, 8, 9, 39] <| .ofCut fun s => [(39, .d .bool (Fn.badSlot x.1.1 x.2.1 (s.tI 5) (s.cellOf 6 0).getS (s.cellOf 6 1).getI))])]) ⟨fo_NameOK, fo_inode, trivial⟩ trivial Tryz.func104 rfl rfl ?_
 rintro ⟨⟨a, b, c, d, ⟨⟩⟩, l, ⟨⟩⟩ -
 refine vcOf (fits (lenL l) -> (∃ (i : Nat), (i <= List.length l /\ ∀ (j : Nat) (s : Slot), j < i -> l[j]? = some s -> (!badSlot a l (Int.ofNat j) s.fst s.snd.fst) = true) /\ (l = l /\ (0 = 0 /\ (0 : Nat) = 0) /\ l = l /\ iOf (lenL l) = iOf (lenL l) /\ (0 : Int) = Int.ofNat i /\ True) /\ ((a = a /\ b = b /\ c = c /\ d = d /\ True) /\ True) /\ True) /\ ∀ (i : Nat), (i <= List.length l /\ ∀ (j : Nat) (s : Slot), j < i -> l[j]? = some s -> (!badSlot a l (Int.ofNat j) s.fst s.snd.fst) = true) -> (decide (Int.ofNat i < iOf (lenL l)) = true -> bnd (Int.ofNat i) (lenL l) /\ ∀ (x : List UInt8 × Int × Unit), nthI l (Int.ofNat i) = some x -> 2 <= Nat.succ (1) /\ 2 <= 2 /\ (1 <= Nat.succ (1) /\ true = true /\ True /\ ((!nameOK x.fst) = false -> (decide (Int.ofNat i > (0 : Int)) = true -> 1 <= Nat.succ (1) /\ bnd (wSub .i64 (Int.ofNat i) (1 : Int)) (lenL l) /\ ∀ (x_1 : List UInt8 × Int × Unit), nthI l (wSub .i64 (Int.ofNat i) (1 : Int)) = some x_1 -> 1 <= Nat.succ (1) /\ ((Op.bytesLess x.fst x_1.fst || x.fst == x_1.fst) = false -> 4 <= (4) /\ 2 <= Nat.succ (1) /\ true = true /\ True /\ (l = l /\ (0 = 0 /\ (0 : Nat) = 0) /\ l = l /\ iOf (lenL l) = iOf (lenL l) /\ Int.ofNat i = Int.ofNat i /\ decide (inodeAt a x.snd.fst < (0 : Int)) = badSlot a l (Int.ofNat i) x.fst x.snd.fst /\ True) /\ ((a = a /\ b = b /\ c = c /\ d = d /\ True) /\ (x.fst = x.fst /\ x.snd.fst = x.snd.fst /\ True) /\ True) /\ True) /\ ((Op.bytesLess x.fst x_1.fst || x.fst == x_1.fst) = true -> (l = l /\ (0 = 0 /\ (0 : Nat) = 0) /\ l = l /\ iOf (lenL l) = iOf (lenL l) /\ Int.ofNat i = Int.ofNat i /\ true = badSlot a l (Int.ofNat i) x.fst x.snd.fst /\ True) /\ ((a = a /\ b = b /\ c = c /\ d = d /\ True) /\ (x.fst = x.fst /\ x.snd.fst = x.snd.fst /\ True) /\ True) /\ True)) /\ (decide (Int.ofNat i > (0 : Int)) = false -> 4 <= (4) /\ 2 <= Nat.succ (1) /\ true = true /\ True /\ (l = l /\ (0 = 0 /\ (0 : Nat) = 0) /\ l = l /\ iOf (lenL l) = iOf (lenL l) /\ Int.ofNat i = Int.ofNat i /\ decide (inodeAt a x.snd.fst < (0 : Int)) = badSlot a l (Int.ofNat i) x.fst x.snd.fst /\ True) /\ ((a = a /\ b = b /\ c = c /\ d = d /\ True) /\ (x.fst = x.fst /\ x.snd.fst = x.snd.fst /\ True) /\ True) /\ True)) /\ ((!nameOK x.fst) = true -> (l = l /\ (0 = 0 /\ (0 : Nat) = 0) /\ l = l /\ iOf (lenL l) = iOf (lenL l) /\ Int.ofNat i = Int.ofNat i /\ true = badSlot a l (Int.ofNat i) x.fst x.snd.fst /\ True) /\ ((a = a /\ b = b /\ c = c /\ d = d /\ True) /\ (x.fst = x.fst /\ x.snd.fst = x.snd.fst /\ True) /\ True) /\ True)) /\ (badSlot a l (Int.ofNat i) x.fst x.snd.fst = true -> (false, ()) = (slotsOK a l, ()) /\ () = ()) /\ (badSlot a l (Int.ofNat i) x.fst x.snd.fst = false -> ∃ (j : Nat), (j <= List.length l /\ ∀ (j_1 : Nat) (s : Slot), j_1 < j -> l[j_1]? = some s -> (!badSlot a l (Int.ofNat j_1) s.fst s.snd.fst) = true) /\ (List.length l).sub j < (List.length l).sub i /\ (l = l /\ (0 = 0 /\ (0 : Nat) = 0) /\ l = l /\ iOf (lenL l) = iOf (lenL l) /\ wAdd .i64 (Int.ofNat i) (1 : Int) = Int.ofNat j /\ True) /\ ((a = a /\ b = b /\ c = c /\ d = d /\ True) /\ True) /\ True)) /\ (decide (Int.ofNat i < iOf (lenL l)) = false -> (true, ()) = (slotsOK a l, ()) /\ () = ())) (by kernel_rfl) ?_
 simp only [NS, eq_self, ne_eq, forall_const, implies_true, Nat.reduceAdd, Nat.reduceLeDiff, nz, Int.reduceEq, Nat.reduceEqDiff, reduceCtorEq]; try simp only [lenL]
 refine fun hf => ⟨⟨0, ⟨Nat.zero_le _, fun j c hj => absurd hj (Nat.not_lt_zero _)⟩, rfl⟩, fun k ⟨hk, hi⟩ => ⟨fun hlt => ⟨hlt, fun x hx => ⟨?_, fun h => slotsOK_bad hx h, fun h => ⟨k + 1, ⟨hlt, below_succ2 (P := fun j (s : Fn.Slot) => badSlot a l (Int.ofNat j) s.1 s.2.1 = false) hi hx h⟩, by omega, inc_in hf hk⟩⟩⟩, fun hge => slotsOK_end hi hge⟩⟩
 have hf' : l.length < 1099511627776 := hf
 refine ⟨fun h1 => ⟨fun h2 => ?_, fun h2 => ?_⟩, fun h1 => ?_⟩
 · have hk0 : 0 < k := by simpa using h2
   rw [dec_in hk0 (by omega)]
   refine ⟨bnd_pred hk0 hk, fun y hy => ?_⟩
   have e : prevSlot l (Int.ofNat k) x.1 = leS x.1 y.1 := by unfold prevSlot; rw [hy]
   unfold badSlot
   rw [h1, e, decide_eq_true h2]
   unfold leS
   exact ⟨fun h => by rw [h]; simp, fun h => by rw [h]; simp⟩
 · unfold badSlot; rw [h1, decide_eq_false h2]; simp
 · unfold badSlot; rw [h1]; simp
end Go.Proofs.YtkdnelaoagmeaaaGreatDoor
namespace Go.Proofs.YtkdnelaoagmeaaaGreatDoor
open Go.Ab Go.Fn
def s_DiskOK : FSpec := { ps := [.v tDisk], rs := [.v .bool], pre := fun x => True, fn := fun x => (Fn.diskOK x.1, ()), upd := fun _ => () }
def L_DiskOK (d : Fn.Disk) : LoopAnn := { ι := Nat, inv := fun k => k <= d.1.length /\ ∀ (j : Nat) (x : Fn.Inode), j < k -> d.1[j]? = some x -> (!(Fn.badInode d (Int.ofNat j) x || !(Fn.used d x.1))) = true, slots := fun k => [(30, .d I (Int.ofNat k))], objs := fun _ => [], μ := fun k => d.1.length - k }
theorem fo_DiskOK : FO 48 s_DiskOK := by
 refine fo (specs := [(102, s_within), (103, s_has), (104, s_slotsOK)]) (clos := []) (fun x => [(4, .lv [1, 28, 29, 30] <| fun _ => L_DiskOK x.1), (1000001, .lv [1, 26] <| .ofCut fun s => [(26, .d .bool (Fn.badHead x.1))]), (1000006, .lv [1, 28, 29, 30, 79] <| .ofCut fun s => [(79, .d .bool (Fn.badInode x.1 (s.tI 3) ((s.cellOf 4 0).getI, (s.cellOf 4 1).getS, (s.cellOf 4 2).getB, ()) || !(Fn.used x.1 (s.cellOf 4 0).getI)))])]) ⟨fo_within, fo_has, fo_slotsOK, trivial⟩ trivial Tryz.func48 rfl rfl ?_
 rintro ⟨⟨a, b, c, d, ⟨⟩⟩, ⟨⟩⟩ -
 refine vcOf ((4 <= (4) /\ true = true /\ True /\ ((!within d (1 : Int) (1000000 : Int)) = false -> 2 <= (4) /\ (fits (lenL b) -> (decide (iOf (lenL b) > (24 : Int)) = false -> 3 <= (4) /\ (fits (lenL c) -> (decide (iOf (lenL c) > (24 : Int)) = false -> 1 <= (4) /\ (fits (lenL a) -> ((0 = 0 /\ (0 : Nat) = 0) /\ decide (iOf (lenL a) > (48 : Int)) = badHead (a, b, c, d, ()) /\ True) /\ ((a = a /\ b = b /\ c = c /\ d = d /\ True) /\ True) /\ True)) /\ (decide (iOf (lenL c) > (24 : Int)) = true -> ((0 = 0 /\ (0 : Nat) = 0) /\ true = badHead (a, b, c, d, ()) /\ True) /\ ((a = a /\ b = b /\ c = c /\ d = d /\ True) /\ True) /\ True))) /\ (decide (iOf (lenL b) > (24 : Int)) = true -> ((0 = 0 /\ (0 : Nat) = 0) /\ true = badHead (a, b, c, d, ()) /\ True) /\ ((a = a /\ b = b /\ c = c /\ d = d /\ True) /\ True) /\ True))) /\ ((!within d (1 : Int) (1000000 : Int)) = true -> ((0 = 0 /\ (0 : Nat) = 0) /\ true = badHead (a, b, c, d, ()) /\ True) /\ ((a = a /\ b = b /\ c = c /\ d = d /\ True) /\ True) /\ True)) /\ (badHead (a, b, c, d, ()) = true -> (false, ()) = (diskOK (a, b, c, d, ()), ()) /\ () = ()) /\ (badHead (a, b, c, d, ()) = false -> 1 <= (4) /\ (fits (lenL a) -> (∃ (i : Nat), (i <= List.length a /\ ∀ (j : Nat) (x : Inode), j < i -> a[j]? = some x -> (!(badInode (a, b, c, d, ()) (Int.ofNat j) x || !used (a, b, c, d, ()) x.fst)) = true) /\ ((0 = 0 /\ (0 : Nat) = 0) /\ a = a /\ iOf (lenL a) = iOf (lenL a) /\ (0 : Int) = Int.ofNat i /\ True) /\ ((a = a /\ b = b /\ c = c /\ d = d /\ True) /\ True) /\ True) /\ ∀ (i : Nat), (i <= List.length a /\ ∀ (j : Nat) (x : Inode), j < i -> a[j]? = some x -> (!(badInode (a, b, c, d, ()) (Int.ofNat j) x || !used (a, b, c, d, ()) x.fst)) = true) -> (decide (Int.ofNat i < iOf (lenL a)) = true -> bnd (Int.ofNat i) (lenL a) /\ ∀ (x : Int × List UInt8 × Bool × Unit), nthI a (Int.ofNat i) = some x -> 3 <= (3) /\ 3 <= 3 /\ (1 <= (3) /\ 4 <= (4) /\ true = true /\ True /\ ((!within x.fst (1 : Int) (wSub .i64 d (1 : Int))) = false -> (decide (Int.ofNat i > (0 : Int)) = true -> 1 <= (3) /\ 1 <= (4) /\ bnd (wSub .i64 (Int.ofNat i) (1 : Int)) (lenL a) /\ ∀ (x_1 : Int × List UInt8 × Bool × Unit), nthI a (wSub .i64 (Int.ofNat i) (1 : Int)) = some x_1 -> 1 <= (3) /\ (decide (x.fst <= x_1.fst) = false -> 2 <= (3) /\ (fits (lenL x.snd.fst) -> (decide (iOf (lenL x.snd.fst) > (4096 : Int)) = false -> 2 <= (4) /\ 1 <= (3) /\ true = true /\ True /\ ((!has b x.fst) = true -> 3 <= (4) /\ 1 <= (3) /\ true = true /\ True /\ ((0 = 0 /\ (0 : Nat) = 0) /\ a = a /\ iOf (lenL a) = iOf (lenL a) /\ Int.ofNat i = Int.ofNat i /\ (!has c x.fst) = (badInode (a, b, c, d, ()) (Int.ofNat i) (x.fst, x.snd.fst, x.snd.snd.fst, ()) || !used (a, b, c, d, ()) x.fst) /\ True) /\ ((a = a /\ b = b /\ c = c /\ d = d /\ True) /\ (x.fst = x.fst /\ x.snd.fst = x.snd.fst /\ x.snd.snd.fst = x.snd.snd.fst /\ True) /\ True) /\ True) /\ ((!has b x.fst) = false -> ((0 = 0 /\ (0 : Nat) = 0) /\ a = a /\ iOf (lenL a) = iOf (lenL a) /\ Int.ofNat i = Int.ofNat i /\ false = (badInode (a, b, c, d, ()) (Int.ofNat i) (x.fst, x.snd.fst, x.snd.snd.fst, ()) || !used (a, b, c, d, ()) x.fst) /\ True) /\ ((a = a /\ b = b /\ c = c /\ d = d /\ True) /\ (x.fst = x.fst /\ x.snd.fst = x.snd.fst /\ x.snd.snd.fst = x.snd.snd.fst /\ True) /\ True) /\ True)) /\ (decide (iOf (lenL x.snd.fst) > (4096 : Int)) = true -> ((0 = 0 /\ (0 : Nat) = 0) /\ a = a /\ iOf (lenL a) = iOf (lenL a) /\ Int.ofNat i = Int.ofNat i /\ true = (badInode (a, b, c, d, ()) (Int.ofNat i) (x.fst, x.snd.fst, x.snd.snd.fst, ()) || !used (a, b, c, d, ()) x.fst) /\ True) /\ ((a = a /\ b = b /\ c = c /\ d = d /\ True) /\ (x.fst = x.fst /\ x.snd.fst = x.snd.fst /\ x.snd.snd.fst = x.snd.snd.fst /\ True) /\ True) /\ True))) /\ (decide (x.fst <= x_1.fst) = true -> ((0 = 0 /\ (0 : Nat) = 0) /\ a = a /\ iOf (lenL a) = iOf (lenL a) /\ Int.ofNat i = Int.ofNat i /\ true = (badInode (a, b, c, d, ()) (Int.ofNat i) (x.fst, x.snd.fst, x.snd.snd.fst, ()) || !used (a, b, c, d, ()) x.fst) /\ True) /\ ((a = a /\ b = b /\ c = c /\ d = d /\ True) /\ (x.fst = x.fst /\ x.snd.fst = x.snd.fst /\ x.snd.snd.fst = x.snd.snd.fst /\ True) /\ True) /\ True)) /\ (decide (Int.ofNat i > (0 : Int)) = false -> 2 <= (3) /\ (fits (lenL x.snd.fst) -> (decide (iOf (lenL x.snd.fst) > (4096 : Int)) = false -> 2 <= (4) /\ 1 <= (3) /\ true = true /\ True /\ ((!has b x.fst) = true -> 3 <= (4) /\ 1 <= (3) /\ true = true /\ True /\ ((0 = 0 /\ (0 : Nat) = 0) /\ a = a /\ iOf (lenL a) = iOf (lenL a) /\ Int.ofNat i = Int.ofNat i /\ (!has c x.fst) = (badInode (a, b, c, d, ()) (Int.ofNat i) (x.fst, x.snd.fst, x.snd.snd.fst, ()) || !used (a, b, c, d, ()) x.fst) /\ True) /\ ((a = a /\ b = b /\ c = c /\ d = d /\ True) /\ (x.fst = x.fst /\ x.snd.fst = x.snd.fst /\ x.snd.snd.fst = x.snd.snd.fst /\ True) /\ True) /\ True) /\ ((!has b x.fst) = false -> ((0 = 0 /\ (0 : Nat) = 0) /\ a = a /\ iOf (lenL a) = iOf (lenL a) /\ Int.ofNat i = Int.ofNat i /\ false = (badInode (a, b, c, d, ()) (Int.ofNat i) (x.fst, x.snd.fst, x.snd.snd.fst, ()) || !used (a, b, c, d, ()) x.fst) /\ True) /\ ((a = a /\ b = b /\ c = c /\ d = d /\ True) /\ (x.fst = x.fst /\ x.snd.fst = x.snd.fst /\ x.snd.snd.fst = x.snd.snd.fst /\ True) /\ True) /\ True)) /\ (decide (iOf (lenL x.snd.fst) > (4096 : Int)) = true -> ((0 = 0 /\ (0 : Nat) = 0) /\ a = a /\ iOf (lenL a) = iOf (lenL a) /\ Int.ofNat i = Int.ofNat i /\ true = (badInode (a, b, c, d, ()) (Int.ofNat i) (x.fst, x.snd.fst, x.snd.snd.fst, ()) || !used (a, b, c, d, ()) x.fst) /\ True) /\ ((a = a /\ b = b /\ c = c /\ d = d /\ True) /\ (x.fst = x.fst /\ x.snd.fst = x.snd.fst /\ x.snd.snd.fst = x.snd.snd.fst /\ True) /\ True) /\ True)))) /\ ((!within x.fst (1 : Int) (wSub .i64 d (1 : Int))) = true -> ((0 = 0 /\ (0 : Nat) = 0) /\ a = a /\ iOf (lenL a) = iOf (lenL a) /\ Int.ofNat i = Int.ofNat i /\ true = (badInode (a, b, c, d, ()) (Int.ofNat i) (x.fst, x.snd.fst, x.snd.snd.fst, ()) || !used (a, b, c, d, ()) x.fst) /\ True) /\ ((a = a /\ b = b /\ c = c /\ d = d /\ True) /\ (x.fst = x.fst /\ x.snd.fst = x.snd.fst /\ x.snd.snd.fst = x.snd.snd.fst /\ True) /\ True) /\ True)) /\ ((badInode (a, b, c, d, ()) (Int.ofNat i) (x.fst, x.snd.fst, x.snd.snd.fst, ()) || !used (a, b, c, d, ()) x.fst) = true -> (false, ()) = (diskOK (a, b, c, d, ()), ()) /\ () = ()) /\ ((badInode (a, b, c, d, ()) (Int.ofNat i) (x.fst, x.snd.fst, x.snd.snd.fst, ()) || !used (a, b, c, d, ()) x.fst) = false -> ∃ (j : Nat), (j <= List.length a /\ ∀ (j_1 : Nat) (x : Inode), j_1 < j -> a[j_1]? = some x -> (!(badInode (a, b, c, d, ()) (Int.ofNat j_1) x || !used (a, b, c, d, ()) x.fst)) = true) /\ (List.length a).sub j < (List.length a).sub i /\ ((0 = 0 /\ (0 : Nat) = 0) /\ a = a /\ iOf (lenL a) = iOf (lenL a) /\ wAdd .i64 (Int.ofNat i) (1 : Int) = Int.ofNat j /\ True) /\ ((a = a /\ b = b /\ c = c /\ d = d /\ True) /\ True) /\ True)) /\ (decide (Int.ofNat i < iOf (lenL a)) = false -> 4 <= (4) /\ 2 <= (4) /\ true = true /\ True /\ (slotsOK a b = true -> 4 <= (4) /\ 3 <= (4) /\ true = true /\ True /\ (slotsOK a c, ()) = (diskOK (a, b, c, d, ()), ()) /\ () = ()) /\ (slotsOK a b = false -> (false, ()) = (diskOK (a, b, c, d, ()), ()) /\ () = ()))))) (by kernel_rfl) ?_
 simp only [NS, eq_self, ne_eq, forall_const, implies_true, Nat.reduceAdd, Nat.reduceLeDiff, nz, Int.reduceEq, Nat.reduceEqDiff, reduceCtorEq]; try simp only [lenL]
 have hh : badHead (a, b, c, d, ()) = false -> within d 1 1000000 = true := by
   intro h; unfold badHead at h; revert h; cases within d 1 1000000 <;> simp
 refine ⟨⟨fun h1 _ => ⟨fun h2 _ => ⟨fun h3 _ => ?_, fun h3 => ?_⟩, fun h2 => ?_⟩, fun h1 => ?_⟩, fun h => ?_, fun hhd hf => ⟨⟨0, ⟨Nat.zero_le _, fun j c hj => absurd hj (Nat.not_lt_zero _)⟩, rfl⟩, fun k ⟨hk, hi⟩ => ⟨fun hlt => ⟨hlt, fun x hx => ⟨?_, fun h => ?_, fun h => ⟨k + 1, ⟨hlt, below_succ2 (P := fun j (x : Fn.Inode) => (badInode (a, b, c, d, ()) (Int.ofNat j) x || !used (a, b, c, d, ()) x.1) = false) hi hx h⟩, by omega, inc_in hf hk⟩⟩⟩, fun hge => ?_⟩⟩⟩
 · exact (badHead_at h1 h2 h3).symm
 · exact (badHead_safe h3).symm
 · exact (badHead_now h2).symm
 · exact (badHead_next h1).symm
 · unfold diskOK; rw [h]; rfl
 · have hw := within_le (hh hhd)
   have hf' : a.length < 1099511627776 := hf
   rw [wSub_in (a := d) (b := 1) (by omega)]
   refine ⟨fun h1 => ⟨fun h2 => ?_, fun h2 _ => ?_⟩, fun h1 => ?_⟩
   · have hk0 : 0 < k := by simpa using h2
     rw [dec_in hk0 (by omega)]
     refine ⟨bnd_pred hk0 hk, fun y hy => ?_⟩
     have e : prevInode a (Int.ofNat k) x.1 = decide (x.1 <= y.1) := by unfold prevInode; rw [hy]
     unfold badInode used
     rw [h1, e, decide_eq_true h2]
     refine ⟨fun h3 _ => ⟨fun h4 => ?_, fun h4 => ?_⟩, fun h3 => ?_⟩
     · rw [decide_eq_false h3, decide_eq_false (p := (x.2.1.length : Int) > 4096) h4]
       exact ⟨fun h => by rw [h]; simp, fun h => by rw [h]; simp⟩
     · rw [decide_eq_true (p := (x.2.1.length : Int) > 4096) h4]; simp
     · rw [decide_eq_true h3]; simp
   · unfold badInode used
     rw [h1, decide_eq_false h2]
     refine ⟨fun h4 => ?_, fun h4 => ?_⟩
     · rw [decide_eq_false (p := (x.2.1.length : Int) > 4096) h4]
       exact ⟨fun h => by rw [h]; simp, fun h => by rw [h]; simp⟩
     · rw [decide_eq_true (p := (x.2.1.length : Int) > 4096) h4]; simp
   · unfold badInode; rw [h1]; simp
 · exact diskOK_bad hx h
 · rw [diskOK_end hhd hi hge]
   exact ⟨fun h => by rw [h]; simp, fun h => by rw [h]; simp⟩
end Go.Proofs.YtkdnelaoagmeaaaGreatDoor
namespace Go.Proofs.YtkdnelaoagmeaaaGreatDoor
open Go.Ab Go.Fn
def L_l11Inode (l : List Fn.Inode) (n : Int) : LoopAnn := { ι := Nat, inv := fun k => k <= l.length /\ ∀ (j : Nat) (x : Fn.Inode), j < k -> l[j]? = some x -> Fn.inodeIs n x = false, slots := fun k => [(5, .d I (Int.ofNat k))], objs := fun _ => [], μ := fun k => l.length - k }
theorem fo_l11Inode : FO 162 s_inode := by
 refine fo (specs := []) (clos := []) (fun x => [(2, .lv [1, 2, 5] <| fun _ => L_l11Inode x.1.1 x.2.1)]) trivial trivial Tryz.func162 rfl rfl ?_
 rintro ⟨⟨a, b, c, d, ⟨⟩⟩, n, ⟨⟩⟩ -
 refine vcOf ((∃ (i : Nat), (i <= List.length a /\ ∀ (j : Nat) (x : Inode), j < i -> a[j]? = some x -> inodeIs n x = false) /\ (n = n /\ (0 = 0 /\ (0 : Nat) = 0) /\ (0 : Int) = Int.ofNat i /\ True) /\ ((a = a /\ b = b /\ c = c /\ d = d /\ True) /\ True) /\ True) /\ ∀ (i : Nat), (i <= List.length a /\ ∀ (j : Nat) (x : Inode), j < i -> a[j]? = some x -> inodeIs n x = false) -> 1 <= (4) /\ (fits (lenL a) -> (decide (Int.ofNat i < iOf (lenL a)) = true -> 1 <= (4) /\ bnd (Int.ofNat i) (lenL a) /\ ∀ (x : Int × List UInt8 × Bool × Unit), nthI a (Int.ofNat i) = some x -> 1 <= (3) /\ ((x.fst == n) = true -> (Int.ofNat i, ()) = (inodeAt a n, ()) /\ () = ()) /\ ((x.fst == n) = false -> ∃ (j : Nat), (j <= List.length a /\ ∀ (j_1 : Nat) (x : Inode), j_1 < j -> a[j_1]? = some x -> inodeIs n x = false) /\ (List.length a).sub j < (List.length a).sub i /\ (n = n /\ (0 = 0 /\ (0 : Nat) = 0) /\ wAdd .i64 (Int.ofNat i) (1 : Int) = Int.ofNat j /\ True) /\ ((a = a /\ b = b /\ c = c /\ d = d /\ True) /\ True) /\ True)) /\ (decide (Int.ofNat i < iOf (lenL a)) = false -> ((-1 : Int), ()) = (inodeAt a n, ()) /\ () = ()))) (by kernel_rfl) ?_
 simp only [NS, eq_self, ne_eq, forall_const, implies_true, Nat.reduceAdd, Nat.reduceLeDiff, nz, Int.reduceEq, Nat.reduceEqDiff, reduceCtorEq]; try simp only [lenL]
 exact ⟨⟨0, ⟨Nat.zero_le _, fun j c hj => absurd hj (Nat.not_lt_zero _)⟩, rfl⟩, fun k ⟨hk, hi⟩ hf => ⟨fun hlt => ⟨hlt, fun x hx => ⟨fun h => (idx_at hi hx (inodeIs_true h)).symm, fun h => ⟨k + 1, ⟨hlt, below_succ2 (P := fun _ x => inodeIs n x = false) hi hx (inodeIs_false h)⟩, by omega, inc_in hf hk⟩⟩⟩, fun hge => (idx_end hi hge).symm⟩⟩
end Go.Proofs.YtkdnelaoagmeaaaGreatDoor
namespace Go.Proofs.YtkdnelaoagmeaaaGreatDoor
open Go.Ab Go.Fn
def L_l11At (l : List Fn.Slot) (n : List UInt8) : LoopAnn := { ι := Nat, inv := fun k => k <= l.length /\ ∀ (j : Nat) (x : Fn.Slot), j < k -> l[j]? = some x -> Fn.nameIs n x = false, slots := fun k => [(5, .d I (Int.ofNat k))], objs := fun _ => [], μ := fun k => l.length - k }
theorem fo_l11At : FO 164 s_slot := by
 refine fo (specs := []) (clos := []) (fun x => [(2, .lv [0, 1, 5] <| fun _ => L_l11At x.1 x.2.1)]) trivial trivial Tryz.func164 rfl rfl ?_
 rintro ⟨a, n, ⟨⟩⟩ -
 refine vcOf ((∃ (i : Nat), (i <= List.length a /\ ∀ (j : Nat) (x : Slot), j < i -> a[j]? = some x -> nameIs n x = false) /\ (a = a /\ n = n /\ (0 : Int) = Int.ofNat i /\ True) /\ True /\ True) /\ ∀ (i : Nat), (i <= List.length a /\ ∀ (j : Nat) (x : Slot), j < i -> a[j]? = some x -> nameIs n x = false) -> fits (lenL a) -> (decide (Int.ofNat i < iOf (lenL a)) = true -> bnd (Int.ofNat i) (lenL a) /\ ∀ (x : List UInt8 × Int × Unit), nthI a (Int.ofNat i) = some x -> 1 <= Nat.succ (1) /\ ((x.fst == n) = true -> (Int.ofNat i, ()) = (slotAt a n, ()) /\ () = ()) /\ ((x.fst == n) = false -> ∃ (j : Nat), (j <= List.length a /\ ∀ (j_1 : Nat) (x : Slot), j_1 < j -> a[j_1]? = some x -> nameIs n x = false) /\ (List.length a).sub j < (List.length a).sub i /\ (a = a /\ n = n /\ wAdd .i64 (Int.ofNat i) (1 : Int) = Int.ofNat j /\ True) /\ True /\ True)) /\ (decide (Int.ofNat i < iOf (lenL a)) = false -> ((-1 : Int), ()) = (slotAt a n, ()) /\ () = ())) (by kernel_rfl) ?_
 simp only [NS, eq_self, ne_eq, forall_const, implies_true, Nat.reduceAdd, Nat.reduceLeDiff, nz, Int.reduceEq, Nat.reduceEqDiff, reduceCtorEq]; try simp only [lenL]
 exact ⟨⟨0, ⟨Nat.zero_le _, fun j c hj => absurd hj (Nat.not_lt_zero _)⟩, rfl⟩, fun k ⟨hk, hi⟩ hf => ⟨fun hlt => ⟨hlt, fun x hx => ⟨fun h => (idx_at hi hx (nameIs_true h)).symm, fun h => ⟨k + 1, ⟨hlt, below_succ2 (P := fun _ x => nameIs n x = false) hi hx (nameIs_false h)⟩, by omega, inc_in hf hk⟩⟩⟩, fun hge => (idx_end hi hge).symm⟩⟩
end Go.Proofs.YtkdnelaoagmeaaaGreatDoor
