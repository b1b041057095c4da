/- Every function that the law FnExactRenameFile reaches does what its specification (a function on plain data) says; the law answers true wherever what it reads is of bulk at most 1048576. Conditions: that bound. -/
import Derived.Test.YtolminmmnckpkaaAb2
import Derived.JoinedCond
import Derived.Laws.BitsLemmas
import Derived.Lib.Bytealg
import Derived.OpenShut
import Derived.ProofKit
import Derived.Shelf.GgSortFunc.RowK
import Derived.Shelf.SlLaysF0
import Derived.Shelf.SlLaysM
import Derived.Shelf.SlSortCmp.NoneTotal
import Derived.Test.YtolminmmnckpkaaRows
import Derived.WalkKit
import Derived.Test.YtolminmmnckpkaaExactRenameFile0
set_option autoImplicit true
set_option relaxedAutoImplicit true
set_option maxHeartbeats 4000000
set_option maxRecDepth 4000
set_option linter.unusedVariables false
set_option linter.unusedSimpArgs false
namespace Go.Proofs.Ytolminmmnckpkaa
open Go.Ab Go.Fn
def s_l11Told : FSpec := { ps := [.v tDisk, .v .bool], rs := [.o tDisk, .v I], pre := fun x => True, fn := fun x => (tidy x.1, if x.2.1 = true then (0 : Int) else (5 : Int), ()), upd := fun _ => () }
theorem fo_l11Told : FO 43 s_l11Told := by
  refine fo (specs := [(24, s_l11Tidy)]) (clos := []) (fun x => []) ⟨fo_l11Tidy, trivial⟩ trivial Try.func43 rfl rfl ?_
  rintro ⟨⟨a, b, c, d, ⟨⟩⟩, ok, ⟨⟩⟩ -
  refine vcOf (((!ok) = true → nat_lit 4 ≤ (Nat.succ (nat_lit 1)).succ.succ ∧ true = true ∧ True ∧ nat_lit 4 ≤ nat_lit 4 ∧ (((tidy (a, b, c, d, ())).fst, (tidy (a, b, c, d, ())).snd.fst, (tidy (a, b, c, d, ())).snd.snd.fst, (tidy (a, b, c, d, ())).snd.snd.snd.fst, ()), (5 : Int), ()) = (tidy (a, b, c, d, ()), if ok = true then (0 : Int) else (5 : Int), ()) ∧ () = ()) ∧ ((!ok) = false → nat_lit 4 ≤ (Nat.succ (nat_lit 1)).succ.succ ∧ true = true ∧ True ∧ nat_lit 4 ≤ nat_lit 4 ∧ (((tidy (a, b, c, d, ())).fst, (tidy (a, b, c, d, ())).snd.fst, (tidy (a, b, c, d, ())).snd.snd.fst, (tidy (a, b, c, d, ())).snd.snd.snd.fst, ()), (0 : Int), ()) = (tidy (a, b, c, d, ()), if ok = true then (0 : Int) else (5 : Int), ()) ∧ () = ())) (by kernel_rfl) ?_
  simp only [Nat.le_refl, Nat.succ_eq_add_one, Nat.reduceAdd, Nat.reduceLeDiff, Nat.zero_le, pair_unit, mk_eta, len_bne, eqD_bne, bne_iff_ne, bne_eq_false_iff_eq, beq_iff_eq, beq_eq_false_iff_ne, true_and, and_true, and_self, eq_self, lt_iff, nthI_nat, bnd_iff, decide_eq_true_eq, decide_eq_false_iff_not, Nat.sub_eq, nz, ne_eq, not_false_eq_true, Prod.mk.injEq, Int.reduceEq, Nat.reduceEqDiff, forall_const, implies_true, bne_self_eq_false, Bool.true_eq_false, Bool.false_eq_true, false_implies, reduceCtorEq, Bool.not_true, Bool.not_false, List.all_cons, List.all_nil, Bool.and_true, Bool.not_eq_true, Bool.not_eq_false, Bool.not_eq_true', Bool.not_eq_false', Decidable.not_not]; try simp only [lenL]
  cases ok <;> simp
end Go.Proofs.Ytolminmmnckpkaa
namespace Go.Fn
open Go.Ab
def bOf (c : Int) : UInt8 := c.toNat.toUInt8
def countB (t : List UInt8) (c : Int) : Int := (t.count (bOf c) : Int)
def indexB (t : List UInt8) (c : Int) : Int := Go.Lib.indexByte t (bOf c)
theorem count_run {P : Program} {f : FuncId} {fn : Func} (hf : P.funcs[f]? = some fn) (h1 : (fn.name == "runtime.NumGoroutine") = false) (h2 : fn.body.isNone = true) (h3 : Extern.findNext fn = none) (h4 : Extern.find fn = some Extern.BytealgCount.count) (t : List UInt8) (c : Int) (w : World) :
    (callFunc f #[.string ⟨t.toArray⟩, .int .u8 c]).run P w = .ok (.value (.int .i64 (countB t c))) w := by
  rw [run_callFunc_extern hf h1 h2 h3 h4, Go.Lib.run_countString]
  rfl
theorem index_run {P : Program} {f : FuncId} {fn : Func} (hf : P.funcs[f]? = some fn) (h1 : (fn.name == "runtime.NumGoroutine") = false) (h2 : fn.body.isNone = true) (h3 : Extern.findNext fn = none) (h4 : Extern.find fn = some Extern.BytealgIndexByte.indexByte) (t : List UInt8) (c : Int) (w : World) :
    (callFunc f #[.string ⟨t.toArray⟩, .int .u8 c]).run P w = .ok (.value (.int .i64 (indexB t c))) w := by
  rw [run_callFunc_extern hf h1 h2 h3 h4, Go.Lib.run_indexByteString]
  rfl
def indexS (t u : List UInt8) : Int := match u with | [c] => Go.Lib.indexByte t c | _ => 0
def countS (t u : List UInt8) : Int := match u with | [c] => (t.count c : Int) | _ => 0
theorem bOf_nat (c : UInt8) : bOf (Int.ofNat c.toNat) = c := by unfold bOf; simp
theorem bnd_one (c : UInt8) : bnd 0 [c].length := ⟨Int.le_refl _, Int.zero_lt_one⟩
end Go.Fn
namespace Go.Fn
open Go.Ab
def split (c : UInt8) : List UInt8 → List (List UInt8)
  | [] => [[]]
  | x :: r => if x = c then [] :: split c r else match split c r with
    | [] => [[x]]
    | y :: ys => (x :: y) :: ys
theorem split_len (c : UInt8) : ∀ t : List UInt8, (split c t).length = t.count c + 1
  | [] => rfl
  | x :: r => by
    have ih := split_len c r
    unfold split
    split
    · rename_i h; subst h; simp [ih]
    · rename_i h
      rw [List.count_cons_of_ne (by simpa using h)]
      split
      · rename_i e; rw [e] at ih; simp at ih
      · rename_i e; rw [e] at ih; simpa using ih
theorem index_none (c : UInt8) : ∀ t : List UInt8, Go.Lib.indexByte t c < 0 → split c t = [t]
  | [], _ => rfl
  | x :: r, h => by
    unfold Go.Lib.indexByte at h
    by_cases hx : x = c
    · subst hx; simp at h
    · have hb : (x == c) = false := by simpa using hx
      rw [hb] at h
      have hg := Go.Lib.indexByte_ge r c
      have hr : Go.Lib.indexByte r c < 0 := by
        by_cases he : Go.Lib.indexByte r c = -1
        · omega
        · simp [he] at h; omega
      unfold split
      rw [if_neg hx, index_none c r hr]
theorem index_some (c : UInt8) : ∀ t : List UInt8, ¬ Go.Lib.indexByte t c < 0 → ∃ k, Go.Lib.indexByte t c = Int.ofNat k ∧ k < t.length ∧ split c t = t.take k :: split c (t.drop (k + 1))
  | [], h => by simp [Go.Lib.indexByte] at h
  | x :: r, h => by
    by_cases hx : x = c
    · subst hx
      exact ⟨0, by simp [Go.Lib.indexByte], by simp, by simp [split]⟩
    · have hb : (x == c) = false := by simpa using hx
      have hr : ¬ Go.Lib.indexByte r c < 0 := by
        intro hr
        apply h
        unfold Go.Lib.indexByte
        have hg := Go.Lib.indexByte_ge r c
        have : Go.Lib.indexByte r c = -1 := by omega
        simp [hb, this]
      obtain ⟨k, h1, h2, h3⟩ := index_some c r hr
      refine ⟨k + 1, ?_, by simpa using h2, ?_⟩
      · unfold Go.Lib.indexByte
        rw [h1]
        simp [hb]
      · have e : split c (x :: r) = if x = c then [] :: split c r else match split c r with
          | [] => [[x]]
          | y :: ys => (x :: y) :: ys := rfl
        rw [e, if_neg hx, h3]
        rfl
def splitS (t u : List UInt8) : List (List UInt8) := match u with | [c] => split c t | _ => []
theorem split_pos (c : UInt8) (t : List UInt8) : 0 < (split c t).length := by rw [split_len]; omega
theorem split_le (c : UInt8) (t : List UInt8) : (split c t).length ≤ t.length + 1 := by rw [split_len]; have := List.count_le_length (a := c) (l := t); omega
def fillL (l : List (List UInt8)) (n : Nat) : List (List UInt8) := l ++ List.replicate (n - l.length) []
theorem fillL_len {l : List (List UInt8)} {n : Nat} (h : l.length ≤ n) : (fillL l n).length = n := by unfold fillL; simp; omega
theorem fillL_set {l : List (List UInt8)} {n : Nat} (h : l.length < n) (x : List UInt8) : (fillL l n).set l.length x = fillL (l ++ [x]) n := by
  unfold fillL
  rw [List.set_append_right _ _ (Nat.le_refl _), Nat.sub_self]
  have : n - l.length = (n - (l ++ [x]).length) + 1 := by simp; omega
  rw [this, List.replicate_succ]
  simp
theorem fillL_last {l : List (List UInt8)} {n : Nat} (h : l.length + 1 = n) (x : List UInt8) : subL ((fillL l n).set l.length x) 0 (l.length + 1) = l ++ [x] := by
  rw [fillL_set (by omega)]
  unfold fillL subL
  have : n - (l ++ [x]).length = 0 := by simp; omega
  rw [this, List.replicate_zero, List.append_nil, List.drop_zero]
  exact List.take_of_length_le (by simp)
theorem parts_n {c : UInt8} {t : List UInt8} (h : t.length ≤ 100000000) : mm false (wAdd .i64 (countS t [c]) 1) (wAdd .i64 (iOf t.length) 1) = Int.ofNat (split c t).length := by
  have h1 := split_len c t
  have h2 := List.count_le_length (a := c) (l := t)
  have e1 : wAdd .i64 (countS t [c]) 1 = Int.ofNat (split c t).length := by
    unfold countS
    simp only
    rw [wAdd_in (by omega), h1]
    rfl
  have e2 : wAdd .i64 (iOf t.length) 1 = Int.ofNat (t.length + 1) := by
    unfold iOf
    rw [wAdd_in (by omega)]
    rfl
  rw [e1, e2]
  unfold mm
  simp only [Bool.false_eq_true, if_false, Int.ofNat_eq_natCast]
  split <;> omega
end Go.Fn
namespace Go.Fn
open Go.Ab
theorem byte_iff {a b : UInt8} : (Int.ofNat a.toNat = Int.ofNat b.toNat) = (a = b) := by
  refine propext ⟨fun h => UInt8.toNat_inj.1 (Int.ofNat.inj h), fun h => by rw [h]⟩
def joinHead (a : List UInt8) (l : List (List UInt8)) : List (List UInt8) := match l with | [] => [a] | y :: ys => (a ++ y) :: ys
theorem split_cons (c x : UInt8) (r : List UInt8) : split c (x :: r) = if x = c then [] :: split c r else joinHead [x] (split c r) := by
  show (if x = c then [] :: split c r else match split c r with | [] => [[x]] | y :: ys => (x :: y) :: ys) = _
  split
  · rfl
  · unfold joinHead; cases split c r <;> rfl
theorem joinHead_nil {c : UInt8} {t : List UInt8} : joinHead [] (split c t) = split c t := by
  have := split_pos c t
  unfold joinHead
  cases h : split c t with
  | nil => rw [h] at this; cases this
  | cons y ys => rfl
theorem joinHead_app (a b : List UInt8) (l : List (List UInt8)) : joinHead a (joinHead b l) = joinHead (a ++ b) l := by
  unfold joinHead; cases l <;> simp
def CutAt (c : UInt8) (t : List UInt8) (out : List (List UInt8)) (k i : Nat) : Prop := k ≤ i ∧ i ≤ t.length ∧ out ++ joinHead (subL t k i) (split c (t.drop i)) = split c t ∧ out.length ≤ i
theorem cut_start (c : UInt8) (t : List UInt8) : CutAt c t [] 0 0 := ⟨Nat.le_refl _, Nat.zero_le _, by simp [subL, joinHead_nil], Nat.le_refl _⟩
theorem subL_snoc {t : List UInt8} {k i : Nat} {x : UInt8} (hk : k ≤ i) (h : t[i]? = some x) : subL t k (i + 1) = subL t k i ++ [x] := by
  have hi : i < t.length := get_lt h
  unfold subL
  rw [List.take_add_one, h, List.drop_append_of_le_length (by rw [List.length_take]; omega)]
  rfl
theorem cut_skip {c : UInt8} {t : List UInt8} {out : List (List UInt8)} {k i : Nat} {x : UInt8} (h : CutAt c t out k i) (hx : t[i]? = some x) (hn : ¬ x = c) : CutAt c t out k (i + 1) := by
  obtain ⟨h1, h2, h3, h4⟩ := h
  refine ⟨by omega, get_lt hx, ?_, by omega⟩
  rw [← h3, drop_at hx, split_cons, if_neg hn, joinHead_app, subL_snoc h1 hx]
theorem cut_take {c : UInt8} {t : List UInt8} {out : List (List UInt8)} {k i : Nat} {x : UInt8} (h : CutAt c t out k i) (hx : t[i]? = some x) (he : x = c) : CutAt c t (out ++ [subL t k i]) (i + 1) (i + 1) := by
  obtain ⟨h1, h2, h3, h4⟩ := h
  refine ⟨Nat.le_refl _, get_lt hx, ?_, by simp; omega⟩
  rw [← h3, drop_at hx, split_cons, if_pos he]
  have : subL t (i + 1) (i + 1) = [] := by unfold subL; rw [List.drop_eq_nil_of_le]; rw [List.length_take]; omega
  rw [this, joinHead_nil]
  simp [joinHead]
theorem cut_end {c : UInt8} {t : List UInt8} {out : List (List UInt8)} {k i : Nat} (h : CutAt c t out k i) (he : ¬ i < t.length) : out ++ [subL t k t.length] = split c t := by
  obtain ⟨h1, h2, h3, h4⟩ := h
  have : i = t.length := by omega
  subst this
  rw [← h3, List.drop_length]
  simp [split, joinHead]
end Go.Fn
namespace Go.Fn
open Go.Ab
def partB (x : UInt8) : Bool := within (Int.ofNat x.toNat) 33 126 && !(decide (x.toNat = 47))
def partOK (t : List UInt8) : Bool := within (t.length : Int) 1 8 && (!(t == [46]) && !(t == [46, 46])) && t.all partB
theorem partOK_out {t : List UInt8} (h : within (iOf t.length) 1 8 = false) : false = partOK t := by
  unfold partOK; rw [show within (t.length : Int) 1 8 = false from h]; rfl
theorem partOK_dot {t : List UInt8} (h : t = [46]) : false = partOK t := by subst h; rfl
theorem partOK_dots {t : List UInt8} (h : t = [46, 46]) : false = partOK t := by subst h; rfl
theorem partOK_bad {t : List UInt8} {i : Nat} {c : UInt8} (hc : t[i]? = some c) (h : partB c = false) : false = partOK t := by
  have : t.all partB = false := by
    rw [List.all_eq_false]
    exact ⟨c, List.mem_of_getElem? hc, by rw [h]; simp⟩
  unfold partOK; rw [this, Bool.and_false]
theorem partOK_end {t : List UInt8} {i : Nat} (hw : within (iOf t.length) 1 8 = true) (h1 : ¬ t = [46]) (h2 : ¬ t = [46, 46]) (hi : ∀ (j : Nat) (x : UInt8), j < i → t[j]? = some x → partB x = true) (h : ¬ i < t.length) : true = partOK t := by
  have ha : t.all partB = true := by
    rw [List.all_eq_true]
    intro x hx
    obtain ⟨j, hj, rfl⟩ := List.getElem_of_mem hx
    exact hi j _ (by omega) (List.getElem?_eq_getElem hj)
  have e1 : (t == [46]) = false := by simpa using h1
  have e2 : (t == [46, 46]) = false := by simpa using h2
  unfold partOK; rw [ha, e1, e2, show within (t.length : Int) 1 8 = true from hw]; rfl
theorem partB_low {c : UInt8} (h : Int.ofNat c.toNat < 33) : partB c = false := by
  unfold partB within; rw [decide_eq_false (p := 33 ≤ Int.ofNat c.toNat) (by omega)]; rfl
theorem partB_high {c : UInt8} (h : Int.ofNat c.toNat > 126) : partB c = false := by
  unfold partB within; rw [decide_eq_false (p := Int.ofNat c.toNat ≤ 126) (by omega)]; simp
theorem partB_slash {c : UInt8} (h : Int.ofNat c.toNat = 47) : partB c = false := by
  unfold partB; rw [decide_eq_true (p := c.toNat = 47) (by simp only [Int.ofNat_eq_natCast] at h; omega)]; simp
theorem partB_ok {c : UInt8} (h1 : ¬ Int.ofNat c.toNat < 33) (h2 : ¬ Int.ofNat c.toNat > 126) (h3 : ¬ Int.ofNat c.toNat = 47) : partB c = true := by
  unfold partB within
  rw [decide_eq_true (p := 33 ≤ Int.ofNat c.toNat) (by omega), decide_eq_true (p := Int.ofNat c.toNat ≤ 126) (by omega), decide_eq_false (p := c.toNat = 47) (by simp only [Int.ofNat_eq_natCast] at h3; omega)]
  rfl
theorem parts_step {t : List UInt8} {i : Nat} {c : UInt8} (hi : ∀ (j : Nat) (x : UInt8), j < i → t[j]? = some x → partB x = true) (hc : t[i]? = some c) (h : partB c = true) : ∀ (j : Nat) (x : UInt8), j < i + 1 → t[j]? = some x → partB x = true := by
  intro j x hj hx
  rcases Nat.lt_or_ge j i with hlt | hge
  · exact hi j x hlt hx
  · have : j = i := by omega
    subst this
    rw [hc] at hx; cases hx; exact h
def pathOK (t : List UInt8) : Bool := decide (t.length ≤ 36) && decide ((split 47 t).length ≤ 4) && (split 47 t).all partOK
theorem partB_i64 {c : UInt8} (h : within (IntKind.i64.wrap (Int.ofNat c.toNat)) 33 126 = false) : partB c = false := by
  rw [i64_byte] at h
  unfold partB; rw [show within (Int.ofNat c.toNat) 33 126 = false from h]; rfl
theorem partB_i64' {c : UInt8} (h : within (IntKind.i64.wrap (Int.ofNat c.toNat)) 33 126 = true) (h2 : ¬ Int.ofNat c.toNat = 47) : partB c = true := by
  rw [i64_byte] at h
  unfold partB; rw [show within (Int.ofNat c.toNat) 33 126 = true from h, decide_eq_false (p := c.toNat = 47) (by simp only [Int.ofNat_eq_natCast] at h2; omega)]; rfl
theorem partOK_fin {t : List UInt8} {i : Nat} (hw : within (iOf t.length) 1 8 = true) (h1 : ¬ t = [46]) (hi : ∀ (j : Nat) (x : UInt8), j < i → t[j]? = some x → partB x = true) (h : ¬ i < t.length) : (!(t == [46, 46])) = partOK t := by
  by_cases h2 : t = [46, 46]
  · rw [← partOK_dots h2]; subst h2; rfl
  · rw [← partOK_end hw h1 h2 hi h]; simpa using h2
theorem pathOK_long {t : List UInt8} (h : iOf t.length > 36) : false = pathOK t := by
  have h : (t.length : Int) > 36 := h
  unfold pathOK; rw [decide_eq_false (p := t.length ≤ 36) (by omega)]; rfl
theorem pathOK_many {t : List UInt8} (h : iOf (split 47 t).length > 4) : false = pathOK t := by
  have h : ((split 47 t).length : Int) > 4 := h
  unfold pathOK; rw [decide_eq_false (p := (split 47 t).length ≤ 4) (by omega)]; simp
theorem pathOK_bad {t x : List UInt8} {i : Nat} (hx : (split 47 t)[i]? = some x) (h : partOK x = false) : false = pathOK t := by
  have : (split 47 t).all partOK = false := by
    rw [List.all_eq_false]
    exact ⟨x, List.mem_of_getElem? hx, by rw [h]; simp⟩
  unfold pathOK; rw [this, Bool.and_false]
theorem pathOK_end {t : List UInt8} {i : Nat} (h1 : ¬ iOf t.length > 36) (h2 : ¬ iOf (split 47 t).length > 4) (hi : ∀ (j : Nat) (x : List UInt8), j < i → (split 47 t)[j]? = some x → partOK x = true) (h : ¬ i < (split 47 t).length) : true = pathOK t := by
  have h1 : ¬ (t.length : Int) > 36 := h1
  have h2 : ¬ ((split 47 t).length : Int) > 4 := h2
  have ha : (split 47 t).all partOK = true := by
    rw [List.all_eq_true]
    intro x hx
    obtain ⟨j, hj, rfl⟩ := List.getElem_of_mem hx
    exact hi j _ (by omega) (List.getElem?_eq_getElem hj)
  unfold pathOK; rw [ha, decide_eq_true (p := t.length ≤ 36) (by omega), decide_eq_true (p := (split 47 t).length ≤ 4) (by omega)]; rfl
theorem path_step {l : List (List UInt8)} {i : Nat} {c : List UInt8} (hi : ∀ (j : Nat) (x : List UInt8), j < i → l[j]? = some x → partOK x = true) (hc : l[i]? = some c) (h : partOK c = true) : ∀ (j : Nat) (x : List UInt8), j < i + 1 → l[j]? = some x → partOK x = true := by
  intro j x hj hx
  rcases Nat.lt_or_ge j i with hlt | hge
  · exact hi j x hlt hx
  · have : j = i := by omega
    subst this
    rw [hc] at hx; cases hx; exact h
def total : List (List UInt8) → Nat
  | [] => 0
  | x :: r => x.length + 1 + total r
theorem split_total (c : UInt8) : ∀ t : List UInt8, total (split c t) = t.length + 1
  | [] => rfl
  | x :: r => by
    have ih := split_total c r
    rw [split_cons]
    split
    · simp [total, ih]; omega
    · have := split_pos c r
      unfold joinHead
      cases h : split c r with
      | nil => rw [h] at this; cases this
      | cons y ys => rw [h] at ih; simp [total] at ih ⊢; omega
theorem total_le : ∀ {l : List (List UInt8)}, l.all partOK = true → total l ≤ 9 * l.length
  | [], _ => Nat.le_refl _
  | x :: r, h => by
    simp only [List.all_cons, Bool.and_eq_true] at h
    have ih := total_le h.2
    have hx : x.length ≤ 8 := by
      have := h.1
      unfold partOK within at this
      simp only [Bool.and_eq_true, decide_eq_true_eq] at this
      omega
    simp only [total, List.length_cons]
    omega
theorem pathOK_36 {t : List UInt8} (h : ¬ iOf t.length < 36) : false = pathOK t := by
  have h : ¬ (t.length : Int) < 36 := h
  cases hp : pathOK t with
  | false => rfl
  | true =>
    unfold pathOK at hp
    simp only [Bool.and_eq_true, decide_eq_true_eq] at hp
    have h1 := total_le hp.2
    have h2 := split_total 47 t
    omega
theorem pathOK_few {t : List UInt8} (h : iOf t.length < 36) (h2 : iOf (split 47 t).length ≤ 4) : ((split 47 t).all fun y => partOK y) = pathOK t := by
  have h : (t.length : Int) < 36 := h
  have h2 : ((split 47 t).length : Int) ≤ 4 := h2
  unfold pathOK; rw [decide_eq_true (p := t.length ≤ 36) (by omega), decide_eq_true (p := (split 47 t).length ≤ 4) (by omega)]; rfl
end Go.Fn
namespace Go.Fn
open Go.Ab
def bad8 (k : Int) (b : List UInt8) : Bool := decide ((b.length : Int) > 20) || (decide (k = 2) && decide (b = []))
def bad3 (k : Int) (b : List UInt8) (o : Bool) : Bool := (!(decide (b = [])) && (decide (k = 3) || decide (k = 4))) || (o && !(decide (k = 3)))
def bad4 (k m : Int) : Bool := !(within m 0 511) || (!(decide (m = 0)) && (decide (k = 4) || decide (k = 2)))
def bare (k : Int) : Bool := decide (k = 3) || decide (k = 4)
def recFault (r : Rec) : Int := if within r.1 1 4 = false then 9 else if pathOK r.2.1 = false then 10
  else if bad8 r.1 r.2.2.1 = true then 8 else if bad3 r.1 r.2.2.1 r.2.2.2.2.1 = true then 3 else if bad4 r.1 r.2.2.2.1 = true then 4 else 0
theorem rec_kind {r : Rec} (h : within r.1 1 4 = false) : 9 = recFault r := by unfold recFault; rw [if_pos h]
theorem bad8_long {k : Int} {b : List UInt8} (h : iOf b.length > 20) : true = bad8 k b := by
  unfold bad8; rw [decide_eq_true (p := (b.length : Int) > 20) h]; rfl
theorem bad8_link {k : Int} {b : List UInt8} (h : ¬ iOf b.length > 20) (hk : k = 2) : (b == []) = bad8 k b := by
  unfold bad8; rw [decide_eq_false (p := (b.length : Int) > 20) h, decide_eq_true hk]; cases b <;> rfl
theorem bad8_no {k : Int} {b : List UInt8} (h : ¬ iOf b.length > 20) (hk : ¬ k = 2) : false = bad8 k b := by
  unfold bad8; rw [decide_eq_false (p := (b.length : Int) > 20) h, decide_eq_false hk]; rfl
theorem first_rec {k : Int} {p b : List UInt8} {m : Int} {o : Bool} : first [.b (!within k 1 4), .n 9, .b (!pathOK p), .n 10, .b (bad8 k b), .n 8, .b (bad3 k b o), .n 3, .b (bad4 k m), .n 4] = recFault (k, p, b, m, o, ()) := by
  unfold recFault
  cases within k 1 4 <;> cases pathOK p <;> cases bad8 k b <;> cases bad3 k b o <;> cases bad4 k m <;> rfl
end Go.Fn
namespace Go.Fn
open Go.Ab
theorem rec_ok {k : Int} {p b : List UInt8} {m : Int} {o : Bool} (h : recFault (k, p, b, m, o, ()) = 0) : pathOK p = true ∧ bad8 k b = false ∧ bad3 k b o = false ∧ bad4 k m = false ∧ within k 1 4 = true := by
  unfold recFault at h
  simp only at h
  cases h1 : within k 1 4 <;> cases h2 : pathOK p <;> cases h3 : bad8 k b <;> cases h4 : bad3 k b o <;> cases h5 : bad4 k m <;> simp [h1, h2, h3, h4, h5] at h ⊢
theorem path_len {p : List UInt8} (h : pathOK p = true) : p.length ≤ 36 := by
  unfold pathOK at h
  simp only [Bool.and_eq_true, decide_eq_true_eq] at h
  exact h.1.1
theorem body_len {k : Int} {b : List UInt8} (h : bad8 k b = false) : b.length ≤ 20 := by
  unfold bad8 at h
  simp only [Bool.or_eq_false_iff, decide_eq_false_iff_not] at h
  have := h.1
  omega
theorem mode_in {k m : Int} (h : bad4 k m = false) : 0 ≤ m ∧ m ≤ 511 := by
  unfold bad4 within at h
  simp only [Bool.or_eq_false_iff, Bool.not_eq_false', Bool.and_eq_true, decide_eq_true_eq] at h
  exact h.1
def b8 (n : Int) : UInt8 := UInt8.ofNat (IntKind.u8.wrap n).toNat
def two (n : Int) : List UInt8 := [UInt8.ofNat (n / 256).toNat, UInt8.ofNat (n % 256).toNat]
def enc (r : Rec) : List UInt8 := catS (catS (catS (catS [b8 (if r.2.2.2.2.1 = true then 5 else r.1), b8 (iOf (lenL r.2.1))] r.2.1) (two r.2.2.2.1)) [b8 (iOf (lenL r.2.2.1))]) r.2.2.1
theorem two_quo {n : Int} (h : 0 ≤ n ∧ n < 65536) : [UInt8.ofNat (IntKind.u8.wrap (wQuo .i64 n 256)).toNat, UInt8.ofNat (IntKind.u8.wrap (wRem n 256)).toNat] = two n := by
  have e1 : wQuo .i64 n 256 = n / 256 := by
    unfold wQuo
    rw [Int.tdiv_eq_ediv_of_nonneg h.1, i64_in (by omega)]
  have e2 : wRem n 256 = n % 256 := by unfold wRem; rw [Int.tmod_eq_emod_of_nonneg h.1]
  rw [e1, e2, IntKind.wrap_u8, IntKind.wrap_u8]
  unfold two
  rw [show n / 256 % 256 = n / 256 by omega, show n % 256 % 256 = n % 256 by omega]
theorem two_shr {n : Int} (h : 0 ≤ n ∧ n < 65536) : [UInt8.ofNat (IntKind.u8.wrap (wShr .i64 n 8)).toNat, UInt8.ofNat (IntKind.u8.wrap n).toNat] = two n := by
  have e1 : wShr .i64 n 8 = n / 256 := rfl
  rw [e1, IntKind.wrap_u8, IntKind.wrap_u8]
  unfold two
  rw [show n / 256 % 256 = n / 256 by omega]
def encRec (r : Rec) : List UInt8 := if recFault r = 0 then enc r else []
def encCode (r : Rec) : Int := if recFault r = 0 then 0 else 1
theorem enc_no {r : Rec} (h : ¬ recFault r = 0) : [] = encRec r ∧ 1 = encCode r := by unfold encRec encCode; rw [if_neg h, if_neg h]; exact ⟨rfl, rfl⟩
theorem enc_yes {r : Rec} (h : recFault r = 0) : recFault r = 0 ∧ enc r = encRec r ∧ 0 = encCode r := by unfold encRec encCode; rw [if_pos h, if_pos h]; exact ⟨h, rfl, rfl⟩
def szRec (r : Rec) (n : Int) : Int := if n - r.2.1.length < 0 then -1 else if n - r.2.1.length - r.2.2.1.length < 0 then -1 else n - r.2.1.length - r.2.2.1.length
theorem szRec_a {k m n : Int} {p b : List UInt8} {o : Bool} (hn : -1 ≤ n ∧ n ≤ 1048576) (hf : fits p.length) (h : wSub .i64 n (iOf p.length) < 0) : -1 = szRec (k, p, b, m, o, ()) n := by
  have hf : p.length < 1099511627776 := hf
  unfold iOf at h
  rw [wSub_in (by omega)] at h
  unfold szRec
  rw [if_pos h]
theorem szRec_b {k m n : Int} {p b : List UInt8} {o : Bool} (hn : -1 ≤ n ∧ n ≤ 1048576) (hf : fits p.length) (h : ¬ wSub .i64 n (iOf p.length) < 0) (hg : fits b.length) : (wSub .i64 (wSub .i64 n (iOf p.length)) (iOf b.length) < 0 → -1 = szRec (k, p, b, m, o, ()) n) ∧ (¬ wSub .i64 (wSub .i64 n (iOf p.length)) (iOf b.length) < 0 → wSub .i64 (wSub .i64 n (iOf p.length)) (iOf b.length) = szRec (k, p, b, m, o, ()) n) := by
  have hf : p.length < 1099511627776 := hf
  have hg : b.length < 1099511627776 := hg
  unfold iOf at h ⊢
  rw [wSub_in (a := n) (by omega)] at h ⊢
  rw [wSub_in (by omega)]
  unfold szRec
  simp only
  rw [if_neg h]
  refine ⟨fun h2 => by rw [if_pos h2], fun h2 => by rw [if_neg h2]⟩
theorem szRec_small {k m n : Int} {p b : List UInt8} {o : Bool} (hn : n ≤ 1048576) (h : ¬ szRec (k, p, b, m, o, ()) n < 0) : p.length ≤ 1048576 ∧ b.length ≤ 1048576 := by
  unfold szRec at h
  simp only at h
  split at h
  · omega
  · split at h
    · omega
    · omega
end Go.Fn
namespace Go.Fn
open Go.Ab
theorem bl_irrefl : ∀ x : List UInt8, Op.bytesLess x x = false := by
  intro x
  induction x with
  | nil => rfl
  | cons a r ih => simp [Op.bytesLess, ih]
def lessL : List (List UInt8) → List (List UInt8) → Bool
  | [], [] => false
  | [], _ :: _ => true
  | _ :: _, [] => false
  | x :: v, y :: w => if x = y then lessL v w else Op.bytesLess x y
def cmpS (x y : List UInt8) : Int := if Op.bytesLess x y = true then -1 else if x = y then 0 else 1
def cmpL : List (List UInt8) → List (List UInt8) → Int
  | [], [] => 0
  | [], _ :: _ => -1
  | _ :: _, [] => 1
  | x :: v, y :: w => if cmpS x y = 0 then cmpL v w else cmpS x y
theorem cmpS_zero {x y : List UInt8} : cmpS x y = 0 ↔ x = y := by
  unfold cmpS
  constructor
  · intro h
    split at h
    · cases h
    · split at h
      · assumption
      · cases h
  · rintro rfl
    rw [bl_irrefl]; simp
theorem cmpL_less : ∀ (v w : List (List UInt8)), decide (cmpL v w < 0) = lessL v w
  | [], [] => rfl
  | [], _ :: _ => rfl
  | _ :: _, [] => rfl
  | x :: v, y :: w => by
    unfold cmpL lessL
    by_cases h : x = y
    · rw [if_pos (cmpS_zero.2 h), if_pos h, cmpL_less v w]
    · rw [if_neg (fun e => h (cmpS_zero.1 e)), if_neg h]
      unfold cmpS
      cases hb : Op.bytesLess x y with
      | true => simp
      | false => simp [h]
def LessAt (v w : List (List UInt8)) (i : Nat) : Prop := i ≤ v.length ∧ i ≤ w.length ∧ lessL v w = lessL (v.drop i) (w.drop i)
def CmpAt (v w : List (List UInt8)) (i : Nat) : Prop := i ≤ v.length ∧ i ≤ w.length ∧ cmpL v w = cmpL (v.drop i) (w.drop i)
theorem less_ne {v w : List (List UInt8)} {i : Nat} {x y : List UInt8} (h : LessAt v w i) (hx : v[i]? = some x) (hy : w[i]? = some y) (hn : ¬ x = y) : Op.bytesLess x y = lessL v w := by
  rw [h.2.2, drop_at hx, drop_at hy]; unfold lessL; rw [if_neg hn]
theorem less_eq {v w : List (List UInt8)} {i : Nat} {x y : List UInt8} (h : LessAt v w i) (hx : v[i]? = some x) (hy : w[i]? = some y) (hn : x = y) : LessAt v w (i + 1) := by
  refine ⟨get_lt hx, get_lt hy, ?_⟩
  rw [h.2.2, drop_at hx, drop_at hy]
  have : lessL (x :: v.drop (i + 1)) (y :: w.drop (i + 1)) = if x = y then lessL (v.drop (i + 1)) (w.drop (i + 1)) else Op.bytesLess x y := rfl
  rw [this, if_pos hn]
theorem less_end {v w : List (List UInt8)} {i : Nat} (h : LessAt v w i) (he : ¬ i < v.length ∨ ¬ i < w.length) : decide (iOf v.length < iOf w.length) = lessL v w := by
  obtain ⟨h1, h2, h3⟩ := h
  rw [h3]
  unfold iOf
  rcases he with he | he
  · rw [List.drop_eq_nil_of_le (by omega : v.length ≤ i)]
    cases hw : w.drop i with
    | nil =>
      have : w.length ≤ i := by
        have := congrArg List.length hw
        simp at this; omega
      simp [lessL]; omega
    | cons a r =>
      have : i < w.length := by
        have := congrArg List.length hw
        simp at this; omega
      simp [lessL]; omega
  · rw [List.drop_eq_nil_of_le (by omega : w.length ≤ i)]
    cases hv : v.drop i with
    | nil =>
      have : v.length ≤ i := by
        have := congrArg List.length hv
        simp at this; omega
      simp [lessL]; omega
    | cons a r => simp [lessL]; omega
theorem cmp_out {v w : List (List UInt8)} {i : Nat} (h : CmpAt v w i) (h1 : i < v.length) (h2 : ¬ i < w.length) : 1 = cmpL v w := by
  rw [h.2.2, List.drop_eq_nil_of_le (by omega : w.length ≤ i), List.drop_eq_getElem_cons h1]
  rfl
theorem cmp_ne {v w : List (List UInt8)} {i : Nat} {x y : List UInt8} (h : CmpAt v w i) (hx : v[i]? = some x) (hy : w[i]? = some y) (hn : ¬ cmpS x y = 0) : cmpS x y = cmpL v w := by
  rw [h.2.2, drop_at hx, drop_at hy]; unfold cmpL; rw [if_neg hn]
theorem cmp_eq {v w : List (List UInt8)} {i : Nat} {x y : List UInt8} (h : CmpAt v w i) (hx : v[i]? = some x) (hy : w[i]? = some y) (hn : cmpS x y = 0) : CmpAt v w (i + 1) := by
  refine ⟨get_lt hx, get_lt hy, ?_⟩
  rw [h.2.2, drop_at hx, drop_at hy]
  have : cmpL (x :: v.drop (i + 1)) (y :: w.drop (i + 1)) = if cmpS x y = 0 then cmpL (v.drop (i + 1)) (w.drop (i + 1)) else cmpS x y := rfl
  rw [this, if_pos hn]
theorem cmp_end {v w : List (List UInt8)} {i : Nat} (h : CmpAt v w i) (he : ¬ i < v.length) : (iOf v.length < iOf w.length → -1 = cmpL v w) ∧ (¬ iOf v.length < iOf w.length → 0 = cmpL v w) := by
  obtain ⟨h1, h2, h3⟩ := h
  rw [h3, List.drop_eq_nil_of_le (by omega : v.length ≤ i)]
  unfold iOf
  cases hw : w.drop i with
  | nil =>
    have : w.length ≤ i := by
      have := congrArg List.length hw
      simp at this; omega
    exact ⟨fun h => by omega, fun _ => rfl⟩
  | cons a r =>
    have : i < w.length := by
      have := congrArg List.length hw
      simp at this; omega
    exact ⟨fun _ => rfl, fun h => by omega⟩
def pathLess (a b : List UInt8) : Bool := pathOK a && (pathOK b && lessL (split 47 a) (split 47 b))
end Go.Fn
namespace Go.Fn
open Go.Ab
theorem bl_trans : ∀ {x y z : List UInt8}, Op.bytesLess x y = true → Op.bytesLess y z = true → Op.bytesLess x z = true
  | _, [], _, h, _ => by simp [Op.bytesLess] at h
  | _, _ :: _, [], _, h => by simp [Op.bytesLess] at h
  | [], _ :: _, _ :: _, _, _ => by simp [Op.bytesLess]
  | a :: x, b :: y, c :: z, h1, h2 => by
    simp only [Op.bytesLess, Bool.or_eq_true, Bool.and_eq_true, decide_eq_true_eq, beq_iff_eq] at h1 h2 ⊢
    rcases h1 with h1 | ⟨rfl, h1⟩
    · rcases h2 with h2 | ⟨rfl, h2⟩
      · exact .inl (UInt8.lt_trans h1 h2)
      · exact .inl h1
    · rcases h2 with h2 | ⟨rfl, h2⟩
      · exact .inl h2
      · exact .inr ⟨rfl, bl_trans h1 h2⟩
theorem bl_total : ∀ {x y : List UInt8}, Op.bytesLess x y = false → Op.bytesLess y x = false → x = y
  | [], [], _, _ => rfl
  | [], _ :: _, h, _ => by simp [Op.bytesLess] at h
  | _ :: _, [], _, h => by simp [Op.bytesLess] at h
  | a :: x, b :: y, h1, h2 => by
    simp only [Op.bytesLess, Bool.or_eq_false_iff, Bool.and_eq_false_iff, decide_eq_false_iff_not, beq_eq_false_iff_ne, ne_eq] at h1 h2
    have e : a = b := by
      have h3 := UInt8.not_lt.1 h1.1
      have h4 := UInt8.not_lt.1 h2.1
      exact UInt8.le_antisymm h4 h3
    subst e
    have h1 : Op.bytesLess x y = false := by rcases h1.2 with h | h; exact absurd rfl h; exact h
    have h2 : Op.bytesLess y x = false := by rcases h2.2 with h | h; exact absurd rfl h; exact h
    rw [bl_total h1 h2]
theorem bl_asymm {x y : List UInt8} (h : Op.bytesLess x y = true) : Op.bytesLess y x = false := by
  cases e : Op.bytesLess y x with
  | false => rfl
  | true => have := bl_trans h e; rw [bl_irrefl] at this; cases this
theorem bl_ne {x y : List UInt8} (h : Op.bytesLess x y = true) : x ≠ y := by rintro rfl; rw [bl_irrefl] at h; cases h
theorem bl_flip {x y : List UInt8} (h1 : Op.bytesLess x y = false) (h2 : x ≠ y) : Op.bytesLess y x = true := by
  cases e : Op.bytesLess y x with
  | true => rfl
  | false => exact absurd (bl_total h1 e) h2
end Go.Fn
namespace Go.Fn
open Go.Ab
theorem sorted_eq {α : Type} {lt : α → α → Bool} (ha : ∀ x y, lt x y = true → lt y x = false) : ∀ {zs ys : List α}, ys.Perm zs → zs.Pairwise (fun a b => lt a b = true) → ys.Pairwise (fun a b => lt b a = false) → ys = zs
  | [], ys, hp, _, _ => by simpa using hp.length_eq
  | z :: zs, [], hp, _, _ => by simpa using hp.length_eq
  | z :: zs, y :: ys, hp, hz, hy => by
    rw [List.pairwise_cons] at hz hy
    have hym : y ∈ z :: zs := hp.mem_iff.1 List.mem_cons_self
    have hzm : z ∈ y :: ys := hp.mem_iff.2 List.mem_cons_self
    have e : y = z := by
      rcases List.mem_cons.1 hym with h | h
      · exact h
      · rcases List.mem_cons.1 hzm with h' | h'
        · exact h'.symm
        · have h1 := hz.1 y h
          have h2 := hy.1 z h'
          rw [h1] at h2; cases h2
    subst e
    rw [sorted_eq ha (List.Perm.cons_inv hp) hz.2 hy.2]
end Go.Fn
namespace Go.Fn
open Go.Ab
def ltN (a b : Slot) : Bool := Op.bytesLess a.1 b.1
def SortedN (l : List Slot) : Prop := l.Pairwise (fun a b => ltN a b = true)
def put (s : Slot) : List Slot → List Slot
  | [] => [s]
  | y :: r => if Op.bytesLess y.1 s.1 = true then y :: put s r else if y.1 = s.1 then s :: r else s :: y :: r
theorem put_mem {s x : Slot} : ∀ {l : List Slot}, x ∈ put s l → x = s ∨ x ∈ l
  | [], h => by simp [put] at h; exact .inl h
  | y :: r, h => by
    unfold put at h
    split at h
    · rcases List.mem_cons.1 h with rfl | h
      · exact .inr List.mem_cons_self
      · rcases put_mem h with h | h
        · exact .inl h
        · exact .inr (List.mem_cons_of_mem _ h)
    · split at h
      · rcases List.mem_cons.1 h with h | h
        · exact .inl h
        · exact .inr (List.mem_cons_of_mem _ h)
      · rcases List.mem_cons.1 h with h | h
        · exact .inl h
        · exact .inr h
theorem put_sorted {s : Slot} : ∀ {l : List Slot}, SortedN l → SortedN (put s l)
  | [], _ => by unfold SortedN put; simp
  | y :: r, h => by
    unfold SortedN at h
    rw [List.pairwise_cons] at h
    unfold put
    split
    · rename_i hlt
      refine List.pairwise_cons.2 ⟨fun x hx => ?_, put_sorted h.2⟩
      rcases put_mem hx with rfl | hx
      · exact hlt
      · exact h.1 x hx
    · rename_i hlt
      split
      · rename_i he
        refine List.pairwise_cons.2 ⟨fun x hx => ?_, h.2⟩
        have := h.1 x hx
        unfold ltN at this ⊢
        rw [← he]; exact this
      · rename_i he
        have h3 : Op.bytesLess s.1 y.1 = true := bl_flip (by simpa using hlt) he
        refine List.pairwise_cons.2 ⟨fun x hx => ?_, List.pairwise_cons.2 h⟩
        rcases List.mem_cons.1 hx with rfl | hx
        · exact h3
        · exact bl_trans h3 (h.1 x hx)
theorem drop_cons (n : List UInt8) (y : Slot) (r : List Slot) : drop n (y :: r) = if y.1 = n then drop n r else y :: drop n r := by
  unfold drop nameIs
  rw [List.filter_cons]
  by_cases h : y.1 = n
  · simp [h]
  · simp [h]
theorem drop_all {n : List UInt8} {l : List Slot} (h : ∀ x ∈ l, x.1 ≠ n) : drop n l = l := by
  unfold drop
  rw [List.filter_eq_self]
  intro x hx
  simp [nameIs, h x hx]
theorem put_perm {s : Slot} : ∀ {l : List Slot}, SortedN l → (put s l).Perm (drop s.1 l ++ [s])
  | [], _ => by unfold put drop; simp
  | y :: r, h => by
    unfold SortedN at h
    rw [List.pairwise_cons] at h
    unfold put
    rw [drop_cons]
    split
    · rename_i hlt
      rw [if_neg (bl_ne hlt)]
      exact List.Perm.cons _ (put_perm h.2)
    · rename_i hlt
      split
      · rename_i he
        rw [drop_all (l := r) (fun x hx e => by
          have := h.1 x hx
          unfold ltN at this
          exact bl_ne this (he.trans e.symm))]
        exact List.perm_append_comm (l₁ := [s])
      · rename_i he
        have h3 : Op.bytesLess s.1 y.1 = true := bl_flip (by simpa using hlt) he
        rw [drop_all (l := r) (fun x hx e => by
          have := bl_trans h3 (h.1 x hx)
          exact bl_ne this e.symm)]
        exact List.perm_append_comm (l₁ := [s])
theorem ltN_asymm (x y : Slot) (h : ltN x y = true) : ltN y x = false := bl_asymm h
theorem sort_put {s : Slot} {l ys : List Slot} (hl : SortedN l) (hp : ys.Perm (drop s.1 l ++ [s])) (hs : ys.Pairwise (fun a b => ltN b a = false)) : ys = put s l :=
  sorted_eq ltN_asymm (hp.trans (put_perm hl).symm) (put_sorted hl) hs
theorem put_len (s : Slot) : ∀ l : List Slot, (put s l).length ≤ l.length + 1
  | [] => by simp [put]
  | y :: r => by
    unfold put
    split
    · have := put_len s r; simp; omega
    · split <;> simp
theorem sorted_drop {n : List UInt8} {l : List Slot} (h : SortedN l) : SortedN (drop n l) := List.Pairwise.filter _ h
theorem slots_sorted {ino : List Inode} {l : List Slot} (h : slotsOK ino l = true) : SortedN l := by
  unfold slotsOK at h
  rw [allI_iff] at h
  have hstep : ∀ (k : Nat) (x y : Slot), l[k]? = some x → l[k + 1]? = some y → ltN x y = true := fun k x y hx hy => by
    have := h (k + 1) y hy
    simp only [Nat.zero_add, badSlot, Bool.not_eq_true', Bool.or_eq_false_iff, Bool.and_eq_false_iff, decide_eq_false_iff_not] at this
    have h2 := this.1.2
    rcases h2 with h2 | h2
    · exact absurd (by simp only [Int.ofNat_eq_natCast]; omega) h2
    · unfold prevSlot at h2
      have e : nthI l (Int.ofNat (k + 1) - 1) = some x := by
        have : (Int.ofNat (k + 1) - 1).toNat = k := by simp only [Int.ofNat_eq_natCast]; omega
        unfold nthI; rw [this]; exact hx
      rw [e] at h2
      simp only [leS, Bool.or_eq_false_iff, beq_eq_false_iff_ne] at h2
      exact bl_flip h2.1 h2.2
  have hall : ∀ (n k : Nat) (x y : Slot), l[k]? = some x → l[k + 1 + n]? = some y → ltN x y = true := by
    intro n
    induction n with
    | zero => intro k x y hx hy; exact hstep k x y hx hy
    | succ n ih =>
      intro k x y hx hy
      have hlt : k + 1 + n < l.length := by
        have := (List.getElem?_eq_some_iff.1 hy).1; omega
      have hz := List.getElem?_eq_getElem hlt
      exact bl_trans (ih k x _ hx hz) (hstep (k + 1 + n) _ y hz hy)
  unfold SortedN
  rw [List.pairwise_iff_getElem]
  intro i j hi hj hij
  exact hall (j - i - 1) i _ _ (List.getElem?_eq_getElem hi) (by rw [show i + 1 + (j - i - 1) = j by omega]; exact List.getElem?_eq_getElem hj)
end Go.Fn
namespace Go.Fn
open Go.Ab
def LeadAt (s : Slot) (l : List Slot) (k : Nat) : Prop := k ≤ l.length ∧ ∀ (j : Nat) (y : Slot), j < k → l[j]? = some y → Op.bytesLess y.1 s.1 = true
theorem put_lead {s : Slot} : ∀ {k : Nat} {l : List Slot}, LeadAt s l k → put s l = l.take k ++ put s (l.drop k)
  | 0, l, _ => by simp
  | k + 1, [], h => by have := h.1; simp at this
  | k + 1, y :: r, h => by
    have hy : Op.bytesLess y.1 s.1 = true := h.2 0 y (Nat.succ_pos _) rfl
    have h' : LeadAt s r k := ⟨by have := h.1; simp at this; omega, fun j z hj hz => h.2 (j + 1) z (by omega) (by simpa using hz)⟩
    show put s (y :: r) = y :: (r.take k) ++ put s (r.drop k)
    rw [put, if_pos hy, put_lead h']; rfl
theorem put_end {s : Slot} {l : List Slot} {k : Nat} (h : LeadAt s l k) (he : ¬ k < l.length) : l.take k ++ [s] ++ l.drop k = put s l := by
  rw [put_lead h, List.drop_eq_nil_of_le (by omega)]; simp [put]
theorem put_same {s y : Slot} {l : List Slot} {k : Nat} (h : LeadAt s l k) (hy : l[k]? = some y) (hn : ¬ Op.bytesLess y.1 s.1 = true) (he : y.1 = s.1) : l.take k ++ [s] ++ l.drop (k + 1) = put s l := by
  rw [put_lead h, drop_at hy, put, if_neg hn, if_pos he]; simp
theorem put_more {s y : Slot} {l : List Slot} {k : Nat} (h : LeadAt s l k) (hy : l[k]? = some y) (hn : ¬ Op.bytesLess y.1 s.1 = true) (he : ¬ y.1 = s.1) : l.take k ++ [s] ++ l.drop k = put s l := by
  rw [put_lead h]
  conv => rhs; rw [drop_at hy, put, if_neg hn, if_neg he]
  rw [drop_at hy]; simp
theorem lead_step {s y : Slot} {l : List Slot} {k : Nat} (h : LeadAt s l k) (hy : l[k]? = some y) (hn : Op.bytesLess y.1 s.1 = true) : LeadAt s l (k + 1) := by
  have hk := (List.getElem?_eq_some_iff.1 hy).1
  refine ⟨hk, fun j z hj hz => ?_⟩
  rcases Nat.lt_or_ge j k with h1 | h1
  · exact h.2 j z h1 hz
  · obtain rfl : j = k := by omega
    rw [hy] at hz; cases hz; exact hn
theorem sub_take {α : Type} (l : List α) (k : Nat) : subL l 0 (tN (Int.ofNat k)) = l.take k := by unfold subL tN; simp
theorem sub_drop {α : Type} (l : List α) (k : Nat) : subL l (tN (Int.ofNat k)) l.length = l.drop k := by unfold subL tN; simp
theorem lead0 (s : Slot) (l : List Slot) : LeadAt s l 0 := ⟨Nat.zero_le _, fun j y hj => absurd hj (Nat.not_lt_zero _)⟩
theorem put_fit {s : Slot} {l : List Slot} (hl : l.length ≤ 1000000) (k j : Nat) : fits ((subL l 0 (tN (Int.ofNat k))).length + [s].length) ∧ fits ((subL l 0 (tN (Int.ofNat k)) ++ [s]).length + (subL l (tN (Int.ofNat j)) l.length).length) := by
  rw [sub_take, sub_drop]
  unfold fits
  simp only [List.length_take, List.length_append, List.length_drop, List.length_cons, List.length_nil]
  omega
theorem bound_lo {k n : Nat} (h : k ≤ n) : boundLo (Int.ofNat k) n := ⟨Int.natCast_nonneg _, Int.ofNat_le.2 h⟩
end Go.Fn
namespace Go.Fn
open Go.Ab
def shortWT (n t : List UInt8) : Bool := short n && short t
def fullD (d : Disk) (n : List UInt8) : Bool := decide (slotAt d.2.1 n < 0) && decide ((d.2.1.length : Int) = 24) || decide (d.2.2.2.1 = 1000000)
def writeC (d : Disk) (n t : List UInt8) : Int := if shortWT n t = false then 2 else if diskOK d = false then 1 else if nameOK n = false then 10 else if iOf t.length > 4096 then 8 else if fullD d n = true then 7 else 0
def wroteD (d : Disk) (n t : List UInt8) : Disk := tidy (d.1 ++ [(d.2.2.2.1, t, false, ())], put (n, d.2.2.2.1, ()) d.2.1, d.2.2.1, d.2.2.2.1 + 1, ())
def writeD (d : Disk) (n t : List UInt8) : Disk := if writeC d n t = 0 then wroteD d n t else if writeC d n t = 2 then zeroDisk else if writeC d n t = 1 then zeroDisk else d
def renameC (d : Disk) (f t : List UInt8) : Int := if shortWT f t = false then 2 else if diskOK d = false then 1 else if nameOK t = false then 10 else if readB d f = false then 5 else 0
def renamedD (d : Disk) (f t : List UInt8) : Disk := tidy (d.1, put (t, slotId d.2.1 f, ()) (drop f d.2.1), d.2.2.1, d.2.2.2.1, ())
def renameD (d : Disk) (f t : List UInt8) : Disk := if renameC d f t = 0 then renamedD d f t else if renameC d f t = 2 then zeroDisk else if renameC d f t = 1 then zeroDisk else d
theorem w_code {d : Disk} {n t : List UInt8} {c : Int} (h : writeC d n t = c) (h0 : c ≠ 0) (h1 : c ≠ 1) (h2 : c ≠ 2) : d = writeD d n t ∧ c = writeC d n t := by
  unfold writeD
  rw [h, if_neg h0, if_neg h2, if_neg h1]
  exact ⟨rfl, rfl⟩
theorem w_two {d : Disk} {n t : List UInt8} (hs : shortWT n t = false) : zeroDisk = writeD d n t ∧ 2 = writeC d n t := by
  have h : writeC d n t = 2 := by unfold writeC; rw [if_pos hs]
  unfold writeD
  rw [h]; exact ⟨rfl, rfl⟩
theorem w_one {d : Disk} {n t : List UInt8} (hs : shortWT n t = true) (hd : diskOK d = false) : zeroDisk = writeD d n t ∧ 1 = writeC d n t := by
  have h : writeC d n t = 1 := by unfold writeC; rw [if_neg (by rw [hs]; exact fun e => Bool.noConfusion e), if_pos hd]
  unfold writeD
  rw [h]; exact ⟨rfl, rfl⟩
theorem w_c {d : Disk} {n t : List UInt8} (hs : shortWT n t = true) (hd : diskOK d = true) : writeC d n t = if nameOK n = false then 10 else if iOf t.length > 4096 then 8 else if fullD d n = true then 7 else 0 := by
  unfold writeC
  rw [if_neg (by rw [hs]; exact fun e => Bool.noConfusion e), if_neg (by rw [hd]; exact fun e => Bool.noConfusion e)]
theorem w_ten {d : Disk} {n t : List UInt8} (hs : shortWT n t = true) (hd : diskOK d = true) (hw : nameOK n = false) : d = writeD d n t ∧ 10 = writeC d n t :=
  w_code (by rw [w_c hs hd, if_pos hw]) (by decide) (by decide) (by decide)
theorem w_eight {d : Disk} {n t : List UInt8} (hs : shortWT n t = true) (hd : diskOK d = true) (hw : nameOK n = true) (hl : iOf t.length > 4096) : d = writeD d n t ∧ 8 = writeC d n t :=
  w_code (by rw [w_c hs hd, if_neg (by rw [hw]; exact fun e => Bool.noConfusion e), if_pos hl]) (by decide) (by decide) (by decide)
theorem w_seven {d : Disk} {n t : List UInt8} (hs : shortWT n t = true) (hd : diskOK d = true) (hw : nameOK n = true) (hl : ¬ iOf t.length > 4096) (hf : fullD d n = true) : d = writeD d n t ∧ 7 = writeC d n t :=
  w_code (by rw [w_c hs hd, if_neg (by rw [hw]; exact fun e => Bool.noConfusion e), if_neg hl, if_pos hf]) (by decide) (by decide) (by decide)
theorem w_ok {d : Disk} {n t : List UInt8} (hs : shortWT n t = true) (hd : diskOK d = true) (hw : nameOK n = true) (hl : ¬ iOf t.length > 4096) (hf : fullD d n = false) : wroteD d n t = writeD d n t ∧ 0 = writeC d n t := by
  have h : writeC d n t = 0 := by rw [w_c hs hd, if_neg (by rw [hw]; exact fun e => Bool.noConfusion e), if_neg hl, if_neg (by rw [hf]; exact fun e => Bool.noConfusion e)]
  unfold writeD
  rw [h]; exact ⟨rfl, rfl⟩
theorem sh_wt {n t : List UInt8} (h1 : ¬ iOf n.length > 65536) (h2 : ¬ iOf t.length > 65536) : shortWT n t = true := by
  unfold shortWT short iOf at *
  rw [decide_eq_true (by omega), decide_eq_true (by omega)]; rfl
theorem sh_n {n t : List UInt8} (h1 : iOf n.length > 65536) : shortWT n t = false := by
  unfold shortWT short iOf at *
  rw [decide_eq_false (p := n.length ≤ 65536) (by omega)]; rfl
theorem sh_t {n t : List UInt8} (h1 : iOf t.length > 65536) : shortWT n t = false := by
  unfold shortWT short iOf at *
  rw [decide_eq_false (p := t.length ≤ 65536) (by omega), Bool.and_false]
theorem disk_next {d : Disk} (h : diskOK d = true) : 1 ≤ d.2.2.2.1 ∧ d.2.2.2.1 ≤ 1000000 := by
  unfold diskOK at h
  simp only [Bool.and_eq_true] at h
  have h1 := h.1.1
  unfold badHead within at h1
  simp only [Bool.not_eq_true', Bool.or_eq_false_iff, Bool.not_eq_false', Bool.and_eq_true, decide_eq_true_eq] at h1
  omega
theorem full_a {b : List Slot} {a : List Inode} {c : List Slot} {d : Int} {n : List UInt8} (h1 : slotAt b n < 0) (h2 : iOf b.length = 24) : fullD (a, b, c, d, ()) n = true := by
  unfold fullD iOf at *
  rw [decide_eq_true (p := slotAt b n < 0) h1, decide_eq_true (p := (b.length : Int) = 24) h2]; rfl
theorem full_b {b : List Slot} {a : List Inode} {c : List Slot} {d : Int} {n : List UInt8} (h : d = 1000000) : fullD (a, b, c, d, ()) n = true := by
  unfold fullD
  rw [decide_eq_true (p := d = 1000000) h, Bool.or_true]
theorem full_no {b : List Slot} {a : List Inode} {c : List Slot} {d : Int} {n : List UInt8} (h : ¬ d = 1000000) (h2 : ¬ slotAt b n < 0 ∨ ¬ iOf b.length = 24) : fullD (a, b, c, d, ()) n = false := by
  unfold fullD iOf at *
  rw [decide_eq_false (p := d = 1000000) h, Bool.or_false]
  rcases h2 with h2 | h2
  · rw [decide_eq_false (p := slotAt b n < 0) h2]; rfl
  · rw [decide_eq_false (p := (b.length : Int) = 24) h2, Bool.and_false]
theorem r_code {d : Disk} {f t : List UInt8} {c : Int} (h : renameC d f t = c) (h0 : c ≠ 0) (h1 : c ≠ 1) (h2 : c ≠ 2) : d = renameD d f t ∧ c = renameC d f t := by
  unfold renameD
  rw [h, if_neg h0, if_neg h2, if_neg h1]
  exact ⟨rfl, rfl⟩
theorem r_two {d : Disk} {f t : List UInt8} (hs : shortWT f t = false) : zeroDisk = renameD d f t ∧ 2 = renameC d f t := by
  have h : renameC d f t = 2 := by unfold renameC; rw [if_pos hs]
  unfold renameD
  rw [h]; exact ⟨rfl, rfl⟩
theorem r_one {d : Disk} {f t : List UInt8} (hs : shortWT f t = true) (hd : diskOK d = false) : zeroDisk = renameD d f t ∧ 1 = renameC d f t := by
  have h : renameC d f t = 1 := by unfold renameC; rw [if_neg (by rw [hs]; exact fun e => Bool.noConfusion e), if_pos hd]
  unfold renameD
  rw [h]; exact ⟨rfl, rfl⟩
theorem r_c {d : Disk} {f t : List UInt8} (hs : shortWT f t = true) (hd : diskOK d = true) : renameC d f t = if nameOK t = false then 10 else if readB d f = false then 5 else 0 := by
  unfold renameC
  rw [if_neg (by rw [hs]; exact fun e => Bool.noConfusion e), if_neg (by rw [hd]; exact fun e => Bool.noConfusion e)]
theorem r_ten {d : Disk} {f t : List UInt8} (hs : shortWT f t = true) (hd : diskOK d = true) (hw : nameOK t = false) : d = renameD d f t ∧ 10 = renameC d f t :=
  r_code (by rw [r_c hs hd, if_pos hw]) (by decide) (by decide) (by decide)
theorem r_five {d : Disk} {f t : List UInt8} (hs : shortWT f t = true) (hd : diskOK d = true) (hw : nameOK t = true) (hr : readB d f = false) : d = renameD d f t ∧ 5 = renameC d f t :=
  r_code (by rw [r_c hs hd, if_neg (by rw [hw]; exact fun e => Bool.noConfusion e), if_pos hr]) (by decide) (by decide) (by decide)
theorem r_ok {d : Disk} {f t : List UInt8} (hs : shortWT f t = true) (hd : diskOK d = true) (hw : nameOK t = true) (hr : readB d f = true) : renamedD d f t = renameD d f t ∧ 0 = renameC d f t := by
  have h : renameC d f t = 0 := by rw [r_c hs hd, if_neg (by rw [hw]; exact fun e => Bool.noConfusion e), if_neg (by rw [hr]; exact fun e => Bool.noConfusion e)]
  unfold renameD
  rw [h]; exact ⟨rfl, rfl⟩
theorem drop_24 {b : List Slot} {n : List UInt8} (hb : b.length ≤ 24) : decide (iOf (drop n b).length = 24) = (decide (slotAt b n < 0) && decide (iOf b.length = 24)) := by
  by_cases h : slotAt b n < 0
  · rw [decide_eq_true h, Bool.true_and]
    have : ∀ x ∈ b, nameIs n x = false := by
      unfold slotAt idx at h
      split at h
      · exact absurd (Int.natCast_nonneg _) (Int.not_le.2 h)
      · rename_i hf
        exact fun x hx => List.findIdx?_eq_none_iff.1 hf x hx
    have e : drop n b = b := by
      unfold drop
      rw [List.filter_eq_self]
      intro x hx
      rw [this x hx]; rfl
    rw [e]
  · rw [decide_eq_false h, Bool.false_and]
    obtain ⟨k, x, e, hx, hp, _⟩ := idx_some (p := nameIs n) (xs := b) (fun e => h (by unfold slotAt; rw [e]; decide))
    have hlt : (drop n b).length < b.length := by
      unfold drop
      refine List.length_filter_lt_length_iff_exists.2 ⟨x, List.mem_of_getElem? hx, ?_⟩
      rw [hp]; simp
    exact decide_eq_false (by unfold iOf; omega)
theorem small_tidyL {a : List Inode} {b c : List Slot} {d : Int} (ha : a.length ≤ 2000000) (hb : b.length ≤ 2000000) (hc : c.length ≤ 2000000) : smallD (tidy (a, b, c, d, ())) := ⟨Nat.le_trans (List.length_filter_le _ _) ha, hb, hc⟩
theorem small_write {d : Disk} {n t : List UInt8} (h : smallD d) : smallD (writeD d n t) := by
  unfold writeD
  split
  · rename_i hc
    have hd : diskOK d = true := by
      unfold writeC at hc
      cases e : diskOK d with
      | true => rfl
      | false =>
        rw [e] at hc
        split at hc
        · cases hc
        · rw [if_pos rfl] at hc; cases hc
    have hl := disk_short hd
    obtain ⟨a, b, c, e, ⟨⟩⟩ := d
    have h1 : a.length ≤ 48 := hl.1
    have h2 : b.length ≤ 24 := hl.2.1
    have h3 : c.length ≤ 24 := hl.2.2
    have h4 := put_len (n, e, ()) b
    exact small_tidyL (by rw [List.length_append, List.length_cons, List.length_nil]; omega) (by show (put (n, e, ()) b).length ≤ _; omega) (by omega)
  · split
    · exact small_zero
    · split
      · exact small_zero
      · exact h
theorem small_rename {d : Disk} {f t : List UInt8} (h : smallD d) : smallD (renameD d f t) := by
  unfold renameD
  split
  · rename_i hc
    have hd : diskOK d = true := by
      unfold renameC at hc
      cases e : diskOK d with
      | true => rfl
      | false =>
        rw [e] at hc
        split at hc
        · cases hc
        · rw [if_pos rfl] at hc; cases hc
    have hl := disk_short hd
    obtain ⟨a, b, c, e, ⟨⟩⟩ := d
    have h1 : a.length ≤ 48 := hl.1
    have h2 : b.length ≤ 24 := hl.2.1
    have h3 : c.length ≤ 24 := hl.2.2
    have h4 := put_len (t, slotId b f, ()) (drop f b)
    have h5 : (drop f b).length ≤ b.length := List.length_filter_le _ _
    exact small_tidyL (by omega) (by show (put (t, slotId b f, ()) (drop f b)).length ≤ _; omega) (by omega)
  · split
    · exact small_zero
    · split
      · exact small_zero
      · exact h
theorem first3 (p q r : Bool) (a b c : Int) : first [.b p, .n a, .b q, .n b, .b r, .n c] = if p then a else if q then b else if r then c else 0 := rfl
def fullT (b : List Slot) (n : List UInt8) (d : Int) : Bool := decide (iOf (drop n b).length = 24) || decide (d = 1000000)
theorem full_t1 {b : List Slot} {n : List UInt8} {d : Int} (h : ¬ iOf (drop n b).length = 24) : (d == 1000000) = fullT b n d := by
  unfold fullT
  rw [decide_eq_false h, Bool.false_or, eqI_dec]
theorem full_t2 {b : List Slot} {n : List UInt8} {d : Int} (h : iOf (drop n b).length = 24) : true = fullT b n d := by
  unfold fullT
  rw [decide_eq_true h]; rfl
theorem full_eq {b : List Slot} {a : List Inode} {c : List Slot} {d : Int} {n : List UInt8} (h : diskOK (a, b, c, d, ()) = true) : fullT b n d = fullD (a, b, c, d, ()) n := by
  have h2 : b.length ≤ 24 := (disk_short h).2.1
  unfold fullT fullD
  rw [drop_24 h2]; rfl
theorem w_first {a : List Inode} {b c : List Slot} {d : Int} {n t : List UInt8} (hs : shortWT n t = true) (hd : diskOK (a, b, c, d, ()) = true) : first [.b (!(nameOK n)), .n 10, .b (decide (iOf t.length > 4096)), .n 8, .b (fullT b n d), .n 7] = writeC (a, b, c, d, ()) n t := by
  rw [first3, w_c hs hd, full_eq hd]
  cases nameOK n with
  | false => rfl
  | true =>
    by_cases h : iOf t.length > 4096
    · rw [decide_eq_true h, if_pos h]; rfl
    · rw [decide_eq_false h, if_neg h]
      cases fullD (a, b, c, d, ()) n <;> rfl
theorem w_no {d : Disk} {n t : List UInt8} (hs : shortWT n t = true) (hd : diskOK d = true) (h : ¬ writeC d n t = 0) : d = writeD d n t := by
  refine (w_code (c := writeC d n t) rfl h (fun e => ?_) fun e => ?_).1
  · rw [w_c hs hd] at e
    split at e
    · cases e
    · split at e
      · cases e
      · split at e <;> cases e
  · rw [w_c hs hd] at e
    split at e
    · cases e
    · split at e
      · cases e
      · split at e <;> cases e
theorem w_yes {d : Disk} {n t : List UInt8} (h : writeC d n t = 0) : wroteD d n t = writeD d n t := by unfold writeD; rw [if_pos h]
theorem w_two' {d : Disk} {n t : List UInt8} (h : ¬ first [.b (!(short n && short t)), .n 2, .b (!(diskOK d)), .n 1] = 0) : zeroDisk = writeD d n t ∧ first [.b (!(short n && short t)), .n 2, .b (!(diskOK d)), .n 1] = writeC d n t := by
  rw [first2] at h ⊢
  cases hs : short n && short t with
  | false => exact w_two hs
  | true =>
    rw [hs] at h
    cases hd : diskOK d with
    | false => exact w_one hs hd
    | true => rw [hd] at h; exact absurd rfl h
theorem w_good {d : Disk} {n t : List UInt8} (h : first [.b (!(short n && short t)), .n 2, .b (!(diskOK d)), .n 1] = 0) : shortWT n t = true ∧ diskOK d = true := by
  rw [first2] at h
  unfold shortWT
  cases hs : short n && short t with
  | false => rw [hs] at h; cases h
  | true =>
    rw [hs] at h
    cases hd : diskOK d with
    | false => rw [hd] at h; cases h
    | true => exact ⟨rfl, rfl⟩
theorem r_two' {d : Disk} {n t : List UInt8} (h : ¬ first [.b (!(short n && short t)), .n 2, .b (!(diskOK d)), .n 1] = 0) : zeroDisk = renameD d n t ∧ first [.b (!(short n && short t)), .n 2, .b (!(diskOK d)), .n 1] = renameC d n t := by
  rw [first2] at h ⊢
  cases hs : short n && short t with
  | false => exact r_two hs
  | true =>
    rw [hs] at h
    cases hd : diskOK d with
    | false => exact r_one hs hd
    | true => rw [hd] at h; exact absurd rfl h
theorem r_first {a : List Inode} {b c : List Slot} {d : Int} {f t : List UInt8} (hs : shortWT f t = true) (hd : diskOK (a, b, c, d, ()) = true) : first [.b (!(nameOK t)), .n 10, .b (decide (slotAt b f < 0)), .n 5] = renameC (a, b, c, d, ()) f t := by
  rw [first2, r_c hs hd]
  cases nameOK t with
  | false => rfl
  | true =>
    by_cases h : slotAt b f < 0
    · have e : readB (a, b, c, d, ()) f = false := by unfold readB; exact decide_eq_false (fun hn => hn h)
      rw [decide_eq_true h, e]; rfl
    · have e : readB (a, b, c, d, ()) f = true := by unfold readB; exact decide_eq_true h
      rw [decide_eq_false h, e]; rfl
theorem r_no {d : Disk} {f t : List UInt8} (hs : shortWT f t = true) (hd : diskOK d = true) (h : ¬ renameC d f t = 0) : d = renameD d f t := by
  refine (r_code (c := renameC d f t) rfl h (fun e => ?_) fun e => ?_).1
  · rw [r_c hs hd] at e
    split at e
    · cases e
    · split at e <;> cases e
  · rw [r_c hs hd] at e
    split at e
    · cases e
    · split at e <;> cases e
theorem r_yes {d : Disk} {f t : List UInt8} (h : renameC d f t = 0) : renamedD d f t = renameD d f t := by unfold renameD; rw [if_pos h]
end Go.Fn
namespace Go.Proofs.Ytolminmmnckpkaa
open Go.Ab Go.Fn
def s_put : FSpec := { ps := [.v (.slice tSlot), .v tSlot], rs := [.o (.slice tSlot)], pre := fun x => List.length (α := Fn.Slot) x.1 ≤ 1000000, fn := fun x => (Fn.put x.2.1 x.1, ()), upd := fun _ => () }
def L_put (l : List Fn.Slot) (s : Fn.Slot) : LoopAnn := { ι := Nat, inv := fun k => Fn.LeadAt s l k, slots := fun k => [(5, .d I (Int.ofNat k))], objs := fun _ => [], μ := fun k => l.length - k }
theorem fo_l11Put : FO 56 s_put := by
  refine fo (specs := []) (clos := []) (fun x => [(2, .lv [0, 3, 5] <| fun _ => L_put x.1 x.2.1)]) trivial trivial Try.func56 rfl rfl ?_
  rintro ⟨l, ⟨n, i, ⟨⟩⟩, ⟨⟩⟩ hl
  refine vcOf ((∃ (i_1 : Nat), LeadAt (n, i, ()) l i_1 ∧ (l = l ∧ (nat_lit 0 = nat_lit 0 ∧ (0 : Nat) = (0 : Nat)) ∧ (0 : Int) = Int.ofNat i_1 ∧ True) ∧ ((n = n ∧ i = i ∧ True) ∧ (([] : List (List UInt8 × Int × Unit)) = ([] : List (List UInt8 × Int × Unit)) ∧ false = false) ∧ True) ∧ True) ∧ ∀ (i_1 : Nat), LeadAt (n, i, ()) l i_1 → fits (lenL l) → (decide (Int.ofNat i_1 < iOf (lenL l)) = true → bnd (Int.ofNat i_1) (lenL l) ∧ ∀ (x : List UInt8 × Int × Unit), nthI l (Int.ofNat i_1) = some x → nat_lit 1 ≤ Nat.succ (nat_lit 1) ∧ nat_lit 1 ≤ Nat.succ (nat_lit 1) ∧ (Op.bytesLess x.fst n = true → ∃ (j : Nat), LeadAt (n, i, ()) l j ∧ (List.length l).sub j < (List.length l).sub i_1 ∧ (l = l ∧ (nat_lit 0 = nat_lit 0 ∧ (0 : Nat) = (0 : Nat)) ∧ wAdd IntKind.i64 (Int.ofNat i_1) (1 : Int) = Int.ofNat j ∧ True) ∧ ((n = n ∧ i = i ∧ True) ∧ (([] : List (List UInt8 × Int × Unit)) = ([] : List (List UInt8 × Int × Unit)) ∧ false = false) ∧ True) ∧ True) ∧ (Op.bytesLess x.fst n = false → boundLo (Int.ofNat i_1) (lenL l) ∧ (fits (lenL l) → (decide (Int.ofNat i_1 < iOf (lenL l)) = true → bnd (Int.ofNat i_1) (lenL l) ∧ ∀ (x : List UInt8 × Int × Unit), nthI l (Int.ofNat i_1) = some x → nat_lit 1 ≤ Nat.succ (nat_lit 1) ∧ nat_lit 1 ≤ Nat.succ (nat_lit 1) ∧ ((x.fst == n) = true → boundLo (wAdd IntKind.i64 (Int.ofNat i_1) (1 : Int)) (lenL l) ∧ boundLo (Int.ofNat i_1) (lenL l) ∧ nat_lit 2 ≤ Nat.succ (nat_lit 1) ∧ ((fits (lenL (subL l (0 : Nat) (tN (Int.ofNat i_1)))) → fits (lenL (subL l (0 : Nat) (tN (Int.ofNat i_1))) + lenL ((n, i, ()) :: ([] : List (List UInt8 × Int × Unit)))) ∧ fits (lenL (subL l (0 : Nat) (tN (Int.ofNat i_1)) ++ (n, i, ()) :: ([] : List (List UInt8 × Int × Unit))) + lenL (subL l (tN (wAdd IntKind.i64 (Int.ofNat i_1) (1 : Int))) (lenL l))) ∧ (subL l (0 : Nat) (tN (Int.ofNat i_1)) ++ (n, i, ()) :: ([] : List (List UInt8 × Int × Unit)) ++ subL l (tN (wAdd IntKind.i64 (Int.ofNat i_1) (1 : Int))) (lenL l), ()) = (put (n, i, ()) l, ()) ∧ () = ()) ∧ (fits (lenL (subL l (0 : Nat) (tN (Int.ofNat i_1)))) → fits (lenL (subL l (0 : Nat) (tN (Int.ofNat i_1))) + lenL ((n, i, ()) :: ([] : List (List UInt8 × Int × Unit)))) ∧ fits (lenL (subL l (0 : Nat) (tN (Int.ofNat i_1)) ++ (n, i, ()) :: ([] : List (List UInt8 × Int × Unit))) + lenL (subL l (tN (wAdd IntKind.i64 (Int.ofNat i_1) (1 : Int))) (lenL l))) ∧ (subL l (0 : Nat) (tN (Int.ofNat i_1)) ++ (n, i, ()) :: ([] : List (List UInt8 × Int × Unit)) ++ subL l (tN (wAdd IntKind.i64 (Int.ofNat i_1) (1 : Int))) (lenL l), ()) = (put (n, i, ()) l, ()) ∧ () = ())) ∧ (fits (lenL (subL l (0 : Nat) (tN (Int.ofNat i_1)))) → fits (lenL (subL l (0 : Nat) (tN (Int.ofNat i_1))) + lenL ((n, i, ()) :: ([] : List (List UInt8 × Int × Unit)))) ∧ fits (lenL (subL l (0 : Nat) (tN (Int.ofNat i_1)) ++ (n, i, ()) :: ([] : List (List UInt8 × Int × Unit))) + lenL (subL l (tN (wAdd IntKind.i64 (Int.ofNat i_1) (1 : Int))) (lenL l))) ∧ (subL l (0 : Nat) (tN (Int.ofNat i_1)) ++ (n, i, ()) :: ([] : List (List UInt8 × Int × Unit)) ++ subL l (tN (wAdd IntKind.i64 (Int.ofNat i_1) (1 : Int))) (lenL l), ()) = (put (n, i, ()) l, ()) ∧ () = ())) ∧ ((x.fst == n) = false → boundLo (Int.ofNat i_1) (lenL l) ∧ nat_lit 2 ≤ Nat.succ (nat_lit 1) ∧ ((fits (lenL (subL l (0 : Nat) (tN (Int.ofNat i_1)))) → fits (lenL (subL l (0 : Nat) (tN (Int.ofNat i_1))) + lenL ((n, i, ()) :: ([] : List (List UInt8 × Int × Unit)))) ∧ fits (lenL (subL l (0 : Nat) (tN (Int.ofNat i_1)) ++ (n, i, ()) :: ([] : List (List UInt8 × Int × Unit))) + lenL (subL l (tN (Int.ofNat i_1)) (lenL l))) ∧ (subL l (0 : Nat) (tN (Int.ofNat i_1)) ++ (n, i, ()) :: ([] : List (List UInt8 × Int × Unit)) ++ subL l (tN (Int.ofNat i_1)) (lenL l), ()) = (put (n, i, ()) l, ()) ∧ () = ()) ∧ (fits (lenL (subL l (0 : Nat) (tN (Int.ofNat i_1)))) → fits (lenL (subL l (0 : Nat) (tN (Int.ofNat i_1))) + lenL ((n, i, ()) :: ([] : List (List UInt8 × Int × Unit)))) ∧ fits (lenL (subL l (0 : Nat) (tN (Int.ofNat i_1)) ++ (n, i, ()) :: ([] : List (List UInt8 × Int × Unit))) + lenL (subL l (tN (Int.ofNat i_1)) (lenL l))) ∧ (subL l (0 : Nat) (tN (Int.ofNat i_1)) ++ (n, i, ()) :: ([] : List (List UInt8 × Int × Unit)) ++ subL l (tN (Int.ofNat i_1)) (lenL l), ()) = (put (n, i, ()) l, ()) ∧ () = ())) ∧ (fits (lenL (subL l (0 : Nat) (tN (Int.ofNat i_1)))) → fits (lenL (subL l (0 : Nat) (tN (Int.ofNat i_1))) + lenL ((n, i, ()) :: ([] : List (List UInt8 × Int × Unit)))) ∧ fits (lenL (subL l (0 : Nat) (tN (Int.ofNat i_1)) ++ (n, i, ()) :: ([] : List (List UInt8 × Int × Unit))) + lenL (subL l (tN (Int.ofNat i_1)) (lenL l))) ∧ (subL l (0 : Nat) (tN (Int.ofNat i_1)) ++ (n, i, ()) :: ([] : List (List UInt8 × Int × Unit)) ++ subL l (tN (Int.ofNat i_1)) (lenL l), ()) = (put (n, i, ()) l, ()) ∧ () = ()))) ∧ (decide (Int.ofNat i_1 < iOf (lenL l)) = false → boundLo (Int.ofNat i_1) (lenL l) ∧ nat_lit 2 ≤ Nat.succ (nat_lit 1) ∧ ((fits (lenL (subL l (0 : Nat) (tN (Int.ofNat i_1)))) → fits (lenL (subL l (0 : Nat) (tN (Int.ofNat i_1))) + lenL ((n, i, ()) :: ([] : List (List UInt8 × Int × Unit)))) ∧ fits (lenL (subL l (0 : Nat) (tN (Int.ofNat i_1)) ++ (n, i, ()) :: ([] : List (List UInt8 × Int × Unit))) + lenL (subL l (tN (Int.ofNat i_1)) (lenL l))) ∧ (subL l (0 : Nat) (tN (Int.ofNat i_1)) ++ (n, i, ()) :: ([] : List (List UInt8 × Int × Unit)) ++ subL l (tN (Int.ofNat i_1)) (lenL l), ()) = (put (n, i, ()) l, ()) ∧ () = ()) ∧ (fits (lenL (subL l (0 : Nat) (tN (Int.ofNat i_1)))) → fits (lenL (subL l (0 : Nat) (tN (Int.ofNat i_1))) + lenL ((n, i, ()) :: ([] : List (List UInt8 × Int × Unit)))) ∧ fits (lenL (subL l (0 : Nat) (tN (Int.ofNat i_1)) ++ (n, i, ()) :: ([] : List (List UInt8 × Int × Unit))) + lenL (subL l (tN (Int.ofNat i_1)) (lenL l))) ∧ (subL l (0 : Nat) (tN (Int.ofNat i_1)) ++ (n, i, ()) :: ([] : List (List UInt8 × Int × Unit)) ++ subL l (tN (Int.ofNat i_1)) (lenL l), ()) = (put (n, i, ()) l, ()) ∧ () = ())) ∧ (fits (lenL (subL l (0 : Nat) (tN (Int.ofNat i_1)))) → fits (lenL (subL l (0 : Nat) (tN (Int.ofNat i_1))) + lenL ((n, i, ()) :: ([] : List (List UInt8 × Int × Unit)))) ∧ fits (lenL (subL l (0 : Nat) (tN (Int.ofNat i_1)) ++ (n, i, ()) :: ([] : List (List UInt8 × Int × Unit))) + lenL (subL l (tN (Int.ofNat i_1)) (lenL l))) ∧ (subL l (0 : Nat) (tN (Int.ofNat i_1)) ++ (n, i, ()) :: ([] : List (List UInt8 × Int × Unit)) ++ subL l (tN (Int.ofNat i_1)) (lenL l), ()) = (put (n, i, ()) l, ()) ∧ () = ()))))) ∧ (decide (Int.ofNat i_1 < iOf (lenL l)) = false → boundLo (Int.ofNat i_1) (lenL l) ∧ (fits (lenL l) → (decide (Int.ofNat i_1 < iOf (lenL l)) = true → bnd (Int.ofNat i_1) (lenL l) ∧ ∀ (x : List UInt8 × Int × Unit), nthI l (Int.ofNat i_1) = some x → nat_lit 1 ≤ Nat.succ (nat_lit 1) ∧ nat_lit 1 ≤ Nat.succ (nat_lit 1) ∧ ((x.fst == n) = true → boundLo (wAdd IntKind.i64 (Int.ofNat i_1) (1 : Int)) (lenL l) ∧ boundLo (Int.ofNat i_1) (lenL l) ∧ nat_lit 2 ≤ Nat.succ (nat_lit 1) ∧ ((fits (lenL (subL l (0 : Nat) (tN (Int.ofNat i_1)))) → fits (lenL (subL l (0 : Nat) (tN (Int.ofNat i_1))) + lenL ((n, i, ()) :: ([] : List (List UInt8 × Int × Unit)))) ∧ fits (lenL (subL l (0 : Nat) (tN (Int.ofNat i_1)) ++ (n, i, ()) :: ([] : List (List UInt8 × Int × Unit))) + lenL (subL l (tN (wAdd IntKind.i64 (Int.ofNat i_1) (1 : Int))) (lenL l))) ∧ (subL l (0 : Nat) (tN (Int.ofNat i_1)) ++ (n, i, ()) :: ([] : List (List UInt8 × Int × Unit)) ++ subL l (tN (wAdd IntKind.i64 (Int.ofNat i_1) (1 : Int))) (lenL l), ()) = (put (n, i, ()) l, ()) ∧ () = ()) ∧ (fits (lenL (subL l (0 : Nat) (tN (Int.ofNat i_1)))) → fits (lenL (subL l (0 : Nat) (tN (Int.ofNat i_1))) + lenL ((n, i, ()) :: ([] : List (List UInt8 × Int × Unit)))) ∧ fits (lenL (subL l (0 : Nat) (tN (Int.ofNat i_1)) ++ (n, i, ()) :: ([] : List (List UInt8 × Int × Unit))) + lenL (subL l (tN (wAdd IntKind.i64 (Int.ofNat i_1) (1 : Int))) (lenL l))) ∧ (subL l (0 : Nat) (tN (Int.ofNat i_1)) ++ (n, i, ()) :: ([] : List (List UInt8 × Int × Unit)) ++ subL l (tN (wAdd IntKind.i64 (Int.ofNat i_1) (1 : Int))) (lenL l), ()) = (put (n, i, ()) l, ()) ∧ () = ())) ∧ (fits (lenL (subL l (0 : Nat) (tN (Int.ofNat i_1)))) → fits (lenL (subL l (0 : Nat) (tN (Int.ofNat i_1))) + lenL ((n, i, ()) :: ([] : List (List UInt8 × Int × Unit)))) ∧ fits (lenL (subL l (0 : Nat) (tN (Int.ofNat i_1)) ++ (n, i, ()) :: ([] : List (List UInt8 × Int × Unit))) + lenL (subL l (tN (wAdd IntKind.i64 (Int.ofNat i_1) (1 : Int))) (lenL l))) ∧ (subL l (0 : Nat) (tN (Int.ofNat i_1)) ++ (n, i, ()) :: ([] : List (List UInt8 × Int × Unit)) ++ subL l (tN (wAdd IntKind.i64 (Int.ofNat i_1) (1 : Int))) (lenL l), ()) = (put (n, i, ()) l, ()) ∧ () = ())) ∧ ((x.fst == n) = false → boundLo (Int.ofNat i_1) (lenL l) ∧ nat_lit 2 ≤ Nat.succ (nat_lit 1) ∧ ((fits (lenL (subL l (0 : Nat) (tN (Int.ofNat i_1)))) → fits (lenL (subL l (0 : Nat) (tN (Int.ofNat i_1))) + lenL ((n, i, ()) :: ([] : List (List UInt8 × Int × Unit)))) ∧ fits (lenL (subL l (0 : Nat) (tN (Int.ofNat i_1)) ++ (n, i, ()) :: ([] : List (List UInt8 × Int × Unit))) + lenL (subL l (tN (Int.ofNat i_1)) (lenL l))) ∧ (subL l (0 : Nat) (tN (Int.ofNat i_1)) ++ (n, i, ()) :: ([] : List (List UInt8 × Int × Unit)) ++ subL l (tN (Int.ofNat i_1)) (lenL l), ()) = (put (n, i, ()) l, ()) ∧ () = ()) ∧ (fits (lenL (subL l (0 : Nat) (tN (Int.ofNat i_1)))) → fits (lenL (subL l (0 : Nat) (tN (Int.ofNat i_1))) + lenL ((n, i, ()) :: ([] : List (List UInt8 × Int × Unit)))) ∧ fits (lenL (subL l (0 : Nat) (tN (Int.ofNat i_1)) ++ (n, i, ()) :: ([] : List (List UInt8 × Int × Unit))) + lenL (subL l (tN (Int.ofNat i_1)) (lenL l))) ∧ (subL l (0 : Nat) (tN (Int.ofNat i_1)) ++ (n, i, ()) :: ([] : List (List UInt8 × Int × Unit)) ++ subL l (tN (Int.ofNat i_1)) (lenL l), ()) = (put (n, i, ()) l, ()) ∧ () = ())) ∧ (fits (lenL (subL l (0 : Nat) (tN (Int.ofNat i_1)))) → fits (lenL (subL l (0 : Nat) (tN (Int.ofNat i_1))) + lenL ((n, i, ()) :: ([] : List (List UInt8 × Int × Unit)))) ∧ fits (lenL (subL l (0 : Nat) (tN (Int.ofNat i_1)) ++ (n, i, ()) :: ([] : List (List UInt8 × Int × Unit))) + lenL (subL l (tN (Int.ofNat i_1)) (lenL l))) ∧ (subL l (0 : Nat) (tN (Int.ofNat i_1)) ++ (n, i, ()) :: ([] : List (List UInt8 × Int × Unit)) ++ subL l (tN (Int.ofNat i_1)) (lenL l), ()) = (put (n, i, ()) l, ()) ∧ () = ()))) ∧ (decide (Int.ofNat i_1 < iOf (lenL l)) = false → boundLo (Int.ofNat i_1) (lenL l) ∧ nat_lit 2 ≤ Nat.succ (nat_lit 1) ∧ ((fits (lenL (subL l (0 : Nat) (tN (Int.ofNat i_1)))) → fits (lenL (subL l (0 : Nat) (tN (Int.ofNat i_1))) + lenL ((n, i, ()) :: ([] : List (List UInt8 × Int × Unit)))) ∧ fits (lenL (subL l (0 : Nat) (tN (Int.ofNat i_1)) ++ (n, i, ()) :: ([] : List (List UInt8 × Int × Unit))) + lenL (subL l (tN (Int.ofNat i_1)) (lenL l))) ∧ (subL l (0 : Nat) (tN (Int.ofNat i_1)) ++ (n, i, ()) :: ([] : List (List UInt8 × Int × Unit)) ++ subL l (tN (Int.ofNat i_1)) (lenL l), ()) = (put (n, i, ()) l, ()) ∧ () = ()) ∧ (fits (lenL (subL l (0 : Nat) (tN (Int.ofNat i_1)))) → fits (lenL (subL l (0 : Nat) (tN (Int.ofNat i_1))) + lenL ((n, i, ()) :: ([] : List (List UInt8 × Int × Unit)))) ∧ fits (lenL (subL l (0 : Nat) (tN (Int.ofNat i_1)) ++ (n, i, ()) :: ([] : List (List UInt8 × Int × Unit))) + lenL (subL l (tN (Int.ofNat i_1)) (lenL l))) ∧ (subL l (0 : Nat) (tN (Int.ofNat i_1)) ++ (n, i, ()) :: ([] : List (List UInt8 × Int × Unit)) ++ subL l (tN (Int.ofNat i_1)) (lenL l), ()) = (put (n, i, ()) l, ()) ∧ () = ())) ∧ (fits (lenL (subL l (0 : Nat) (tN (Int.ofNat i_1)))) → fits (lenL (subL l (0 : Nat) (tN (Int.ofNat i_1))) + lenL ((n, i, ()) :: ([] : List (List UInt8 × Int × Unit)))) ∧ fits (lenL (subL l (0 : Nat) (tN (Int.ofNat i_1)) ++ (n, i, ()) :: ([] : List (List UInt8 × Int × Unit))) + lenL (subL l (tN (Int.ofNat i_1)) (lenL l))) ∧ (subL l (0 : Nat) (tN (Int.ofNat i_1)) ++ (n, i, ()) :: ([] : List (List UInt8 × Int × Unit)) ++ subL l (tN (Int.ofNat i_1)) (lenL l), ()) = (put (n, i, ()) l, ()) ∧ () = ()))))) (by kernel_rfl) ?_
  simp only [Nat.le_refl, Nat.succ_eq_add_one, Nat.reduceAdd, Nat.reduceLeDiff, Nat.zero_le, pair_unit, mk_eta, len_bne, eqD_bne, bne_iff_ne, bne_eq_false_iff_eq, beq_iff_eq, beq_eq_false_iff_ne, true_and, and_true, and_self, eq_self, lt_iff, nthI_nat, bnd_iff, decide_eq_true_eq, decide_eq_false_iff_not, Nat.sub_eq, nz, ne_eq, not_false_eq_true, Prod.mk.injEq, Int.reduceEq, Nat.reduceEqDiff, forall_const, implies_true, bne_self_eq_false, Bool.true_eq_false, Bool.false_eq_true, false_implies, reduceCtorEq, Bool.not_true, Bool.not_false, List.all_cons, List.all_nil, Bool.and_true, Bool.not_eq_true, Bool.not_eq_false, Bool.not_eq_true', Bool.not_eq_false', Decidable.not_not]; try simp only [lenL]
  have hl : List.length l ≤ 1000000 := hl
  refine ⟨⟨0, lead0 _ l, rfl⟩, fun k h hf => ⟨fun hlt => ⟨hlt, fun x hx => ⟨fun hn => ⟨k + 1, lead_step h hx hn, Nat.sub_lt_sub_left hlt (Nat.lt_succ_self k), inc_in hf h.1⟩, fun hn => ?_⟩⟩, fun he0 => ?_⟩⟩
  · refine ⟨bound_lo h.1, fun _ => ⟨fun hlt2 => ⟨hlt2, fun y hy => ⟨fun he => ?_, fun he => ⟨bound_lo h.1, fun _ => ⟨(put_fit hl k k).1, (put_fit hl k k).2, ?_⟩⟩⟩⟩, fun hge => ⟨bound_lo h.1, fun _ => ⟨(put_fit hl k k).1, (put_fit hl k k).2, ?_⟩⟩⟩⟩
    · rw [inc_in hf h.1]
      refine ⟨bound_lo hlt2, bound_lo h.1, fun _ => ⟨(put_fit hl k (k + 1)).1, (put_fit hl k (k + 1)).2, ?_⟩⟩
      rw [sub_take, sub_drop]
      exact put_same (s := (n, i, ())) h hy (by rw [hx] at hy; cases hy; rw [hn]; exact Bool.false_ne_true) he
    · rw [sub_take, sub_drop]
      exact put_more (s := (n, i, ())) h hy (by rw [hx] at hy; cases hy; rw [hn]; exact Bool.false_ne_true) he
    · rw [sub_take, sub_drop]
      exact put_end (s := (n, i, ())) h hge
  · refine ⟨bound_lo h.1, fun _ => ⟨fun hlt2 => ⟨hlt2, fun y hy => ⟨fun he => ?_, fun he => ⟨bound_lo h.1, fun _ => ⟨(put_fit hl k k).1, (put_fit hl k k).2, ?_⟩⟩⟩⟩, fun hge => ⟨bound_lo h.1, fun _ => ⟨(put_fit hl k k).1, (put_fit hl k k).2, ?_⟩⟩⟩⟩
    · rw [inc_in hf h.1]
      refine ⟨bound_lo hlt2, bound_lo h.1, fun _ => ⟨(put_fit hl k (k + 1)).1, (put_fit hl k (k + 1)).2, ?_⟩⟩
      rw [sub_take, sub_drop]
      exact put_same (s := (n, i, ())) h hy (absurd hlt2 he0) he
    · rw [sub_take, sub_drop]
      exact put_more (s := (n, i, ())) h hy (absurd hlt2 he0) he
    · rw [sub_take, sub_drop]
      exact put_end (s := (n, i, ())) h hge
end Go.Proofs.Ytolminmmnckpkaa
namespace Go.Proofs.Ytolminmmnckpkaa
open Go.Ab Go.Fn
def s_l11Rename : FSpec := { ps := [.v tDisk, .v .str, .v .str], rs := [.v tDisk, .v .bool], pre := fun x => List.length (α := Fn.Slot) x.1.2.1 ≤ 1000000, fn := fun x => (if readB x.1 x.2.1 = true then (x.1.1, Fn.put (x.2.2.1, Fn.slotId x.1.2.1 x.2.1, ()) (Fn.drop x.2.1 x.1.2.1), x.1.2.2.1, x.1.2.2.2.1, ()) else x.1, readB x.1 x.2.1, ()), upd := fun _ => () }
theorem fo_l11Rename : FO 44 s_l11Rename := by
  refine fo (specs := [(25, s_slot), (75, s_l11Drop), (56, s_put)]) (clos := []) (fun x => []) ⟨fo_l11At, fo_l11Drop, fo_l11Put, trivial⟩ trivial Try.func44 rfl rfl ?_
  rintro ⟨⟨a, b, c, d, ⟨⟩⟩, f, t, ⟨⟩⟩ hp
  refine vcOf (nat_lit 2 ≤ (Nat.succ (nat_lit 1)).succ.succ ∧ true = true ∧ True ∧ (decide (slotAt b f < (0 : Int)) = true → nat_lit 4 ≤ (Nat.succ (nat_lit 1)).succ.succ ∧ nat_lit 4 ≤ nat_lit 4 ∧ ((a, b, c, d, ()), false, ()) = (if readB (a, b, c, d, ()) f = true then (a, put (t, slotId b f, ()) (drop f b), c, d, ()) else (a, b, c, d, ()), readB (a, b, c, d, ()) f, ()) ∧ () = ()) ∧ (decide (slotAt b f < (0 : Int)) = false → nat_lit 2 ≤ (Nat.succ (nat_lit 1)).succ.succ ∧ bnd (slotAt b f) (lenL b) ∧ ∀ (x : List UInt8 × Int × Unit), nthI b (slotAt b f) = some x → nat_lit 1 ≤ nat_lit 1 ∧ nat_lit 2 ≤ (Nat.succ (nat_lit 1)).succ.succ ∧ true = true ∧ True ∧ true = true ∧ (drop f b).length ≤ (1000000 : Nat) ∧ nat_lit 2 ≤ (Nat.succ (nat_lit 1)).succ.succ ∧ nat_lit 4 ≤ (Nat.succ (nat_lit 1)).succ.succ ∧ nat_lit 4 ≤ nat_lit 4 ∧ ((a, put (t, x.snd.fst, ()) (drop f b), c, d, ()), true, ()) = (if readB (a, b, c, d, ()) f = true then (a, put (t, slotId b f, ()) (drop f b), c, d, ()) else (a, b, c, d, ()), readB (a, b, c, d, ()) f, ()) ∧ () = ())) (by kernel_rfl) ?_
  simp only [Nat.le_refl, Nat.succ_eq_add_one, Nat.reduceAdd, Nat.reduceLeDiff, Nat.zero_le, pair_unit, mk_eta, len_bne, eqD_bne, bne_iff_ne, bne_eq_false_iff_eq, beq_iff_eq, beq_eq_false_iff_ne, true_and, and_true, and_self, eq_self, lt_iff, nthI_nat, bnd_iff, decide_eq_true_eq, decide_eq_false_iff_not, Nat.sub_eq, nz, ne_eq, not_false_eq_true, Prod.mk.injEq, Int.reduceEq, Nat.reduceEqDiff, forall_const, implies_true, bne_self_eq_false, Bool.true_eq_false, Bool.false_eq_true, false_implies, reduceCtorEq, Bool.not_true, Bool.not_false, List.all_cons, List.all_nil, Bool.and_true, Bool.not_eq_true, Bool.not_eq_false, Bool.not_eq_true', Bool.not_eq_false', Decidable.not_not]; try simp only [lenL]
  have hp : List.length b ≤ 1000000 := hp
  refine ⟨fun h => ?_, fun h => ⟨idx_bnd h, fun x hx => ⟨Nat.le_trans (List.length_filter_le _ _) hp, ?_⟩⟩⟩
  · have e : readB (a, b, c, d, ()) f = false := (read_none h).2.symm
    rw [e]; exact ⟨rfl, rfl⟩
  · have e : readB (a, b, c, d, ()) f = true := decide_eq_true h
    rw [e, slotId_at hx]; exact ⟨rfl, rfl⟩
end Go.Proofs.Ytolminmmnckpkaa
namespace Go.Proofs.Ytolminmmnckpkaa
open Go.Ab Go.Fn
def s_RenameFile : FSpec := { ps := [.v tDisk, .v .str, .v .str], rs := [.o tDisk, .v I], pre := fun x => True, fn := fun x => (renameD x.1 x.2.1 x.2.2.1, renameC x.1 x.2.1 x.2.2.1, ()), upd := fun _ => () }
theorem fo_sRenameFile : FO 13 s_RenameFile := by
  refine fo (specs := [(22, s_DiskOK), (23, s_NameOK), (24, s_l11Tidy), (44, s_l11Rename), (43, s_l11Told)]) (clos := []) (fun x => []) ⟨fo_l11OK, fo_l00Word, fo_l11Tidy, fo_l11Rename, fo_l11Told, trivial⟩ trivial Try.func13 rfl rfl ?_
  rintro ⟨⟨a, b, c, d, ⟨⟩⟩, f, t, ⟨⟩⟩ -
  refine vcOf (fits (lenL f) → (decide (iOf (lenL f) > (65536 : Int)) = false → fits (lenL t) → (decide (iOf (lenL t) > (65536 : Int)) = true → nat_lit 4 ≤ nat_lit 4 ∧ ((([] : List (Int × List UInt8 × Bool × Unit)), ([] : List (List UInt8 × Int × Unit)), ([] : List (List UInt8 × Int × Unit)), (0 : (Ty.int IntKind.i64).den), ()), (2 : Int), ()) = (renameD (a, b, c, d, ()) f t, renameC (a, b, c, d, ()) f t, ()) ∧ () = ()) ∧ (decide (iOf (lenL t) > (65536 : Int)) = false → nat_lit 4 ≤ (Nat.succ (nat_lit 1)).succ.succ ∧ true = true ∧ True ∧ ((!diskOK (a, b, c, d, ())) = true → nat_lit 4 ≤ nat_lit 4 ∧ ((([] : List (Int × List UInt8 × Bool × Unit)), ([] : List (List UInt8 × Int × Unit)), ([] : List (List UInt8 × Int × Unit)), (0 : (Ty.int IntKind.i64).den), ()), (1 : Int), ()) = (renameD (a, b, c, d, ()) f t, renameC (a, b, c, d, ()) f t, ()) ∧ () = ()) ∧ ((!diskOK (a, b, c, d, ())) = false → true = true ∧ True ∧ ((!nameOK t) = true → nat_lit 4 ≤ (Nat.succ (nat_lit 1)).succ.succ ∧ true = true ∧ True ∧ nat_lit 4 ≤ nat_lit 4 ∧ (((tidy (a, b, c, d, ())).fst, (tidy (a, b, c, d, ())).snd.fst, (tidy (a, b, c, d, ())).snd.snd.fst, (tidy (a, b, c, d, ())).snd.snd.snd.fst, ()), (10 : Int), ()) = (renameD (a, b, c, d, ()) f t, renameC (a, b, c, d, ()) f t, ()) ∧ () = ()) ∧ ((!nameOK t) = false → nat_lit 4 ≤ (Nat.succ (nat_lit 1)).succ.succ ∧ true = true ∧ List.length b ≤ (1000000 : Nat) ∧ true = true ∧ True ∧ nat_lit 4 ≤ nat_lit 4 ∧ (((tidy ((if readB (a, b, c, d, ()) f = true then (a, put (t, slotId b f, ()) (drop f b), c, d, ()) else (a, b, c, d, ())).fst, (if readB (a, b, c, d, ()) f = true then (a, put (t, slotId b f, ()) (drop f b), c, d, ()) else (a, b, c, d, ())).snd.fst, (if readB (a, b, c, d, ()) f = true then (a, put (t, slotId b f, ()) (drop f b), c, d, ()) else (a, b, c, d, ())).snd.snd.fst, (if readB (a, b, c, d, ()) f = true then (a, put (t, slotId b f, ()) (drop f b), c, d, ()) else (a, b, c, d, ())).snd.snd.snd.fst, ())).fst, (tidy ((if readB (a, b, c, d, ()) f = true then (a, put (t, slotId b f, ()) (drop f b), c, d, ()) else (a, b, c, d, ())).fst, (if readB (a, b, c, d, ()) f = true then (a, put (t, slotId b f, ()) (drop f b), c, d, ()) else (a, b, c, d, ())).snd.fst, (if readB (a, b, c, d, ()) f = true then (a, put (t, slotId b f, ()) (drop f b), c, d, ()) else (a, b, c, d, ())).snd.snd.fst, (if readB (a, b, c, d, ()) f = true then (a, put (t, slotId b f, ()) (drop f b), c, d, ()) else (a, b, c, d, ())).snd.snd.snd.fst, ())).snd.fst, (tidy ((if readB (a, b, c, d, ()) f = true then (a, put (t, slotId b f, ()) (drop f b), c, d, ()) else (a, b, c, d, ())).fst, (if readB (a, b, c, d, ()) f = true then (a, put (t, slotId b f, ()) (drop f b), c, d, ()) else (a, b, c, d, ())).snd.fst, (if readB (a, b, c, d, ()) f = true then (a, put (t, slotId b f, ()) (drop f b), c, d, ()) else (a, b, c, d, ())).snd.snd.fst, (if readB (a, b, c, d, ()) f = true then (a, put (t, slotId b f, ()) (drop f b), c, d, ()) else (a, b, c, d, ())).snd.snd.snd.fst, ())).snd.snd.fst, (tidy ((if readB (a, b, c, d, ()) f = true then (a, put (t, slotId b f, ()) (drop f b), c, d, ()) else (a, b, c, d, ())).fst, (if readB (a, b, c, d, ()) f = true then (a, put (t, slotId b f, ()) (drop f b), c, d, ()) else (a, b, c, d, ())).snd.fst, (if readB (a, b, c, d, ()) f = true then (a, put (t, slotId b f, ()) (drop f b), c, d, ()) else (a, b, c, d, ())).snd.snd.fst, (if readB (a, b, c, d, ()) f = true then (a, put (t, slotId b f, ()) (drop f b), c, d, ()) else (a, b, c, d, ())).snd.snd.snd.fst, ())).snd.snd.snd.fst, ()), if readB (a, b, c, d, ()) f = true then (0 : Int) else (5 : Int), ()) = (renameD (a, b, c, d, ()) f t, renameC (a, b, c, d, ()) f t, ()) ∧ () = ())))) ∧ (decide (iOf (lenL f) > (65536 : Int)) = true → nat_lit 4 ≤ nat_lit 4 ∧ ((([] : List (Int × List UInt8 × Bool × Unit)), ([] : List (List UInt8 × Int × Unit)), ([] : List (List UInt8 × Int × Unit)), (0 : (Ty.int IntKind.i64).den), ()), (2 : Int), ()) = (renameD (a, b, c, d, ()) f t, renameC (a, b, c, d, ()) f t, ()) ∧ () = ())) (by kernel_rfl) ?_
  simp only [Nat.le_refl, Nat.succ_eq_add_one, Nat.reduceAdd, Nat.reduceLeDiff, Nat.zero_le, pair_unit, mk_eta, len_bne, eqD_bne, bne_iff_ne, bne_eq_false_iff_eq, beq_iff_eq, beq_eq_false_iff_ne, true_and, and_true, and_self, eq_self, lt_iff, nthI_nat, bnd_iff, decide_eq_true_eq, decide_eq_false_iff_not, Nat.sub_eq, nz, ne_eq, not_false_eq_true, Prod.mk.injEq, Int.reduceEq, Nat.reduceEqDiff, forall_const, implies_true, bne_self_eq_false, Bool.true_eq_false, Bool.false_eq_true, false_implies, reduceCtorEq, Bool.not_true, Bool.not_false, List.all_cons, List.all_nil, Bool.and_true, Bool.not_eq_true, Bool.not_eq_false, Bool.not_eq_true', Bool.not_eq_false', Decidable.not_not]; try simp only [lenL]
  intro _
  refine ⟨fun hn _ => ⟨fun ht => r_two (sh_t ht), fun ht => ?_⟩, fun hn => r_two (sh_n hn)⟩
  have hs := sh_wt hn ht
  refine ⟨fun hd => r_one hs hd, fun hd => ?_⟩
  have hl := disk_short hd
  refine ⟨fun hw => by rw [tidy_ok hd]; exact r_ten hs hd hw, fun hw => ⟨Nat.le_trans hl.2.1 (by decide), ?_⟩⟩
  cases hr : readB (a, b, c, d, ()) f with
  | true => exact r_ok hs hd hw hr
  | false =>
    rw [if_neg Bool.false_ne_true, if_neg Bool.false_ne_true, tidy_ok hd]
    exact r_five hs hd hw hr
end Go.Proofs.Ytolminmmnckpkaa
namespace Go.Proofs
open Go.Shelf
def Try.sortSlot_ren : Go.Shelf.Ren := ⟨fun | 6 => 68 | 15 => 89 | 14 => 88 | 28 => 104 | 29 => 105 | 20 => 96 | 21 => 97 | 22 => 98 | 23 => 99 | 24 => 100 | 25 => 101 | 26 => 102 | 27 => 103 | 46 => 108 | 47 => 109 | 48 => 110 | 49 => 111 | 50 => 112 | 57 => 122 | n => n, fun | 22 => 28 | 24 => 67 | 25 => 94 | 3 => 3 | 39 => 109 | 0 => 0 | 53 => 124 | 55 => 126 | 4 => 4 | 46 => 118 | 45 => 117 | 50 => 84 | 5 => 5 | 9 => 9 | 66 => 130 | 70 => 134 | 76 => 142 | 77 => 143 | n => n, fun | n => n⟩
theorem Try.sortSlot : Go.Proofs.SlLaysF0.n6 Try.prog Try.sortSlot_ren := {
  mixed := by kernel_rfl
  f6 := ⟨Try.f68.name, by decide, Try.func68.trans (congrArg some (by kernel_rfl))⟩
  f14 := ⟨Try.f88.name, by decide, Try.func88.trans (congrArg some (by kernel_rfl))⟩
  f15 := Try.func89.trans (congrArg some (by kernel_rfl))
  f20 := ⟨Try.f96.name, by decide, Try.func96.trans (congrArg some (by kernel_rfl))⟩
  f21 := ⟨Try.f97.name, by decide, Try.func97.trans (congrArg some (by kernel_rfl))⟩
  f22 := ⟨Try.f98.name, by decide, Try.func98.trans (congrArg some (by kernel_rfl))⟩
  f23 := ⟨Try.f99.name, by decide, Try.func99.trans (congrArg some (by kernel_rfl))⟩
  f24 := ⟨Try.f100.name, by decide, Try.func100.trans (congrArg some (by kernel_rfl))⟩
  f25 := ⟨Try.f101.name, by decide, Try.func101.trans (congrArg some (by kernel_rfl))⟩
  f26 := ⟨Try.f102.name, by decide, Try.func102.trans (congrArg some (by kernel_rfl))⟩
  f27 := ⟨Try.f103.name, by decide, Try.func103.trans (congrArg some (by kernel_rfl))⟩
  f28 := Try.func104.trans (congrArg some (by kernel_rfl))
  f29 := Try.func105.trans (congrArg some (by kernel_rfl))
  f46 := ⟨Try.f108.name, by decide, Try.func108.trans (congrArg some (by kernel_rfl))⟩
  f47 := Try.func109.trans (congrArg some (by kernel_rfl))
  f48 := Try.func110.trans (congrArg some (by kernel_rfl))
  f49 := ⟨Try.f111.name, by decide, Try.func111.trans (congrArg some (by kernel_rfl))⟩
  f50 := ⟨Try.f112.name, by decide, Try.func112.trans (congrArg some (by kernel_rfl))⟩
  f57 := ⟨Try.f122.name, by decide, Try.func122.trans (congrArg some (by kernel_rfl))⟩
  t0 := Try.underlying0
  a0 := Try.isAgg0
  z0 := Try.sizeOf0
  v0 := Try.zeroValue0
  t3 := Try.underlying3
  a3 := Try.isAgg3
  z3 := Try.sizeOf3
  v3 := Try.zeroValue3
  t4 := Try.underlying4
  a4 := Try.isAgg4
  z4 := Try.sizeOf4
  v4 := Try.zeroValue4
  t5 := Try.underlying5
  a5 := Try.isAgg5
  z5 := Try.sizeOf5
  v5 := Try.zeroValue5
  t9 := Try.underlying9
  a9 := Try.isAgg9
  z9 := Try.sizeOf9
  v9 := Try.zeroValue9
  t22 := Try.underlying28
  a22 := Try.isAgg28
  z22 := Try.sizeOf28
  v22 := Try.zeroValue28
  t25 := Try.underlying94
  a25 := Try.isAgg94
  z25 := Try.sizeOf94
  v25 := Try.zeroValue94
  t39 := Try.underlying109
  a39 := Try.isAgg109
  z39 := Try.sizeOf109
  v39 := Try.zeroValue109
  t45 := Try.underlying117
  a45 := Try.isAgg117
  z45 := Try.sizeOf117
  v45 := Try.zeroValue117
  t46 := Try.underlying118
  a46 := Try.isAgg118
  z46 := Try.sizeOf118
  v46 := Try.zeroValue118
  t50 := Try.underlying84
  a50 := Try.isAgg84
  z50 := Try.sizeOf84
  v50 := Try.zeroValue84
  t53 := Try.underlying124
  a53 := Try.isAgg124
  z53 := Try.sizeOf124
  v53 := Try.zeroValue124
  t55 := Try.underlying126
  a55 := Try.isAgg126
  z55 := Try.sizeOf126
  v55 := Try.zeroValue126
  t66 := Try.underlying130
  a66 := Try.isAgg130
  z66 := Try.sizeOf130
  v66 := Try.zeroValue130
  t70 := Try.underlying134
  a70 := Try.isAgg134
  z70 := Try.sizeOf134
  v70 := Try.zeroValue134
  t76 := Try.underlying142
  a76 := Try.isAgg142
  z76 := Try.sizeOf142
  v76 := Try.zeroValue142
  t77 := Try.underlying143
  a77 := Try.isAgg143
  z77 := Try.sizeOf143
  v77 := Try.zeroValue143 }
def Try.sortStr_ren : Go.Shelf.Ren := ⟨fun | 6 => 92 | 8 => 89 | 9 => 107 | 19 => 104 | 20 => 105 | 21 => 113 | 22 => 114 | 23 => 115 | 24 => 116 | 25 => 117 | 26 => 118 | 27 => 119 | 28 => 120 | 29 => 121 | 36 => 123 | 31 => 109 | 32 => 110 | 37 => 124 | 38 => 125 | 39 => 126 | 41 => 127 | n => n, fun | 27 => 85 | 29 => 9 | 3 => 3 | 32 => 109 | 26 => 85 | 0 => 0 | 44 => 124 | 46 => 126 | 4 => 4 | 36 => 118 | 35 => 117 | 41 => 84 | 5 => 5 | 9 => 9 | 53 => 130 | 57 => 134 | 63 => 142 | 64 => 143 | n => n, fun | n => n⟩
theorem Try.sortStr : Go.Proofs.SlLaysM.n6 Try.prog Try.sortStr_ren := {
  mixed := by kernel_rfl
  f6 := ⟨Try.f92.name, by decide, Try.func92.trans (congrArg some (by kernel_rfl))⟩
  f8 := Try.func89.trans (congrArg some (by kernel_rfl))
  f9 := ⟨Try.f107.name, by decide, Try.func107.trans (congrArg some (by kernel_rfl))⟩
  f19 := Try.func104.trans (congrArg some (by kernel_rfl))
  f20 := Try.func105.trans (congrArg some (by kernel_rfl))
  f21 := ⟨Try.f113.name, by decide, Try.func113.trans (congrArg some (by kernel_rfl))⟩
  f22 := ⟨Try.f114.name, by decide, Try.func114.trans (congrArg some (by kernel_rfl))⟩
  f23 := ⟨Try.f115.name, by decide, Try.func115.trans (congrArg some (by kernel_rfl))⟩
  f24 := ⟨Try.f116.name, by decide, Try.func116.trans (congrArg some (by kernel_rfl))⟩
  f25 := ⟨Try.f117.name, by decide, Try.func117.trans (congrArg some (by kernel_rfl))⟩
  f26 := ⟨Try.f118.name, by decide, Try.func118.trans (congrArg some (by kernel_rfl))⟩
  f27 := ⟨Try.f119.name, by decide, Try.func119.trans (congrArg some (by kernel_rfl))⟩
  f28 := ⟨Try.f120.name, by decide, Try.func120.trans (congrArg some (by kernel_rfl))⟩
  f29 := ⟨Try.f121.name, by decide, Try.func121.trans (congrArg some (by kernel_rfl))⟩
  f31 := Try.func109.trans (congrArg some (by kernel_rfl))
  f32 := Try.func110.trans (congrArg some (by kernel_rfl))
  f36 := ⟨Try.f123.name, by decide, Try.func123.trans (congrArg some (by kernel_rfl))⟩
  f37 := ⟨Try.f124.name, by decide, Try.func124.trans (congrArg some (by kernel_rfl))⟩
  f38 := ⟨Try.f125.name, by decide, Try.func125.trans (congrArg some (by kernel_rfl))⟩
  f39 := ⟨Try.f126.name, by decide, Try.func126.trans (congrArg some (by kernel_rfl))⟩
  f41 := ⟨Try.f127.name, by decide, Try.func127.trans (congrArg some (by kernel_rfl))⟩
  t0 := Try.underlying0
  a0 := Try.isAgg0
  z0 := Try.sizeOf0
  v0 := Try.zeroValue0
  t3 := Try.underlying3
  a3 := Try.isAgg3
  z3 := Try.sizeOf3
  v3 := Try.zeroValue3
  t4 := Try.underlying4
  a4 := Try.isAgg4
  z4 := Try.sizeOf4
  v4 := Try.zeroValue4
  t5 := Try.underlying5
  a5 := Try.isAgg5
  z5 := Try.sizeOf5
  v5 := Try.zeroValue5
  t9 := Try.underlying9
  a9 := Try.isAgg9
  z9 := Try.sizeOf9
  v9 := Try.zeroValue9
  t26 := Try.underlying85
  a26 := Try.isAgg85
  z26 := Try.sizeOf85
  v26 := Try.zeroValue85
  t27 := Try.underlying85
  a27 := Try.isAgg85
  z27 := Try.sizeOf85
  v27 := Try.zeroValue85
  t29 := Try.underlying9
  a29 := Try.isAgg9
  z29 := Try.sizeOf9
  v29 := Try.zeroValue9
  t32 := Try.underlying109
  a32 := Try.isAgg109
  z32 := Try.sizeOf109
  v32 := Try.zeroValue109
  t35 := Try.underlying117
  a35 := Try.isAgg117
  z35 := Try.sizeOf117
  v35 := Try.zeroValue117
  t36 := Try.underlying118
  a36 := Try.isAgg118
  z36 := Try.sizeOf118
  v36 := Try.zeroValue118
  t41 := Try.underlying84
  a41 := Try.isAgg84
  z41 := Try.sizeOf84
  v41 := Try.zeroValue84
  t44 := Try.underlying124
  a44 := Try.isAgg124
  z44 := Try.sizeOf124
  v44 := Try.zeroValue124
  t46 := Try.underlying126
  a46 := Try.isAgg126
  z46 := Try.sizeOf126
  v46 := Try.zeroValue126
  t53 := Try.underlying130
  a53 := Try.isAgg130
  z53 := Try.sizeOf130
  v53 := Try.zeroValue130
  t57 := Try.underlying134
  a57 := Try.isAgg134
  z57 := Try.sizeOf134
  v57 := Try.zeroValue134
  t63 := Try.underlying142
  a63 := Try.isAgg142
  z63 := Try.sizeOf142
  v63 := Try.zeroValue142
  t64 := Try.underlying143
  a64 := Try.isAgg143
  z64 := Try.sizeOf143
  v64 := Try.zeroValue143 }
end Go.Proofs
namespace Go.Ab
open Go.Sort
theorem flat_at {t : Ty} [Inhabited t.den] {ys : List t.den} (ht : flatB t = true) {k j : Nat} {x : t.den} (hx : ys[k]? = some x) (hj : j < t.size) : (flatK (cellsV t) t.size ys.toArray)[k * t.size + j]? = (cellsV t x)[j]? := by
  obtain ⟨hk, hx⟩ := List.getElem?_eq_some_iff.1 hx
  have hpos : 0 < t.size := by omega
  have hlt : k * t.size + j < ys.toArray.size * t.size := by
    have h1 : (k + 1) * t.size ≤ ys.length * t.size := Nat.mul_le_mul_right _ hk
    rw [Nat.add_mul, Nat.one_mul] at h1
    have h2 : ys.toArray.size = ys.length := by simp
    rw [h2]; omega
  have hg := get_flatK (cellsV t) t.size ys.toArray _ hlt
  have e1 : (k * t.size + j) / t.size = k := by rw [Nat.add_comm, Nat.add_mul_div_right _ _ hpos, Nat.div_eq_of_lt hj, Nat.zero_add]
  have e2 : (k * t.size + j) % t.size = j := by rw [Nat.add_comm, Nat.add_mul_mod_self_right, Nat.mod_eq_of_lt hj]
  rw [e1, e2] at hg
  have e3 : ys.toArray[k]! = x := by
    rw [getElem!_pos ys.toArray k (by simpa using hk)]
    simpa using hx
  rw [e3] at hg
  have hs : k * t.size + j < (flatK (cellsV t) t.size ys.toArray).size := by rw [size_flatK]; exact hlt
  have hl : j < (cellsV t x).length := by rw [cellsV_len ht]; exact hj
  rw [getElem!_pos (flatK (cellsV t) t.size ys.toArray) _ hs, getElem!_pos (cellsV t x) _ hl] at hg
  rw [Array.getElem?_eq_getElem hs, List.getElem?_eq_getElem hl, hg]
theorem flat_holds {t : Ty} [Inhabited t.den] {xs : List t.den} (ht : flatB t = true) {w : World} {b : Nat} {cs : List Value} {e : TypeId} (hb : w.heap[b]? = some (.cells cs.toArray e (0, 0)))
    (hr : ∀ (k : Nat) x, xs[k]? = some x → (cs.drop (k * t.size)).take t.size = cellsV t x) : Sort.Holds id w b 0 (flatK (cellsV t) t.size xs.toArray) := by
  intro q hq
  rw [size_flatK] at hq
  have hpos : 0 < t.size := by
    rcases Nat.eq_zero_or_pos t.size with h | h
    · rw [h] at hq; omega
    · exact h
  have hk : q / t.size < xs.length := by
    have : q / t.size < xs.toArray.size := Nat.div_lt_of_lt_mul (by rw [Nat.mul_comm]; exact hq)
    simpa using this
  have hx := List.getElem?_eq_getElem hk
  have hm : q % t.size < t.size := Nat.mod_lt _ hpos
  have hf := flat_at ht hx hm
  have eq : q / t.size * t.size + q % t.size = q := by rw [Nat.mul_comm]; exact Nat.div_add_mod q t.size
  rw [eq] at hf
  have hc := hr _ _ hx
  have hcq : cs[q]? = (cellsV t xs[q / t.size])[q % t.size]? := by
    rw [← hc, List.getElem?_take_of_lt hm, List.getElem?_drop, eq]
  have hs : q < (flatK (cellsV t) t.size xs.toArray).size := by rw [size_flatK]; exact hq
  have e1 : cs[q]? = some ((flatK (cellsV t) t.size xs.toArray)[q]!) := by
    rw [hcq, ← hf, getElem!_pos (flatK (cellsV t) t.size xs.toArray) _ hs, Array.getElem?_eq_getElem hs]
  refine ⟨?_, ?_⟩
  · simp only [World.cell?, Nat.zero_add, hb, Option.isSome_none, Bool.false_eq_true, if_false, List.getElem?_toArray, id]
    exact e1
  · simp [World.frozen?, hb]
theorem flat_rows {t : Ty} [Inhabited t.den] {ys : List t.den} (ht : flatB t = true) (r : List Value) {k : Nat} {x : t.den} (hx : ys[k]? = some x) : (((flatK (cellsV t) t.size ys.toArray).toList ++ r).drop (k * t.size)).take t.size = cellsV t x := by
  refine chunk_at (cellsV_len ht) fun j hj => ?_
  have hf := flat_at ht hx hj
  have hlt : k * t.size + j < (flatK (cellsV t) t.size ys.toArray).toList.length := by
    have hl : j < (cellsV t x).length := by rw [cellsV_len ht]; exact hj
    rw [List.getElem?_eq_getElem hl] at hf
    have := (Array.getElem?_eq_some_iff.1 hf).1
    simpa using this
  rw [List.getElem?_append_left hlt, Array.getElem?_toList, hf]
theorem sorted_list {α : Type} [Inhabited α] {lt : α → α → Bool} {d d' : Array α} (hp : PermIn 0 d.size d d') (hs : SortedIn lt 0 d.size d') : d'.toList.Perm d.toList ∧ d'.toList.Pairwise (fun a b => lt b a = false) := by
  obtain ⟨h1, _, h3⟩ := hp
  have e1 : d'.extract 0 d.size = d' := by rw [← h1]; simp
  have e2 : d.extract 0 d.size = d := by simp
  rw [e1, e2] at h3
  refine ⟨h3, ?_⟩
  rw [List.pairwise_iff_getElem]
  intro i j hi hj hij
  have hj' : j < d'.size := by simpa using hj
  have := hs i j (Nat.zero_le _) hij (by omega)
  rw [getElem!_pos d' j hj', getElem!_pos d' i (by omega)] at this
  simpa using this
theorem sorted_row {t : Ty} [Inhabited t.den] {ys xs : List t.den} (ht : flatB t = true) {w : World} {b : Nat} {cs : List Value} {e : TypeId} (hb : w.heap[b]? = some (.cells cs.toArray e (0, 0))) (hlen : ys.length = xs.length) {cap : Nat} (hcs : cs.length = cap * t.size) (hcap : xs.length ≤ cap) (n : Nat) (os : Array _root_.Go.Obj) :
    ∃ cs' : List Value, cs'.length = cs.length ∧ (∀ (k : Nat) x, ys[k]? = some x → (cs'.drop (k * t.size)).take t.size = cellsV t x) ∧ grow (putRow id (Sort.ahead w n) b 0 (flatK (cellsV t) t.size ys.toArray)) os = grow (Sort.ahead (w.setRow b cs'.toArray) n) os := by
  have hF : (flatK (cellsV t) t.size ys.toArray).size ≤ cs.length := by
    rw [size_flatK, hcs]
    have : ys.toArray.size = xs.length := by simpa using hlen
    rw [this]
    exact Nat.mul_le_mul_right _ hcap
  refine ⟨(flatK (cellsV t) t.size ys.toArray).toList ++ cs.drop (flatK (cellsV t) t.size ys.toArray).size, ?_, fun k x hx => flat_rows ht _ hx, ?_⟩
  · rw [List.length_append, List.length_drop, Array.length_toList]; omega
  · rw [putRow_ahead, row_set hb hF]
end Go.Ab
namespace Go.Proofs.Ytolminmmnckpkaa
open Go.Ab Go.Fn
open Go.Shelf Go.RowKit Go.Lib Go.Sort in
theorem closure_entered (n m : List UInt8) (i j : Int) (W : World) : Calls Try.prog 69 #[.agg #[.string ⟨n.toArray⟩, .int .i64 i], .agg #[.string ⟨m.toArray⟩, .int .i64 j]] W fun e w' => e = .returned (.int .i64 (if Op.bytesLess n m = true then -1 else 1)) ∧ ∃ q os', w' = grow (W.drewN q) os' := by
  cases h : Op.bytesLess n m with
  | true =>
    rw [if_pos rfl]
    go_enter Try.func69, Try.ntmps69
    go_wp2
    go_ret
    exact ⟨rfl, 0, _, by rw [alloc_eq_grow, alloc_eq_grow, grow_grow]; rfl⟩
  | false =>
    rw [if_neg Bool.false_ne_true]
    go_enter Try.func69, Try.ntmps69
    go_wp2
    go_ret
    exact ⟨rfl, 0, _, by rw [alloc_eq_grow, alloc_eq_grow, grow_grow]; rfl⟩
def cfN (x y : Fn.Slot) : Int := if Op.bytesLess x.1 y.1 = true then -1 else 1
theorem ltOf_cfN : Go.Proofs.ltOf cfN = Fn.ltN := by
  funext x y
  unfold Go.Proofs.ltOf cfN Fn.ltN
  cases Op.bytesLess x.1 y.1 <;> rfl
theorem swo_N : Go.Sort.SWO Fn.ltN where
  irrefl x := bl_irrefl x.1
  trans x y z h1 h2 := bl_trans h1 h2
  ntrans x y z h1 h2 := by
    cases h : Fn.ltN x z with
    | false => rfl
    | true =>
      by_cases e : x.1 = y.1
      · unfold Fn.ltN at h h2; rw [e] at h; rw [h] at h2; cases h2
      · have h3 : Op.bytesLess y.1 x.1 = true := bl_flip h1 e
        have := bl_trans h3 h
        unfold Fn.ltN at h2; rw [this] at h2; cases h2
def i_SortSlot : Inl := sortT tSlot Fn.ltN [.fn 69 []]
theorem in_SortSlot : InO 68 i_SortSlot := fun s c i => sortOK (exs := [.func (.func 69) #[] #[]]) rfl ⟨_, Try.func68, rfl, rfl⟩
  (fun c vs h => by
    obtain ⟨v, q, rfl, ⟨cs, rfl, hcs⟩, rfl⟩ := h
    have hcs : cs = [] := hcs
    subst hcs; rfl)
  (fun ad w => AnyF.slices_SortFunc_none Try.sortSlot ad 0 _ w)
  (fun w b cap cs e xs hb hcs hcap hl hr hsm => by
    have hH : Go.Sort.Holds id w b 0 (Go.Sort.flatK (cellsV tSlot) 2 xs.toArray) := flat_holds (t := tSlot) rfl hb hr
    have hblk : b < w.heap.size := (Array.getElem?_eq_some_iff.1 hb).1
    have hsz : xs.toArray.size < 4611686018427387904 := by
      have : xs.toArray.size = xs.length := by simp
      unfold lim at hl
      omega
    have hcon := AnyQ.slices_SortFunc Try.sortSlot 2 Try.isAgg67 Try.sizeOf67 (α := Fn.Slot) (cellsV tSlot) (fun x => cellsV_len (t := tSlot) rfl) (fun x => cellsV_one (t := tSlot) rfl) cfN (by rw [ltOf_cfN]; exact swo_N) 69 #[] b 0 cap xs.toArray w
      (Go.Proofs.enters_of Try.func69 (by kernel_rfl) rfl) (fun _ _ _ _ x y => closure_entered x.1 y.1 x.2.1 y.2.1 _) hH hblk hsz
    rw [ltOf_cfN] at hcon
    have e0 : xs.toArray.size = xs.length := by simp
    rw [e0] at hcon
    refine Calls.mono hcon fun e' w' he => ?_
    obtain ⟨he, d', n, os, hp, hs, hw⟩ := he
    obtain ⟨h1, h2⟩ := sorted_list (lt := Fn.ltN) (d := xs.toArray) (by rw [e0]; exact hp) (by rw [e0]; exact hs)
    have hlen : d'.toList.length = xs.length := by rw [h1.length_eq]
    obtain ⟨cs', hl', hr', hw'⟩ := sorted_row (t := tSlot) (ys := d'.toList) (xs := xs) rfl hb hlen hcs hcap n os
    exact ⟨he, d'.toList, cs', n, os, by simpa using h1, h2, hl', hr', hw.trans hw'⟩)
end Go.Proofs.Ytolminmmnckpkaa
namespace Go.Proofs.Ytolminmmnckpkaa
open Go.Ab Go.Fn
def s_entered : FSpec := { ps := [.v (.slice tSlot), .v .str, .v I], rs := [.o (.slice tSlot)], pre := fun x => SortedN x.1 ∧ List.length (α := Fn.Slot) x.1 ≤ 1000000, fn := fun x => (Fn.put (x.2.1, x.2.2.1, ()) x.1, ()), upd := fun _ => () }
theorem fo_entered : FO 35 s_entered := by
  refine foI (specs := [(34, s_without)]) (clos := []) (inl := [(68, i_SortSlot)]) (fun x => []) ⟨fo_without, trivial⟩ trivial ⟨in_SortSlot, trivial⟩ Try.func35 rfl rfl ?_
  rintro ⟨l, n, i, ⟨⟩⟩ ⟨hs, hl⟩
  refine vcOf (true = true ∧ List.length l ≤ (1000000 : Nat) ∧ fits (lenL (drop n l) + lenL ((n, i, ()) :: ([] : List (List UInt8 × Int × Unit)))) ∧ AV.fn (69 : Nat) ([] : List AV) :: ([] : List AV) = AV.fn (69 : Nat) ([] : List AV) :: ([] : List AV) ∧ ∀ (ys : List (List UInt8 × Int × Unit)), ys.Perm (drop n l ++ (n, i, ()) :: ([] : List (List UInt8 × Int × Unit))) → List.Pairwise (fun (a b : List UInt8 × Int × Unit) => ltN b a = false) ys → (ys, ()) = (put (n, i, ()) l, ()) ∧ () = ()) (by kernel_rfl) ?_
  simp only [Nat.le_refl, Nat.succ_eq_add_one, Nat.reduceAdd, Nat.reduceLeDiff, Nat.zero_le, pair_unit, mk_eta, len_bne, eqD_bne, bne_iff_ne, bne_eq_false_iff_eq, beq_iff_eq, beq_eq_false_iff_ne, true_and, and_true, and_self, eq_self, lt_iff, nthI_nat, bnd_iff, decide_eq_true_eq, decide_eq_false_iff_not, Nat.sub_eq, nz, ne_eq, not_false_eq_true, Prod.mk.injEq, Int.reduceEq, Nat.reduceEqDiff, forall_const, implies_true, bne_self_eq_false, Bool.true_eq_false, Bool.false_eq_true, false_implies, reduceCtorEq, Bool.not_true, Bool.not_false, List.all_cons, List.all_nil, Bool.and_true, Bool.not_eq_true, Bool.not_eq_false, Bool.not_eq_true', Bool.not_eq_false', Decidable.not_not]; try simp only [lenL]
  have hl : List.length l ≤ 1000000 := hl
  have hd : (drop n l).length ≤ List.length l := List.length_filter_le _ _
  exact ⟨hl, by unfold fits; simp only [List.length_cons, List.length_nil]; omega, fun ys hp hw => sort_put (s := (n, i, ())) hs hp hw⟩
end Go.Proofs.Ytolminmmnckpkaa
