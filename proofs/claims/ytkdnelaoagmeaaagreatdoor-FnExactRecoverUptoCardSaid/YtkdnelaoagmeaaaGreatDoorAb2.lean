/- A frame for proofs about functions of plain data (executed over abstract values): definitions and their soundness. It says nothing of a program by itself; no conditions. -/
import Derived.Test.YtkdnelaoagmeaaaGreatDoorAb1
set_option autoImplicit true
set_option relaxedAutoImplicit true
set_option linter.unusedVariables false
set_option linter.unusedSimpArgs false
namespace Go.Ab
variable {P : Program} {E : Env} {H : Type} {enc : TypeId × Value -> H}
mutual
def shapeOK (P : Program) : Ty -> TypeId -> Bool
 | .int k, t => match P.underlying t with | some (.int k') => k == k' | _ => false
 | .bool, t => match P.underlying t with | some .bool => true | _ => false
 | .str, t => match P.underlying t with | some .string => true | _ => false
 | .slice a, t => match P.underlying t with | some (.slice e) => shapeOK P a e && Nat.beq (P.cellsOf e) a.size && Nat.blt 0 a.size | _ => false
 | .pair a b, t => match P.underlying t with | some (.struct fs) => shapesOK P 0 (.pair a b) fs.toList && Nat.beq (P.cellsOf t) (a.size + b.size) | _ => false
 | _, _ => false
def shapesOK (P : Program) : Nat -> Ty -> List Field -> Bool
 | _, .unit, [] => true
 | off, .pair a b, f :: fs => Nat.beq f.offset off && Nat.beq (P.cellsOf f.type) a.size && shapeOK P a f.type && shapesOK P (off + a.size) b fs
 | _, _, _ => false
end
def wt : (t : Ty) -> t.den -> Nat
 | .str, s => List.length s + 1
 | .pair a b, x => wt a x.1 + wt b x.2
 | .slice a, xs => (xs.map (wt a)).sum + 1
 | .unit, _ => 0
 | _, _ => 1
def rangeD : (t : Ty) -> t.den -> Prop
 | .int k, n => k.min <= (n : Int) /\ (n : Int) <= k.max
 | .pair a b, x => rangeD a x.1 /\ rangeD b x.2
 | .slice a, xs => ∀ x ∈ xs, rangeD a x
 | _, _ => True
structure Bulk (B : DataW H -> Nat) (BL : List (DataW H) -> Nat) : Prop where
 str : ∀ b, B (.lit (.string b)) = b.length + 1
 int : ∀ k n, B (.lit (.int k n)) = 1
 bool : ∀ b, B (.lit (.bool b)) = 1
 nil : B .nil = 1
 slice : ∀ e s, B (.slice e s) = BL e + BL s + 1
 agg : ∀ p, B (.agg p) = BL p + 1
 lnil : BL [] = 0
 lcons : ∀ d r, BL (d :: r) = B d + BL r
theorem mapM_some {α β : Type} {f : α -> Option β} : ∀ {l : List α} {r : List β}, l.mapM f = some r -> l.length = r.length /\ ∀ (k : Nat) a, l[k]? = some a -> ∃ b, r[k]? = some b /\ f a = some b
 | [], r, h => by simp at h; subst h; simp
 | x :: l, r, h => by
   simp only [List.mapM_cons, Option.bind_eq_bind, Option.pure_def] at h
   cases hx : f x with
   | none => rw [hx] at h; cases h
   | some y =>
     rw [hx] at h
     simp only [Option.bind_some] at h
     cases hr : l.mapM f with
     | none => rw [hr] at h; cases h
     | some q =>
       rw [hr] at h
       simp only [Option.bind_some, Option.some.injEq] at h
       subst h
       obtain ⟨h1, h2⟩ := mapM_some hr
       refine ⟨by simp [h1], fun k a hk => ?_⟩
       cases k with
       | zero => simp at hk; subst hk; exact ⟨y, rfl, hx⟩
       | succ k => simpa using h2 k a (by simpa using hk)
theorem cells?_some {w : World} {base : Nat} {a : Addr} {n : Nat} {cs : List Value} (h : w.cells? base a n = some cs) : cs.length = n /\ ∀ (j : Nat) v, cs[j]? = some v -> w.cell? (a.add j) = some v := by
 unfold World.cells? at h
 split at h
 · obtain ⟨h1, h2⟩ := mapM_some h
   rw [List.length_range] at h1
   refine ⟨h1.symm, fun j v hj => ?_⟩
   have hlt := get_lt hj
   obtain ⟨b, hb, hf⟩ := h2 j j (List.getElem?_range (by omega))
   rw [hj] at hb
   cases hb
   exact hf
 · cases h
theorem sumBL {B : DataW H -> Nat} {BL : List (DataW H) -> Nat} (hB : Bulk B BL) : ∀ l, BL l = (l.map B).sum
 | [] => hB.lnil
 | d :: r => by rw [hB.lcons, sumBL hB r]; rfl
theorem sum_le {l : List Nat} {i n : Nat} (h : l[i]? = some n) : n <= l.sum := by
 induction l generalizing i with
 | nil => simp at h
 | cons a l ih =>
   cases i with
   | zero => simp at h; subst h; simp
   | succ i => have := ih (by simpa using h); simp; omega
theorem sum_mono : ∀ {l r : List Nat}, l.length = r.length -> (∀ (i : Nat) a b, l[i]? = some a -> r[i]? = some b -> a <= b) -> l.sum <= r.sum
 | [], [], _, _ => Nat.le_refl _
 | [], _ :: _, h, _ => by simp at h
 | _ :: _, [], h, _ => by simp at h
 | a :: l, b :: r, h, hh => by
   have h1 := hh 0 a b rfl rfl
   have h2 := sum_mono (l := l) (r := r) (by simpa using h) fun i x y hx hy => hh (i + 1) x y (by simpa using hx) (by simpa using hy)
   simp; omega
theorem len_sum {α : Type} {f : α -> Nat} : ∀ {l : List α}, (∀ x ∈ l, 1 <= f x) -> l.length <= (l.map f).sum
 | [], _ => Nat.le_refl _
 | x :: l, h => by
   have := len_sum (f := f) (l := l) fun y hy => h y (List.mem_cons_of_mem _ hy)
   have := h x List.mem_cons_self
   simp; omega
theorem trod_int' {w : World} {sp : Nat -> Bool} {t : TypeId} {k : IntKind} {fuel : Nat} {cs : List Value} {d : DataW H} {ps : List MemPlace} (hu : P.underlying t = some (.int k)) (h : DataW.trod enc P w 0 sp true fuel t cs = some (d, ps)) :
   ∃ n, cs = [.int k n] /\ d = .lit (.int k n) /\ ps = [] /\ k.min <= n /\ n <= k.max := by
 cases fuel with
 | zero => simp [DataW.trod] at h
 | succ fuel =>
   match cs with
   | [] => simp [DataW.trod, hu] at h
   | _ :: _ :: _ => simp [DataW.trod, hu] at h
   | [c] =>
     cases c <;> simp [DataW.trod, hu] at h
     rename_i k' n
     obtain ⟨⟨rfl, hw⟩, rfl, rfl⟩ := h
     simp only [Lit.wf, Bool.and_eq_true, decide_eq_true_eq] at hw
     exact ⟨n, rfl, rfl, rfl, hw⟩
theorem trod_bool' {w : World} {sp : Nat -> Bool} {t : TypeId} {fuel : Nat} {cs : List Value} {d : DataW H} {ps : List MemPlace} (hu : P.underlying t = some .bool) (h : DataW.trod enc P w 0 sp true fuel t cs = some (d, ps)) :
   ∃ b, cs = [.bool b] /\ d = .lit (.bool b) /\ ps = [] := by
 cases fuel with
 | zero => simp [DataW.trod] at h
 | succ fuel =>
   match cs with
   | [] => simp [DataW.trod, hu] at h
   | _ :: _ :: _ => simp [DataW.trod, hu] at h
   | [c] =>
     cases c <;> simp [DataW.trod, hu] at h
     obtain ⟨rfl, rfl⟩ := h
     exact ⟨_, rfl, rfl, rfl⟩
theorem trod_str' {w : World} {sp : Nat -> Bool} {t : TypeId} {fuel : Nat} {cs : List Value} {d : DataW H} {ps : List MemPlace} (hu : P.underlying t = some .string) (h : DataW.trod enc P w 0 sp true fuel t cs = some (d, ps)) :
   ∃ s : List UInt8, cs = [.string ⟨s.toArray⟩] /\ d = .lit (.string s) /\ ps = [] := by
 cases fuel with
 | zero => simp [DataW.trod] at h
 | succ fuel =>
   match cs with
   | [] => simp [DataW.trod, hu] at h
   | _ :: _ :: _ => simp [DataW.trod, hu] at h
   | [c] =>
     cases c <;> simp [DataW.trod, hu] at h
     rename_i s
     obtain ⟨_, rfl, rfl⟩ := h
     exact ⟨s.data.toList, by simp, rfl, rfl⟩
theorem trod_slice' {w : World} {sp : Nat -> Bool} {t e : TypeId} {fuel : Nat} {cs : List Value} {d : DataW H} {ps : List MemPlace} (hu : P.underlying t = some (.slice e)) (h : DataW.trod enc P w 0 sp true (fuel + 1) t cs = some (d, ps)) :
   (cs = [.slice none 0 0] /\ d = .nil /\ ps = []) ∨
   (∃ a len cap elems rest, cs = [.slice (some a) len cap] /\ len <= cap /\ cap <= maxLen /\
     ((List.range len).mapM fun i => (w.cells? 0 (a.add (i * P.cellsOf e)) (P.cellsOf e)).bind (DataW.trod enc P w 0 sp true fuel e)) = some elems /\
     (if sp a.block then (List.range (cap - len)).mapM fun j => (w.cells? 0 (a.add ((len + j) * P.cellsOf e)) (P.cellsOf e)).bind (DataW.trod enc P w 0 sp true fuel e) else some []) = some rest /\
     d = .slice (elems.map (·.1)) (rest.map (·.1)) /\ ps = MemPlace.row a ((elems.length + rest.length) * P.cellsOf e) ++ (elems ++ rest).flatMap (·.2)) := by
 match cs with
 | [] => simp [DataW.trod, hu] at h
 | _ :: _ :: _ => simp [DataW.trod, hu] at h
 | [c] =>
   cases c with
   | slice a len cap =>
     cases a with
     | none =>
       cases len <;> cases cap <;> simp [DataW.trod, hu] at h
       obtain ⟨rfl, rfl⟩ := h
       exact .inl ⟨rfl, rfl, rfl⟩
     | some a =>
       right
       simp only [DataW.trod, hu] at h
       split at h
       · rename_i hc
         simp only [Option.bind_eq_some_iff, Option.map_eq_some_iff] at h
         obtain ⟨elems, h1, rest, h2, h3⟩ := h
         cases h3
         exact ⟨a, len, cap, elems, rest, rfl, hc.2.1, hc.2.2, h1, h2, rfl, rfl⟩
       · cases h
   | _ => simp [DataW.trod, hu] at h
theorem trod_struct' {w : World} {sp : Nat -> Bool} {t : TypeId} {fs : Array Field} {fuel : Nat} {cs : List Value} {d : DataW H} {ps : List MemPlace} (hu : P.underlying t = some (.struct fs)) (h : DataW.trod enc P w 0 sp true (fuel + 1) t cs = some (d, ps)) :
   cs.length = P.cellsOf t /\ ∃ xs, (fs.toList.mapM fun f => DataW.trod enc P w 0 sp true fuel f.type ((cs.drop f.offset).take (P.cellsOf f.type))) = some xs /\ d = .agg (xs.map (·.1)) /\ ps = xs.flatMap (·.2) := by
 have key : (if cs.length = P.cellsOf t then (fs.toList.mapM fun f => DataW.trod enc P w 0 sp true fuel f.type ((cs.drop f.offset).take (P.cellsOf f.type))).map fun xs => (DataW.agg (xs.map (·.1)), xs.flatMap (·.2)) else none) = some (d, ps) := by
   rw [<- h]
   simp only [DataW.trod, hu]
 split at key
 · rename_i hl
   simp only [Option.map_eq_some_iff] at key
   obtain ⟨xs, h1, h2⟩ := key
   cases h2
   exact ⟨hl, xs, h1, rfl, rfl⟩
 · cases key
theorem pick_list {α β : Type} {R : Nat -> α -> β -> Prop} : ∀ (l : List α) (k : Nat), (∀ (i : Nat) a, l[i]? = some a -> ∃ b, R (k + i) a b) -> ∃ r : List β, r.length = l.length /\ ∀ (i : Nat) a b, l[i]? = some a -> r[i]? = some b -> R (k + i) a b
 | [], k, _ => ⟨[], rfl, by simp⟩
 | x :: l, k, h => by
   obtain ⟨b, hb⟩ := h 0 x rfl
   obtain ⟨r, hr, hh⟩ := pick_list (R := R) l (k + 1) fun i a ha => by
     have := h (i + 1) a (by simpa using ha)
     rwa [show k + (i + 1) = k + 1 + i by omega] at this
   refine ⟨b :: r, by simp [hr], fun i a c ha hc => ?_⟩
   cases i with
   | zero => simp at ha hc; subst ha hc; exact hb
   | succ i =>
     have := hh i a c (by simpa using ha) (by simpa using hc)
     rwa [show k + (i + 1) = k + 1 + i by omega]
theorem trod_rep {B : DataW H -> Nat} {BL : List (DataW H) -> Nat} (hB : Bulk B BL) {w : World} : ∀ (ty : Ty),
   (∀ {t : TypeId} {fuel : Nat} {cs : List Value} {d : DataW H} {ps : List MemPlace}, shapeOK P ty t = true -> DataW.trod enc P w 0 (fun _ => true) true fuel t cs = some (d, ps) -> B d < lim ->
     ∃ x : ty.den, Rep E (fun _ => True) w ty x cs /\ wt ty x <= B d /\ rangeD ty x /\ 1 <= B d) /\
   (∀ {off fuel : Nat} {fs : List Field} {cs : List Value} {xs : List (DataW H × List MemPlace)}, shapesOK P off ty fs = true -> cs.length = off + ty.size ->
     fs.mapM (fun f => DataW.trod enc P w 0 (fun _ => true) true fuel f.type ((cs.drop f.offset).take (P.cellsOf f.type))) = some xs -> BL (xs.map (·.1)) < lim ->
     ∃ x : ty.den, Rep E (fun _ => True) w ty x (cs.drop off) /\ wt ty x <= BL (xs.map (·.1)) /\ rangeD ty x) := by
 intro ty
 induction ty with
 | int k =>
   refine ⟨fun {t fuel cs d ps} hs ht hb => ?_, fun h => by simp [shapesOK] at h⟩
   simp only [shapeOK] at hs
   split at hs
   · rename_i k' hu
     have : k = k' := by simpa using hs
     subst this
     obtain ⟨n, rfl, rfl, rfl, h1, h2⟩ := trod_int' hu ht
     exact ⟨n, rfl, by rw [hB.int]; exact Nat.le_refl _, ⟨h1, h2⟩, by rw [hB.int]; exact Nat.le_refl _⟩
   · cases hs
 | bool =>
   refine ⟨fun {t fuel cs d ps} hs ht hb => ?_, fun h => by simp [shapesOK] at h⟩
   simp only [shapeOK] at hs
   split at hs
   · rename_i hu
     obtain ⟨b, rfl, rfl, rfl⟩ := trod_bool' hu ht
     exact ⟨b, rfl, by rw [hB.bool]; exact Nat.le_refl _, trivial, by rw [hB.bool]; exact Nat.le_refl _⟩
   · cases hs
 | str =>
   refine ⟨fun {t fuel cs d ps} hs ht hb => ?_, fun h => by simp [shapesOK] at h⟩
   simp only [shapeOK] at hs
   split at hs
   · rename_i hu
     obtain ⟨s, rfl, rfl, rfl⟩ := trod_str' hu ht
     rw [hB.str] at hb ⊢
     exact ⟨s, ⟨rfl, by simp only [lim] at *; omega⟩, Nat.le_refl _, trivial, by omega⟩
   · cases hs
 | any => exact ⟨fun h => by simp [shapeOK] at h, fun h => by simp [shapesOK] at h⟩
 | err => exact ⟨fun h => by simp [shapeOK] at h, fun h => by simp [shapesOK] at h⟩
 | unit =>
   refine ⟨fun h => by simp [shapeOK] at h, fun {off fuel fs cs xs} hs hl hm hb => ?_⟩
   cases fs with
   | nil =>
     simp only [List.mapM_nil, Option.pure_def, Option.some.injEq] at hm
     subst hm
     refine ⟨(), ?_, by simp [wt], trivial⟩
     show cs.drop off = []
     simp only [Ty.size] at hl
     rw [List.drop_eq_nil_iff]; omega
   | cons _ _ => simp [shapesOK] at hs
 | pair a b iha ihb =>
   have fields : ∀ {off fuel : Nat} {fs : List Field} {cs : List Value} {xs : List (DataW H × List MemPlace)}, shapesOK P off (.pair a b) fs = true -> cs.length = off + (Ty.pair a b).size ->
       fs.mapM (fun f => DataW.trod enc P w 0 (fun _ => true) true fuel f.type ((cs.drop f.offset).take (P.cellsOf f.type))) = some xs -> BL (xs.map (·.1)) < lim ->
       ∃ x : (Ty.pair a b).den, Rep E (fun _ => True) w (.pair a b) x (cs.drop off) /\ wt (.pair a b) x <= BL (xs.map (·.1)) /\ rangeD (.pair a b) x := by
     intro off fuel fs cs xs hs hl hm hb
     cases fs with
     | nil => simp [shapesOK] at hs
     | cons f fs =>
       simp only [shapesOK, Bool.and_eq_true] at hs
       obtain ⟨⟨⟨h1, h2⟩, h3⟩, h4⟩ := hs
       have h1 := Nat.eq_of_beq_eq_true h1
       have h2 := Nat.eq_of_beq_eq_true h2
       simp only [List.mapM_cons, Option.bind_eq_bind, Option.pure_def, Option.bind_eq_some_iff] at hm
       obtain ⟨y, hy, ys, hys, hxs⟩ := hm
       simp only [Option.some.injEq] at hxs
       subst hxs
       obtain ⟨d, ps⟩ := y
       simp only [List.map_cons, hB.lcons] at hb ⊢
       rw [h1, h2] at hy
       simp only [Ty.size] at hl
       obtain ⟨x1, r1, w1, g1, _⟩ := iha.1 h3 hy (by omega)
       obtain ⟨x2, r2, w2, g2⟩ := ihb.2 (off := off + a.size) h4 (by omega) hys (by omega)
       refine ⟨(x1, x2), ⟨(cs.drop off).take a.size, cs.drop (off + a.size), ?_, r1, r2⟩, by simp only [wt]; omega, g1, g2⟩
       rw [<- List.drop_drop, List.take_append_drop]
   refine ⟨fun {t fuel cs d ps} hs ht hb => ?_, fields⟩
   simp only [shapeOK] at hs
   split at hs
   · rename_i fs hu
     simp only [Bool.and_eq_true] at hs
     have hc := Nat.eq_of_beq_eq_true hs.2
     cases fuel with
     | zero => simp [DataW.trod] at ht
     | succ fuel =>
       obtain ⟨hl, xs, hm, rfl, rfl⟩ := trod_struct' hu ht
       rw [hB.agg] at hb ⊢
       obtain ⟨x, r, hw, hr⟩ := fields (off := 0) hs.1 (by rw [hl, hc]; simp [Ty.size]) hm (by omega)
       exact ⟨x, by simpa using r, by omega, hr, by omega⟩
   · cases hs
 | slice a iha =>
   refine ⟨fun {t fuel cs d ps} hs ht hb => ?_, fun h => by simp [shapesOK] at h⟩
   simp only [shapeOK] at hs
   split at hs
   · rename_i e hu
     simp only [Bool.and_eq_true] at hs
     obtain ⟨⟨h1, h2⟩, h3⟩ := hs
     have h2 := Nat.eq_of_beq_eq_true h2
     have h3 : 0 < a.size := by simpa using h3
     cases fuel with
     | zero => simp [DataW.trod] at ht
     | succ fuel =>
       rcases trod_slice' hu ht with ⟨rfl, rfl, rfl⟩ | ⟨ad, len, cap, elems, rest, rfl, hlc, hcm, hel, hre, rfl, rfl⟩
       · rw [hB.nil]
         exact ⟨[], ⟨none, 0, 0, rfl, rfl, Nat.le_refl _, by decide, .inl rfl⟩, by simp [wt], by simp [rangeD], Nat.le_refl _⟩
       · rw [hB.slice] at hb ⊢
         obtain ⟨hlen, hget⟩ := mapM_some hel
         rw [List.length_range] at hlen
         have hsum := sumBL hB (elems.map (·.1))
         have one : ∀ (i : Nat) y, elems[i]? = some y -> ∃ x : a.den, (∃ cells : List Value, (∀ (j : Nat) v, cells[j]? = some v -> w.cell? ((ad.add (i * a.size)).add j) = some v) /\ cells.length = a.size /\ Rep E (fun _ => True) w a x cells) /\ wt a x <= B y.1 /\ rangeD a x /\ 1 <= B y.1 := by
           intro i y hy
           have hi := get_lt hy
           obtain ⟨y', hy', hf⟩ := hget i i (List.getElem?_range (by omega))
           rw [hy] at hy'
           cases hy'
           simp only [Option.bind_eq_some_iff] at hf
           obtain ⟨cells, hc, htr⟩ := hf
           obtain ⟨c1, c2⟩ := cells?_some hc
           obtain ⟨d, ps⟩ := y
           have hle : B d <= BL (elems.map (·.1)) := by
             rw [hsum]
             exact sum_le (i := i) (by simp [hy])
           obtain ⟨x, r, hw, hr, h1'⟩ := iha.1 h1 htr (by omega)
           exact ⟨x, ⟨cells, by rw [<- h2]; exact c2, by rw [c1, h2], r⟩, hw, hr, h1'⟩
         obtain ⟨xs, hxl, hx⟩ := pick_list (R := fun i (y : DataW H × List MemPlace) (x : a.den) => (∃ cells : List Value, (∀ (j : Nat) v, cells[j]? = some v -> w.cell? ((ad.add (i * a.size)).add j) = some v) /\ cells.length = a.size /\ Rep E (fun _ => True) w a x cells) /\ wt a x <= B y.1 /\ rangeD a x /\ 1 <= B y.1) elems 0
           (fun i y hy => by rw [Nat.zero_add]; exact one i y hy)
         have hx' : ∀ (i : Nat) (x : a.den), xs[i]? = some x -> ∃ y, elems[i]? = some y /\ (∃ cells : List Value, (∀ (j : Nat) v, cells[j]? = some v -> w.cell? ((ad.add (i * a.size)).add j) = some v) /\ cells.length = a.size /\ Rep E (fun _ => True) w a x cells) /\ wt a x <= B y.1 /\ rangeD a x /\ 1 <= B y.1 := fun i x hxi => by
           have hi := get_lt hxi
           have hy : elems[i]? = some elems[i] := List.getElem?_eq_getElem (by omega)
           have := hx i _ x hy hxi
           rw [Nat.zero_add] at this
           exact ⟨_, hy, this⟩
         have hwt : (xs.map (wt a)).sum <= BL (elems.map (·.1)) := by
           rw [hsum, List.map_map]
           refine sum_mono (by simp [hxl]) fun i p q hp hq => ?_
           simp only [List.getElem?_map, Option.map_eq_some_iff] at hp hq
           obtain ⟨x, hxi, rfl⟩ := hp
           obtain ⟨y, hyi, rfl⟩ := hq
           obtain ⟨y', hy', h⟩ := hx' i x hxi
           rw [hyi] at hy'
           cases hy'
           exact h.2.1
         have hll : elems.length <= BL (elems.map (·.1)) := by
           rw [hsum, List.map_map]
           refine len_sum fun y hy => ?_
           obtain ⟨i, hi⟩ := List.getElem?_of_mem hy
           obtain ⟨_, _, _, _, h⟩ := one i y hi
           exact h
         refine ⟨xs, ⟨some ad, len, cap, rfl, by omega, hlc, by omega, ?_⟩, by simp only [wt]; omega, fun x hxm => ?_, by omega⟩
         · rcases Nat.eq_zero_or_pos len with h0 | h0
           · left; exact List.length_eq_zero_iff.1 (by omega)
           · right
             have hx0 : xs[0]? = some xs[0] := List.getElem?_eq_getElem (by omega)
             obtain ⟨_, _, ⟨cells, hc, hcl, _⟩, _⟩ := hx' 0 _ hx0
             have hc0 := hc 0 cells[0] (List.getElem?_eq_getElem (by omega))
             have hplain : ad.spot = none := by
               have e : (ad.add (0 * a.size)).add 0 = ad := by simp [Addr.add]
               rw [e] at hc0
               unfold World.cell? at hc0
               split at hc0
               · split at hc0
                 · cases hc0
                 · rename_i hsp
                   cases h : ad.spot with
                   | none => rfl
                   | some _ => rw [h] at hsp; simp at hsp
               · cases hc0
             obtain ⟨b, off, spot⟩ := ad
             simp only at hplain
             subst hplain
             refine ⟨b, off, rfl, ?_, trivial, fun i x hxi => ?_⟩
             · have := cell?_lt hc0
               simpa [addr_add] using this
             · obtain ⟨_, _, ⟨cells, hc, _, hr⟩, _⟩ := hx' i x hxi
               refine ⟨cells, fun j v hj => ?_, hr⟩
               have := hc j v hj
               rwa [addr_add, addr_add] at this
         · obtain ⟨i, hi⟩ := List.getElem?_of_mem hxm
           obtain ⟨_, _, _, _, hr, _⟩ := hx' i x hi
           exact hr
   · cases hs
theorem mapM_again {α β : Type} {f g : α -> Option β} : ∀ {l : List α} {r : List β}, (∀ a ∈ l, ∀ b ∈ r, f a = some b -> g a = some b) -> l.mapM f = some r -> l.mapM g = some r
 | [], r, _, h => by simpa using h
 | x :: l, r, hh, h => by
   simp only [List.mapM_cons, Option.bind_eq_bind, Option.pure_def, Option.bind_eq_some_iff] at h ⊢
   obtain ⟨y, hy, q, hq, e⟩ := h
   simp only [Option.some.injEq] at e
   subst e
   exact ⟨y, hh x List.mem_cons_self y List.mem_cons_self hy, q, mapM_again (fun a ha b hb => hh a (List.mem_cons_of_mem _ ha) b (List.mem_cons_of_mem _ hb)) hq, rfl⟩
theorem cells?_again {w w' : World} (hw : ∀ b, b < w.heap.size -> w'.heap[b]? = w.heap[b]?) {base : Nat} {a : Addr} {n : Nat} {cs : List Value} (h : w.cells? base a n = some cs) : w'.cells? base a n = some cs := by
 unfold World.cells? at *
 split at h
 · rename_i hb
   rw [if_pos hb]
   refine mapM_again (fun i _ v _ hv => ?_) h
   rw [cell?_congr (hw _ (cell?_lt hv))]
   exact hv
 · cases h
theorem trod_again {w w' : World} (hw : ∀ b, b < w.heap.size -> w'.heap[b]? = w.heap[b]?) {sp : Nat -> Bool} : ∀ (ty : Ty),
   (∀ {t : TypeId} {fuel : Nat} {cs : List Value} {x : DataW H × List MemPlace}, shapeOK P ty t = true -> DataW.trod enc P w 0 (fun _ => true) true fuel t cs = some x -> (∀ p ∈ x.2, sp p.block = true) -> DataW.trod enc P w' 0 sp true fuel t cs = some x) /\
   (∀ {off fuel : Nat} {fs : List Field} {cs : List Value} {xs : List (DataW H × List MemPlace)}, shapesOK P off ty fs = true ->
     fs.mapM (fun f => DataW.trod enc P w 0 (fun _ => true) true fuel f.type ((cs.drop f.offset).take (P.cellsOf f.type))) = some xs -> (∀ y ∈ xs, ∀ p ∈ y.2, sp p.block = true) -> fs.mapM (fun f => DataW.trod enc P w' 0 sp true fuel f.type ((cs.drop f.offset).take (P.cellsOf f.type))) = some xs) := by
 intro ty
 have leaf : ∀ {t : TypeId} {fuel : Nat} {cs : List Value} {x : DataW H × List MemPlace} {D : TypeDesc}, P.underlying t = some D -> (D = .bool ∨ D = .string ∨ ∃ k, D = .int k) -> DataW.trod enc P w 0 (fun _ => true) true fuel t cs = some x -> DataW.trod enc P w' 0 sp true fuel t cs = some x := by
   intro t fuel cs x D hu hD h
   obtain ⟨d, ps⟩ := x
   cases fuel with
   | zero => simp [DataW.trod] at h
   | succ fuel =>
     rcases hD with rfl | rfl | ⟨k, rfl⟩
     · obtain ⟨b, rfl, rfl, rfl⟩ := trod_bool' hu h
       rw [<- h]; simp [DataW.trod, hu]
     · obtain ⟨b, rfl, rfl, rfl⟩ := trod_str' hu h
       rw [<- h]; simp [DataW.trod, hu]
     · obtain ⟨b, rfl, rfl, rfl, _⟩ := trod_int' hu h
       rw [<- h]; simp [DataW.trod, hu]
 induction ty with
 | int k =>
   refine ⟨fun {t fuel cs x} hs h hp => ?_, fun h => by simp [shapesOK] at h⟩
   simp only [shapeOK] at hs
   split at hs
   · rename_i k' hu; exact leaf hu (.inr (.inr ⟨_, rfl⟩)) h
   · cases hs
 | bool =>
   refine ⟨fun {t fuel cs x} hs h hp => ?_, fun h => by simp [shapesOK] at h⟩
   simp only [shapeOK] at hs
   split at hs
   · rename_i hu; exact leaf hu (.inl rfl) h
   · cases hs
 | str =>
   refine ⟨fun {t fuel cs x} hs h hp => ?_, fun h => by simp [shapesOK] at h⟩
   simp only [shapeOK] at hs
   split at hs
   · rename_i hu; exact leaf hu (.inr (.inl rfl)) h
   · cases hs
 | any => exact ⟨fun h => by simp [shapeOK] at h, fun h => by simp [shapesOK] at h⟩
 | err => exact ⟨fun h => by simp [shapeOK] at h, fun h => by simp [shapesOK] at h⟩
 | unit =>
   refine ⟨fun h => by simp [shapeOK] at h, fun {off fuel fs cs xs} hs h hp => ?_⟩
   cases fs with
   | nil => exact h
   | cons _ _ => simp [shapesOK] at hs
 | pair a b iha ihb =>
   have fields : ∀ {off fuel : Nat} {fs : List Field} {cs : List Value} {xs : List (DataW H × List MemPlace)}, shapesOK P off (.pair a b) fs = true ->
       fs.mapM (fun f => DataW.trod enc P w 0 (fun _ => true) true fuel f.type ((cs.drop f.offset).take (P.cellsOf f.type))) = some xs -> (∀ y ∈ xs, ∀ p ∈ y.2, sp p.block = true) -> fs.mapM (fun f => DataW.trod enc P w' 0 sp true fuel f.type ((cs.drop f.offset).take (P.cellsOf f.type))) = some xs := by
     intro off fuel fs cs xs hs hm hp
     cases fs with
     | nil => simp [shapesOK] at hs
     | cons f fs =>
       simp only [shapesOK, Bool.and_eq_true] at hs
       simp only [List.mapM_cons, Option.bind_eq_bind, Option.pure_def, Option.bind_eq_some_iff] at hm ⊢
       obtain ⟨y, hy, ys, hys, hxs⟩ := hm
       simp only [Option.some.injEq] at hxs
       subst hxs
       exact ⟨y, iha.1 hs.1.2 hy (hp y List.mem_cons_self), ys, ihb.2 hs.2 hys (fun z hz => hp z (List.mem_cons_of_mem _ hz)), rfl⟩
   refine ⟨fun {t fuel cs x} hs h hp => ?_, fields⟩
   simp only [shapeOK] at hs
   split at hs
   · rename_i fs hu
     simp only [Bool.and_eq_true] at hs
     obtain ⟨d, ps⟩ := x
     cases fuel with
     | zero => simp [DataW.trod] at h
     | succ fuel =>
       obtain ⟨hl, xs, hm, rfl, rfl⟩ := trod_struct' hu h
       have := fields (off := 0) hs.1 hm (fun y hy p hpy => hp p (List.mem_flatMap.2 ⟨y, hy, hpy⟩))
       simp only [DataW.trod, hu]
       rw [if_pos hl, this]
       rfl
   · cases hs
 | slice a iha =>
   refine ⟨fun {t fuel cs x} hs h hp => ?_, fun h => by simp [shapesOK] at h⟩
   simp only [shapeOK] at hs
   split at hs
   · rename_i e hu
     simp only [Bool.and_eq_true] at hs
     obtain ⟨d, ps⟩ := x
     cases fuel with
     | zero => simp [DataW.trod] at h
     | succ fuel =>
       rcases trod_slice' hu h with ⟨rfl, rfl, rfl⟩ | ⟨ad, len, cap, elems, rest, rfl, hlc, hcm, hel, hre, rfl, rfl⟩
       · rw [<- h]; simp [DataW.trod, hu]
       · have el : ∀ i y, (∀ p ∈ y.2, sp p.block = true) -> (w.cells? 0 (ad.add (i * P.cellsOf e)) (P.cellsOf e)).bind (DataW.trod enc P w 0 (fun _ => true) true fuel e) = some y -> (w'.cells? 0 (ad.add (i * P.cellsOf e)) (P.cellsOf e)).bind (DataW.trod enc P w' 0 sp true fuel e) = some y := by
           intro i y hpy hy
           simp only [Option.bind_eq_some_iff] at hy ⊢
           obtain ⟨cs, hc, ht⟩ := hy
           exact ⟨cs, cells?_again hw hc, iha.1 hs.1.1 ht hpy⟩
         have hpe : ∀ y ∈ elems ++ rest, ∀ p ∈ y.2, sp p.block = true := fun y hy p hpy => hp p (List.mem_append_right _ (List.mem_flatMap.2 ⟨y, hy, hpy⟩))
         have h1 := mapM_again (fun i _ y hm hy => el i y (hpe y (List.mem_append_left _ hm)) hy) hel
         simp only [if_true] at hre
         have h2 : (if sp ad.block then (List.range (cap - len)).mapM fun j => (w'.cells? 0 (ad.add ((len + j) * P.cellsOf e)) (P.cellsOf e)).bind (DataW.trod enc P w' 0 sp true fuel e) else some []) = some rest := by
           have h3 := mapM_again (fun i _ y hm hy => el _ y (hpe y (List.mem_append_right _ hm)) hy) hre
           split
           · exact h3
           · rename_i hsp
             have hsz : 0 < P.cellsOf e := by
               rw [Nat.eq_of_beq_eq_true hs.1.2]
               simpa using hs.2
             have hl1 := (mapM_some hel).1
             have hl2 := (mapM_some hre).1
             rw [List.length_range] at hl1 hl2
             rcases Nat.eq_zero_or_pos cap with h0 | h0
             · have : rest = [] := List.length_eq_zero_iff.1 (by omega)
               rw [this]
             · exfalso
               refine hsp (hp (.cell ad.block (ad.off + 0)) (List.mem_append_left _ (List.mem_map.2 ⟨0, List.mem_range.2 ?_, rfl⟩)))
               exact Nat.mul_pos (by omega) hsz
         simp only [DataW.trod, hu]
         rw [if_pos ⟨Nat.zero_le _, hlc, hcm⟩, h1, Option.bind_some, h2]
         rfl
   · cases hs
theorem keptBut_of_keep {w w' : World} (h : Keep (fun _ => False) w w') (may : MemPlace -> Prop) : w.keptBut w' may := by
 refine ⟨h.os, h.output, fun i hi => ?_⟩
 rw [h.block i hi (fun f => f)]
 cases w.heap[i]? with
 | none => trivial
 | some o => cases o <;> simp
end Go.Ab


namespace Go.Ab
variable {P : Program} {E : Env} {H : Type} {enc : TypeId × Value -> H}
def shapesAllOK (P : Program) : List Ty -> List TypeId -> Bool
 | [], [] => true
 | ty :: tys, t :: ts => shapeOK P ty t && shapesAllOK P tys ts
 | _, _ => false
def shape2 (P : Program) : Ty -> (TypeId -> Bool) × (Nat -> List Field -> Bool)
 | .int k => (fun t => match P.underlying t with | some (.int k') => k == k' | _ => false, fun _ _ => false)
 | .bool => (fun t => match P.underlying t with | some .bool => true | _ => false, fun _ _ => false)
 | .str => (fun t => match P.underlying t with | some .string => true | _ => false, fun _ _ => false)
 | .slice a => (fun t => match P.underlying t with | some (.slice e) => (shape2 P a).1 e && Nat.beq (P.cellsOf e) a.size && Nat.blt 0 a.size | _ => false, fun _ _ => false)
 | .pair a b =>
   (fun t => match P.underlying t with
     | some (.struct fs) => (match fs.toList with
       | f :: fs => Nat.beq f.offset 0 && Nat.beq (P.cellsOf f.type) a.size && (shape2 P a).1 f.type && (shape2 P b).2 (0 + a.size) fs
       | [] => false) && Nat.beq (P.cellsOf t) (a.size + b.size)
     | _ => false,
    fun off fs => match fs with
     | f :: fs => Nat.beq f.offset off && Nat.beq (P.cellsOf f.type) a.size && (shape2 P a).1 f.type && (shape2 P b).2 (off + a.size) fs
     | [] => false)
 | .unit => (fun _ => false, fun _ fs => match fs with | [] => true | _ => false)
 | .any => (fun _ => false, fun _ _ => false)
 | .err => (fun _ => false, fun _ _ => false)
theorem shape2_eq (P : Program) : ∀ T : Ty, (∀ t, (shape2 P T).1 t = shapeOK P T t) /\ ∀ off fs, (shape2 P T).2 off fs = shapesOK P off T fs := by
 intro T
 induction T with
 | int k => exact ⟨fun t => by simp only [shape2, shapeOK] <;> rfl, fun off fs => by simp only [shape2, shapesOK]⟩
 | bool => exact ⟨fun t => by simp only [shape2, shapeOK] <;> rfl, fun off fs => by simp only [shape2, shapesOK]⟩
 | str => exact ⟨fun t => by simp only [shape2, shapeOK] <;> rfl, fun off fs => by simp only [shape2, shapesOK]⟩
 | any => exact ⟨fun t => by simp only [shape2, shapeOK], fun off fs => by simp only [shape2, shapesOK]⟩
 | err => exact ⟨fun t => by simp only [shape2, shapeOK], fun off fs => by simp only [shape2, shapesOK]⟩
 | unit => exact ⟨fun t => by simp only [shape2, shapeOK], fun off fs => by cases fs <;> simp only [shape2, shapesOK]⟩
 | slice a ih => exact ⟨fun t => by simp only [shape2, shapeOK, ih.1] <;> rfl, fun off fs => by simp only [shape2, shapesOK]⟩
 | pair a b iha ihb =>
   have h2 : ∀ off fs, (shape2 P (.pair a b)).2 off fs = shapesOK P off (.pair a b) fs := by
     intro off fs
     cases fs with
     | nil => simp only [shape2, shapesOK]
     | cons f fs => simp only [shape2, shapesOK, iha.1, ihb.2]
   refine ⟨fun t => ?_, h2⟩
   have h3 : ∀ fs, (shape2 P (.pair a b)).2 0 fs = shapesOK P 0 (.pair a b) fs := h2 0
   simp only [shape2] at h3 ⊢
   rw [shapeOK]
   cases P.underlying t with
   | none => rfl
   | some d => cases d <;> first | rfl | (rename_i fs; simp only [<- h3])
def shapesAll2 (P : Program) : List Ty -> List TypeId -> Bool
 | [], [] => true
 | ty :: tys, t :: ts => (shape2 P ty).1 t && shapesAll2 P tys ts
 | _, _ => false
theorem shapesAll2_eq {P : Program} : ∀ {tys : List Ty} {ts : List TypeId}, shapesAll2 P tys ts = true -> shapesAllOK P tys ts = true
 | [], [], _ => rfl
 | [], _ :: _, h => by simp [shapesAll2] at h
 | _ :: _, [], h => by simp [shapesAll2] at h
 | ty :: tys, t :: ts, h => by
   simp only [shapesAll2, Bool.and_eq_true] at h
   simp only [shapesAllOK, Bool.and_eq_true]
   exact ⟨by rw [<- (shape2_eq P ty).1 t]; exact h.1, shapesAll2_eq h.2⟩
def wts : (tys : List Ty) -> dens tys -> Nat
 | [], _ => 0
 | t :: ts, x => wt t x.1 + wts ts x.2
def ranges : (tys : List Ty) -> dens tys -> Prop
 | [], _ => True
 | t :: ts, x => rangeD t x.1 /\ ranges ts x.2
def lawSpec (tys : List Ty) (bound : Nat) : FSpec :=
 { ps := vps tys [], rs := [.v .bool], pre := fun z => wts tys (splitA tys [] z) <= bound /\ ranges tys (splitA tys [] z), fn := fun _ => (true, ()), upd := fun _ => noUpd _ }
theorem val_vd {base : Nat} {w : World} {ty : Ty} {t : TypeId} {x : ty.den} {v : Value} (hs : shapeOK P ty t = true) (hok : Value.okWide P w .any base t v) (r : Rep E (fun _ => True) w ty x v.cells.toList) : VD E (fun _ => True) w ty x v := by
 have leaf : ∀ {u : Value}, (∀ cs, v ≠ .agg cs) -> v.cells.toList = [u] -> v = u := by
   intro u hv hc
   cases v <;> first | (simp only [Value.cells, List.cons.injEq, and_true] at hc; exact hc) | skip
   exact absurd rfl (hv _)
 unfold VD
 cases ty with
 | int k =>
   simp only [shapeOK] at hs
   split at hs
   · rename_i k' hu
     have hn : ∀ cs, v ≠ .agg cs := by rintro cs rfl; simp [Value.okWide, hu, Cell.okWide, Cell.ok] at hok
     have hc : v.cells.toList = [.int k x] := r
     rw [leaf hn hc]
     exact ⟨rfl, rfl⟩
   · cases hs
 | bool =>
   simp only [shapeOK] at hs
   split at hs
   · rename_i hu
     have hn : ∀ cs, v ≠ .agg cs := by rintro cs rfl; simp [Value.okWide, hu, Cell.okWide, Cell.ok] at hok
     have hc : v.cells.toList = [.bool x] := r
     rw [leaf hn hc]
     exact ⟨rfl, rfl⟩
   · cases hs
 | str =>
   simp only [shapeOK] at hs
   split at hs
   · rename_i hu
     have hn : ∀ cs, v ≠ .agg cs := by rintro cs rfl; simp [Value.okWide, hu, Cell.okWide, Cell.ok] at hok
     obtain ⟨hc, hl⟩ := r
     rw [leaf hn hc]
     exact ⟨rfl, rfl, hl⟩
   · cases hs
 | slice a =>
   simp only [shapeOK] at hs
   split at hs
   · rename_i e hu
     have hn : ∀ cs, v ≠ .agg cs := by rintro cs rfl; simp [Value.okWide, hu, Cell.okWide, Cell.ok] at hok
     have r' := r
     obtain ⟨ad, n, c, hc, _⟩ := r
     rw [hc] at r'
     rw [leaf hn hc]
     exact ⟨rfl, r'⟩
   · cases hs
 | pair a b =>
   simp only [shapeOK] at hs
   split at hs
   · rename_i fs hu
     simp only [Value.okWide, hu] at hok
     obtain ⟨cs, rfl, _⟩ := hok
     exact ⟨cs.toList, by simp, r⟩
   · cases hs
 | unit => simp [shapeOK] at hs
 | any => simp [shapeOK] at hs
 | err => simp [shapeOK] at hs
theorem trodAll_rep {base : Nat} {B : DataW H -> Nat} {BL : List (DataW H) -> Nat} (hB : Bulk B BL) {w : World} : ∀ {tys : List Ty} {ts : List TypeId} {vs : List Value} {ds : List (DataW H)} {ps : List MemPlace}, shapesAllOK P tys ts = true -> DataW.TrodAll enc P w 0 (fun _ => true) true ts vs ds ps ->
   (∀ (j : Nat) t v, ts[j]? = some t -> vs[j]? = some v -> Value.okWide P w .any base t v) -> BL ds < lim ->
   ∃ x : dens tys, ArgsD E (fun _ => True) w tys x vs /\ wts tys x <= BL ds /\ ranges tys x /\ ds.length = tys.length
 | [], [], [], [], ps, _, _, _, _ => ⟨(), rfl, by simp [wts], trivial, rfl⟩
 | [], [], _ :: _, _, ps, _, h, _, _ => by simp [DataW.TrodAll] at h
 | [], [], [], _ :: _, ps, _, h, _, _ => by simp [DataW.TrodAll] at h
 | ty :: tys, t :: ts, [], _, ps, _, h, _, _ => by simp [DataW.TrodAll] at h
 | ty :: tys, t :: ts, _ :: _, [], ps, _, h, _, _ => by simp [DataW.TrodAll] at h
 | ty :: tys, [], _, _, ps, h, _, _, _ => by simp [shapesAllOK] at h
 | [], t :: ts, _, _, ps, h, _, _, _ => by simp [shapesAllOK] at h
 | ty :: tys, t :: ts, v :: vs, d :: ds, ps, hs, h, hok, hb => by
   simp only [shapesAllOK, Bool.and_eq_true] at hs
   obtain ⟨p, q, ⟨fuel, h1⟩, h2, _⟩ := h
   rw [hB.lcons] at hb ⊢
   obtain ⟨x1, r1, w1, g1, _⟩ := (trod_rep (E := E) hB ty).1 hs.1 h1 (by omega)
   obtain ⟨x2, r2, w2, g2, hl⟩ := trodAll_rep hB hs.2 h2 (fun j t v ht hv => hok (j + 1) t v (by simpa using ht) (by simpa using hv)) (by omega)
   exact ⟨(x1, x2), ⟨v, vs, rfl, val_vd hs.1 (hok 0 t v rfl rfl) r1, r2⟩, by simp only [wts]; omega, ⟨g1, g2⟩, by simp [hl]⟩
theorem trodAll_again {w w' : World} (hw : ∀ b, b < w.heap.size -> w'.heap[b]? = w.heap[b]?) {sp : Nat -> Bool} : ∀ {tys : List Ty} {ts : List TypeId} {vs : List Value} {ds : List (DataW H)} {ps : List MemPlace}, shapesAllOK P tys ts = true -> DataW.TrodAll enc P w 0 (fun _ => true) true ts vs ds ps -> (∀ p ∈ ps, sp p.block = true) ->
   DataW.TrodAll enc P w' 0 sp true ts vs ds ps
 | [], [], [], [], ps, _, h, _ => h
 | [], [], _ :: _, _, ps, _, h, _ => by simp [DataW.TrodAll] at h
 | [], [], [], _ :: _, ps, _, h, _ => by simp [DataW.TrodAll] at h
 | ty :: tys, t :: ts, [], _, ps, _, h, _ => by simp [DataW.TrodAll] at h
 | ty :: tys, t :: ts, _ :: _, [], ps, _, h, _ => by simp [DataW.TrodAll] at h
 | ty :: tys, [], _, _, ps, h, _, _ => by simp [shapesAllOK] at h
 | [], t :: ts, _, _, ps, h, _, _ => by simp [shapesAllOK] at h
 | ty :: tys, t :: ts, v :: vs, d :: ds, ps, hs, h, hp => by
   simp only [shapesAllOK, Bool.and_eq_true] at hs
   obtain ⟨p, q, ⟨fuel, h1⟩, h2, rfl⟩ := h
   exact ⟨p, q, ⟨fuel, (trod_again hw ty).1 hs.1 h1 (fun x hx => hp x (List.mem_append_left _ hx))⟩, trodAll_again hw hs.2 h2 (fun x hx => hp x (List.mem_append_right _ hx)), rfl⟩
theorem law_calls {f : Nat} {tys : List Ty} {bound : Nat} (h : FOK P E f (lawSpec tys bound)) {w : World} (hT : E.tab w) (hg : ∀ b, b < E.gl -> b < w.heap.size) (hst : TabS E) {x : dens tys} {vs : List Value} (hx : ArgsD E (fun _ => True) w tys x vs) (hw : wts tys x <= bound) (hr : ranges tys x) :
   Calls P f vs.toArray w fun e w' => e = .returned (.bool true) /\ Keep (fun _ => False) w w' := by
 let G : Ctx := { P := P, E := E, w0 := w, O0 := fun _ => False, X0 := fun _ => True, m0 := fun _ => undef, n0 := 0, sub := fun _ h => h.elim, tab := hT, tabO := fun b hb => ⟨fun h => h, hg b hb⟩, tabS := hst }
 have hno : ∀ m b, ¬ Own [] m b := by rintro m b ⟨i, o, hi, _⟩; simp at hi
 obtain ⟨g1, g2⟩ := args_entry (P := P) (E := E) (S := fun _ => True) (w := w) (G.rc [] G.m0 w) rfl rfl rfl (fun b => hno _ b) (fun b => ⟨.inl trivial, hno _ b⟩) (cs := []) (y := ()) (us := []) 0 hx rfl
 have e1 : (entry (lawSpec tys bound).ps (joinP tys [] x ()) 0).2 = [] := g1
 have hO : HoldsO G (entry (lawSpec tys bound).ps (joinP tys [] x ()) 0).2 G.m0 G.w0 := by
   rw [e1]
   exact { rel := fun i o hi => by simp at hi, disj := fun i j o o' b hi => by simp at hi, keep := Keep.refl _ _, new := fun b hb => absurd hb (hno _ b), len := Nat.le_refl _, fix := fun i o hi => by simp at hi }
 have hV : VRelL (G.rc (entry (lawSpec tys bound).ps (joinP tys [] x ()) 0).2 G.m0 G.w0) (entry (lawSpec tys bound).ps (joinP tys [] x ()) 0).1 vs := by
   rw [e1]
   rw [List.append_nil] at g2
   exact g2
 have := h.2 G (joinP tys [] x ()) vs rfl rfl (by rw [e1]; rfl) (by
   show wts tys (splitA tys [] (joinP tys [] x ())) <= bound /\ ranges tys (splitA tys [] (joinP tys [] x ()))
   rw [splitA_join]; exact ⟨hw, hr⟩) hO hV
 refine Calls.mono this fun en w' he => ?_
 obtain ⟨m', vals, rfl, q1, q2⟩ := he
 simp only [lawSpec, ressV, resV, VRelL] at q2
 obtain ⟨v, q, rfl, r1, rfl⟩ := q2
 refine ⟨?_, q1.keep⟩
 have r2 : VRel _ (.d .bool true) v := r1
 have : v = .bool true := by simpa [VRel, Rep] using r2.2
 rw [this]; rfl
open Go.RowKit Go.ChangeShapes in
theorem post_same {f : Func} {s : ChangeSpec} {apart fresh handsOn again : Bool} {W W' : World} {args : Array Value} {v : Value} {ds gs : List (DataW H)} {before pa pv : List MemPlace}
   (hW : DataW.Whole enc P f.params.toList s.vars apart W args.toList ds gs before)
   (hres : ∀ (b : Nat) (sp : Nat -> Bool) (hd : Bool), DataW.TrodAll enc P W' b sp hd f.resultTypes.toList (v.resultList f.resultTypes.size) (s.fn H (ds ++ gs)).results [])
   (hargs : ∀ sp : Nat -> Bool, (∀ p ∈ before, sp p.block = true) -> DataW.TrodAll enc P W' 0 sp true f.params.toList args.toList (s.fn H (ds ++ gs)).args pa)
   (hvars : ∀ sp : Nat -> Bool, (∀ p ∈ before, sp p.block = true) -> DataW.TrodVars enc P W' sp s.vars (s.fn H (ds ++ gs)).vars pv)
   (hps : before = pa ++ pv) (hk : W.keptBut W' (· ∈ before)) (hfz : ∀ a, a.block < W.heap.size -> W'.frozen? a = W.frozen? a)
   (hok : ∀ (j : Nat) (t : TypeId) (r : Value), f.resultTypes[j]? = some t -> (v.resultList f.resultTypes.size)[j]? = some r -> Value.okWide P W' .any 0 t r) :
   s.post enc P f apart fresh handsOn again W args v W' := by
 have hold : ∀ p ∈ before, (fun b => decide (b < W.heap.size)) p.block = true := fun p hp => by simpa using hW.lt p hp
 have hlt := hW.lt
 refine ⟨ds, gs, before, [], pa, pv, hW, hres _ _ _, hargs _ hold, hvars _ hold, World.keptBut_mono (fun p hp => ⟨hp, ?_⟩) hk, fun _ => ?_⟩
 · rw [hps, List.mem_append] at hp
   exact Or.inr hp
 · obtain ⟨_, _, _, _, _, hz, hn⟩ := hW
   refine ⟨hok, _, _, ([] ++ pa) ++ pv, ⟨[] ++ pa, pv, trodAll_append (hargs _ (fun _ _ => rfl)) (hres _ _ _), hvars _ (fun _ _ => rfl), rfl, ?_, ?_⟩, ?_⟩
   · intro b off hp
     have hp' : MemPlace.cell b off ∈ before := by rw [hps]; simpa using hp
     rw [hfz _ (hlt _ hp')]
     exact hz b off hp'
   · intro ha
     have := hn ha
     rw [hps] at this
     simpa using this
   · intro p hp _
     rw [hps]
     simpa using hp
open Go.RowKit Go.ChangeShapes in
theorem law_contractT {base : Nat} {B : DataW H -> Nat} {BL : List (DataW H) -> Nat} (hB : Bulk B BL) {f : Nat} {fn : Func} {tys : List Ty} (hf : FOK P E f (lawSpec tys 1048576)) (hsh2 : shapesAll2 P tys fn.params.toList = true)
   {s : ChangeSpec} (hvars : s.vars = []) (hs : ∀ ds : List (DataW H), ds.length = tys.length -> s.fn H ds = { results := [.lit (.bool true)], args := ds }) {tb : TypeId} (hres : fn.resultTypes = #[tb]) (htb : P.underlying tb = some .bool)
   {W : World} (hT : E.tab W) (hg : ∀ b, b < E.gl -> b < W.heap.size) (hst : TabS E) {args : Array Value} {ds gs : List (DataW H)} {before : List MemPlace} (hval : ∀ (j : Nat) t v, fn.params[j]? = some t -> args[j]? = some v -> Value.okWide P W .any base t v)
   (hW : DataW.Whole enc P fn.params.toList s.vars false W args.toList ds gs before) (hk : BL (ds ++ gs) <= 1048576) :
   Calls P f args W fun e W' => ∃ v, e = .returned v /\ s.post enc P fn false true false false W args v W' := by
 have hsh := shapesAll2_eq hsh2
 have hW' := hW
 obtain ⟨p, q, hA, hV, rfl, hfz, hnd⟩ := hW
 rw [hvars] at hV
 have hgs : gs = [] /\ q = [] := by
   cases gs with
   | nil => exact ⟨rfl, by simpa [DataW.TrodVars] using hV⟩
   | cons _ _ => simp [DataW.TrodVars] at hV
 obtain ⟨rfl, rfl⟩ := hgs
 rw [List.append_nil] at hk
 obtain ⟨x, r, hw, hr, hl⟩ := trodAll_rep (E := E) hB hsh hA (fun j t v ht hv => hval j t v (by rw [<- Array.getElem?_toList]; exact ht) (by rw [<- Array.getElem?_toList]; exact hv)) (by simp only [lim]; omega)
 have hc := law_calls hf hT hg hst r (by omega) hr
 rw [Array.toArray_toList] at hc
 refine Calls.mono hc fun e W' he => ?_
 obtain ⟨rfl, hkp⟩ := he
 have hds := hs ds hl
 refine ⟨_, rfl, post_same (pa := p) (pv := []) hW' ?_ ?_ ?_ (by simp) (keptBut_of_keep hkp _) hkp.frozen (ok_one hres rfl (okWide_bool_mk htb _))⟩
 · intro b sp hd
   rw [hres, List.append_nil, hds]
   exact trodAll_cons_mk (shut_bool htb _) trodAll_mk0
 · intro sp hsp
   rw [List.append_nil, hds]
   exact trodAll_again (fun b hb => hkp.block b hb (fun f => f)) hsh hA (fun p hp => hsp p (by simpa using hp))
 · intro sp _
   rw [hvars, List.append_nil, hds]
   rfl
end Go.Ab


namespace Go.Ab
theorem goodL_ne : ∀ {l : List AV}, goodL l = true -> ∀ v ∈ l, v ≠ .any
 | [], _, v, hv => by cases hv
 | x :: r, h, v, hv => by
   rcases List.mem_cons.1 hv with rfl | hv
   · rintro rfl; simp [goodL] at h
   · refine goodL_ne (l := r) ?_ v hv
     cases x <;> first | exact h | (simp [goodL] at h)
theorem inlOK_of {P : Program} {E E' : Env} (hE : ProgOK P E') (hq : AnyEq E E') (ht : TabLe E E') {f : Nat} {fn : Func} (hf : P.funcs[f]? = some fn) (hname : (fn.name == "runtime.NumGoroutine") = false) (hb : fn.body.isSome = true) (A : St -> List AV -> List (Nat × (St -> LoopAnn))) :
   InlOK P E f (inlT E' A fn) := by
 refine .inl ⟨⟨fn, hf, hb, hname⟩, fun {G s a w m args vals K} hP hEq h hv hk => ?_⟩
 subst hEq
 unfold inlT at hk
 split at hk
 · cases hk
 rename_i c hc
 refine calls_of_wp hf hc ?_
 let G1 : Ctx := { G with E := E', ks := a.tmps.toList ++ G.ks, df := [], tab := ht.tab _ G.tab, tabO := fun b hb => G.tabO b (Nat.lt_of_lt_of_le hb ht.gl), tabS := ht.st }
 have hlen := hv.length
 have hv1 : VRelL (G1.rc s.objs m w) args vals := VRelL.env (c := G.rc s.objs m w) hq hv
 have ht1 : VRelL (G1.rc s.objs m w) s.tmps a.tmps.toList := VRelL.env (c := G.rc s.objs m w) hq h.tmps
 have hk1 : VRelL (G1.rc s.objs m w) s.keep G.ks := VRelL.env (c := G.rc s.objs m w) hq h.kp
 have h1 : Holds G1 { tmps := args ++ List.replicate (fn.ntmps - args.length) .any, objs := s.objs, keep := s.tmps ++ s.keep } { tmps := vals.toArray ++ Array.replicate (fn.ntmps - vals.toArray.size) undef, defers := [] } w m := by
   refine { o := holdsO_env (G := G) (G' := G1) hq rfl rfl rfl rfl rfl rfl h.o, tmps := ?_, defers := rfl, kp := ht1.append hk1 }
   have hrep : ∀ k, VRelL (G1.rc s.objs m w) (List.replicate k .any) (List.replicate k undef) := by
     intro k
     induction k with
     | zero => rfl
     | succ k ih => exact ⟨undef, _, rfl, by simp only [VRel], ih⟩
   have := hv1.append (hrep (fn.ntmps - args.length))
   simpa [hlen] using this
 have hts : s.tmps.length = a.tmps.toList.length := h.tmps.length.symm
 refine awp_ok (P := P) (G := G1) hE hP c h1 hk (fun c a w hq => by obtain ⟨_, _, _, _, _, hq, _⟩ := hq; cases hq) fun e s1 a1 w1 m1 hq1 hh => ?_
 have fin : (match goodL (resAVs E' fn s1) with
     | true => K { tmps := s1.keep.take s.tmps.length, objs := s1.objs, keep := s1.keep.drop s.tmps.length } (resAVs E' fn s1)
     | false => False) -> bodyPost P fn (fun e w' => ∃ s' m' rs rvals, e = .returned (retVal rvals) /\ K s' rs /\ Holds G s' a w' m' /\ VRelL (G.rc s'.objs m' w') rs rvals) .ret a1 w1 := by
   intro hr
   split at hr
   · rename_i hg
     have hne : ∀ r ∈ fn.results.toList, resAV s1 r (resSize E' r) ≠ .any := fun r hr' => goodL_ne hg _ (List.mem_map.2 ⟨r, hr', rfl⟩)
     obtain ⟨g, hg1, hg2⟩ := vals_of (G := G1) hE.env hh fn.results.toList hne
     have hkp := hh.kp
     have hq' : AnyEq E' G.E := hq.symm
     have e1 : (a.tmps.toList ++ G.ks).take s.tmps.length = a.tmps.toList := by rw [hts]; simp
     have e2 : (a.tmps.toList ++ G.ks).drop s.tmps.length = G.ks := by rw [hts]; simp
     have k1 := VRelL.env (c := G1.rc s1.objs m1 w1) hq' (hkp.take s.tmps.length)
     have k2 := VRelL.env (c := G1.rc s1.objs m1 w1) hq' (hkp.drop s.tmps.length)
     rw [show G1.ks = a.tmps.toList ++ G.ks from rfl] at k1 k2
     rw [e1] at k1
     rw [e2] at k2
     refine ⟨hh.defers, _, results_run hg1, _, m1, _, _, rfl, hr, { o := ?_, tmps := k1, defers := h.defers, kp := k2 }, VRelL.env (c := G1.rc s1.objs m1 w1) hq' hg2⟩
     exact holdsO_env (G := G1) (G' := G) hq' rfl rfl rfl rfl rfl rfl hh.o
   · cases hr
 cases e with
 | normal => exact fin hq1
 | ret => exact fin hq1
 | exit id => cases hq1
def natGo : (as : List Ty) -> List AV -> Option (dens as)
 | [], [] => some ()
 | t :: ts, .d u x :: r => match castTy u t x, natGo ts r with | some x, some y => some (x, y) | _, _ => none
 | _, _ => none
def natT (ats : List Ty) (b : Ty) (pre : dens ats -> Prop) (fn : dens ats -> b.den) : Inl := fun s args K =>
 match natGo ats args with
 | some x => pre x /\ K s [.d b (fn x)]
 | none => False
def SV : (t : Ty) -> t.den -> Value -> Prop
 | .int k, n, v => v = .int k n
 | .bool, b, v => v = .bool b
 | .str, s, v => v = .string ⟨s.toArray⟩ /\ s.length < lim
 | _, _, _ => False
def SVs : (ts : List Ty) -> dens ts -> List Value -> Prop
 | [], _, vs => vs = []
 | t :: ts, x, vs => ∃ v r, vs = v :: r /\ SV t x.1 v /\ SVs ts x.2 r
def plainT : Ty -> Bool
 | .int _ | .bool | .str => true
 | _ => false
def plainTs : List Ty -> Bool
 | [] => true
 | t :: r => plainT t && plainTs r
theorem sv_rel {c : RC} : ∀ {t : Ty} {x : t.den} {v : Value}, SV t x v -> VRel c (.d t x) v
 | .int k, x, v, h => by cases h; exact ⟨rfl, rfl⟩
 | .bool, x, v, h => by cases h; exact ⟨rfl, rfl⟩
 | .str, x, v, h => by obtain ⟨rfl, h⟩ := h; exact ⟨rfl, rfl, h⟩
 | .any, _, _, h | .err, _, _, h | .unit, _, _, h | .pair _ _, _, _, h | .slice _, _, _, h => h.elim
theorem rel_sv {c : RC} : ∀ {t : Ty} {x : t.den} {v : Value}, plainT t = true -> VRel c (.d t x) v -> SV t x v
 | .int k, x, v, _, h => by have := h.2; simp only [Rep, List.cons.injEq, and_true] at this; exact this
 | .bool, x, v, _, h => by have := h.2; simp only [Rep, List.cons.injEq, and_true] at this; exact this
 | .str, x, v, _, h => by have := h.2; simp only [Rep, List.cons.injEq, and_true] at this; exact this
 | .any, _, _, h, _ | .err, _, _, h, _ | .unit, _, _, h, _ | .pair _ _, _, _, h, _ | .slice _, _, _, h, _ => by cases h
theorem natGo_ok {c : RC} : ∀ {as : List Ty} {l : List AV} {x : dens as} {vs : List Value}, plainTs as = true -> natGo as l = some x -> VRelL c l vs -> SVs as x vs
 | [], l, x, vs, _, hx, hv => by
   cases l with
   | nil => exact hv
   | cons _ _ => simp [natGo] at hx
 | t :: ts, l, x, vs, hp, hx, hv => by
   simp only [plainTs, Bool.and_eq_true] at hp
   cases l with
   | nil => simp [natGo] at hx
   | cons y r =>
     obtain ⟨v, q, rfl, hv1, hv2⟩ := hv
     cases y with
     | d u z =>
       simp only [natGo] at hx
       split at hx
       · rename_i x1 x2 h1 h2
         cases hx
         unfold castTy at h1
         split at h1
         · rename_i e
           subst e
           cases h1
           exact ⟨v, q, rfl, rel_sv hp.1 hv1, natGo_ok hp.2 h2 hv2⟩
         · cases h1
       · cases hx
     | _ => simp [natGo] at hx
theorem natOK {P : Program} {E : Env} {f : Nat} {ats : List Ty} {b : Ty} {pre : dens ats -> Prop} {fn : dens ats -> b.den} (hp : plainTs ats = true)
   (hr : ∀ (x : dens ats) (vs : List Value) (w : World), SVs ats x vs -> pre x -> ∃ v w', (callFunc f vs.toArray).run P w = .ok (.value v) w' /\ SV b (fn x) v /\ Keep (fun _ => False) w w') : InlOK P E f (natT ats b pre fn) := by
 refine .inr fun {G s a w m args vals K} hP hEq h hv hk => ?_
 unfold natT at hk
 split at hk
 · rename_i x hx
   obtain ⟨v, w', hrun, hsv, hkeep⟩ := hr x vals w (natGo_ok hp hx hv) hk.1
   have hg := h.o.grow hkeep
   exact ⟨w', s, m, _, [v], hrun, hk.2, { o := hg.1, tmps := h.tmps.mono hg.2, defers := h.defers, kp := h.kp.mono hg.2 }, v, [], rfl, sv_rel hsv, rfl⟩
 · cases hk
end Go.Ab


namespace Go.Ab
variable {P : Program} {E : Env}
theorem keep_of {O : Nat -> Prop} {w w' : World} (h1 : w'.os = w.os) (h2 : w'.tape = w.tape) (h3 : w'.output = w.output) (h4 : w.heap.size <= w'.heap.size) (h5 : ∀ b, b < w.heap.size -> w'.heap[b]? = w.heap[b]?) : Keep O w w' :=
 ⟨h1, h2, h3, fun a ha => by unfold World.frozen?; rw [h5 _ ha], h4, fun b hb _ => h5 b hb⟩
def plainPs : List PTy -> Bool
 | [] => true
 | .v _ :: r => plainPs r
 | _ => false
theorem plain_entry : ∀ {ps : List PTy}, plainPs ps = true -> ∀ (x : pdens ps) (n : Nat), (entry ps x n).2 = []
 | [], _, _, _ => rfl
 | .v t :: r, h, x, n => by
   show (entry r x.2 n).2 = []
   exact plain_entry (ps := r) h x.2 n
theorem plain_exit : ∀ {ps : List PTy}, plainPs ps = true -> ∀ (u : mdens ps), exitObjs ps u = []
 | [], _, _ => rfl
 | .v t :: r, h, u => by
   show exitObjs r u = []
   exact plain_exit (ps := r) h u
theorem fok_raw {f : Nat} {ps : List PTy} {pre : pdens ps -> Prop} {fn : pdens ps -> List UInt8} {upd : pdens ps -> mdens ps} (hp : plainPs ps = true) (hE : Enters P f)
   (h : ∀ (x : pdens ps) (c : RC) (vs : List Value), c.E = E -> E.tab c.w -> pre x -> VRelL c (entry ps x 0).1 vs -> Calls P f vs.toArray c.w fun e w' => e = .returned (.string ⟨(fn x).toArray⟩) /\ (fn x).length < lim /\ Keep (fun _ => False) c.w w') :
   FOK P E f { ps := ps, rs := [.v .str], pre := pre, fn := fun x => (fn x, ()), upd := upd } := by
 refine ⟨hE, fun G x vs hP hEq hn hpre hO hV => ?_⟩
 have e1 := plain_entry hp x 0
 have e2 := plain_exit hp (upd x)
 have e3 : outObjs { ps := ps, rs := [.v .str], pre := pre, fn := fun x => (fn x, ()), upd := upd } x = [] := by
   unfold outObjs
   simp only [e2, ressV, resV, List.append_nil, List.nil_append, List.map_nil]
 refine Calls.mono (h x (G.rc (entry ps x 0).2 G.m0 G.w0) vs hEq (by rw [<- hEq]; exact G.tab) hpre hV) fun e w' he => ?_
 obtain ⟨rfl, hl, hk⟩ := he
 refine ⟨G.m0, [.string ⟨(fn x).toArray⟩], rfl, ?_, ?_⟩
 · rw [e3]
   exact { rel := fun i o hi => by simp at hi, disj := fun i j o o' b hi => by simp at hi, keep := hk.weaken fun _ _ hf => hf.elim, new := fun b hb => by obtain ⟨i, o, hi, _⟩ := hb; simp at hi, len := by rw [hn]; show (entry ps x 0).2.length <= _; rw [e1]; exact Nat.le_refl _, fix := fun i o hi => by simp at hi }
 · exact ⟨_, [], rfl, mk_str hl, rfl⟩
theorem fok_pre {f : Nat} {sp : FSpec} {pre : pdens sp.ps -> Prop} (hE : Enters P f) (h : ∀ x, pre x -> ∃ q : pdens sp.ps -> Prop, q x /\ FOK P E f { sp with pre := q }) : FOK P E f { sp with pre := pre } :=
 ⟨hE, fun G x vs hP hEq hn hpre hO hV => by
   obtain ⟨q, hq, hf⟩ := h x hpre
   exact hf.2 G x vs hP hEq hn hq hO hV⟩
end Go.Ab


namespace Go.Ab
variable {P : Program} {E : Env}
def flatB : Ty -> Bool
 | .int _ | .bool | .str | .unit => true
 | .pair a b => flatB a && flatB b
 | _ => false
def cellsV : (t : Ty) -> t.den -> List Value
 | .int k, n => [.int k n]
 | .bool, b => [.bool b]
 | .str, s => [.string ⟨s.toArray⟩]
 | .pair a b, x => cellsV a x.1 ++ cellsV b x.2
 | _, _ => []
def smallV : (t : Ty) -> t.den -> Prop
 | .str, s => s.length < lim
 | .pair a b, x => smallV a x.1 /\ smallV b x.2
 | _, _ => True
theorem rep_flat {X : Nat -> Prop} {w : World} : ∀ {t : Ty} {x : t.den} {cs : List Value}, flatB t = true -> Rep E X w t x cs -> cs = cellsV t x /\ smallV t x
 | .int k, x, cs, _, h => ⟨h, trivial⟩
 | .bool, x, cs, _, h => ⟨h, trivial⟩
 | .str, x, cs, _, h => ⟨h.1, h.2⟩
 | .unit, x, cs, _, h => ⟨h, trivial⟩
 | .pair a b, x, cs, hf, h => by
   simp only [flatB, Bool.and_eq_true] at hf
   obtain ⟨c1, c2, rfl, h1, h2⟩ := h
   have e1 := rep_flat hf.1 h1
   have e2 := rep_flat hf.2 h2
   exact ⟨by rw [e1.1, e2.1]; rfl, e1.2, e2.2⟩
 | .any, _, _, hf, _ | .err, _, _, hf, _ | .slice _, _, _, hf, _ => by cases hf
theorem flat_rep {X : Nat -> Prop} {w : World} : ∀ {t : Ty} {x : t.den}, flatB t = true -> smallV t x -> Rep E X w t x (cellsV t x)
 | .int k, x, _, h => rfl
 | .bool, x, _, h => rfl
 | .str, x, _, h => ⟨rfl, h⟩
 | .unit, x, _, h => rfl
 | .pair a b, x, hf, h => by
   simp only [flatB, Bool.and_eq_true] at hf
   exact ⟨_, _, rfl, flat_rep hf.1 h.1, flat_rep hf.2 h.2⟩
 | .any, _, hf, _ | .err, _, hf, _ | .slice _, _, hf, _ => by cases hf
theorem cellsV_len : ∀ {t : Ty} {x : t.den}, flatB t = true -> (cellsV t x).length = t.size
 | .int _, _, _ => rfl
 | .bool, _, _ => rfl
 | .str, _, _ => rfl
 | .unit, _, _ => rfl
 | .pair a b, x, hf => by
   simp only [flatB, Bool.and_eq_true] at hf
   simp [cellsV, Ty.size, cellsV_len hf.1, cellsV_len hf.2]
 | .any, _, hf | .err, _, hf | .slice _, _, hf => by cases hf
def sortT (t : Ty) (lt : t.den -> t.den -> Bool) (ex : List AV) : Inl := fun s args K =>
 match args with
 | .os i :: r => r = ex /\ (match s.heap i with
   | some (.arr u xs fx) => match castTy (.slice u) (.slice t) xs with
     | some xs => ∀ ys : List t.den, List.Perm ys xs -> List.Pairwise (fun a b => lt b a = false) ys -> K (s.setObj i (some (.arr t ys fx))) []
     | none => False
   | _ => False)
 | _ => False
theorem keep_sorted {w : World} {b n : Nat} {cs' : List Value} {os : Array _root_.Go.Obj} : Keep (fun k => k = b) w (Sort.grow (Sort.ahead (w.setRow b cs'.toArray) n) os) := by
 have k1 := keep_setRow w b cs'.toArray
 refine Keep.trans (b := w.setRow b cs'.toArray) k1 (Keep.weaken (keep_of (O := fun _ => False) rfl rfl rfl ?_ ?_) fun _ _ h => h.elim)
 · simp [Sort.grow, Sort.ahead]
 · intro k hk
   show (Array.append _ os)[k]? = _
   exact Array.getElem?_append_left hk
theorem sortOK {f : Nat} {t : Ty} {lt : t.den -> t.den -> Bool} {ex : List AV} {exs : List Value} (ht : flatB t = true) (hE : Enters P f) (hex : ∀ (c : RC) (vs : List Value), VRelL c ex vs -> vs = exs)
   (h0 : ∀ ad w, Calls P f (.slice ad 0 0 :: exs).toArray w fun e w' => e = .returned (.tuple #[]) /\ w' = w)
   (hc : ∀ (w : World) (b cap : Nat) (cs : List Value) (e : TypeId) (xs : List t.den), w.heap[b]? = some (.cells cs.toArray e (0, 0)) -> cs.length = cap * t.size -> xs.length <= cap -> xs.length < lim ->
     (∀ (k : Nat) x, xs[k]? = some x -> (cs.drop (k * t.size)).take t.size = cellsV t x) -> (∀ x ∈ xs, smallV t x) ->
     Calls P f (.slice (some ⟨b, 0, none⟩) xs.length cap :: exs).toArray w fun e' w' => e' = .returned (.tuple #[]) /\ ∃ (ys : List t.den) (cs' : List Value) (n : Nat) (os : Array _root_.Go.Obj),
       List.Perm ys xs /\ List.Pairwise (fun a b => lt b a = false) ys /\ cs'.length = cs.length /\ (∀ (k : Nat) x, ys[k]? = some x -> (cs'.drop (k * t.size)).take t.size = cellsV t x) /\ w' = Sort.grow (Sort.ahead (w.setRow b cs'.toArray) n) os) :
   InlOK P E f (sortT t lt ex) := by
 refine .inl ⟨hE, fun {G s a w m args vals K} hP hEq h hv hk => ?_⟩
 unfold sortT at hk
 split at hk
 · rename_i i r
   obtain ⟨rfl, hk⟩ := hk
   split at hk
   · rename_i u xs0 fx hi
     split at hk
     · rename_i xs hcast
       unfold castTy at hcast
       split at hcast
       · rename_i e
         injection e with e
         subst e
         cases hcast
         obtain ⟨v, q, rfl, hv1, hv2⟩ := hv
         obtain ⟨hin, hvm, _⟩ := hv1
         obtain rfl := hex _ _ hv2
         obtain ⟨ad, n, cap, hm, hn, hcap, hl, hr⟩ := (h.heap i _ hi).2
         have hvm : v = m i := hvm
         have hm : m i = .slice ad n cap := hm
         have hn : n = List.length xs0 := hn
         subst hn
         rcases Nat.eq_zero_or_pos cap with h0c | hpos
         · subst h0c
           have hx : List.length xs0 = 0 := Nat.le_zero.1 hcap
           rw [hvm, hm, hx]
           refine Calls.mono (h0 ad w) fun e w' he => ?_
           obtain ⟨rfl, rfl⟩ := he
           refine ⟨_, m, [], [], rfl, hk xs0 (List.Perm.refl _) (by rw [List.eq_nil_of_length_eq_zero hx]; exact List.Pairwise.nil), ?_, rfl⟩
           refine h.wrote (heap_get hi) (Keep.refl _ _) (fun h => h) fun hle => ?_
           exact ⟨ad, _, 0, hm, rfl, hcap, hl, .inl rfl⟩
         · rcases hr with hr | ⟨b, cs, e', rfl, hb, hvl, hcm, hrep⟩
           · omega
           rw [hvm, hm]
           have hrep' : ∀ (k : Nat) x, xs0[k]? = some x -> (cs.drop (k * u.size)).take u.size = cellsV u x /\ smallV u x := fun k x hx => rep_flat ht (hrep k x hx)
           refine Calls.mono (hc w b cap cs e' xs0 hb hvl hcap hl (fun k x hx => (hrep' k x hx).1) (fun x hx => by
             obtain ⟨k, hk⟩ := List.mem_iff_getElem?.1 hx
             exact (hrep' k x hk).2)) fun e w' he => ?_
           obtain ⟨rfl, ys, cs', nn, os, hperm, hpw, hlen, hrows, rfl⟩ := he
           refine ⟨_, m, [], [], rfl, hk ys hperm hpw, ?_, rfl⟩
           refine h.wrote (heap_get hi) (keep_sorted.weaken fun k _ e => by subst e; rw [hm]; simp [rows_p, rows_s, blk]; omega) (fun h => h) fun hle => ?_
           refine ⟨_, _, cap, hm, hperm.length_eq.symm, hcap, hl, .inr ⟨b, cs', e', rfl, ?_, by rw [hlen]; exact hvl, hcm, fun k x hx => ?_⟩⟩
           · show (Array.append (w.setRow b cs'.toArray).heap os)[b]? = _
             have hs := setRow_heap w b cs.toArray cs'.toArray e' (0, 0) hb
             have hlt : b < (w.setRow b cs'.toArray).heap.size := (Array.getElem?_eq_some_iff.1 hs).1
             exact (Array.getElem?_append_left hlt).trans hs
           · rw [hrows k x hx]
             refine flat_rep ht ?_
             obtain ⟨j, hj⟩ := List.mem_iff_getElem?.1 (hperm.mem_iff.1 (List.mem_of_getElem? hx))
             exact (hrep' j x hj).2
       · cases hcast
     · cases hk
   · cases hk
 · cases hk
theorem row_set {w : World} {b : Nat} {cs : List Value} {e : TypeId} {F : Array Value} (hb : w.heap[b]? = some (.cells cs.toArray e (0, 0))) (hF : F.size <= cs.length) :
   Sort.putRow id w b 0 F = w.setRow b (F.toList ++ cs.drop F.size).toArray := by
 unfold Sort.putRow Sort.mapBlock World.setRow
 congr 1
 apply Array.ext_getElem?
 intro k
 simp only [Array.getElem?_modify]
 by_cases hk : b = k
 · subst hk
   simp only [if_true, hb, Option.map_some, Sort.onCells]
   congr 2
   apply Array.ext_getElem?
   intro j
   simp only [Sort.putCells, Array.getElem?_mapIdx, List.getElem?_toArray, Nat.zero_le, true_and, Nat.zero_add, Nat.sub_zero, id]
   by_cases hj : j < F.size
   · rw [List.getElem?_append_left (by simpa using hj)]
     have hjc : j < cs.length := by omega
     rw [List.getElem?_eq_getElem hjc]
     simp [hj]
   · rw [List.getElem?_append_right (by simpa using Nat.le_of_not_lt hj), List.getElem?_drop]
     have : F.size + (j - F.toList.length) = j := by simp; omega
     rw [this]
     cases cs[j]? with
     | none => rfl
     | some y => simp [hj]
 · simp [hk]
theorem chunk_at {F : List Value} {sz : Nat} {us : List Value} {k : Nat} (hu : us.length = sz) (h : ∀ j, j < sz -> F[k * sz + j]? = us[j]?) : (F.drop (k * sz)).take sz = us := by
 apply List.ext_getElem?
 intro j
 rcases Nat.lt_or_ge j sz with hj | hj
 · rw [List.getElem?_take_of_lt hj, List.getElem?_drop, h j hj]
 · rw [List.getElem?_eq_none (by simp; omega), List.getElem?_eq_none (by omega)]
end Go.Ab


