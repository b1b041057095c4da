/- A frame for proofs about functions of plain data (executed over abstract values): definitions and their soundness. It says nothing of a program by itself; no conditions. -/
import Derived.Test.YtjkipndhdemnoaaGreatDoorAb1
set_option autoImplicit true
set_option relaxedAutoImplicit true
set_option linter.unusedVariables false
set_option linter.unusedSimpArgs false
namespace Go.Ab
variable {P : Program} {E : Env}
def flatB : Ty → Bool
  | .int _ | .bool | .str | .unit => true
  | .pair a b => flatB a && flatB b
  | _ => false
def cellsV : (t : Ty) → t.den → List Value
  | .int k, n => [.int k n]
  | .bool, b => [.bool b]
  | .str, s => [.string ⟨s.toArray⟩]
  | .pair a b, x => cellsV a x.1 ++ cellsV b x.2
  | _, _ => []
def smallV : (t : Ty) → t.den → Prop
  | .str, s => s.length < lim
  | .pair a b, x => smallV a x.1 ∧ smallV b x.2
  | _, _ => True
theorem rep_flat {X : Nat → Prop} {w : World} : ∀ {t : Ty} {x : t.den} {cs : List Value}, flatB t = true → Rep E X w t x cs → cs = cellsV t x ∧ smallV t x
  | .int k, x, cs, _, h => ⟨h, trivial⟩
  | .bool, x, cs, _, h => ⟨h, trivial⟩
  | .str, x, cs, _, h => ⟨h.1, h.2⟩
  | .unit, x, cs, _, h => ⟨h, trivial⟩
  | .pair a b, x, cs, hf, h => by
    simp only [flatB, Bool.and_eq_true] at hf
    obtain ⟨c1, c2, rfl, h1, h2⟩ := h
    have e1 := rep_flat hf.1 h1
    have e2 := rep_flat hf.2 h2
    exact ⟨by rw [e1.1, e2.1]; rfl, e1.2, e2.2⟩
  | .any, _, _, hf, _ | .err, _, _, hf, _ | .slice _, _, _, hf, _ => by cases hf
theorem flat_rep {X : Nat → Prop} {w : World} : ∀ {t : Ty} {x : t.den}, flatB t = true → smallV t x → Rep E X w t x (cellsV t x)
  | .int k, x, _, h => rfl
  | .bool, x, _, h => rfl
  | .str, x, _, h => ⟨rfl, h⟩
  | .unit, x, _, h => rfl
  | .pair a b, x, hf, h => by
    simp only [flatB, Bool.and_eq_true] at hf
    exact ⟨_, _, rfl, flat_rep hf.1 h.1, flat_rep hf.2 h.2⟩
  | .any, _, hf, _ | .err, _, hf, _ | .slice _, _, hf, _ => by cases hf
theorem cellsV_len : ∀ {t : Ty} {x : t.den}, flatB t = true → (cellsV t x).length = t.size
  | .int _, _, _ => rfl
  | .bool, _, _ => rfl
  | .str, _, _ => rfl
  | .unit, _, _ => rfl
  | .pair a b, x, hf => by
    simp only [flatB, Bool.and_eq_true] at hf
    simp [cellsV, Ty.size, cellsV_len hf.1, cellsV_len hf.2]
  | .any, _, hf | .err, _, hf | .slice _, _, hf => by cases hf
theorem cellsV_one : ∀ {t : Ty} {x : t.den}, flatB t = true → ∀ v ∈ cellsV t x, v.oneCell' = true
  | .int _, _, _, v, hv => by simp only [cellsV, List.mem_singleton] at hv; subst hv; rfl
  | .bool, _, _, v, hv => by simp only [cellsV, List.mem_singleton] at hv; subst hv; rfl
  | .str, _, _, v, hv => by simp only [cellsV, List.mem_singleton] at hv; subst hv; rfl
  | .unit, _, _, v, hv => by simp [cellsV] at hv
  | .pair a b, x, hf, v, hv => by
    simp only [flatB, Bool.and_eq_true] at hf
    simp only [cellsV, List.mem_append] at hv
    rcases hv with hv | hv
    · exact cellsV_one hf.1 v hv
    · exact cellsV_one hf.2 v hv
  | .any, _, hf, _, _ | .err, _, hf, _, _ | .slice _, _, hf, _, _ => by cases hf
def sortT (t : Ty) (lt : t.den → t.den → Bool) (ex : List AV) : Inl := fun s args K =>
  match args with
  | .os i :: r => r = ex ∧ (match s.heap i with
    | some (.arr u xs fx) => match castTy (.slice u) (.slice t) xs with
      | some xs => ∀ ys : List t.den, List.Perm ys xs → List.Pairwise (fun a b => lt b a = false) ys → K (s.setObj i (some (.arr t ys fx))) []
      | none => False
    | _ => False)
  | _ => False
theorem keep_sorted {w : World} {b n : Nat} {cs' : List Value} {os : Array _root_.Go.Obj} : Keep (fun k => k = b) w (Sort.grow (Sort.ahead (w.setRow b cs'.toArray) n) os) := by
  have k1 := keep_setRow w b cs'.toArray
  refine Keep.trans (b := w.setRow b cs'.toArray) k1 (Keep.weaken (keep_of (O := fun _ => False) rfl rfl rfl ?_ ?_) fun _ _ h => h.elim)
  · simp [Sort.grow, Sort.ahead]
  · intro k hk
    show (Array.append _ os)[k]? = _
    exact Array.getElem?_append_left hk
theorem sortOK {f : Nat} {t : Ty} {lt : t.den → t.den → Bool} {ex : List AV} {exs : List Value} (ht : flatB t = true) (hE : Enters P f) (hex : ∀ (c : RC) (vs : List Value), VRelL c ex vs → vs = exs)
    (h0 : ∀ ad w, Calls P f (.slice ad 0 0 :: exs).toArray w fun e w' => e = .returned (.tuple #[]) ∧ w' = w)
    (hc : ∀ (w : World) (b cap : Nat) (cs : List Value) (e : TypeId) (xs : List t.den), w.heap[b]? = some (.cells cs.toArray e (0, 0)) → cs.length = cap * t.size → xs.length ≤ cap → xs.length < lim →
      (∀ (k : Nat) x, xs[k]? = some x → (cs.drop (k * t.size)).take t.size = cellsV t x) → (∀ x ∈ xs, smallV t x) →
      Calls P f (.slice (some ⟨b, 0, none⟩) xs.length cap :: exs).toArray w fun e' w' => e' = .returned (.tuple #[]) ∧ ∃ (ys : List t.den) (cs' : List Value) (n : Nat) (os : Array _root_.Go.Obj),
        List.Perm ys xs ∧ List.Pairwise (fun a b => lt b a = false) ys ∧ cs'.length = cs.length ∧ (∀ (k : Nat) x, ys[k]? = some x → (cs'.drop (k * t.size)).take t.size = cellsV t x) ∧ w' = Sort.grow (Sort.ahead (w.setRow b cs'.toArray) n) os) :
    InlOK P E f (sortT t lt ex) := by
  refine .inl ⟨hE, fun {G s a w m args vals K} hP hEq h hv hk => ?_⟩
  unfold sortT at hk
  split at hk
  · rename_i i r
    obtain ⟨rfl, hk⟩ := hk
    split at hk
    · rename_i u xs0 fx hi
      split at hk
      · rename_i xs hcast
        unfold castTy at hcast
        split at hcast
        · rename_i e
          injection e with e
          subst e
          cases hcast
          obtain ⟨v, q, rfl, hv1, hv2⟩ := hv
          obtain ⟨hin, hvm, _⟩ := hv1
          obtain rfl := hex _ _ hv2
          obtain ⟨ad, n, cap, hm, hn, hcap, hl, hr⟩ := (h.heap i _ hi).2
          have hvm : v = m i := hvm
          have hm : m i = .slice ad n cap := hm
          have hn : n = List.length xs0 := hn
          subst hn
          rcases Nat.eq_zero_or_pos cap with h0c | hpos
          · subst h0c
            have hx : List.length xs0 = 0 := Nat.le_zero.1 hcap
            rw [hvm, hm, hx]
            refine Calls.mono (h0 ad w) fun e w' he => ?_
            obtain ⟨rfl, rfl⟩ := he
            refine ⟨_, m, [], [], rfl, hk xs0 (List.Perm.refl _) (by rw [List.eq_nil_of_length_eq_zero hx]; exact List.Pairwise.nil), ?_, rfl⟩
            refine h.wrote (heap_get hi) (Keep.refl _ _) (fun h => h) fun hle => ?_
            exact ⟨ad, _, 0, hm, rfl, hcap, hl, .inl rfl⟩
          · rcases hr with hr | ⟨b, cs, e', rfl, hb, hvl, hcm, hrep⟩
            · omega
            rw [hvm, hm]
            have hrep' : ∀ (k : Nat) x, xs0[k]? = some x → (cs.drop (k * u.size)).take u.size = cellsV u x ∧ smallV u x := fun k x hx => rep_flat ht (hrep k x hx)
            refine Calls.mono (hc w b cap cs e' xs0 hb hvl hcap hl (fun k x hx => (hrep' k x hx).1) (fun x hx => by
              obtain ⟨k, hk⟩ := List.mem_iff_getElem?.1 hx
              exact (hrep' k x hk).2)) fun e w' he => ?_
            obtain ⟨rfl, ys, cs', nn, os, hperm, hpw, hlen, hrows, rfl⟩ := he
            refine ⟨_, m, [], [], rfl, hk ys hperm hpw, ?_, rfl⟩
            refine h.wrote (heap_get hi) (keep_sorted.weaken fun k _ e => by subst e; rw [hm]; simp [blk]; omega) (fun h => h) fun hle => ?_
            refine ⟨_, _, cap, hm, hperm.length_eq.symm, hcap, hl, .inr ⟨b, cs', e', rfl, ?_, by rw [hlen]; exact hvl, hcm, fun k x hx => ?_⟩⟩
            · show (Array.append (w.setRow b cs'.toArray).heap os)[b]? = _
              have hs := setRow_heap w b cs.toArray cs'.toArray e' (0, 0) hb
              have hlt : b < (w.setRow b cs'.toArray).heap.size := (Array.getElem?_eq_some_iff.1 hs).1
              exact (Array.getElem?_append_left hlt).trans hs
            · rw [hrows k x hx]
              refine flat_rep ht ?_
              obtain ⟨j, hj⟩ := List.mem_iff_getElem?.1 (hperm.mem_iff.1 (List.mem_of_getElem? hx))
              exact (hrep' j x hj).2
        · cases hcast
      · cases hk
    · cases hk
  · cases hk
theorem row_set {w : World} {b : Nat} {cs : List Value} {e : TypeId} {F : Array Value} (hb : w.heap[b]? = some (.cells cs.toArray e (0, 0))) (hF : F.size ≤ cs.length) :
    Sort.putRow id w b 0 F = w.setRow b (F.toList ++ cs.drop F.size).toArray := by
  unfold Sort.putRow Sort.mapBlock World.setRow
  congr 1
  apply Array.ext_getElem?
  intro k
  simp only [Array.getElem?_modify]
  by_cases hk : b = k
  · subst hk
    simp only [if_true, hb, Option.map_some, Sort.onCells]
    congr 2
    apply Array.ext_getElem?
    intro j
    simp only [Sort.putCells, Array.getElem?_mapIdx, List.getElem?_toArray, Nat.zero_le, true_and, Nat.zero_add, Nat.sub_zero, id]
    by_cases hj : j < F.size
    · rw [List.getElem?_append_left (by simpa using hj)]
      have hjc : j < cs.length := by omega
      rw [List.getElem?_eq_getElem hjc]
      simp [hj]
    · rw [List.getElem?_append_right (by simpa using Nat.le_of_not_lt hj), List.getElem?_drop]
      have : F.size + (j - F.toList.length) = j := by simp; omega
      rw [this]
      cases cs[j]? with
      | none => rfl
      | some y => simp [hj]
  · simp [hk]
theorem chunk_at {F : List Value} {sz : Nat} {us : List Value} {k : Nat} (hu : us.length = sz) (h : ∀ j, j < sz → F[k * sz + j]? = us[j]?) : (F.drop (k * sz)).take sz = us := by
  apply List.ext_getElem?
  intro j
  rcases Nat.lt_or_ge j sz with hj | hj
  · rw [List.getElem?_take_of_lt hj, List.getElem?_drop, h j hj]
  · rw [List.getElem?_eq_none (by simp; omega), List.getElem?_eq_none (by omega)]
end Go.Ab

