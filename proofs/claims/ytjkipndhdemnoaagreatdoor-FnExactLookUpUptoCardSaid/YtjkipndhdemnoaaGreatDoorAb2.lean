/- A frame for proofs about functions of plain data (executed over abstract values): definitions and their soundness. It says nothing of a program by itself; no conditions. -/
import Derived.Test.YtjkipndhdemnoaaGreatDoorAb1
set_option autoImplicit true
set_option relaxedAutoImplicit true
set_option linter.unusedVariables false
set_option linter.unusedSimpArgs false
namespace Go.Ab
variable {P : Program} {E : Env}
def flatB : Ty → Bool
  | .int _ | .bool | .str | .unit => true
  | .pair a b => flatB a && flatB b
  | _ => false
def cellsV : (t : Ty) → t.den → List Value
  | .int k, n => [.int k n]
  | .bool, b => [.bool b]
  | .str, s => [.string ⟨s.toArray⟩]
  | .pair a b, x => cellsV a x.1 ++ cellsV b x.2
  | _, _ => []
def smallV : (t : Ty) → t.den → Prop
  | .str, s => s.length < lim
  | .pair a b, x => smallV a x.1 ∧ smallV b x.2
  | _, _ => True
theorem rep_flat {X : Nat → Prop} {w : World} : ∀ {t : Ty} {x : t.den} {cs : List Value}, flatB t = true → Rep E X w t x cs → cs = cellsV t x ∧ smallV t x
  | .int k, x, cs, _, h => ⟨h, trivial⟩
  | .bool, x, cs, _, h => ⟨h, trivial⟩
  | .str, x, cs, _, h => ⟨h.1, h.2⟩
  | .unit, x, cs, _, h => ⟨h, trivial⟩
  | .pair a b, x, cs, hf, h => by
    simp only [flatB, Bool.and_eq_true] at hf
    obtain ⟨c1, c2, rfl, h1, h2⟩ := h
    have e1 := rep_flat hf.1 h1
    have e2 := rep_flat hf.2 h2
    exact ⟨by rw [e1.1, e2.1]; rfl, e1.2, e2.2⟩
  | .any, _, _, hf, _ | .err, _, _, hf, _ | .slice _, _, _, hf, _ => by cases hf
theorem flat_rep {X : Nat → Prop} {w : World} : ∀ {t : Ty} {x : t.den}, flatB t = true → smallV t x → Rep E X w t x (cellsV t x)
  | .int k, x, _, h => rfl
  | .bool, x, _, h => rfl
  | .str, x, _, h => ⟨rfl, h⟩
  | .unit, x, _, h => rfl
  | .pair a b, x, hf, h => by
    simp only [flatB, Bool.and_eq_true] at hf
    exact ⟨_, _, rfl, flat_rep hf.1 h.1, flat_rep hf.2 h.2⟩
  | .any, _, hf, _ | .err, _, hf, _ | .slice _, _, hf, _ => by cases hf
theorem cellsV_len : ∀ {t : Ty} {x : t.den}, flatB t = true → (cellsV t x).length = t.size
  | .int _, _, _ => rfl
  | .bool, _, _ => rfl
  | .str, _, _ => rfl
  | .unit, _, _ => rfl
  | .pair a b, x, hf => by
    simp only [flatB, Bool.and_eq_true] at hf
    simp [cellsV, Ty.size, cellsV_len hf.1, cellsV_len hf.2]
  | .any, _, hf | .err, _, hf | .slice _, _, hf => by cases hf
theorem cellsV_one : ∀ {t : Ty} {x : t.den}, flatB t = true → ∀ v ∈ cellsV t x, v.oneCell' = true
  | .int _, _, _, v, hv => by simp only [cellsV, List.mem_singleton] at hv; subst hv; rfl
  | .bool, _, _, v, hv => by simp only [cellsV, List.mem_singleton] at hv; subst hv; rfl
  | .str, _, _, v, hv => by simp only [cellsV, List.mem_singleton] at hv; subst hv; rfl
  | .unit, _, _, v, hv => by simp [cellsV] at hv
  | .pair a b, x, hf, v, hv => by
    simp only [flatB, Bool.and_eq_true] at hf
    simp only [cellsV, List.mem_append] at hv
    rcases hv with hv | hv
    · exact cellsV_one hf.1 v hv
    · exact cellsV_one hf.2 v hv
  | .any, _, hf, _, _ | .err, _, hf, _, _ | .slice _, _, hf, _, _ => by cases hf
def sortT (t : Ty) (lt : t.den → t.den → Bool) (ex : List AV) : Inl := fun s args K =>
  match args with
  | .os i :: r => r = ex ∧ (match s.heap i with
    | some (.arr u xs fx) => match castTy (.slice u) (.slice t) xs with
      | some xs => ∀ ys : List t.den, List.Perm ys xs → List.Pairwise (fun a b => lt b a = false) ys → K (s.setObj i (some (.arr t ys fx))) []
      | none => False
    | _ => False)
  | _ => False
theorem keep_sorted {w : World} {b n : Nat} {cs' : List Value} {os : Array _root_.Go.Obj} : Keep (fun k => k = b) w (Sort.grow (Sort.ahead (w.setRow b cs'.toArray) n) os) := by
  have k1 := keep_setRow w b cs'.toArray
  refine Keep.trans (b := w.setRow b cs'.toArray) k1 (Keep.weaken (keep_of (O := fun _ => False) rfl rfl rfl ?_ ?_) fun _ _ h => h.elim)
  · simp [Sort.grow, Sort.ahead]
  · intro k hk
    show (Array.append _ os)[k]? = _
    exact Array.getElem?_append_left hk
theorem sortOK {f : Nat} {t : Ty} {lt : t.den → t.den → Bool} {ex : List AV} {exs : List Value} (ht : flatB t = true) (hE : Enters P f) (hex : ∀ (c : RC) (vs : List Value), VRelL c ex vs → vs = exs)
    (h0 : ∀ ad w, Calls P f (.slice ad 0 0 :: exs).toArray w fun e w' => e = .returned (.tuple #[]) ∧ w' = w)
    (hc : ∀ (w : World) (b cap : Nat) (cs : List Value) (e : TypeId) (xs : List t.den), w.heap[b]? = some (.cells cs.toArray e (0, 0)) → cs.length = cap * t.size → xs.length ≤ cap → xs.length < lim →
      (∀ (k : Nat) x, xs[k]? = some x → (cs.drop (k * t.size)).take t.size = cellsV t x) → (∀ x ∈ xs, smallV t x) →
      Calls P f (.slice (some ⟨b, 0, none⟩) xs.length cap :: exs).toArray w fun e' w' => e' = .returned (.tuple #[]) ∧ ∃ (ys : List t.den) (cs' : List Value) (n : Nat) (os : Array _root_.Go.Obj),
        List.Perm ys xs ∧ List.Pairwise (fun a b => lt b a = false) ys ∧ cs'.length = cs.length ∧ (∀ (k : Nat) x, ys[k]? = some x → (cs'.drop (k * t.size)).take t.size = cellsV t x) ∧ w' = Sort.grow (Sort.ahead (w.setRow b cs'.toArray) n) os) :
    InlOK P E f (sortT t lt ex) := by
  refine .inl ⟨hE, fun {G s a w m args vals K} hP hEq h hv hk => ?_⟩
  unfold sortT at hk
  split at hk
  · rename_i i r
    obtain ⟨rfl, hk⟩ := hk
    split at hk
    · rename_i u xs0 fx hi
      split at hk
      · rename_i xs hcast
        unfold castTy at hcast
        split at hcast
        · rename_i e
          injection e with e
          subst e
          cases hcast
          obtain ⟨v, q, rfl, hv1, hv2⟩ := hv
          obtain ⟨hin, hvm, _⟩ := hv1
          obtain rfl := hex _ _ hv2
          obtain ⟨ad, n, cap, hm, hn, hcap, hl, hr⟩ := (h.heap i _ hi).2
          have hvm : v = m i := hvm
          have hm : m i = .slice ad n cap := hm
          have hn : n = List.length xs0 := hn
          subst hn
          rcases Nat.eq_zero_or_pos cap with h0c | hpos
          · subst h0c
            have hx : List.length xs0 = 0 := Nat.le_zero.1 hcap
            rw [hvm, hm, hx]
            refine Calls.mono (h0 ad w) fun e w' he => ?_
            obtain ⟨rfl, rfl⟩ := he
            refine ⟨_, m, [], [], rfl, hk xs0 (List.Perm.refl _) (by rw [List.eq_nil_of_length_eq_zero hx]; exact List.Pairwise.nil), ?_, rfl⟩
            refine h.wrote (heap_get hi) (Keep.refl _ _) (fun h => h) fun hle => ?_
            exact ⟨ad, _, 0, hm, rfl, hcap, hl, .inl rfl⟩
          · rcases hr with hr | ⟨b, cs, e', rfl, hb, hvl, hcm, hrep⟩
            · omega
            rw [hvm, hm]
            have hrep' : ∀ (k : Nat) x, xs0[k]? = some x → (cs.drop (k * u.size)).take u.size = cellsV u x ∧ smallV u x := fun k x hx => rep_flat ht (hrep k x hx)
            refine Calls.mono (hc w b cap cs e' xs0 hb hvl hcap hl (fun k x hx => (hrep' k x hx).1) (fun x hx => by
              obtain ⟨k, hk⟩ := List.mem_iff_getElem?.1 hx
              exact (hrep' k x hk).2)) fun e w' he => ?_
            obtain ⟨rfl, ys, cs', nn, os, hperm, hpw, hlen, hrows, rfl⟩ := he
            refine ⟨_, m, [], [], rfl, hk ys hperm hpw, ?_, rfl⟩
            refine h.wrote (heap_get hi) (keep_sorted.weaken fun k _ e => by subst e; rw [hm]; simp [blk]; omega) (fun h => h) fun hle => ?_
            refine ⟨_, _, cap, hm, hperm.length_eq.symm, hcap, hl, .inr ⟨b, cs', e', rfl, ?_, by rw [hlen]; exact hvl, hcm, fun k x hx => ?_⟩⟩
            · show (Array.append (w.setRow b cs'.toArray).heap os)[b]? = _
              have hs := setRow_heap w b cs.toArray cs'.toArray e' (0, 0) hb
              have hlt : b < (w.setRow b cs'.toArray).heap.size := (Array.getElem?_eq_some_iff.1 hs).1
              exact (Array.getElem?_append_left hlt).trans hs
            · rw [hrows k x hx]
              refine flat_rep ht ?_
              obtain ⟨j, hj⟩ := List.mem_iff_getElem?.1 (hperm.mem_iff.1 (List.mem_of_getElem? hx))
              exact (hrep' j x hj).2
        · cases hcast
      · cases hk
    · cases hk
  · cases hk
theorem row_set {w : World} {b : Nat} {cs : List Value} {e : TypeId} {F : Array Value} (hb : w.heap[b]? = some (.cells cs.toArray e (0, 0))) (hF : F.size ≤ cs.length) :
    Sort.putRow id w b 0 F = w.setRow b (F.toList ++ cs.drop F.size).toArray := by
  unfold Sort.putRow Sort.mapBlock World.setRow
  congr 1
  apply Array.ext_getElem?
  intro k
  simp only [Array.getElem?_modify]
  by_cases hk : b = k
  · subst hk
    simp only [if_true, hb, Option.map_some, Sort.onCells]
    congr 2
    apply Array.ext_getElem?
    intro j
    simp only [Sort.putCells, Array.getElem?_mapIdx, List.getElem?_toArray, Nat.zero_le, true_and, Nat.zero_add, Nat.sub_zero, id]
    by_cases hj : j < F.size
    · rw [List.getElem?_append_left (by simpa using hj)]
      have hjc : j < cs.length := by omega
      rw [List.getElem?_eq_getElem hjc]
      simp [hj]
    · rw [List.getElem?_append_right (by simpa using Nat.le_of_not_lt hj), List.getElem?_drop]
      have : F.size + (j - F.toList.length) = j := by simp; omega
      rw [this]
      cases cs[j]? with
      | none => rfl
      | some y => simp [hj]
  · simp [hk]
theorem chunk_at {F : List Value} {sz : Nat} {us : List Value} {k : Nat} (hu : us.length = sz) (h : ∀ j, j < sz → F[k * sz + j]? = us[j]?) : (F.drop (k * sz)).take sz = us := by
  apply List.ext_getElem?
  intro j
  rcases Nat.lt_or_ge j sz with hj | hj
  · rw [List.getElem?_take_of_lt hj, List.getElem?_drop, h j hj]
  · rw [List.getElem?_eq_none (by simp; omega), List.getElem?_eq_none (by omega)]
end Go.Ab

namespace Go.Ab
variable {P : Program} {G : Ctx} {A : List (Nat × (St → LoopAnn))}
def fenceR (r : Option Nat) : Fence := { Fence.wide with round := r }
theorem calls_in {r : Option Nat} {n : Nat} {f : FuncId} {args : Array Value} {w : World} {R : Ending → World → Prop} (h : Calls P f args w R) : CallsIn (fenceR r) n P f args w R :=
  (callsIn_wide (n := n)).2 h
theorem rows_in {r : Option Nat} {n : Nat} {row : String} {args : Array Value} {w : World} {R : Value → World → Prop} (h : Rows P row args w R) : RowsIn (fenceR r) n P row args w R :=
  fun c cs _ => let ⟨v, w', hr, hs⟩ := h c cs; ⟨v, w', hr, (stepsIn_wide (P := P)).2 hs⟩
theorem upon_in {r : Option Nat} {n : Nat} {o : Oper} {a : Act} {next : Act → World → Prop} {Q : Exit → Act → World → Prop} {res : Result Next} (h : o.upon P a next Q res) : o.uponIn (fenceR r) n P a next Q res := by
  cases res with
  | ok nx w' => cases nx <;> first | exact h | exact ⟨fun h => Bool.noConfusion h, calls_in h⟩ | exact ⟨fun h => Bool.noConfusion h, rows_in h⟩ | exact h.elim
  | halt e w' => cases e <;> first | exact h | exact h.elim
def noDef (o : Oper) : Bool := match o.op with
  | .defer _ => false
  | _ => true
theorem noDef_ne {o : Oper} (h : noDef o = true) : ∀ c, o.op ≠ .defer c := fun c e => by unfold noDef at h; rw [e] at h; cases h
theorem wp_in {r : Option Nat} {n : Nat} {o : Oper} {a : Act} {w : World} {next : Act → World → Prop} {Q : Exit → Act → World → Prop} (hd : r = none ∨ noDef o = true) (h : o.wp P a w next Q) : o.wpIn (fenceR r) n P a w next Q := by
  refine ⟨fun _ _ => trivial, ?_⟩
  have e : o.semAt (fenceR r).round a.eval = execOp a.eval o := by
    rcases hd with rfl | hd
    · rfl
    · exact Oper.semAt_eq _ _ _ (noDef_ne hd)
  rw [e]
  exact upon_in h
theorem list_in {r : Option Nat} {n : Nat} {ops : Array Oper} {Q : Exit → Act → World → Prop} (hlo : ¬ LetsOut Q) : ∀ (l : List Oper) {a : Act} {w : World}, (∀ o ∈ l, r = none ∨ noDef o = true) → wpList P ops Q l a w → wpListIn (fenceR r) n P ops Q l a w
  | [], _, _, _, h => h
  | o :: l, a, w, hd, h => by
    unfold wpList at h
    unfold wpListIn
    have hd' : ∀ o ∈ l, r = none ∨ noDef o = true := fun o ho => hd o (List.mem_cons_of_mem _ ho)
    split at h
    · rename_i hw
      rw [if_pos hw]
      rcases h with h | ⟨_, h⟩
      · exact Oper.wpIn_mono (fun a w hh => list_in hlo l hd' hh) (wp_in (hd o (List.mem_cons_self ..)) h)
      · exact absurd h hlo
    · rename_i hw
      rw [if_neg hw]
      exact ⟨fun _ _ => trivial, list_in hlo l hd' h⟩
theorem op_in {r : Option Nat} {n : Nat} {ops : Array Oper} {Q : Exit → Act → World → Prop} (hlo : ¬ LetsOut Q) {i : Nat} {K K' : Act → World → Prop} {a : Act} {w : World} (hd : ∀ o ∈ ops.toList, r = none ∨ noDef o = true) (hk : ∀ a w, K a w → K' a w) (h : wpOp P ops Q i K a w) : wpOpIn (fenceR r) n P ops Q i K' a w := by
  unfold wpOp at h
  unfold wpOpIn
  split at h
  · rename_i ho
    rw [ho]; exact hk _ _ h
  · rename_i o ho
    rw [ho]
    have hm : o ∈ ops.toList := Array.mem_toList_iff.2 (Array.mem_of_getElem? ho)
    simp only
    split at h
    · rename_i hw
      rw [if_pos hw]
      rcases h with h | ⟨_, h⟩
      · exact Oper.wpIn_mono hk (wp_in (hd o hm) h)
      · exact absurd h hlo
    · rename_i hw
      rw [if_neg hw]
      exact ⟨fun _ _ => trivial, hk _ _ h⟩
theorem any_in {r : Option Nat} {n : Nat} {md : Region.Mode} {ops : Array Oper} {Q : Exit → Act → World → Prop} (hlo : ¬ LetsOut Q) (hd : ∀ o ∈ ops.toList, r = none ∨ noDef o = true) : ∀ (f : Nat) {listed : Array Bool} {a : Act} {w : World}, wpAny P md ops Q f listed a w → wpAnyIn (fenceR r) n P md ops Q f listed a w
  | 0, _, _, _, h => h
  | f + 1, _, _, _, h => ⟨h.1, fun i hi => op_in hlo hd (fun _ _ hh => any_in hlo hd f hh) (h.2 i hi)⟩
theorem region_okIn {r : Option Nat} {n : Nat} {ops : Array Oper} {Q : Exit → Act → World → Prop} {s : St} {a : Act} {w : World} {m : Nat → Value} {sg : Segs} (hE : ProgOK P G.E) (hP : G.P = P) (hnp : ∀ c a w, ¬ Q (.panic c) a w) (hlo : ∀ a w, ¬ Q .outgrown a w) {K : St → Prop} (hQ : ∀ s' a' w' m', K s' → Holds G s' a' w' m' → Q .normal a' w') (draw : Bool) (id : Nat) (h : Holds G s a w m)
    (hd : ∀ o ∈ ops.toList, r = none ∨ noDef o = true)
    (hk : match draw with | false => aops G.E ops ops.toList s K | true => aregion G.E ops (prep ops) sg s K) : (Code.region id ops draw).wpIn (fenceR r) n P Q a w := by
  have hlo' : ¬ LetsOut Q := fun ⟨a, w, h⟩ => hlo a w h
  cases draw with
  | false => exact wpIn_region_list (list_in hlo' _ hd (aops_ok hE hP _ h hk hQ))
  | true =>
    simp only at hk
    unfold aregion at hk
    split at hk
    · rename_i hc
      simp only [Bool.and_eq_true] at hc
      refine wpIn_region_any hE.mixed ?_
      have hd0 : Holds G s a { w with drawn := w.drawn + 1 } m := by
        have := h.o.grow (keep_drew w)
        exact { o := this.1, tmps := h.tmps.mono this.2, defers := h.defers, kp := h.kp.mono this.2 }
      have h1 := aopsD_ok hE hP (headM_le ops.size) (tail_waits' hc.2) hc.1 hnp (fun ht o ho => by
        cases hb : touchB o with
        | false => rfl
        | true =>
          have : ops.any touchB = true := Array.any_eq_true'.2 ⟨o, ho, hb⟩
          rw [this] at ht; cases ht) hQ _ _ Rl.none (down_none _) hd0 hk
      have h2 := wpAny_of_T (headM_le ops.size) h1
      have e : headM (prep ops) ops.size + (ops.toList.drop (headM (prep ops) ops.size)).length = ops.size := by
        have := headM_le (pl := prep ops) ops.size
        simp; omega
      rw [e] at h2
      exact any_in hlo' hd _ h2
    · cases hk
def noDefC : Code → Bool
  | .region _ ops _ => ops.toList.all noDef
  | .seq a b => noDefC a && noDefC b
  | .cond _ a b => noDefC a && noDefC b
  | .block _ a => noDefC a
  | .loop a => noDefC a
  | .rangeFunc _ _ a b => noDefC a && noDefC b
  | _ => true
theorem nd_l {x y : Bool} (h : (x && y) = true) : x = true := by cases x <;> simp_all
theorem nd_r {x y : Bool} (h : (x && y) = true) : y = true := by cases x <;> simp_all
theorem nd_ops {r : Option Nat} {ops : Array Oper} (h : r = none ∨ ops.toList.all noDef = true) : ∀ o ∈ ops.toList, r = none ∨ noDef o = true := fun o ho => h.imp id fun h => List.all_eq_true.1 h o ho
theorem awp_okIn {r : Option Nat} {n : Nat} (hE : ProgOK P G.E) (hP : G.P = P) : ∀ (c : Code) {Q' : Ex → St → Prop} {Q : Exit → Act → World → Prop} {s : St} {a : Act} {w : World} {m : Nat → Value}, Holds G s a w m → awp G.E A c Q' s → (r = none ∨ noDefC c = true) →
    (∀ c a w, ¬ Q (.panic c) a w) → (∀ a w, ¬ Q .outgrown a w) → (∀ e s' a' w' m', Q' e s' → Holds G s' a' w' m' → Q e.out a' w') → c.wpIn (fenceR r) n P Q a w
  | .skip, Q', Q, s, a, w, m, h, hk, hnd, hnp, hlo, hQ => wpIn_skip (hQ .normal s a w m hk h)
  | .region id ops draw, Q', Q, s, a, w, m, h, hk, hnd, hnp, hlo, hQ => by
    unfold awp at hk
    split at hk
    · refine region_okIn (sg := segsOf A id s) hE hP hnp hlo (K := Q' .normal) (fun s' a' w' m' hk hh => hQ .normal s' a' w' m' hk hh) draw id h (nd_ops hnd) ?_
      unfold regV at hk
      cases draw <;> exact hk
    · rename_i L _
      obtain ⟨h1, h2⟩ := hk
      refine region_okIn (sg := segsOf A id s) hE hP hnp hlo (K := fun s' => s'.le (cutSt (L s) (dsts ops) s)) (fun s' a' w' m' hle hh => ?_) draw id h (nd_ops hnd) ?_
      · exact hQ .normal _ a' w' m' h2 (hh.le hle h.o.len)
      · unfold regV at h1
        cases draw <;> exact h1
  | .seq x y, Q', Q, s, a, w, m, h, hk, hnd, hnp, hlo, hQ => by
    unfold awp at hk
    refine wpIn_seq (awp_okIn hE hP x h hk (hnd.imp id nd_l) (fun c a w hq => hnp c a w hq) (fun a w hq => hlo a w hq) fun e s' a' w' m' hq hh => ?_)
    cases e with
    | normal => exact awp_okIn hE hP y hh hq (hnd.imp id nd_r) hnp hlo hQ
    | exit id => exact hQ (.exit id) s' a' w' m' hq hh
    | ret => exact hQ .ret s' a' w' m' hq hh
  | .cond c x y, Q', Q, s, a, w, m, h, hk, hnd, hnp, hlo, hQ => by
    unfold awp at hk
    have r := eval_ok h c
    split at hk
    · rename_i hc
      rw [hc] at r
      exact wpIn_cond_true r (awp_okIn hE hP x h hk (hnd.imp id nd_l) hnp hlo hQ)
    · rename_i hc
      rw [hc] at r
      exact wpIn_cond_false r (awp_okIn hE hP y h hk (hnd.imp id nd_r) hnp hlo hQ)
    · rename_i b hc
      rw [hc] at r
      have e : a.eval c = .bool b := by simpa [VRel, Rep] using r.2
      exact wpIn_cond_split e (fun hb => awp_okIn hE hP x h (hk.1 hb) (hnd.imp id nd_l) hnp hlo hQ) (fun hb => awp_okIn hE hP y h (hk.2 hb) (hnd.imp id nd_r) hnp hlo hQ)
    · cases hk
  | .block id x, Q', Q, s, a, w, m, h, hk, hnd, hnp, hlo, hQ => by
    unfold awp at hk
    refine wpIn_block (awp_okIn hE hP x h hk hnd (fun c a w hq => hnp c a w hq) (fun a w hq => hlo a w hq) fun e s' a' w' m' hq hh => ?_)
    cases e with
    | normal => exact hQ .normal s' a' w' m' hq hh
    | exit j =>
      simp only [Ex.out, Exit.inBlock]
      simp only at hq
      split at hq
      · rename_i hj
        rw [if_pos (Nat.eq_of_beq_eq_true hj)]
        exact hQ .normal s' a' w' m' hq hh
      · rename_i hj
        rw [if_neg (fun e => by subst e; simp at hj)]
        exact hQ (.exit j) s' a' w' m' hq hh
    | ret => exact hQ .ret s' a' w' m' hq hh
  | .loop x, Q', Q, s, a, w, m, h, hk, hnd, hnp, hlo, hQ => by
    unfold awp at hk
    split at hk
    · cases hk
    · rename_i LF _
      have h := (show Holds G (s.fzS (LF s).fz) a w m from h.freezes _)
      revert hk h
      generalize s.fzS (LF s).fz = s0
      intro hk h
      generalize LF s0 = L at hk
      obtain ⟨⟨i0, hi0, hle0⟩, hround⟩ := hk
      have hlen : ∀ i, G.n0 ≤ (L.st (writes x) s0 i).objs.length := fun i => by
        simp only [LoopAnn.st, setObjs_length]
        exact h.o.len
      refine wpIn_loop_ghost (fun n a w => ∃ i m, L.inv i ∧ L.μ i = n ∧ Holds G (L.st (writes x) s0 i) a w m) (L.μ i0) ⟨i0, m, hi0, rfl, h.le hle0 (hlen i0)⟩ ?_
      rintro n a' w' ⟨i, m', hi, rfl, hh⟩
      refine awp_okIn hE hP x hh (hround i hi) hnd (fun c a w hq => hnp c a w hq) (fun a w hq => hlo a w hq) fun e s2 a2 w2 m2 hq h2 => ?_
      cases e with
      | normal =>
        obtain ⟨j, hj, hlt, hle⟩ := hq
        exact ⟨L.μ j, hlt, j, m2, hj, rfl, (show Holds G (s2.fzS L.fz) a2 w2 m2 from h2.freezes _).le hle (hlen j)⟩
      | exit id => exact hQ (.exit id) s2 a2 w2 m2 hq h2
      | ret => exact hQ .ret s2 a2 w2 m2 hq h2
  | .exit id, Q', Q, s, a, w, m, h, hk, hnd, hnp, hlo, hQ => wpIn_exit (hQ (.exit id) s a w m hk h)
  | .ret, Q', Q, s, a, w, m, h, hk, hnd, hnp, hlo, hQ => wpIn_ret (hQ .ret s a w m hk h)
  | .rangeFunc .., _, _, _, _, _, _, _, hk, _, _, _, _ => by simp only [awp] at hk
  | .scope _, _, _, _, _, _, _, _, hk, _, _, _, _ => by simp only [awp] at hk
  | .label _, _, _, _, _, _, _, _, hk, _, _, _, _ => by simp only [awp] at hk
  | .goto _, _, _, _, _, _, _, _, hk, _, _, _, _ => by simp only [awp] at hk
  | .refuse _, _, _, _, _, _, _, _, hk, _, _, _, _ => by simp only [awp] at hk
end Go.Ab

namespace Go.Ab
open Go.RowKit
variable {P : Program} {G : Ctx}
mutual
def AV.nofp : AV → Bool
  | .fp _ _ _ => false
  | .agg l => AV.nofpL l
  | .tup l => AV.nofpL l
  | .pc l => AV.nofpL l
  | .fn _ l => AV.nofpL l
  | .ifc _ x => AV.nofp x
  | _ => true
def AV.nofpL : List AV → Bool
  | [] => true
  | x :: r => AV.nofp x && AV.nofpL r
end
def Obj.nofp : List (Option Obj) → Bool
  | [] => true
  | some (.box cs) :: r => AV.nofpL cs && Obj.nofp r
  | some (.arr _ _ _) :: r => Obj.nofp r
  | none :: r => Obj.nofp r
def Obj.boxes : List (Option Obj) → Bool
  | [] => true
  | some (.box _) :: r => Obj.boxes r
  | some (.arr _ _ _) :: _ => false
  | none :: r => Obj.boxes r
theorem nofp_get : ∀ {l : List (Option Obj)}, Obj.nofp l = true → ∀ {i : Nat} {cs : List AV}, l[i]? = some (some (.box cs)) → AV.nofpL cs = true
  | [], _, i, cs, h => by simp at h
  | some (.box c) :: r, h, 0, cs, hi => by simp at hi; subst hi; simp [Obj.nofp] at h; exact h.1
  | some (.arr _ _ _) :: r, h, 0, cs, hi => by simp at hi
  | none :: r, h, 0, cs, hi => by simp at hi
  | some (.box c) :: r, h, i + 1, cs, hi => by simp [Obj.nofp] at h; exact nofp_get h.2 (by simpa using hi)
  | some (.arr _ _ _) :: r, h, i + 1, cs, hi => nofp_get (l := r) (by simpa [Obj.nofp] using h) (by simpa using hi)
  | none :: r, h, i + 1, cs, hi => nofp_get (l := r) (by simpa [Obj.nofp] using h) (by simpa using hi)
theorem boxes_get : ∀ {l : List (Option Obj)}, Obj.boxes l = true → ∀ {i : Nat} {o : Obj}, l[i]? = some (some o) → ∃ cs, o = .box cs
  | [], _, i, cs, h => by simp at h
  | some (.box c) :: r, h, 0, o, hi => by simp at hi; exact ⟨c, hi.symm⟩
  | some (.arr _ _ _) :: r, h, _, o, hi => by simp [Obj.boxes] at h
  | none :: r, h, 0, cs, hi => by simp at hi
  | some (.box c) :: r, h, i + 1, cs, hi => boxes_get (l := r) (by simpa [Obj.boxes] using h) (by simpa using hi)
  | none :: r, h, i + 1, cs, hi => boxes_get (l := r) (by simpa [Obj.boxes] using h) (by simpa using hi)
def CKeep (A B : World) (b : Nat) : Prop := ∀ o : Go.Obj, A.heap[b]? = some o → o.isCells = true → B.heap[b]? = some o
theorem cell_c {A B : World} {a : Addr} {v : Value} (h : CKeep A B a.block) (hc : A.cell? a = some v) : B.cell? a = some v := by
  cases ho : A.heap[a.block]? with
  | none => simp [World.cell?, ho] at hc
  | some o =>
    cases o with
    | cells c t f =>
      have e := h _ ho rfl
      unfold World.cell? at *
      rw [ho] at hc
      rw [e]
      exact hc
    | _ => simp [World.cell?, ho] at hc
theorem CKeep.refl (A : World) (b : Nat) : CKeep A A b := fun _ h _ => h
theorem ckeep_same {A B : World} {b : Nat} (h : B.heap[b]? = A.heap[b]?) : CKeep A B b := fun _ ho _ => h.trans ho
theorem Rep.monoC {E : Env} {X X' : Nat → Prop} {w w' : World} (hs : w.heap.size ≤ w'.heap.size) (hX : ∀ b, b < w.heap.size → X b → X' b ∧ CKeep w w' b) :
    ∀ {t : Ty} {x : t.den} {cs : List Value}, Rep E X w t x cs → Rep E X' w' t x cs
  | .int _, _, _, h => h
  | .bool, _, _, h => h
  | .str, _, _, h => h
  | .any, _, _, h => h
  | .unit, _, _, h => h
  | .err, _, _, h => h
  | .pair a b, x, cs, h => by
    obtain ⟨c1, c2, rfl, h1, h2⟩ := h
    exact ⟨c1, c2, rfl, h1.monoC hs hX, h2.monoC hs hX⟩
  | .slice t, xs, cs, h => by
    obtain ⟨a, n, c, rfl, hn, hc, hl, h⟩ := h
    refine ⟨a, n, c, rfl, hn, hc, hl, ?_⟩
    rcases h with h | ⟨b, off, rfl, hlt, hb, h⟩
    · exact .inl h
    · refine .inr ⟨b, off, rfl, by omega, (hX b hlt hb).1, fun i x hi => ?_⟩
      obtain ⟨cells, hc, hr⟩ := h i x hi
      exact ⟨cells, fun j v hj => cell_c (hX b hlt hb).2 (hc j v hj), hr.monoC hs hX⟩
structure RC.LeC (c c' : RC) : Prop where
  P : c'.P = c.P
  E : c'.E = c.E
  m : ∀ i, i < c.n → c'.m i = c.m i
  n : c.n ≤ c'.n
  size : c.w.heap.size ≤ c'.w.heap.size
  S : ∀ b, b < c.w.heap.size → c.S b → c'.S b ∧ CKeep c.w c'.w b
  X : ∀ b, b < c.w.heap.size → c.X b → c'.X b ∧ CKeep c.w c'.w b
mutual
theorem VRel.monoC {c c' : RC} (h : c.LeC c') : ∀ {x : AV} {v : Value}, AV.nofp x = true → VRel c x v → VRel c' x v
  | .d t x, v, _, r => by
    simp only [VRel] at *
    exact ⟨r.1, by rw [h.E]; exact r.2.monoC h.size h.X⟩
  | .lb b, v, _, r => r
  | .emp n, v, _, r => r
  | .agg l, v, hf, r => by
    simp only [VRel] at *
    obtain ⟨vs, rfl, r⟩ := r
    exact ⟨vs, rfl, VRelL.monoC h (by simpa [AV.nofp] using hf) r⟩
  | .tup l, v, hf, r => by
    simp only [VRel] at *
    obtain ⟨vs, rfl, r⟩ := r
    exact ⟨vs, rfl, VRelL.monoC h (by simpa [AV.nofp] using hf) r⟩
  | .os i, v, _, r => by
    simp only [VRel] at *
    exact ⟨Nat.lt_of_lt_of_le r.1 h.n, by rw [h.m i r.1]; exact r.2⟩
  | .oss i sz lo hi, v, _, r => by
    simp only [VRel] at *
    exact ⟨Nat.lt_of_lt_of_le r.1 h.n, by rw [h.m i r.1]; exact r.2⟩
  | .p i off, v, _, r => by
    simp only [VRel] at *
    exact ⟨Nat.lt_of_lt_of_le r.1 h.n, by rw [h.m i r.1]; exact r.2⟩
  | .pc l, v, hf, r => by
    simp only [VRel] at *
    obtain ⟨b, o, rfl, hb, hS, cs, hc, r⟩ := r
    exact ⟨b, o, rfl, Nat.lt_of_lt_of_le hb h.size, (h.S b hb hS).1, cs, fun j x hj => cell_c (h.S b hb hS).2 (hc j x hj), VRelL.monoC h (by simpa [AV.nofp] using hf) r⟩
  | .pe i n k off, v, _, r => by
    simp only [VRel] at *
    exact ⟨Nat.lt_of_lt_of_le r.1 h.n, by rw [h.m i r.1]; exact r.2⟩
  | .fn f l, v, hf, r => by
    simp only [VRel] at *
    obtain ⟨vs, rfl, r⟩ := r
    exact ⟨vs, rfl, VRelL.monoC h (by simpa [AV.nofp] using hf) r⟩
  | .fp ts b p, v, hf, r => by simp [AV.nofp] at hf
  | .ifc t x, v, hf, r => by
    simp only [VRel] at *
    obtain ⟨u, rfl, r⟩ := r
    exact ⟨u, rfl, VRel.monoC h (by simpa [AV.nofp] using hf) r⟩
  | .nili, v, _, r => r
  | .any, _, _, _ => by simp only [VRel]
theorem VRelL.monoC {c c' : RC} (h : c.LeC c') : ∀ {l : List AV} {vs : List Value}, AV.nofpL l = true → VRelL c l vs → VRelL c' l vs
  | [], vs, _, r => r
  | x :: l, vs, hf, r => by
    simp only [VRelL] at *
    simp only [AV.nofpL, Bool.and_eq_true] at hf
    obtain ⟨v, q, rfl, r1, r2⟩ := r
    exact ⟨v, q, rfl, VRel.monoC h hf.1 r1, VRelL.monoC h hf.2 r2⟩
end
theorem ORel.monoC {c c' : RC} (h : c.LeC c') {v : Value} {o : Obj} (hf : ∀ cs, o = .box cs → AV.nofpL cs = true) (hk : ∀ b, blk v = some b → CKeep c.w c'.w b) (r : ORel c v o) : ORel c' v o := by
  cases o with
  | box cs =>
    obtain ⟨b, t, vs, rfl, hb, r⟩ := r
    exact ⟨b, t, vs, rfl, hk b rfl _ hb rfl, r.monoC h (hf cs rfl)⟩
  | arr t xs fx =>
    obtain ⟨a, n, cap, rfl, hn, hc, hl, r⟩ := r
    refine ⟨a, n, cap, rfl, hn, hc, hl, ?_⟩
    rcases r with r | ⟨b, vs, e, rfl, hb, hv, hm, r⟩
    · exact .inl r
    · rcases Nat.eq_zero_or_pos cap with h0 | h0
      · exact .inl h0
      · refine .inr ⟨b, vs, e, rfl, hk b (by simp [blk]; omega) _ hb rfl, hv, hm, fun k x hx => by rw [h.E]; exact (r k x hx).monoC h.size h.X⟩
structure Turn (B : Nat) (W W' : World) : Prop where
  os : W'.os = W.os
  tape : W'.tape = W.tape
  output : W'.output = W.output
  size : W.heap.size ≤ W'.heap.size
  old : ∀ b, b < B → W'.heap[b]? = W.heap[b]?
  cells : ∀ b, CKeep W W' b
theorem turn_of {B : Nat} {W W' : World} {row : Option Nat} (hBW : B ≤ W.heap.size) (hg : W.grownBy W' row) (hr : ∀ r, row = some r → B ≤ r ∧ ∃ o : Go.Obj, W.heap[r]? = some o ∧ o.isCells = false) : Turn B W W' :=
  { os := hg.os, tape := hg.tape, output := hg.output, size := hg.size,
    old := fun b hb => hg.block b (Nat.lt_of_lt_of_le hb hBW) (fun e => by have := (hr b e.symm).1; omega),
    cells := fun b o ho hc => (hg.block b (Array.getElem?_eq_some_iff.1 ho).1 (fun e => by
      obtain ⟨_, o', h1, h2⟩ := hr b e.symm
      rw [ho] at h1; cases h1; rw [hc] at h2; cases h2)).trans ho }
theorem Turn.frozen {B : Nat} {W W' : World} (h : Turn B W W') {a : Addr} (ha : a.block < B) : W'.frozen? a = W.frozen? a := by
  unfold World.frozen?; rw [h.old _ ha]
theorem HoldsO.turn {objs : List (Option Obj)} {m : Nat → Value} {W W' : World} {B : Nat} (h : HoldsO G objs m W) (hf : Obj.nofp objs = true) (hB : G.w0.heap.size ≤ B) (ht : Turn B W W') :
    HoldsO G objs m W' ∧ (G.rc objs m W).LeC (G.rc objs m W') := by
  have hle : (G.rc objs m W).LeC (G.rc objs m W') := { P := rfl, E := rfl, m := fun _ _ => rfl, n := Nat.le_refl _, size := ht.size, S := fun b _ hS => ⟨hS, ht.cells b⟩, X := fun b _ hX => ⟨hX, ht.cells b⟩ }
  refine ⟨{ rel := fun i o hi => (h.rel i o hi).monoC hle (fun cs e => by subst e; exact nofp_get hf hi) (fun b _ => ht.cells b), disj := h.disj, keep := ?_, new := h.new, len := h.len, fix := h.fix }, hle⟩
  exact { os := ht.os.trans h.keep.os, tape := ht.tape.trans h.keep.tape, output := ht.output.trans h.keep.output,
          frozen := fun a ha => (ht.frozen (Nat.lt_of_lt_of_le ha hB)).trans (h.keep.frozen a ha),
          size := Nat.le_trans h.keep.size ht.size,
          block := fun b hb ho => (ht.old b (Nat.lt_of_lt_of_le hb hB)).trans (h.keep.block b hb ho) }
def Ctx.at {objs : List (Option Obj)} {m : Nat → Value} {w : World} (h : HoldsO G objs m w) (ks : List Value) (df : List Deferred) : Ctx :=
  { P := G.P, E := G.E, w0 := w, O0 := Own objs m, X0 := fun b => G.X0 b ∨ G.w0.heap.size ≤ b, m0 := m, n0 := 0,
    sub := fun b hb => (h.new b hb).imp (G.sub b) id
    tab := G.tabS _ _ G.tab fun b hb => h.keep.block b (G.tabO b hb).2 (G.tabO b hb).1
    tabO := fun b hb => ⟨fun ho => (h.new b ho).elim (G.tabO b hb).1 (fun hle => by have := (G.tabO b hb).2; omega), Nat.lt_of_lt_of_le (G.tabO b hb).2 h.keep.size⟩
    tabS := G.tabS, ks := ks, df := df }
variable {objs : List (Option Obj)} {m : Nat → Value} {w : World}
theorem at_le (h : HoldsO G objs m w) {ks : List Value} {df : List Deferred} {objs' : List (Option Obj)} {m' : Nat → Value} {w' : World} : (G.rc objs' m' w').Le ((Ctx.at h ks df).rc objs' m' w') :=
  { P := rfl, E := rfl, m := fun _ _ => rfl, n := Nat.le_refl _, size := Nat.le_refl _, S := fun _ _ hS => ⟨hS, rfl⟩, X := fun _ _ hX => ⟨⟨.inl hX.1, hX.2⟩, rfl⟩ }
theorem at_ge (h : HoldsO G objs m w) {ks : List Value} {df : List Deferred} {objs' : List (Option Obj)} {m' : Nat → Value} {w' : World} : ((Ctx.at h ks df).rc objs' m' w').Le (G.rc objs' m' w') :=
  { P := rfl, E := rfl, m := fun _ _ => rfl, n := Nat.le_refl _, size := Nat.le_refl _, S := fun _ _ hS => ⟨hS, rfl⟩, X := fun _ _ hX => ⟨⟨hX.1.elim id (fun hle => .inr (Nat.le_trans h.keep.size hle)), hX.2⟩, rfl⟩ }
theorem at_in (h : HoldsO G objs m w) {ks : List Value} {df : List Deferred} : HoldsO (Ctx.at h ks df) objs m w :=
  { rel := fun i o hi => (h.rel i o hi).mono (at_le h) (fun _ _ => rfl), disj := h.disj, keep := Keep.refl _ _, new := fun _ hb => .inl hb, len := Nat.zero_le _, fix := fun _ _ _ hi _ => absurd hi (Nat.not_lt_zero _) }
theorem at_out (h : HoldsO G objs m w) {ks : List Value} {df : List Deferred} {objs' : List (Option Obj)} {m' : Nat → Value} {w' : World} (hn : G.n0 = 0) (k : HoldsO (Ctx.at h ks df) objs' m' w') : HoldsO G objs' m' w' :=
  { rel := fun i o hi => (k.rel i o hi).mono (at_ge h) (fun _ _ => rfl), disj := k.disj, 
    keep := { os := k.keep.os.trans h.keep.os, tape := k.keep.tape.trans h.keep.tape, output := k.keep.output.trans h.keep.output,
              frozen := fun a ha => (k.keep.frozen a (Nat.lt_of_lt_of_le ha h.keep.size)).trans (h.keep.frozen a ha), size := Nat.le_trans h.keep.size k.keep.size,
              block := fun b hb ho => (k.keep.block b (Nat.lt_of_lt_of_le hb h.keep.size) (fun own => (h.new b own).elim ho (fun hle => absurd hb (Nat.not_lt.2 hle)))).trans (h.keep.block b hb ho) },
    new := fun b hb => (k.new b hb).elim (h.new b) (fun hle => .inr (Nat.le_trans h.keep.size hle)), len := by rw [hn]; exact Nat.zero_le _, fix := fun i o _ hi _ => by rw [hn] at hi; cases hi }
end Go.Ab

namespace Go.Ab
open Go.RowKit
variable {P : Program} {G : Ctx} {A : List (Nat × (St → LoopAnn))}
def down (len k : Nat) : List Nat := (List.range k).map fun j => len - 1 - j
theorem down_succ (len k : Nat) : down len (k + 1) = down len k ++ [len - 1 - k] := by simp [down, List.range_succ]
theorem down_len (len k : Nat) : (down len k).length = k := by simp [down]
def clip (len j : Nat) : Nat := min j (len - 1)
def encB (vs : List Value) (j : Nat) : Array Value := #[.int .i64 (clip vs.length j : Int), vs[clip vs.length j]?.getD undef]
def KpS (S : Nat → Prop) (W W' : World) : Prop := ∀ b, S b → W'.heap[b]? = W.heap[b]?
def RowS (S : Nat → Prop) (W : World) (sv : Value) (vs : List Value) : Prop :=
  (∃ ad cap, sv = .slice ad 0 cap ∧ vs = []) ∨ ∃ b off cap, sv = .slice (some ⟨b, off, none⟩) vs.length cap ∧ S b ∧ ∀ j, j < vs.length → W.cell? ⟨b, off + j, none⟩ = some (vs[j]?.getD undef)
def BackOK (P : Program) (gf : Nat) : Prop := Enters P gf ∧ ∀ (n Bs o : Nat) (S : Nat → Prop) (sv : Value) (vs : List Value) (w : World), 2 ≤ n → vs.length < lim → S Bs → (∀ b, S b → b < w.heap.size) → w.cell? ⟨Bs, o, none⟩ = some sv → RowS S w sv vs →
  SeqStopsK (fenceR none) n P gf #[.pointer (some ⟨Bs, o, none⟩)] (encB vs) (KpS S) (fun ys => ys = down vs.length vs.length) (fun pre => ∃ k, k ≤ vs.length ∧ pre = down vs.length k) vs.length w
def rowVals (w : World) : Value → List Value
  | .slice (some a) n _ => (List.range n).map fun j => (w.cell? ⟨a.block, a.off + j, none⟩).getD undef
  | _ => []
theorem leaf_size1 {t : Ty} (h : t.leafB = true) : t.size = 1 := by cases t <;> first | rfl | cases h
theorem rep_leaf1 {E : Env} {X : Nat → Prop} {w : World} {t : Ty} {x : t.den} {cs : List Value} (h : t.leafB = true) (r : Rep E X w t x cs) : ∃ v, cs = [v] := by
  have := r.length
  rw [leaf_size1 h] at this
  match cs, this with
  | [v], _ => exact ⟨v, rfl⟩
theorem row_of {E : Env} {X : Nat → Prop} {w : World} {t : Ty} {xs : List t.den} {sv : Value} (hl : t.leafB = true) (h : Rep E X w (.slice t) xs [sv]) :
    (rowVals w sv).length = xs.length ∧ xs.length < lim ∧ (∀ S : Nat → Prop, (∀ b, X b → b < w.heap.size → S b) → RowS S w sv (rowVals w sv)) := by
  obtain ⟨a, n, c, e, hn, hc, hlim, h⟩ := h
  cases e
  rcases h with rfl | ⟨b, off, rfl, hlt, hX, h⟩
  · simp only [List.length_nil] at hn
    subst hn
    refine ⟨?_, by simp [lim], fun S _ => .inl ⟨a, c, rfl, ?_⟩⟩ <;> cases a <;> simp [rowVals]
  · subst hn
    have hlen : (rowVals w (.slice (some ⟨b, off, none⟩) xs.length c)).length = xs.length := by simp [rowVals]
    refine ⟨hlen, hlim, fun S hS => .inr ⟨b, off, c, by rw [hlen], hS b hX hlt, fun j hj => ?_⟩⟩
    rw [hlen] at hj
    obtain ⟨cells, hcl, hr⟩ := h j xs[j] (List.getElem?_eq_getElem hj)
    obtain ⟨v, rfl⟩ := rep_leaf1 hl hr
    have hv := hcl 0 v rfl
    rw [leaf_size1 hl, Nat.mul_one, Nat.add_zero] at hv
    simp [rowVals, hj, hv]
theorem row_at {E : Env} {X0 X : Nat → Prop} {w W : World} {t : Ty} {xs : List t.den} {sv : Value} (hl : t.leafB = true) (h0 : Rep E X0 w (.slice t) xs [sv]) (h : Rep E X W (.slice t) xs [sv]) (hsame : ∀ b, b < w.heap.size → X0 b → W.heap[b]? = w.heap[b]?) {j : Nat} {x : t.den} (hj : xs[j]? = some x) :
    Rep E X W t x [(rowVals w sv)[j]?.getD undef] := by
  obtain ⟨a0, n0, c0, e0, hn0, _, _, h0⟩ := h0
  cases e0
  obtain ⟨a, n, c, e, hn, hc, hlim, h⟩ := h
  cases e
  rcases h0 with rfl | ⟨b0, off0, rfl, hlt0, hX0, _⟩
  · simp at hj
  rcases h with rfl | ⟨b, off, e, hlt, hX, h⟩
  · simp at hj
  · cases e
    obtain ⟨cells, hcl, hr⟩ := h j x hj
    obtain ⟨v, rfl⟩ := rep_leaf1 hl hr
    have hv := hcl 0 v rfl
    rw [leaf_size1 hl, Nat.mul_one, Nat.add_zero, cell?_congr (hsame b0 hlt0 hX0)] at hv
    have hlt : j < n0 := by rw [hn0]; exact (List.getElem?_eq_some_iff.1 hj).1
    have : (rowVals w (.slice (some ⟨b0, off0, none⟩) n0 c0))[j]?.getD undef = v := by simp [rowVals, hlt, hv]
    rw [this]
    exact hr
def chkB (s : St) : Bool := AV.nofpL s.tmps && Obj.nofp s.objs && s.keep.isEmpty
def backSt (s2 : St) : St := { tmps := s2.keep, objs := s2.objs, keep := [] }
def nofpS (s : St) : Bool := AV.nofpL s.tmps && Obj.nofp s.objs
def setAV (i x : AV) : List (Nat × Bool) → List AV → List AV
  | [], l => l
  | (p, b) :: r, l => setAV i x r (l.set p (bif b then x else i))
def setV (i x : Value) : List (Nat × Bool) → Array Value → Array Value
  | [], l => l
  | (p, b) :: r, l => setV i x r (l.setIfInBounds p (bif b then x else i))
def AsgOK (P : Program) (n sz p1 p2 : Nat) (sl : List (Nat × Bool)) (assign : Code) : Prop :=
  ∀ (a : Act) (i v : Value) (l : Nat) (W : World) (K : Act → World → Prop), a.tmps.size = sz → K { tmps := setV i v sl a.tmps, defers := [] } W →
    assign.wpIn ((fenceR none).inRound l) (n - 1 - 1) P (Exit.then K (fun _ _ _ => False)) { tmps := (#[p1, p2].zip #[i, v]).foldl (fun t (p, v) => t.setIfInBounds p v) a.tmps, defers := [] } W
def rngB (E : Env) (A : List (Nat × (St → LoopAnn))) (gf : Nat) (t : Ty) (sl : List (Nat × Bool)) (sz : Nat) (inv : Nat → Prop) (g : Operand) (body : Code) (Q : Ex → St → Prop) (s : St) : Prop :=
  match s.eval g with
  | .fn f [.pc [.d u y]] => match Nat.beq f gf, castTy u (.slice t) y, chkB s && Nat.beq s.tmps.length sz with
    | true, some (xs : List t.den), true => fits xs.length → inv xs.length ∧
      (∀ j x, nth xs j = some x → awp E A body (fun e s2 => match e with
        | .normal => (inv (j + 1) → inv j) ∧ (backSt s2).le s
        | e => nofpS (backSt s2) = true ∧ (inv (j + 1) → Q e (backSt s2)))
        { tmps := setAV (.d (.int .i64) (iOf j)) (.d t x) sl s.tmps, objs := s.objs, keep := s.tmps }) ∧
      (inv 0 → Q .normal s)
    | _, _, _ => False
  | _ => False
def Ex.code : Ex → Code
  | .normal => .skip
  | .exit id => .exit id
  | .ret => .ret
theorem sets_ok {c : RC} {i x : AV} {u v : Value} (hi : VRel c i u) (hx : VRel c x v) : ∀ (ps : List (Nat × Bool)) {l : List AV} {t : Array Value}, VRelL c l t.toList → VRelL c (setAV i x ps l) (setV u v ps t).toList
  | [], l, t, h => h
  | (p, true) :: ps, l, t, h => sets_ok hi hx ps (t := t.setIfInBounds p v) (by rw [Array.toList_setIfInBounds]; exact h.set p x v hx)
  | (p, false) :: ps, l, t, h => sets_ok hi hx ps (t := t.setIfInBounds p u) (by rw [Array.toList_setIfInBounds]; exact h.set p i u hi)
theorem own_cells {objs : List (Option Obj)} {m : Nat → Value} {W : World} (h : HoldsO G objs m W) {b : Nat} (hb : Own objs m b) {o : Go.Obj} (ho : W.heap[b]? = some o) : o.isCells = true := by
  obtain ⟨i, ob, hi, hb⟩ := hb
  have r := h.rel i ob hi
  cases ob with
  | box cs =>
    obtain ⟨b', t, vs, hm, hh, _⟩ := r
    rw [hm] at hb
    simp only [blk, Option.some.injEq] at hb
    subst hb
    change W.heap[b']? = _ at hh
    rw [hh] at ho; cases ho; rfl
  | arr t xs fx =>
    obtain ⟨a, n, cap, hm, _, _, _, r⟩ := r
    rw [hm] at hb
    rcases r with r | ⟨b', vs, e, rfl, hh, _⟩
    · subst r
      cases a <;> simp [blk] at hb
    · simp only [blk] at hb
      split at hb
      · cases hb
      · simp only [Option.some.injEq] at hb
        subst hb
        change W.heap[b']? = _ at hh
        rw [hh] at ho; cases ho; rfl
theorem keeps_from {B : Nat} {objs : List (Option Obj)} {m : Nat → Value} {W W' : World} (h : HoldsO G objs m W) (hk : Keep (Own objs m) W W') : KeepsFrom B W W' :=
  ⟨hk.size, fun k o _ ho hc => (hk.block k (Array.getElem?_eq_some_iff.1 ho).1 (fun own => by rw [own_cells h own ho] at hc; cases hc)).trans ho⟩
theorem eval_df (a : Act) (d : List Deferred) (g : Operand) : ({ a with defers := d } : Act).eval g = a.eval g := by cases g <;> rfl
theorem rngB_ok {n : Nat} {gf : Nat} {t : Ty} {sl : List (Nat × Bool)} {sz : Nat} {inv : Nat → Prop} {g : Operand} {p1 p2 : Nat} {assign body : Code} (hn : 4 ≤ n) (hE : ProgOK P G.E) (hP : G.P = P) (hn0 : G.n0 = 0) (hdf : G.df = []) (hb : BackOK P gf) (ht : t.leafB = true) (hnd : noDefC body = true)
    (hasg : AsgOK P n sz p1 p2 sl assign)
    {Q' : Ex → St → Prop} {Q : Exit → Act → World → Prop} {s : St} {a : Act} {w : World} {m : Nat → Value} (h : Holds G s a w m) (hk : rngB G.E A gf t sl sz inv g body Q' s)
    (hQ : ∀ e s3 W m3 D, Q' e s3 → Holds G s3 { a with defers := [] } W m3 → G.w0.heap.size ≤ D → W.heap[D]? = some (.deferred (some [])) → Q e.out { a with defers := [{ target := .collected D, args := #[] }] } W) :
    (Code.rangeFunc g #[p1, p2] assign body).wpIn (fenceR none) n P Q a w := by
  unfold rngB at hk
  split at hk
  · rename_i f u xs hev
    split at hk
    · rename_i xs' hf hcast hchk
      obtain rfl : f = gf := Nat.eq_of_beq_eq_true hf
      unfold castTy at hcast
      split at hcast
      · rename_i eu
        subst eu
        simp only [Option.some.injEq] at hcast
        change xs = xs' at hcast
        subst hcast
        unfold chkB at hchk
        simp only [Bool.and_eq_true] at hchk
        obtain ⟨⟨⟨hfp, hfpo⟩, hke⟩, hsz⟩ := hchk
        have hsz : a.tmps.size = sz := by rw [← Nat.eq_of_beq_eq_true hsz, ← h.tmps.length, Array.length_toList]
        have hkeep : s.keep = [] := List.isEmpty_iff.1 hke
        have hks : G.ks = [] := by have := h.kp; rw [hkeep] at this; exact this
        have hade : a.defers = [] := h.defers.trans hdf
        have rg := eval_ok h g
        rw [hev] at rg
        obtain ⟨cs0, hv0, hcs0⟩ := rg
        obtain ⟨pv, q, rfl, hpc, rfl⟩ := hcs0
        obtain ⟨Bs, o, rfl, hBs, hSBs, cs, hcells, hrel⟩ := hpc
        obtain ⟨sv, q, rfl, hd, rfl⟩ := hrel
        have hcell : w.cell? ⟨Bs, o, none⟩ = some sv := hcells 0 sv rfl
        have hrep : Rep G.E (G.rc s.objs m w).X w (.slice t) xs [sv] := hd.2
        obtain ⟨hlen, hlim, hrow⟩ := row_of ht hrep
        obtain ⟨hi0, hround, hend⟩ := hk (show fits xs.length from hlim)
        have hOw : HoldsO (Ctx.at h.o [] []) s.objs m w := at_in h.o
        refine wpIn_rangeFunc_ownG (F := fenceR none) rfl (by omega) (gf := f) (lb := #[.pointer (some ⟨Bs, o, none⟩)]) hv0 trivial (fun args w => run_enter hb.1 args)
          (hb.2 (n - 1) Bs o (fun b => b < w.heap.size ∧ ¬ Own s.objs m b) sv (rowVals w sv) w (by omega) (by rw [hlen]; exact hlim) ⟨hBs, hSBs⟩ (fun b h => h.1) hcell (hrow _ fun b hX hlt => ⟨hlt, hX.2⟩))
          (fun h k b hb => (k b hb).trans (h b hb)) (fun W l o o' hl _ _ _ b hb => World.putObj_heap_other (by omega)) (Below.refl _ _) (fun _ => rfl)
          (fun pre W => ∃ m1, HoldsO (Ctx.at h.o [] []) s.objs m1 W ∧ VRelL ((Ctx.at h.o [] []).rc s.objs m1 W) s.tmps a.tmps.toList ∧ (pre = down xs.length pre.length → inv (xs.length - pre.length)))
          (fun c pre W => ∃ e s3 m3, c = Ex.code e ∧ s3.keep = [] ∧ HoldsO (Ctx.at h.o [] []) s3.objs m3 W ∧ VRelL ((Ctx.at h.o [] []).rc s3.objs m3 W) s3.tmps a.tmps.toList ∧ nofpS s3 = true ∧ (pre = down xs.length pre.length → Q' e s3))
          ?hI ?hIx ?h0 (fun x => { tmps := setV (.int .i64 (clip (rowVals w sv).length x : Int)) ((rowVals w sv)[clip (rowVals w sv).length x]?.getD undef) sl a.tmps, defers := [] }) ?assign ?body ?done ?stop
        case hI =>
          rintro pre B1 B2 row ⟨m1, hO, hV, hi⟩ hg hr
          have htn := turn_of (B := w.heap.size) hO.keep.size hg hr
          obtain ⟨k1, k2⟩ := hO.turn hfpo (Nat.le_refl _) htn
          exact ⟨m1, k1, hV.monoC k2 hfp, hi⟩
        case hIx =>
          rintro c pre B1 B2 row ⟨e, s3, m3, hc, hk3, hO, hV, hf3, hi⟩ hg hr
          have htn := turn_of (B := w.heap.size) hO.keep.size hg hr
          unfold nofpS at hf3
          simp only [Bool.and_eq_true] at hf3
          obtain ⟨k1, k2⟩ := hO.turn hf3.2 (Nat.le_refl _) htn
          exact ⟨e, s3, m3, hc, hk3, k1, hV.monoC k2 hf3.1, by unfold nofpS; simp only [Bool.and_eq_true]; exact hf3, hi⟩
        case h0 => exact ⟨m, hOw, h.tmps.mono (at_le h.o), fun _ => hi0⟩
        case assign =>
          intro l x W K hK
          exact hasg a _ _ l W K hsz hK
        case body =>
          rintro l pre x W ⟨m1, hO, hV, hinv⟩ hlt
          rw [hlen] at hlt
          have hj : clip xs.length x < xs.length := by unfold clip; omega
          have hW : Holds (Ctx.at h.o [] []) s { a with defers := [] } W m1 := { o := hO, tmps := hV, defers := rfl, kp := by rw [hkeep]; rfl }
          have rW := eval_ok hW g
          rw [hev, eval_df, hv0] at rW
          obtain ⟨cs1, e1, hcs1⟩ := rW
          simp only [Value.func.injEq, Array.mk.injEq, true_and] at e1
          subst e1
          obtain ⟨pv, q, e2, hpc, _⟩ := hcs1
          cases e2
          obtain ⟨Bs', o', e3, hBs', hS', cs', hcells', hrel'⟩ := hpc
          cases e3
          obtain ⟨sv', q, rfl, hd', rfl⟩ := hrel'
          have hcell' : W.cell? ⟨Bs, o, none⟩ = some sv' := hcells' 0 sv' rfl
          have hck : W.cell? ⟨Bs, o, none⟩ = w.cell? ⟨Bs, o, none⟩ := cell?_congr (hO.keep.block Bs hBs hSBs)
          rw [hck, hcell] at hcell'
          cases hcell'
          have hel := row_at ht hrep hd'.2 (fun b hb hX => hO.keep.block b hb hX.2) (List.getElem?_eq_getElem hj)
          have hval : VRel ((Ctx.at h.o [] []).rc s.objs m1 W) (.d t xs[clip xs.length x]) ((rowVals w sv)[clip xs.length x]?.getD undef) := ⟨ht, hel⟩
          have hle := at_le hO (ks := a.tmps.toList) (df := []) (objs' := s.objs) (m' := m1) (w' := W)
          rw [hlen]
          have hS1 : Holds (Ctx.at hO a.tmps.toList []) { tmps := setAV (.d (.int .i64) (iOf (clip xs.length x))) (.d t xs[clip xs.length x]) sl s.tmps, objs := s.objs, keep := s.tmps } { tmps := setV (.int .i64 (clip xs.length x : Int)) ((rowVals w sv)[clip xs.length x]?.getD undef) sl a.tmps, defers := [] } W m1 :=
            { o := at_in hO, tmps := sets_ok (show VRel _ (.d (.int .i64) (iOf (clip xs.length x))) (.int .i64 (clip xs.length x : Int)) from ⟨rfl, rfl⟩) (hval.mono hle) sl (hV.mono hle), defers := rfl, kp := hV.mono hle }
          refine awp_okIn (G := Ctx.at hO a.tmps.toList []) (r := some l) (n := n - 1 - 1) (P := P) hE hP body hS1 (hround _ _ (List.getElem?_eq_getElem hj)) (.inr hnd) (fun c a w hq => hq) (fun a w hq => hq) ?_
          rintro e s2 a2 W2 m2 hq hh
          have hkf : KeepsFrom w.heap.size W W2 := keeps_from hO hh.o.keep
          have hO2 : HoldsO (Ctx.at h.o [] []) s2.objs m2 W2 := at_out hO rfl hh.o
          have hge := at_ge hO (ks := a.tmps.toList) (df := []) (objs' := s2.objs) (m' := m2) (w' := W2)
          have hkp : VRelL ((Ctx.at h.o [] []).rc s2.objs m2 W2) s2.keep a.tmps.toList := hh.kp.mono hge
          have hback : pre ++ [x] = down xs.length (pre ++ [x]).length → inv (clip xs.length x + 1) ∧ clip xs.length x = xs.length - (pre ++ [x]).length := fun hd => by
            rw [List.length_append, List.length_singleton, down_succ] at hd
            obtain ⟨q1, q2⟩ := List.append_inj' hd rfl
            have q3 : x = xs.length - 1 - pre.length := by simpa using q2
            have q4 : clip xs.length x = xs.length - 1 - pre.length := by unfold clip; omega
            refine ⟨?_, by rw [List.length_append, List.length_singleton]; omega⟩
            rw [q4, show xs.length - 1 - pre.length + 1 = xs.length - pre.length by omega]
            exact hinv q1
          cases e with
          | normal =>
            have hb2 : Holds (Ctx.at h.o [] []) (backSt s2) { a with defers := [] } W2 m2 := { o := hO2, tmps := hkp, defers := rfl, kp := rfl }
            have hb3 := hb2.le hq.2 (Nat.zero_le _)
            refine ⟨hkf, fun b hb => (hO2.keep.block b hb.1 hb.2).trans (hO.keep.block b hb.1 hb.2).symm, m2, hb3.o, hb3.tmps, fun hd => ?_⟩
            obtain ⟨q1, q2⟩ := hback hd
            rw [← q2]
            exact hq.1 q1
          | ret => exact ⟨hkf, .ret, backSt s2, m2, rfl, rfl, hO2, hkp, hq.1, fun hd => hq.2 (hback hd).1⟩
          | exit id => exact ⟨hkf, .exit id, backSt s2, m2, rfl, rfl, hO2, hkp, hq.1, fun hd => hq.2 (hback hd).1⟩
        case done =>
          rintro D ys W hD rfl ⟨m1, hO, hV, hi⟩ hDe
          rw [hade]
          refine hQ .normal s W m1 D (hend ?_) { o := at_out h.o hn0 hO, tmps := hV.mono (at_ge h.o), defers := hdf.symm, kp := by rw [hkeep, hks]; rfl } (Nat.le_trans h.o.keep.size hD) hDe
          rw [hlen, down_len, Nat.sub_self] at hi
          exact hi rfl
        case stop =>
          rintro D c pre W hD ⟨k, hkl, rfl⟩ ⟨e, s3, m3, rfl, hk3, hO, hV, hf3, hi⟩ hDe
          rw [hade]
          rw [hlen, down_len] at hi
          have := hQ e s3 W m3 D (hi rfl) { o := at_out h.o hn0 hO, tmps := hV.mono (at_ge h.o), defers := hdf.symm, kp := by rw [hk3, hks]; rfl } (Nat.le_trans h.o.keep.size hD) hDe
          cases e with
          | normal => exact wpIn_skip this
          | exit id => exact wpIn_exit this
          | ret => exact wpIn_ret this
      · cases hcast
    · cases hk
  · cases hk
theorem asg1 {r : Option Nat} {n id d p ty : Nat} {pos : String} {Q : Exit → Act → World → Prop} {a : Act} {W : World} (h : Q .normal (a.put (some d) (a.eval (.tmp p))) W) :
    (Code.region id #[{ dst := some d, op := .assign (.tmp p), type := ty, pos := pos, after := #[], guard := none }] false).wpIn (fenceR r) n P Q a W := by
  refine wpIn_region_list ?_
  simp only [wpListIn]
  refine (if_pos (by simp [Region.wanted, go_sem])).mpr ?_
  refine wp_in (.inr rfl) ?_
  unfold Oper.wp
  have : (execOp a.eval { dst := some d, op := .assign (.tmp p), type := ty, pos := pos, after := #[], guard := none }).run P W = .ok (.value (a.eval (.tmp p))) W := by
    simp [execOp, go_sem]
  rw [this]
  exact h
theorem get_set {t : Array Value} {p : Nat} {v : Value} (h : p < t.size) : (t.setIfInBounds p v).getD p undef = v := by
  simp [Array.getD, h]
theorem get_other {t : Array Value} {p q : Nat} {v : Value} (h : q ≠ p) : (t.setIfInBounds q v).getD p undef = t.getD p undef := by
  simp [h]
theorem asg2 {n sz p1 p2 i1 i2 d1 d2 t1 t2 : Nat} {pos1 pos2 : String} (h1 : p1 < sz) (h2 : p2 < sz) (h12 : p2 ≠ p1) (hd : d1 ≠ p2) :
    AsgOK P n sz p1 p2 [(p1, false), (p2, true), (d1, false), (d2, true)] (.seq (.region i1 #[{ dst := some d1, op := .assign (.tmp p1), type := t1, pos := pos1, after := #[], guard := none }] false) (.region i2 #[{ dst := some d2, op := .assign (.tmp p2), type := t2, pos := pos2, after := #[], guard := none }] false)) := by
  intro a i v l W K hsz hK
  refine wpIn_seq ?_
  refine asg1 (r := some l) ?_
  refine asg1 (r := some l) ?_
  have e0 : (#[p1, p2].zip #[i, v]).foldl (fun t (p, v) => t.setIfInBounds p v) a.tmps = (a.tmps.setIfInBounds p1 i).setIfInBounds p2 v := by simp
  have e1 : ((a.tmps.setIfInBounds p1 i).setIfInBounds p2 v).getD p1 undef = i := by rw [get_other h12, get_set (by omega)]
  have e2 : (((a.tmps.setIfInBounds p1 i).setIfInBounds p2 v).setIfInBounds d1 i).getD p2 undef = v := by rw [get_other hd, get_set (by simp; omega)]
  have e3 : ({ tmps := (#[p1, p2].zip #[i, v]).foldl (fun t (p, v) => t.setIfInBounds p v) a.tmps, defers := [] } : Act) = { tmps := (a.tmps.setIfInBounds p1 i).setIfInBounds p2 v, defers := [] } := by rw [e0]
  rw [e3]
  show K _ W
  simp only [Act.eval, Act.put, e1, e2]
  exact hK
def hasR : Code → Bool
  | .rangeFunc _ _ _ _ => true
  | .seq a b => hasR a || hasR b
  | .block _ a => hasR a
  | _ => false
def awpB (E : Env) (A : List (Nat × (St → LoopAnn))) (gf : Nat) (t : Ty) (sl : List (Nat × Bool)) (sz : Nat) (inv : Nat → Prop) : Code → (Ex → St → Prop) → St → Prop
  | .seq x y, Q, s => match hasR x with
    | true => awpB E A gf t sl sz inv x (fun e s => match e with
      | .normal => awp E A y Q s
      | .exit id => Q (.exit id) s
      | .ret => Q .ret s) s
    | false => awp E A x (fun e s => match e with
      | .normal => awpB E A gf t sl sz inv y Q s
      | .exit id => Q (.exit id) s
      | .ret => Q .ret s) s
  | .block id x, Q, s => awpB E A gf t sl sz inv x (fun e s => match e with
    | .normal => Q .normal s
    | .exit j => match Nat.beq j id with
      | true => Q .normal s
      | false => Q (.exit j) s
    | .ret => Q .ret s) s
  | .rangeFunc g _ _ body, Q, s => rngB E A gf t sl sz inv g body Q s
  | _, _, _ => False
def okR (P : Program) (n sz : Nat) (sl : List (Nat × Bool)) : Code → Prop
  | .rangeFunc _ ps assign body => ∃ p1 p2, ps = #[p1, p2] ∧ noDefC body = true ∧ AsgOK P n sz p1 p2 sl assign
  | .seq a b => okR P n sz sl a ∧ okR P n sz sl b
  | .block _ a => okR P n sz sl a
  | _ => True
def FinB (G : Ctx) (s : St) (a : Act) (w : World) (m : Nat → Value) : Prop :=
  Holds G s a w m ∨ ∃ D, G.w0.heap.size ≤ D ∧ w.heap[D]? = some (.deferred (some [])) ∧ a.defers = [{ target := .collected D, args := #[] }] ∧ Holds G s { a with defers := [] } w m
theorem fin_awp {n : Nat} (hE : ProgOK P G.E) (hP : G.P = P) (hn0 : G.n0 = 0) (hdf : G.df = []) {c : Code} {Q' : Ex → St → Prop} {Q : Exit → Act → World → Prop} {s : St} {a : Act} {w : World} {m : Nat → Value} (h : FinB G s a w m) (hk : awp G.E A c Q' s)
    (hnp : ∀ c a w, ¬ Q (.panic c) a w) (hlo : ∀ a w, ¬ Q .outgrown a w) (hQ : ∀ e s' a' w' m', Q' e s' → FinB G s' a' w' m' → Q e.out a' w') : c.wpIn (fenceR none) n P Q a w := by
  rcases h with h | ⟨D, hD, hDe, had, h⟩
  · exact awp_okIn hE hP c h hk (.inl rfl) hnp hlo fun e s' a' w' m' hq hh => hQ e s' a' w' m' hq (.inl hh)
  · have h1 : Holds (Ctx.at h.o G.ks [{ target := .collected D, args := #[] }]) s a w m := { o := at_in h.o, tmps := h.tmps.mono (at_le h.o), defers := had, kp := h.kp.mono (at_le h.o) }
    refine awp_okIn (G := Ctx.at h.o G.ks [{ target := .collected D, args := #[] }]) hE hP c h1 hk (.inl rfl) hnp hlo fun e s' a' w' m' hq hh => hQ e s' a' w' m' hq (.inr ⟨D, hD, ?_, hh.defers, ?_⟩)
    · exact (hh.o.keep.block D (Array.getElem?_eq_some_iff.1 hDe).1 (fun own => by have := own_cells h.o own hDe; cases this)).trans hDe
    · exact { o := at_out h.o hn0 hh.o, tmps := hh.tmps.mono (at_ge h.o), defers := hdf.symm, kp := hh.kp.mono (at_ge h.o) }
theorem awpB_ok {n : Nat} {gf : Nat} {t : Ty} {sl : List (Nat × Bool)} {sz : Nat} {inv : Nat → Prop} (hn : 4 ≤ n) (hE : ProgOK P G.E) (hP : G.P = P) (hn0 : G.n0 = 0) (hdf : G.df = []) (hb : BackOK P gf) (ht : t.leafB = true) :
    ∀ (c : Code) {Q' : Ex → St → Prop} {Q : Exit → Act → World → Prop} {s : St} {a : Act} {w : World} {m : Nat → Value}, Holds G s a w m → awpB G.E A gf t sl sz inv c Q' s → okR P n sz sl c →
    (∀ c a w, ¬ Q (.panic c) a w) → (∀ a w, ¬ Q .outgrown a w) → (∀ e s' a' w' m', Q' e s' → FinB G s' a' w' m' → Q e.out a' w') → c.wpIn (fenceR none) n P Q a w
  | .seq x y, Q', Q, s, a, w, m, h, hk, hok, hnp, hlo, hQ => by
    unfold awpB at hk
    split at hk
    · refine wpIn_seq (awpB_ok hn hE hP hn0 hdf hb ht x h hk hok.1 (fun c a w hq => hnp c a w hq) (fun a w hq => hlo a w hq) fun e s' a' w' m' hq hh => ?_)
      cases e with
      | normal => exact fin_awp hE hP hn0 hdf hh hq hnp hlo hQ
      | exit id => exact hQ (.exit id) s' a' w' m' hq hh
      | ret => exact hQ .ret s' a' w' m' hq hh
    · refine wpIn_seq (awp_okIn hE hP x h hk (.inl rfl) (fun c a w hq => hnp c a w hq) (fun a w hq => hlo a w hq) fun e s' a' w' m' hq hh => ?_)
      cases e with
      | normal => exact awpB_ok hn hE hP hn0 hdf hb ht y hh hq hok.2 hnp hlo hQ
      | exit id => exact hQ (.exit id) s' a' w' m' hq (.inl hh)
      | ret => exact hQ .ret s' a' w' m' hq (.inl hh)
  | .block id x, Q', Q, s, a, w, m, h, hk, hok, hnp, hlo, hQ => by
    unfold awpB at hk
    refine wpIn_block (awpB_ok hn hE hP hn0 hdf hb ht x h hk hok (fun c a w hq => hnp c a w hq) (fun a w hq => hlo a w hq) fun e s' a' w' m' hq hh => ?_)
    cases e with
    | normal => exact hQ .normal s' a' w' m' hq hh
    | exit j =>
      simp only [Ex.out, Exit.inBlock]
      simp only at hq
      split at hq
      · rename_i hj
        rw [if_pos (Nat.eq_of_beq_eq_true hj)]
        exact hQ .normal s' a' w' m' hq hh
      · rename_i hj
        rw [if_neg (fun e => by subst e; simp at hj)]
        exact hQ (.exit j) s' a' w' m' hq hh
    | ret => exact hQ .ret s' a' w' m' hq hh
  | .rangeFunc g ps assign body, Q', Q, s, a, w, m, h, hk, hok, hnp, hlo, hQ => by
    unfold awpB at hk
    obtain ⟨p1, p2, rfl, hnd, hasg⟩ := hok
    exact rngB_ok hn hE hP hn0 hdf hb ht hnd hasg h hk fun e s3 W m3 D hq hh hD hDe => hQ e s3 _ W m3 hq (.inr ⟨D, hD, hDe, rfl, hh⟩)
  | .skip, _, _, _, _, _, _, _, hk, _, _, _, _ | .region .., _, _, _, _, _, _, _, hk, _, _, _, _ | .cond .., _, _, _, _, _, _, _, hk, _, _, _, _ | .loop .., _, _, _, _, _, _, _, hk, _, _, _, _ | .exit _, _, _, _, _, _, _, _, hk, _, _, _, _ | .ret, _, _, _, _, _, _, _, hk, _, _, _, _
  | .scope _, _, _, _, _, _, _, _, hk, _, _, _, _ | .label _, _, _, _, _, _, _, _, hk, _, _, _, _ | .goto _, _, _, _, _, _, _, _, hk, _, _, _, _ | .refuse _, _, _, _, _, _, _, _, hk, _, _, _, _ => by simp only [awpB] at hk
def vcB (E : Env) (A : List (Nat × (St → LoopAnn))) (gf : Nat) (t : Ty) (sl : List (Nat × Bool)) (sz : Nat) (inv : Nat → Prop) (fn : Func) (sp : FSpec) (x : pdens sp.ps) : Prop :=
  match fn.body with
  | none => False
  | some c => awpB E A gf t sl sz inv c (fun e s => match e with
    | .normal => nofpS s = true ∧ retV E sp fn x s
    | .ret => nofpS s = true ∧ retV E sp fn x s
    | .exit _ => False) (entrySt fn sp x)
def bodyR (P : Program) (sz : Nat) (sl : List (Nat × Bool)) (fn : Func) : Prop :=
  match fn.body with
  | none => False
  | some c => okR P 10 sz sl c
def noBad (Q : Exit → Act → World → Prop) : Exit → Act → World → Prop
  | .panic _, _, _ => False
  | .outgrown, _, _ => False
  | e, a, w => Q e a w
theorem noBad_to {Q : Exit → Act → World → Prop} : ∀ (e : Exit) (a : Act) (w : World), noBad Q e a w → Q e a w
  | .panic _, _, _, h => h.elim
  | .outgrown, _, _, h => h.elim
  | .normal, _, _, h | .ret, _, _, h | .exit _, _, _, h | .goto _, _, _, h => h
theorem fokB_of_vc {E : Env} (hE : ProgOK P E) {f : Nat} {fn : Func} (hf : P.funcs[f]? = some fn) (hname : (fn.name == "runtime.NumGoroutine") = false) {sp : FSpec} (hp : plainPs sp.ps = true) (A : pdens sp.ps → List (Nat × (St → LoopAnn))) {gf : Nat} {t : Ty} {sl : List (Nat × Bool)} {sz : Nat} (inv : pdens sp.ps → Nat → Prop)
    (hback : BackOK P gf) (ht : t.leafB = true) (hok : bodyR P sz sl fn) (hv : ∀ x, sp.pre x → vcB E (A x) gf t sl sz (inv x) fn sp x) (hb : fn.body.isSome = true) : FOK P E f sp := by
  refine ⟨⟨fn, hf, hb, hname⟩, fun G0 x vs hP hEq hn0 hpre hO hV => ?_⟩
  subst hEq
  have hent := plain_entry hp x 0
  have hexi := plain_exit hp (sp.upd x)
  suffices hmain : ∀ G : Ctx, G.ks = [] → G.df = [] → G.P = P → ProgOK P G.E → (∀ x, sp.pre x → vcB G.E (A x) gf t sl sz (inv x) fn sp x) → G.n0 = (entry sp.ps x 0).2.length → HoldsO G (entry sp.ps x 0).2 G.m0 G.w0 → VRelL (G.rc (entry sp.ps x 0).2 G.m0 G.w0) (entry sp.ps x 0).1 vs →
      Calls P f vs.toArray G.w0 fun e w' => ∃ m' vals, e = .returned (retVal vals) ∧ HoldsO G (outObjs sp x) m' w' ∧ VRelL (G.rc (outObjs sp x) m' w') (ressV sp.rs (sp.fn x) (exitObjs sp.ps (sp.upd x)).length).1 vals by
    refine Calls.mono (hmain { G0 with ks := [], df := [] } rfl rfl hP hE hv hn0 (holdsO_ks _ _ hO) hV) fun e w' he => ?_
    obtain ⟨m', vals, h1, h2, h3⟩ := he
    exact ⟨m', vals, h1, holdsO_ks (G := { G0 with ks := [], df := [] }) G0.ks G0.df h2, h3⟩
  clear hE hv hn0 hO hV hP
  intro G hks hdf hP hE hv hn0 hO hV
  have hn00 : G.n0 = 0 := by rw [hn0, hent]; rfl
  have hvc := hv x hpre
  unfold vcB at hvc
  unfold bodyR at hok
  split at hvc
  · cases hvc
  · rename_i c hc
    rw [hc] at hok
    refine (callsIn_wide (n := 10)).1 (callsIn_of_wp_marks (F := fenceR none) hf hc trivial ?_ rfl)
    have hlen := hV.length
    rw [entry_len1] at hlen
    have h : Holds G (entrySt fn sp x) { tmps := vs.toArray ++ Array.replicate (fn.ntmps - vs.toArray.size) undef, defers := [] } G.w0 G.m0 := by
      refine { o := hO, tmps := ?_, defers := hdf.symm, kp := by rw [hks]; rfl }
      have hrep : ∀ k, VRelL (G.rc (entry sp.ps x 0).2 G.m0 G.w0) (List.replicate k .any) (List.replicate k undef) := by
        intro k
        induction k with
        | zero => rfl
        | succ k ih => exact ⟨undef, _, rfl, by simp only [VRel], ih⟩
      have := hV.append (hrep (fn.ntmps - sp.ps.length))
      simpa [entrySt, hlen] using this
    refine wpIn_mono (awpB_ok (P := P) (n := 10) (Q := noBad (bodyPostM (fenceR none) 10 P fn fun e w' => ∃ m' vals, e = .returned (retVal vals) ∧ HoldsO G (outObjs sp x) m' w' ∧ VRelL (G.rc (outObjs sp x) m' w') (ressV sp.rs (sp.fn x) (exitObjs sp.ps (sp.upd x)).length).1 vals)) (by omega) hE hP hn00 hdf hback ht c h hvc hok (fun c a w hq => hq) (fun a w hq => hq) fun e s a w m hq hh => ?_) noBad_to
    have fin : (nofpS s = true ∧ retV G.E sp fn x s) → bodyPostM (fenceR none) 10 P fn (fun e w' => ∃ m' vals, e = .returned (retVal vals) ∧ HoldsO G (outObjs sp x) m' w' ∧ VRelL (G.rc (outObjs sp x) m' w') (ressV sp.rs (sp.fn x) (exitObjs sp.ps (sp.upd x)).length).1 vals) .ret a w := by
      rintro ⟨hnf, hr⟩
      unfold nofpS at hnf
      simp only [Bool.and_eq_true] at hnf
      unfold retV at hr
      have hfin : ∀ (a1 : Act) (W : World), a1.tmps = a.tmps → Holds G s a1 W m → ∃ m' vals, (results fn a.tmps).run P W = .ok (retVal vals) W ∧ HoldsO G (outObjs sp x) m' W ∧ VRelL (G.rc (outObjs sp x) m' W) (ressV sp.rs (sp.fn x) (exitObjs sp.ps (sp.upd x)).length).1 vals := by
        intro a1 W ha1 hh
        generalize hs1 : s.freezes (vOwned sp.rs (resAVs G.E fn s) ++ mOwned s.heap sp.ps 0) = s1 at hr
        have h1 : Holds G s1 a1 W m := by rw [← hs1]; exact hh.freezes _
        have hne : ∀ r ∈ fn.results.toList, resAV s1 r (resSize G.E r) ≠ .any := by
          intro r hr'
          have hr2 := hr
          unfold retC at hr2
          split at hr2
          · rename_i y u _ _ _ hy _
            exact ressD_ne hy _ (List.mem_map.2 ⟨r, hr', rfl⟩)
          · cases hr2
        obtain ⟨f, hf1, hf2⟩ := vals_of hE.env h1 fn.results.toList hne
        obtain ⟨m', g1, g2⟩ := retC_ok h1 (by rw [hn0]; exact entry_len) hr hf2
        exact ⟨m', _, by rw [← ha1]; exact results_run hf1, g1, g2⟩
      change LeavesInM _ _ _ _ _ _ a.defers .returning w
      rcases hh with hh | ⟨D, hD, hDe, had, hh⟩
      · obtain ⟨m', vals, r1, r2, r3⟩ := hfin a w rfl hh
        rw [hh.defers.trans hdf]
        exact ⟨retVal vals, r1, m', vals, rfl, r2, r3⟩
      · have htn : Turn G.w0.heap.size w (w.putObj D (.deferred none)) := turn_of hh.o.keep.size (grownBy_putObj' w D _) (fun r e => by cases e; exact ⟨hD, _, hDe, rfl⟩)
        obtain ⟨k1, k2⟩ := hh.o.turn hnf.2 (Nat.le_refl _) htn
        have hkp : VRelL (G.rc s.objs m (w.putObj D (.deferred none))) s.keep G.ks := by
          have := hh.kp
          rw [hks] at this ⊢
          cases hk : s.keep with
          | nil => rfl
          | cons y r => rw [hk] at this; obtain ⟨_, _, e, _⟩ := this; cases e
        obtain ⟨m', vals, r1, r2, r3⟩ := hfin { a with defers := [] } _ rfl { o := k1, tmps := hh.tmps.monoC k2 hnf.1, defers := hh.defers, kp := hkp }
        rw [had]
        exact ⟨by simp, .inl ⟨D, _, rfl, run_takeDeferred hDe, retVal vals, r1, m', vals, rfl, r2, r3⟩⟩
    cases e with
    | normal => exact fin hq
    | ret => exact fin hq
    | exit id => cases hq
end Go.Ab

