/- A frame for proofs about functions of plain data (executed over abstract values): definitions and their soundness. It says nothing of a program by itself; no conditions. -/
import Derived.Test.YtkdnelaoagmeaaaDoorAb0
set_option autoImplicit true
set_option relaxedAutoImplicit true
set_option linter.unusedVariables false
set_option linter.unusedSimpArgs false
namespace Go.Ab
variable {P : Program} {G : Ctx} {s : St} {a : Act} {w : World} {m : Nat -> Value} {o : Oper}
def Ok (P : Program) (G : Ctx) (a : Act) (w : World) (o : Oper) (K : St -> Prop) : Prop :=
 ∀ next Q, (∀ s' val w' m', K s' -> Holds G s' (a.put o.dst val) w' m' -> next (a.put o.dst val) w') -> o.wp P a w next Q
theorem Ok1.ok {K : K1} {K' : St -> Prop} (h : Holds G s a w m) (h1 : Ok1 P G s a w m o K) (hk : ∀ v news, K v news -> K' ((s.add news).put o.dst v)) : Ok P G a w o K' := by
 intro next Q hn
 refine h1 next Q fun v news val w' m' hK _ hO hle hv => hn _ val w' m' (hk v news hK) ?_
 have : Holds G (s.add news) a w' m' := { o := hO, tmps := h.tmps.mono hle, defers := h.defers, kp := h.kp.mono hle }
 exact this.put hv o.dst
theorem freeze_get {objs : List (Option Obj)} {i j : Nat} {t : Ty} {xs : List t.den} {p : Obj} (h : ((objs.map (Obj.freeze i t xs)).set i none)[j]? = some (some p)) :
   j ≠ i /\ ∃ q, objs[j]? = some (some q) /\ ((∃ cs, q = .box cs /\ p = .box (AV.freezeL i t xs cs)) ∨ (∃ u ys f, q = .arr u ys f /\ p = q) ∨ (∃ u ys, q = .zone u ys /\ p = q)) := by
 by_cases hj : j = i
 · subst hj
   have hlt := get_lt h
   simp at hlt
   rw [List.getElem?_set_self (by simpa using hlt)] at h
   cases h
 · rw [List.getElem?_set_ne (Ne.symm hj), List.getElem?_map] at h
   cases hg : objs[j]? with
   | none => rw [hg] at h; cases h
   | some x =>
     rw [hg] at h
     simp only [Option.map_some, Option.some.injEq] at h
     cases x with
     | none => cases h
     | some q =>
       refine ⟨hj, q, rfl, ?_⟩
       cases q with
       | box cs => simp only [Obj.freeze, Option.some.injEq] at h; exact .inl ⟨cs, rfl, h.symm⟩
       | arr u ys f => simp only [Obj.freeze, Option.some.injEq] at h; exact .inr (.inl ⟨u, ys, f, rfl, h.symm⟩)
       | zone u ys => simp only [Obj.freeze, Option.some.injEq] at h; exact .inr (.inr ⟨u, ys, rfl, h.symm⟩)
theorem Holds.freeze1 (h : Holds G s a w m) (i : Nat) : Holds G (s.freeze1 i) a w m := by
 unfold St.freeze1
 split
 · rename_i t xs f hi
   have hg := heap_get hi
   have hsub : ∀ b, Own ((s.objs.map (Obj.freeze i t xs)).set i none) m b -> Own s.objs m b := by
     rintro b ⟨j, p, hp, hb⟩
     obtain ⟨_, q, hq, _⟩ := freeze_get hp
     exact ⟨j, q, hq, hb⟩
   have hnot : ∀ b, rows (m i) b -> ¬ Own ((s.objs.map (Obj.freeze i t xs)).set i none) m b := by
     rintro b hb ⟨j, p, hp, hb'⟩
     obtain ⟨hj, q, hq, _⟩ := freeze_get hp
     exact hj (h.o.disj j i q _ b hq hg hb' hb)
   have hle : (G.rc s.objs m w).Le (G.rc ((s.objs.map (Obj.freeze i t xs)).set i none) m w) :=
     { P := rfl, E := rfl, m := fun _ _ => rfl, n := by simp [Ctx.rc], size := Nat.le_refl _,
       S := fun b _ hS => ⟨fun ho => hS (hsub b ho), rfl⟩, X := fun b _ hX => ⟨⟨hX.1, fun ho => hX.2 (hsub b ho)⟩, rfl⟩ }
   have hF : LeF i t xs (G.rc s.objs m w) (G.rc ((s.objs.map (Obj.freeze i t xs)).set i none) m w) :=
     { le := hle,
       rep := by
         have := arr_rep (c := G.rc s.objs m w) (h := fun k => if k = i then some (.arr t xs f) else none) (i := i) (by simp) (h.heap i _ hi).2
         refine rep_X this fun b hb => ?_
         rcases hb with (hb | ⟨j, t', xs', f', hj, hb⟩) | ⟨j, t', xs', hj, hb⟩
         · exact ⟨hb.1, fun ho => hb.2 (hsub b ho)⟩
         · have hj' : (if j = i then some (Obj.arr t xs f) else none) = some (.arr t' xs' f') := hj
           split at hj'
           · rename_i e
             subst e
             refine ⟨?_, hnot b hb⟩
             rcases h.o.new b ⟨j, _, hg, hb⟩ with h1 | h1
             · exact .inl (G.sub b h1)
             · exact .inr h1
           · cases hj'
         · have hj' : (if j = i then some (Obj.arr t xs f) else none) = some (.zone t' xs') := hj
           split at hj' <;> cases hj' }
   refine { o := { rel := ?_, disj := ?_, keep := h.o.keep, new := fun b hb => h.o.new b (hsub b hb), len := by simpa using h.o.len, fix := ?_ }, tmps := h.tmps.frozen hF, defers := h.defers, kp := h.kp.frozen hF }
   · intro j p hp
     obtain ⟨hj, q, hq, hpq⟩ := freeze_get hp
     refine ORel.changed (c := G.rc s.objs m w) rfl (Nat.le_refl _) hle.X (fun b hb => rfl) (h.o.rel j q hq) ?_
     rcases hpq with ⟨cs, rfl, rfl⟩ | ⟨u, ys, f', rfl, rfl⟩ | ⟨u, ys, rfl, rfl⟩
     · exact .inl ⟨cs, _, rfl, rfl, fun vs hv => hv.frozen hF⟩
     · exact .inr (.inl ⟨u, ys, f', rfl, rfl⟩)
     · exact .inr (.inr ⟨u, ys, rfl, rfl⟩)
   · intro j k p q b hj hk' hbj hbk
     obtain ⟨_, p', hp', _⟩ := freeze_get hj
     obtain ⟨_, q', hq', _⟩ := freeze_get hk'
     exact h.o.disj j k p' q' b hp' hq' hbj hbk
   · intro j p hp hn hf
     obtain ⟨_, q, hq, hpq⟩ := freeze_get hp
     refine h.o.fix j q hq hn ?_
     rcases hpq with ⟨cs, rfl, hh⟩ | ⟨u', ys', f', rfl, hh⟩ | ⟨u', ys', rfl, hh⟩
     · rfl
     · rw [hh] at hf; exact hf
     · rw [hh] at hf; exact hf
 · exact h
theorem Holds.freezes (l : List Nat) : ∀ {s : St}, Holds G s a w m -> Holds G (s.freezes l) a w m := by
 induction l with
 | nil => intro s h; exact h
 | cons i l ih => intro s h; exact ih (h.freeze1 i)
theorem fillVals_eq : ∀ (us cs : List Value) (off : Nat), off + us.length <= cs.length -> fillVals cs off us = cs.take off ++ us ++ cs.drop (off + us.length)
 | [], cs, off, _ => by simp [fillVals]
 | u :: us, cs, off, h => by
   simp only [List.length_cons] at h
   rw [fillVals, fillVals_eq us _ (off + 1) (by simp; omega)]
   have e1 : (cs.set off u).take (off + 1) = cs.take off ++ [u] := by
     rw [List.take_add_one, List.take_set_of_le (Nat.le_refl _)]
     simp [List.getElem?_set, show off < cs.length by omega]
   have e2 : (cs.set off u).drop (off + 1 + us.length) = cs.drop (off + (us.length + 1)) := by
     rw [List.drop_set_of_lt (by omega)]
     congr 1; omega
   rw [e1, e2]
   simp
theorem run_store (hE : EnvOK P G.E) {t : TypeId} {i : TI} (hi : G.E.ti t = some i) {b off : Nat} {cur : List Value} {e : TypeId} (hb : w.heap[b]? = some (.cells cur.toArray e (0, 0))) {v : Value}
   (hl : v.cells.toList.length = i.size) (hle : off + i.size <= cur.length) (h1 : ∀ u ∈ v.cells.toList, u.oneCell' = true) :
   (Instr.storeAt t (.pointer (some ⟨b, off, none⟩)) v).run P w = .ok () (w.setRow b (fillVals cur off v.cells.toList).toArray) := by
 obtain ⟨inf, d, T⟩ := hE.ti hi
 have := run_storeCells_at P b off e v.cells.toList 0 cur.toArray w hb (by simp; simp at hl; omega) h1
 rw [fillVals_eq _ _ _ (by omega)]
 have hs : v.cells.size = inf.size := by rw [<- Array.length_toList, hl, T.size]
 simp [Instr.storeAt, Instr.sureAddr, storeVar, sizeOf, typeInfo, T.info, hs]
 simpa [hs] using this
theorem exec_store {t : TypeId} {x y : Operand} (ho : o.op = .store t x y) {w' : World} (hr : (Instr.storeAt t (a.eval x) (a.eval y)).run P w = .ok () w') {next Q} (hn : next (a.put o.dst undef) w') : o.wp P a w next Q := by
 unfold Oper.wp execOp
 simp only [ho, Sem.run_bind, hr, Result.andThen_ok, Sem.run_pure]
 exact hn
theorem solidL_one {c : RC} : ∀ {l : List AV} {vs : List Value}, solidL l = true -> VRelL c l vs -> ∀ u ∈ vs, u.oneCell' = true
 | [], vs, _, r => by simp only [VRelL] at r; subst r; simp
 | x :: l, vs, h, r => by
   simp only [solidL, Bool.and_eq_true] at h
   simp only [VRelL] at r
   obtain ⟨v, q, rfl, r1, r2⟩ := r
   intro u hu
   simp only [List.mem_cons] at hu
   rcases hu with rfl | hu
   · exact solid_one h.1 r1
   · exact solidL_one h.2 r2 u hu
theorem Holds.wrote (h : Holds G s a w m) {i : Nat} {ob ob' : Obj} (hi : s.objs[i]? = some (some ob)) {w' : World} (hk : Keep (fun b => rows (m i) b) w w')
   (hfx : ob'.fixed = true -> ob.fixed = true)
   (hrel : (G.rc s.objs m w).Le (G.rc (s.objs.set i (some ob')) m w') -> ORel (G.rc (s.objs.set i (some ob')) m w') (m i) ob') : Holds G (s.setObj i (some ob')) a w' m := by
 obtain ⟨h1, h2⟩ := h.o.write hi ob' hk hfx hrel
 exact { o := h1, tmps := h.tmps.mono h2, defers := h.defers, kp := h.kp.mono h2 }
theorem noheap (c : RC) : HeapOK c (fun _ => none) := fun i o hi => by cases hi
theorem rep_noheap {c : RC} {t : Ty} {x : t.den} {vs : List Value} (h : Rep c.E (Seen c fun _ => none) c.w t x vs) : Rep c.E c.X c.w t x vs :=
 h.mono (Nat.le_refl _) fun b _ hb => by
   rcases hb with (hb | ⟨i, _, _, _, hb, _⟩) | ⟨i, _, _, hb, _⟩
   · exact ⟨hb, rfl⟩
   · cases hb
   · cases hb
theorem take_fill {cur us : List Value} {A n off : Nat} (h1 : A + n <= cur.length) (h2 : off + us.length <= n) : ((fillVals cur (A + off) us).drop A).take n = fillVals ((cur.drop A).take n) off us := by
 apply List.ext_getElem?
 intro j
 rw [fillVals_eq _ _ _ (by omega), fillVals_eq _ _ _ (by simp; omega)]
 rcases Nat.lt_or_ge j n with hj | hj
 · rw [List.getElem?_take_of_lt hj, List.getElem?_drop]
   rcases Nat.lt_or_ge j off with h3 | h3
   · rw [List.append_assoc, List.getElem?_append_left (by simp; omega), List.getElem?_take_of_lt (by omega), List.append_assoc, List.getElem?_append_left (by simp; omega), List.getElem?_take_of_lt h3, List.getElem?_take_of_lt hj, List.getElem?_drop]
   · rcases Nat.lt_or_ge j (off + us.length) with h4 | h4
     · rw [List.append_assoc, List.getElem?_append_right (by simp; omega), List.getElem?_append_left (by simp; omega), List.append_assoc, List.getElem?_append_right (by simp; omega), List.getElem?_append_left (by simp; omega)]
       congr 1
       simp only [List.length_take, List.length_drop]; omega
     · rw [List.getElem?_append_right (by simp; omega), List.getElem?_append_right (by simp; omega), List.getElem?_drop, List.getElem?_drop, List.getElem?_take_of_lt (by simp; omega), List.getElem?_drop]
       congr 1
       simp only [List.length_append, List.length_take, List.length_drop]; omega
 · rw [List.getElem?_eq_none (by simp; omega), List.getElem?_eq_none (by simp; omega)]
theorem take_fill_other {cur us : List Value} {A B n p : Nat} (h1 : A + p + us.length <= cur.length) (hd : B + n <= A + p ∨ A + p + us.length <= B) : ((fillVals cur (A + p) us).drop B).take n = (cur.drop B).take n := by
 apply List.ext_getElem?
 intro j
 rw [fillVals_eq _ _ _ (by omega)]
 rcases Nat.lt_or_ge j n with hj | hj
 · rw [List.getElem?_take_of_lt hj, List.getElem?_take_of_lt hj, List.getElem?_drop, List.getElem?_drop]
   rcases hd with hd | hd
   · rw [List.append_assoc, List.getElem?_append_left (by simp; omega), List.getElem?_take_of_lt (by omega)]
   · rw [List.getElem?_append_right (by simp; omega), List.getElem?_drop]
     congr 1
     simp only [List.length_append, List.length_take]; omega
 · rw [List.getElem?_eq_none (by simp; omega), List.getElem?_eq_none (by simp; omega)]
theorem op_store (hE : EnvOK P G.E) (h : Holds G s a w m) {t : TypeId} {x y : Operand} (ho : o.op = .store t x y) {i : TI} (hi : G.E.ti t = some i) {K : St -> Prop}
   (hk : storeV G.E s (s.eval x) (s.eval y) i.size fun s => K (s.put o.dst .any)) : Ok P G a w o K := by
 have rx := eval_ok h x
 have ry := eval_ok h y
 unfold storeV at hk
 split at hk
 · cases hk
 · rename_i l hl
   have hcl := cells_ok hl ry
   split at hk
   · rename_i hlen hsol
     have hlen := Nat.eq_of_beq_eq_true hlen
     have hll := hcl.length
     have hone := solidL_one hsol hcl
     split at hk
     ·
       rename_i ob off hx
       split at hk
       · rename_i cs hcs
         rw [hx] at rx
         obtain ⟨hn, b, hm, hv⟩ := rx
         obtain ⟨b', t', vs, hm', hb, hr⟩ := (h.heap ob _ hcs).2
         simp only [Ctx.rc] at hm hm' hb
         rw [hm] at hm'
         simp only [Value.pointer.injEq, Option.some.injEq, Addr.mk.injEq, and_true] at hm'
         subst hm'
         obtain ⟨hle, hk⟩ := hk
         have hlv := hr.length
         have hrun := run_store (P := P) hE hi hb (off := off) (v := a.eval y) (by omega) (by omega) hone
         intro next Q hn'
         refine exec_store ho (by rw [hv]; exact hrun) (hn' _ undef _ m hk ?_)
         have hkp : Keep (fun k => rows (m ob) k) w (w.setRow b (fillVals vs off (a.eval y).cells.toList).toArray) := (keep_setRow w b _).weaken fun k _ e => by subst e; rw [hm]; rfl
         have := h.wrote (ob' := .box (fillCells cs off l)) (heap_get hcs) hkp (fun _ => rfl) fun hle => ⟨b, t', fillVals vs off (a.eval y).cells.toList, hm, by simpa [Ctx.rc] using setRow_heap w b _ _ _ _ hb, (hr.mono hle).fill off (hcl.mono hle)⟩
         exact this.put (by simp only [VRel]) o.dst
       · cases hk
     ·
       rename_i ob n k off hx
       split at hk
       · rename_i e xs fx hcs
         split at hk
         · rename_i hne
           have hne := Nat.eq_of_beq_eq_true hne
           subst hne
           rw [hx] at rx
           obtain ⟨hn, b, len, cap, hm, hcap, hv⟩ := rx
           obtain ⟨ad, n', cap', hm', hn', hc', hl', hr⟩ := (h.heap ob _ hcs).2
           simp only [Ctx.rc] at hm hm'
           have hm2 := hm
           rw [hm] at hm'
           simp only [Value.slice.injEq] at hm'
           obtain ⟨rfl, rfl, rfl⟩ := hm'
           rcases hr with hr | ⟨b', vs, e', hb', hh, hvl, hcapm, hr⟩
           · exact absurd hr hcap
           simp only [Option.some.injEq, Addr.mk.injEq, and_true] at hb'
           subst hb'
           simp only [Ctx.rc] at hh
           have step : off + i.size <= e.size -> k < xs.length -> ∀ y' : e.den, (∀ x, xs[k]? = some x -> ∃ cs : List AV, VRelL (G.rc s.objs m w) cs (fillVals ((vs.drop (k * e.size)).take e.size) off (a.eval y).cells.toList) /\ toD G.E (fun _ => none) e cs = some (y', [])) ->
               K ((s.setObj ob (some (.arr e (xs.set k y') fx))).put o.dst .any) -> Ok P G a w o K := by
             intro hof hkl y' hy' hK
             have hke : k * e.size + e.size <= vs.length := by
               rw [hvl]
               calc k * e.size + e.size = (k + 1) * e.size := by rw [Nat.add_mul]; simp
                 _ <= cap * e.size := Nat.mul_le_mul_right _ (by omega)
             have hrun := run_store (P := P) hE hi hh (off := k * e.size + off) (v := a.eval y) (by omega) (by omega) hone
             intro next Q hn''
             refine exec_store ho (by rw [hv]; exact hrun) (hn'' _ undef _ m hK ?_)
             have hkp : Keep (fun k => rows (m ob) k) w (w.setRow b (fillVals vs (k * e.size + off) (a.eval y).cells.toList).toArray) := (keep_setRow w b _).weaken fun k _ e => by subst e; rw [hm2]; simp [rows_p, rows_s, blk, hcap]
             have hx1 : xs[k]? = some xs[k] := List.getElem?_eq_getElem hkl
             obtain ⟨cs, hcs1, hcs2⟩ := hy' _ hx1
             have hrep := rep_noheap (toD_all (c := G.rc s.objs m w) (noheap _) hcs2 hcs1)
             have := h.wrote (ob' := .arr e (xs.set k y') fx) (heap_get hcs) hkp (fun hh => hh) fun hle => by
               refine ⟨_, len, cap, hm, by simpa using hn', hc', hl', .inr ⟨b, fillVals vs (k * e.size + off) (a.eval y).cells.toList, e', rfl, by simpa [Ctx.rc] using setRow_heap w b _ _ _ _ hh, by rw [fillVals_length]; exact hvl, hcapm, fun j z hz => ?_⟩⟩
               by_cases hjk : j = k
               · subst hjk
                 rw [List.getElem?_set_self hkl] at hz
                 cases hz
                 rw [take_fill hke (by omega)]
                 exact hrep.mono hle.size hle.X
               · rw [List.getElem?_set_ne (Ne.symm hjk)] at hz
                 have hr' := hr j z hz
                 rw [take_fill_other (by omega) (by
                   rcases Nat.lt_or_ge j k with hlt | hge
                   · left
                     calc j * e.size + e.size = (j + 1) * e.size := by rw [Nat.add_mul]; simp
                       _ <= k * e.size := Nat.mul_le_mul_right _ (by omega)
                       _ <= _ := by omega
                   · right
                     calc k * e.size + off + (a.eval y).cells.toList.length <= k * e.size + e.size := by omega
                       _ = (k + 1) * e.size := by rw [Nat.add_mul]; simp
                       _ <= j * e.size := Nat.mul_le_mul_right _ (by omega))]
                 exact hr'.mono hle.size hle.X
             exact this.put (by simp only [VRel]) o.dst
           have chunkLen : k < xs.length -> ((vs.drop (k * e.size)).take e.size).length = e.size := fun hkl => by
             have hke : k * e.size + e.size <= vs.length := by
               rw [hvl]
               calc k * e.size + e.size = (k + 1) * e.size := by rw [Nat.add_mul]; simp
                 _ <= cap * e.size := Nat.mul_le_mul_right _ (by omega)
             simp; omega
           split at hk
           · rename_i hsz
             have hsz := Nat.eq_of_beq_eq_true hsz
             split at hk
             · rename_i y' hy'
               obtain ⟨⟨rfl, hkl⟩, hk⟩ := hk
               simp only [lenL] at hkl
               refine step (by omega) hkl y' (fun x hx => ⟨l, ?_, hy'⟩) hk
               have hcl' := chunkLen hkl
               generalize (vs.drop (k * e.size)).take e.size = ch at hcl'
               rw [fillVals_eq _ _ _ (by omega), List.drop_of_length_le (by omega)]
               simpa using hcl
             · cases hk
           · obtain ⟨⟨hof, hkl⟩, hk⟩ := hk
             simp only [lenL, nth] at hkl hk
             have hx1 : xs[k]? = some xs[k] := List.getElem?_eq_getElem hkl
             have hk := hk _ hx1
             split at hk
             · rename_i y' hy'
               refine step hof hkl y' (fun x hx => ⟨_, ?_, hy'⟩) hk
               have hr' := hr k _ hx1
               exact VRelL.fill off (cellsOf_ok (c := G.rc s.objs m w) (fun b hb => hb) hr') hcl
             · cases hk
         · cases hk
       · cases hk
     · cases hk
   · cases hk
end Go.Ab


namespace Go.Ab
variable {P : Program} {G : Ctx} {s : St} {a : Act} {w : World} {m : Nat -> Value} {o : Oper}
theorem Ok.value {K : St -> Prop} {s' : St} {val : Value} {w' : World} {m' : Nat -> Value} (hr : (execOp a.eval o).run P w = .ok (.value val) w') (hk : K s') (hh : Holds G s' (a.put o.dst val) w' m') : Ok P G a w o K := by
 intro next Q hn
 unfold Oper.wp
 rw [hr, Oper.upon_value]
 exact hn s' val w' m' hk hh
theorem op_appendOwn' (hE : EnvOK P G.E) (h : Holds G s a w m) {x0 x : Operand} {u e i : Nat} (ho : o.op = .call { callee := .builtin .append, args := #[x0, x], argTypes := #[u, u] }) {t : Ty} {ob : Obj} (hi : s.objs[i]? = some (some ob))
   {xs ys : List t.den} {vs : List Value} (hrow : RowF w t.size (a.eval x0) xs.length vs) (hch : Chunks G.E (G.rc s.objs m w).X w t xs vs) (hb : ∀ b, rows (a.eval x0) b -> rows (m i) b)
   (hkd : (G.E.ti u).map (fun i => i.kind) = some (TK.slice e)) (hty : G.E.ty e = some t) (hx : leafD G.E (arrH s.heap) (.slice t) (s.eval x) = some ys) (hfit : fits (lenL xs + lenL ys)) :
   ∃ v' w', (execOp a.eval o).run P w = .ok (.value v') w' /\ Holds G (((s.kill i).setObj i (some (.arr t (xs ++ ys) false))).put o.dst (.os i)) (a.put o.dst v') w' (upd1 m i v') /\ Keep (fun b => rows (m i) b) w w' /\
     ∀ b, arrO (((s.kill i).setObj i (some (.arr t (xs ++ ys) false))).put o.dst (.os i)) (upd1 m i v') b -> arrO s m b ∨ rows (m i) b ∨ w.heap.size <= b := by
 have r := eval_ok h x
 obtain ⟨ie, inf, z, hie, hu, hinf, hz, hzs, hsz, hpos, hby, _, _⟩ := elem_ti hE hkd hty
 obtain ⟨news, ad2, n2, cap2, e2, hn2, hc2, hl2, hch2, hsrc⟩ := leafD_src (c := G.rc s.objs m w) h.heap hx r
 subst hn2
 simp only [fits, lenL] at hfit
 obtain ⟨v', w', hrun, hrow', hkeep, hblk⟩ := append_run (P := P) (ty := o.type) hu hinf hz hzs hpos hby (by rw [hsz]; exact hrow) (a2 := ad2) (mm := ys.length) (c2 := cap2) (news := news) (by rw [hsz]; exact hch2.1)
   (by
     rcases hsrc with rfl | ⟨b, off, q1, q2, q3, q4⟩
     · exact .inl rfl
     · exact .inr ⟨b, off, q1, q4⟩) (chunks_one hch2) (by simpa [lim] using hfit)
 rw [hsz] at hrow'
 obtain ⟨h1, h2⟩ := h.o.renew hi v' (some (.arr t (xs ++ ys) false)) (hkeep.weaken fun b _ hh => hb b hh) (fun p b _ hh => (hblk b hh).imp (hb b) id) (fun p hh _ hf => by cases hh; cases hf)
   (fun hle p hp => by
     cases hp
     exact orel_row (vs := vs ++ news) (by simpa [Ctx.rc] using hrow') ((hch.append hch2).mono hle.size hle.X) (by simpa [lim] using hfit))
 have hex : (execOp a.eval o).run P w = .ok (.value v') w' := exec_append ho (by rw [e2]; exact hrun)
 refine ⟨v', w', hex, ?_, hkeep.weaken fun b _ hh => hb b hh, ?_⟩
 case refine_2 =>
   rintro b ⟨j, t', zs, f, hj, hbj⟩
   rw [put_objs] at hj
   rcases renewed_get hj with ⟨rfl, _, _⟩ | ⟨hne, q, hq, hkq⟩
   · rw [upd1_self] at hbj
     exact .inr ((hblk b hbj).imp (hb b) id)
   · rw [upd1_ne hne] at hbj
     obtain ⟨q', e, hh⟩ := kill_some hkq
     cases e
     rcases hh with ⟨cs, rfl, hh⟩ | ⟨t2, xs2, f2, rfl, hh⟩ | ⟨t2, xs2, rfl, hh⟩
     · cases hh
     · exact .inl ⟨j, _, _, _, hq, hbj⟩
     · cases hh
 have hh : Holds G ((s.kill i).setObj i (some (.arr t (xs ++ ys) false))) a w' (upd1 m i v') := { o := h1, tmps := h.tmps.killed h2, defers := h.defers, kp := h.kp.killed h2 }
 refine hh.put (v := .os i) (val := v') ⟨?_, ?_, ?_⟩ o.dst
 · have := get_lt hi
   simpa [Ctx.rc, St.setObj, St.kill] using this
 · simp [Ctx.rc]
 · obtain ⟨av, cv, hv, _⟩ := hrow'
   exact ⟨_, _, _, hv⟩
theorem op_appendOwn (hE : EnvOK P G.E) (h : Holds G s a w m) {x0 x : Operand} {u e i : Nat} (ho : o.op = .call { callee := .builtin .append, args := #[x0, x], argTypes := #[u, u] }) {t : Ty} {ob : Obj} (hi : s.objs[i]? = some (some ob))
   {xs ys : List t.den} {vs : List Value} (hrow : RowF w t.size (a.eval x0) xs.length vs) (hch : Chunks G.E (G.rc s.objs m w).X w t xs vs) (hb : ∀ b, rows (a.eval x0) b -> rows (m i) b)
   (hkd : (G.E.ti u).map (fun i => i.kind) = some (TK.slice e)) (hty : G.E.ty e = some t) (hx : leafD G.E (arrH s.heap) (.slice t) (s.eval x) = some ys) (hfit : fits (lenL xs + lenL ys)) {K : St -> Prop}
   (hk : K (((s.kill i).setObj i (some (.arr t (xs ++ ys) false))).put o.dst (.os i))) : Ok P G a w o K := by
 obtain ⟨v', w', hex, hh, _, _⟩ := op_appendOwn' hE h ho hi hrow hch hb hkd hty hx hfit
 exact Ok.value (m' := upd1 m i v') hex hk hh
theorem run_append_os (h : Holds G s a w m) {i : Nat} {x0 : Operand} (hx : s.eval x0 = .os i) {t : Ty} {xs : List t.den} {fx : Bool} (hi : s.heap i = some (.arr t xs fx)) :
   ∃ vs, RowF w t.size (a.eval x0) xs.length vs /\ Chunks G.E (G.rc s.objs m w).X w t xs vs /\ ∀ b, rows (a.eval x0) b -> rows (m i) b := by
 have r := eval_ok h x0
 rw [hx] at r
 obtain ⟨vs, h1, h2, _⟩ := row_orel (h.heap i _ hi).2
 have e : a.eval x0 = m i := r.2.1
 rw [e]
 exact ⟨vs, h1, h2, fun b hb => hb⟩
theorem run_append_oss (h : Holds G s a w m) {i hi' sz : Nat} {x0 : Operand} (hx : s.eval x0 = .oss i sz 0 hi') {t : Ty} {xs : List t.den} {fx : Bool} (hi : s.heap i = some (.arr t xs fx)) (hle : hi' <= xs.length) :
   ∃ vs, RowF w t.size (a.eval x0) (subL xs 0 hi').length vs /\ Chunks G.E (G.rc s.objs m w).X w t (subL xs 0 hi') vs /\ ∀ b, rows (a.eval x0) b -> rows (m i) b := by
 have r := eval_ok h x0
 rw [hx] at r
 obtain ⟨_, ad, n, cap, ad', hm, h1, h2, h3, h4, hv⟩ := r
 obtain ⟨vs, ⟨ad2, cap2, e2, g1, g2, g3⟩, hc, _⟩ := row_orel (h.heap i _ hi).2
 rw [e2] at hm
 simp only [Value.slice.injEq] at hm
 obtain ⟨rfl, rfl, rfl⟩ := hm
 have e2' : m i = .slice ad2 xs.length cap2 := e2
 have el : (subL xs 0 hi') = xs.take hi' := by simp [subL]
 rw [el]
 have hl : (xs.take hi').length = hi' := by simp; omega
 rw [hl, hv]
 refine ⟨vs.take (hi' * t.size), ?_, hc.take hle, ?_⟩
 · refine ⟨ad', cap2, by simp, by omega, ?_, ?_⟩
   · rw [List.length_take, g2]
     exact Nat.min_eq_left (Nat.mul_le_mul_right _ hle)
   · rcases g3 with g3 | ⟨b, cur, e, rfl, q1, q2, q3, q4⟩
     · exact .inl g3
     · rcases Nat.eq_zero_or_pos cap2 with h0 | h0
       · exact .inl h0
       · refine .inr ⟨b, cur, e, by rw [h4 (by omega)]; simp [Addr.add], q1, q2, q3, ?_⟩
         rw [<- q4, List.take_take, Nat.min_eq_left (Nat.mul_le_mul_right _ hle)]
 · intro b hb
   rw [e2']
   simp only [Nat.sub_zero] at hb
   rcases Nat.eq_zero_or_pos cap2 with h0 | h0
   · subst h0
     cases ad' <;> simp [rows_p, rows_s, blk] at hb
   · rw [h4 (by omega)] at hb
     cases ad2 with
     | none => simp [rows_p, rows_s, blk] at hb
     | some ad2 =>
       simp only [rows_p, rows_s, Option.map_some, blk, Nat.ne_of_gt h0, if_false, Option.some.injEq] at hb ⊢
       rw [<- hb]
       unfold Addr.add
       split <;> rfl
theorem op_append (hE : EnvOK P G.E) (h : Holds G s a w m) {x0 x : Operand} {args : Array Operand} {ts : Array TypeId} (ho : o.op = .call { callee := .builtin .append, args, argTypes := ts }) (ha : args.toList = [x0, x]) {i : Nat} {t : Ty} {ob : Obj} (hi : s.objs[i]? = some (some ob))
   {xs : List t.den} (hr : ∃ vs, RowF w t.size (a.eval x0) xs.length vs /\ Chunks G.E (G.rc s.objs m w).X w t xs vs /\ ∀ b, rows (a.eval x0) b -> rows (m i) b) {K : St -> Prop}
   (hk : appendV G.E s ts.toList i t xs (s.eval x) o.dst K) : Ok P G a w o K := by
 unfold appendV at hk
 split at hk
 · rename_i u u' hts
   split at hk
   · rename_i e hb hkd
     have := Nat.eq_of_beq_eq_true hb
     subst this
     split at hk
     · rename_i hty
       cases hE' : G.E.ty e with
       | none => rw [hE'] at hty; cases hty
       | some t' =>
         rw [hE'] at hty
         simp only [Option.map_some, Option.some.injEq, decide_eq_true_eq] at hty
         subst hty
         unfold appendV.go at hk
         split at hk
         · rename_i ys hx
           obtain ⟨vs, h1, h2, h3⟩ := hr
           rw [toList_two ha, toList_two hts] at ho
           exact op_appendOwn hE h ho hi h1 h2 h3 hkd hE' hx hk.1 hk.2
         · cases hk
     · cases hk
   · cases hk
 · cases hk
theorem op_narrow (h : Holds G s a w m) {x : Operand} (ho : o.op = .assign x) {i hi' : Nat} {t : Ty} {xs : List t.den} {fx : Bool} (hx : s.eval x = .oss i t.size 0 hi') (hi : s.heap i = some (.arr t xs fx)) (hle : hi' <= xs.length) {K : St -> Prop}
   (hk : K (((s.kill i).setObj i (some (.arr t (subL xs 0 hi') false))).put o.dst (.os i))) : Ok P G a w o K := by
 obtain ⟨vs, hrow, hch, hb⟩ := run_append_oss h hx hi hle
 have hl : xs.length < lim := by
   obtain ⟨_, _, _, _, e, _, hl, _⟩ := (h.heap i _ hi).2
   exact e ▸ hl
 have hl2 : (subL xs 0 hi').length < lim := by
   simp only [subL, List.drop_zero, List.length_take]; omega
 obtain ⟨h1, h2⟩ := h.o.renew (heap_get hi) (a.eval x) (some (.arr t (subL xs 0 hi') false)) (Keep.refl (fun b => rows (m i) b) w) (fun p b _ hh => .inl (hb b hh)) (fun p hh _ hf => by cases hh; cases hf)
   (fun hle p hp => by
     cases hp
     exact orel_row (vs := vs) (by simpa [Ctx.rc] using hrow) (hch.mono hle.size hle.X) hl2)
 have hex : (execOp a.eval o).run P w = .ok (.value (a.eval x)) w := by
   unfold execOp
   simp only [ho, Sem.run_pure]
 refine Ok.value (m' := upd1 m i (a.eval x)) hex hk ?_
 have hh : Holds G ((s.kill i).setObj i (some (.arr t (subL xs 0 hi') false))) a w (upd1 m i (a.eval x)) := { o := h1, tmps := h.tmps.killed h2, defers := h.defers, kp := h.kp.killed h2 }
 refine hh.put (v := .os i) (val := a.eval x) ⟨?_, ?_, ?_⟩ o.dst
 · have := get_lt (heap_get hi)
   simpa [Ctx.rc, St.setObj, St.kill] using this
 · simp [Ctx.rc]
 · obtain ⟨av, cv, hv, _⟩ := hrow
   exact ⟨_, _, _, hv⟩
theorem take_fill_in {cur us : List Value} {A B n : Nat} (h1 : A + us.length <= cur.length) (hA : A <= B) (hB : B + n <= A + us.length) : ((fillVals cur A us).drop B).take n = (us.drop (B - A)).take n := by
 apply List.ext_getElem?
 intro j
 rw [fillVals_eq _ _ _ h1]
 rcases Nat.lt_or_ge j n with hj | hj
 · rw [List.getElem?_take_of_lt hj, List.getElem?_take_of_lt hj, List.getElem?_drop, List.getElem?_drop]
   rw [List.append_assoc, List.getElem?_append_right (by simp; omega), List.getElem?_append_left (by simp; omega)]
   congr 1
   simp only [List.length_take]; omega
 · rw [List.getElem?_eq_none (by simp; omega), List.getElem?_eq_none (by simp; omega)]
theorem take_fill_other' {cur us : List Value} {A B n : Nat} (h1 : A + us.length <= cur.length) (hd : B + n <= A ∨ A + us.length <= B) : ((fillVals cur A us).drop B).take n = (cur.drop B).take n := by
 have := take_fill_other (cur := cur) (us := us) (A := A) (B := B) (n := n) (p := 0) (by omega) (by omega)
 simpa using this
theorem copyL_get {α : Type} {xs ys : List α} {lo hi : Nat} (h1 : lo <= hi) (h2 : hi <= xs.length) (k : Nat) :
   (copyL xs lo hi ys)[k]? = if lo <= k /\ k < lo + min ys.length (hi - lo) then ys[k - lo]? else xs[k]? := by
 unfold copyL
 rcases Nat.lt_or_ge k lo with hk | hk
 · rw [if_neg (by omega), List.append_assoc, List.getElem?_append_left (by simp; omega), List.getElem?_take_of_lt hk]
 · rcases Nat.lt_or_ge k (lo + min ys.length (hi - lo)) with h3 | h3
   · rw [if_pos ⟨hk, h3⟩, List.append_assoc, List.getElem?_append_right (by simp; omega), List.getElem?_append_left (by simp; omega)]
     have : k - (List.take lo xs).length = k - lo := by simp; omega
     rw [this, List.getElem?_take_of_lt (by omega)]
   · rw [if_neg (by omega), List.getElem?_append_right (by simp; omega), List.getElem?_drop]
     congr 1
     simp only [List.length_append, List.length_take]; omega
theorem copyL_length {α : Type} {xs ys : List α} {lo hi : Nat} (h1 : lo <= hi) (h2 : hi <= xs.length) : (copyL xs lo hi ys).length = xs.length := by
 unfold copyL
 simp only [List.length_append, List.length_take, List.length_drop]
 omega
theorem op_copy (hE : EnvOK P G.E) (h : Holds G s a w m) {x0 x : Operand} {u u' z : Nat} (ho : o.op = .call { callee := .builtin .copy, args := #[x0, x], argTypes := #[u, u'] }) {i : Nat} {t : Ty} {xs : List t.den} {fx : Bool} (hi : s.heap i = some (.arr t xs fx))
   (hz : elemSize G.E u = some z) (hzt : z = t.size) {lo hi' : Nat}
   (hd : ∀ ad n cap, m i = .slice ad n cap -> n = xs.length -> lo <= hi' -> hi' <= xs.length -> ∃ ad' cap', a.eval x0 = .slice ad' (hi' - lo) cap' /\ (cap ≠ lo -> ad' = ad.map (·.add (lo * t.size)))) {K : St -> Prop}
   (hk : copyV G.E s i t xs fx lo hi' (s.eval x) o.dst K) : Ok P G a w o K := by
 subst hzt
 have r := eval_ok h x
 unfold copyV at hk
 split at hk
 · rename_i ys hx
   obtain ⟨⟨hlo, hhi⟩, hk⟩ := hk
   simp only [lenL, iOf] at hhi hk
   obtain ⟨e, inf, hu, hinf, hsz, hpos⟩ := elemSize_some hE hz
   obtain ⟨news, ad2, n2, cap2, e2, hn2, hc2, hl2, hch2, hsrc⟩ := leafD_src (c := G.rc s.objs m w) h.heap hx r
   subst hn2
   have hor := (h.heap i _ hi).2
   obtain ⟨ad, n, cap, hm, hn, hc, hl, hr⟩ := hor
   obtain ⟨ad', cap', e0, ha'⟩ := hd ad n cap hm hn hlo hhi
   have hm' : m i = .slice ad n cap := hm
   by_cases hmin : min ys.length (hi' - lo) = 0
   · have hrun : (execOp a.eval o).run P w = .ok (.value (.int .i64 ((min ys.length (hi' - lo) : Nat) : Int))) w := by
       unfold execOp
       simp only [ho, resolve, invoke, builtin, Sem.run_bind, Sem.run_pure, Result.andThen_ok, List.map_toArray, List.map_cons, List.map_nil, e0, e2, hmin]
       have hmin' : Nat.min ys.length (hi' - lo) = 0 := hmin
       cases ad' <;> cases ad2 <;> simp [Builtin.copy_, run_underlying hu, Builtin.lenOf, hmin', sizeOf, typeInfo, hinf, Builtin.firstCells, loadCells, loadCellsFrom, storeCells, goInt]
     refine Ok.value (m' := m) hrun hk ?_
     have ec : copyL xs lo hi' ys = xs := by
       apply List.ext_getElem?
       intro k
       rw [copyL_get hlo hhi, if_neg (by omega)]
     rw [ec]
     have es : s.setObj i (some (.arr t xs fx)) = s := by
       unfold St.setObj
       have hgi := heap_get hi
       have hlt := get_lt hgi
       have : s.objs.set i (some (.arr t xs fx)) = s.objs := by
         apply List.ext_getElem?
         intro k
         by_cases hki : k = i
         · subst hki
           rw [List.getElem?_set_self hlt, hgi]
         · rw [List.getElem?_set_ne (Ne.symm hki)]
       rw [this]
     rw [es]
     exact h.put (mk_int _ _) o.dst
   · have hxs : 0 < xs.length := by omega
     have hcap0 : cap ≠ 0 := by omega
     rcases hr with hr | ⟨b, vs, e', rfl, hb, hvl, hcm, hrep⟩
     · exact absurd hr hcap0
     have ha2 := ha' (by omega)
     simp only [Option.map_some, addr_add, Nat.zero_add] at ha2
     subst ha2
     rcases hsrc with rfl | ⟨b2, off2, rfl, hb2, hX2, hcells⟩
     · simp at hmin
     have hmin' : Nat.min ys.length (hi' - lo) = min ys.length (hi' - lo) := rfl
     generalize hN : min ys.length (hi' - lo) = N at *
     have hnl := hch2.1
     have hsub : (news.take (N * t.size)).length = N * inf.size := by
       rw [List.length_take, hnl, hsz]
       exact Nat.min_eq_left (Nat.mul_le_mul_right _ (by omega))
     have hf := run_firstCells_some (P := P) w inf.size N ⟨b2, off2, none⟩ ys.length cap2 (news.take (N * t.size)) hsub (fun j v hj => by
       have := get_lt hj
       rw [List.length_take] at this
       rw [List.getElem?_take_of_lt (by omega)] at hj
       rw [addr_add]; exact hcells j v hj)
     have hroom : lo * t.size + N * t.size <= vs.length := by
       rw [hvl, <- Nat.add_mul]
       exact Nat.mul_le_mul_right _ (by omega)
     have hst := run_storeCells_at P b (lo * t.size) e' (news.take (N * t.size)) 0 vs.toArray w hb (by rw [hsub, hsz]; simpa using hroom) (fun v hv => chunks_one hch2 v (List.mem_of_mem_take hv))
     simp only [Nat.add_zero] at hst
     rw [<- fillVals_eq _ _ _ (by rw [hsub, hsz]; simpa using hroom)] at hst
     have hrun : (execOp a.eval o).run P w = .ok (.value (.int .i64 ((N : Nat) : Int))) (w.setRow b (fillVals vs (lo * t.size) (news.take (N * t.size))).toArray) := by
       unfold execOp
       simp only [ho, resolve, invoke, builtin, Sem.run_bind, Sem.run_pure, Result.andThen_ok, List.map_toArray, List.map_cons, List.map_nil, e0, e2]
       have hst' : (storeCells ⟨b, lo * t.size, none⟩ (news.take (N * t.size))).run P w = .ok () (w.setRow b (fillVals vs (lo * t.size) (news.take (N * t.size))).toArray) := by simpa using hst
       simp [Builtin.copy_, run_underlying hu, Builtin.lenOf, hmin', sizeOf, typeInfo, hinf, hf, goInt, hst']
     refine Ok.value (m' := m) hrun hk ?_
     have hkp : Keep (fun k => rows (m i) k) w (w.setRow b (fillVals vs (lo * t.size) (news.take (N * t.size))).toArray) := (keep_setRow w b _).weaken fun k _ e => by subst e; rw [hm']; simp [rows_p, rows_s, blk, hcap0]
     have := h.wrote (ob' := .arr t (copyL xs lo hi' ys) fx) (heap_get hi) hkp (fun hh => hh) fun hle => by
       refine ⟨_, n, cap, hm', by rw [copyL_length hlo hhi]; exact hn, hc, hl, .inr ⟨b, fillVals vs (lo * t.size) (news.take (N * t.size)), e', rfl, by simpa [Ctx.rc] using setRow_heap w b _ _ _ _ hb, by rw [fillVals_length]; exact hvl, hcm, fun k y hy => ?_⟩⟩
       rw [copyL_get hlo hhi, hN] at hy
       split at hy
       · rename_i hin
         rw [take_fill_in (by rw [hsub, hsz]; exact hroom) (Nat.mul_le_mul_right _ hin.1) (by
           rw [hsub, hsz, <- Nat.add_mul]
           calc k * t.size + t.size = (k + 1) * t.size := by rw [Nat.add_mul]; simp
             _ <= _ := Nat.mul_le_mul_right _ (by omega)), <- Nat.sub_mul]
         have := hch2.2 _ y hy
         rw [List.drop_take, List.take_take]
         have em : min t.size (N * t.size - (k - lo) * t.size) = t.size := by
           rw [<- Nat.sub_mul]
           exact Nat.min_eq_left (Nat.le_mul_of_pos_left _ (by omega))
         rw [em]
         exact this.mono hle.size hle.X
       · rename_i hout
         have hr' := hrep k y hy
         rw [take_fill_other' (A := lo * t.size) (by rw [hsub, hsz]; simpa using hroom) (by
           rw [hsub, hsz]
           simp only [<- Nat.add_mul]
           rcases Nat.lt_or_ge k lo with hlt | hge
           · left
             calc k * t.size + t.size = (k + 1) * t.size := by rw [Nat.add_mul]; simp
               _ <= _ := Nat.mul_le_mul_right _ (by omega)
           · right
             exact Nat.mul_le_mul_right _ (by omega))]
         exact hr'.mono hle.size hle.X
     exact this.put (mk_int _ _) o.dst
 · cases hk
theorem made_chunks {G : Ctx} {c : RC} {E : Env} (hcE : c.E = E) {l : List AV} {zv : Array Value} (hzo : zeroOK l zv.toList = true) {t : Ty} {z : t.den} (hz : toV E (fun _ => none) t (valOf t.isPair l) = some z) (hs : zv.size = t.size) (hp : 0 < t.size) (n : Nat) :
   Chunks c.E c.X c.w t (List.replicate n z) (madeCells zv (n * t.size)).toList := by
 subst hcE
 refine ⟨by rw [Array.length_toList, size_madeCells, List.length_replicate], fun k x hx => ?_⟩
 have hkl := get_lt hx
 simp only [List.length_replicate] at hkl
 simp only [List.getElem?_replicate] at hx
 rw [if_pos hkl] at hx
 cases hx
 have := made_chunk zv (by omega) n n k (Nat.le_refl _) hkl
 rw [hs] at this
 rw [this]
 exact zero_rep hzo hz _ _
theorem op_clear (hE : EnvOK P G.E) (h : Holds G s a w m) {x0 : Operand} {u z : Nat} (ho : o.op = .call { callee := .builtin .clear, args := #[x0], argTypes := #[u] }) {i : Nat} {t : Ty} {xs : List t.den} {fx : Bool} (hi : s.heap i = some (.arr t xs fx))
   (hz : elemSize G.E u = some z) (hzt : z = t.size) {lo hi' : Nat}
   (hd : ∀ ad n cap, m i = .slice ad n cap -> n = xs.length -> lo <= hi' -> hi' <= xs.length -> ∃ ad' cap', a.eval x0 = .slice ad' (hi' - lo) cap' /\ (cap ≠ lo -> ad' = ad.map (·.add (lo * t.size)))) {K : St -> Prop}
   (hk : clearV G.E s u i t xs fx lo hi' o.dst K) : Ok P G a w o K := by
 subst hzt
 unfold clearV at hk
 split at hk
 · rename_i el hkd
   split at hk
   · rename_i tinf htinf
     split at hk
     · rename_i zd htyd hzd
       have hty : G.E.ty el = some t := by simp [Env.ty, htinf, of_decide_eq_true htyd]
       obtain ⟨⟨hlo, hhi⟩, hk⟩ := hk
       simp only [lenL] at hhi
       obtain ⟨ie, inf, zv, hie, hu, hinf, hzv, hzs, hsz, hpos, hby, hzo, _⟩ := elem_ti hE hkd hty
       rw [htinf] at hie
       cases hie
       have hor := (h.heap i _ hi).2
       obtain ⟨ad, n, cap, hm, hn, hc, hl, hr⟩ := hor
       obtain ⟨ad', cap', e0, ha'⟩ := hd ad n cap hm hn hlo hhi
       have hm' : m i = .slice ad n cap := hm
       by_cases hmin : hi' - lo = 0
       · have hrun : (execOp a.eval o).run P w = .ok (.value (.tuple #[])) w := by
           unfold execOp
           simp only [ho, resolve, invoke, builtin, Sem.run_bind, Sem.run_pure, Result.andThen_ok, List.map_toArray, List.map_cons, List.map_nil, e0, hmin]
           cases ad' <;> simp [Builtin.clear_, run_underlying hu]
         refine Ok.value (m' := m) hrun hk ?_
         have ec : copyL xs lo hi' (List.replicate (hi' - lo) zd) = xs := by
           apply List.ext_getElem?
           intro k
           rw [copyL_get hlo hhi, if_neg (by simp; omega)]
         rw [ec]
         have es : s.setObj i (some (.arr t xs fx)) = s := by
           unfold St.setObj
           have hgi := heap_get hi
           have hlt := get_lt hgi
           have : s.objs.set i (some (.arr t xs fx)) = s.objs := by
             apply List.ext_getElem?
             intro k
             by_cases hki : k = i
             · subst hki
               rw [List.getElem?_set_self hlt, hgi]
             · rw [List.getElem?_set_ne (Ne.symm hki)]
           rw [this]
         rw [es]
         exact h.put (v := .tup []) (val := .tuple #[]) ⟨[], rfl, rfl⟩ o.dst
       · have hxs : 0 < xs.length := by omega
         have hcap0 : cap ≠ 0 := by omega
         rcases hr with hr | ⟨b, vs, e', rfl, hb, hvl, hcm, hrep⟩
         · exact absurd hr hcap0
         have ha2 := ha' (by omega)
         simp only [Option.map_some, addr_add, Nat.zero_add] at ha2
         subst ha2
         generalize hN : hi' - lo = N at *
         have hch2 : Chunks (G.rc s.objs m w).E (G.rc s.objs m w).X w t (List.replicate N zd) (madeCells zv.cells (N * t.size)).toList := made_chunks (G := G) (c := G.rc s.objs m w) rfl hzo hzd (by rw [hzs, hsz]) (by omega) N
         generalize hnews : (madeCells zv.cells (N * t.size)).toList = news at *
         have hnl : news.length = N * t.size := by rw [<- hnews, Array.length_toList, size_madeCells]
         have hroom : lo * t.size + N * t.size <= vs.length := by
           rw [hvl, <- Nat.add_mul]
           exact Nat.mul_le_mul_right _ (by omega)
         have hst := run_storeCells_at P b (lo * t.size) e' news 0 vs.toArray w hb (by rw [hnl]; simpa using hroom) (fun v hv => chunks_one hch2 v hv)
         simp only [Nat.add_zero] at hst
         rw [<- fillVals_eq _ _ _ (by rw [hnl]; simpa using hroom)] at hst
         have hrun : (execOp a.eval o).run P w = .ok (.value (.tuple #[])) (w.setRow b (fillVals vs (lo * t.size) news).toArray) := by
           unfold execOp
           simp only [ho, resolve, invoke, builtin, Sem.run_bind, Sem.run_pure, Result.andThen_ok, List.map_toArray, List.map_cons, List.map_nil, e0]
           have hzc : (Builtin.zeroCells zv.cells N).toList = news := by rw [<- hnews, <- hsz, <- hzs]; rfl
           have hst' : (storeCells ⟨b, lo * t.size, none⟩ (Builtin.zeroCells zv.cells N).toList).run P w = .ok () (w.setRow b (fillVals vs (lo * t.size) news).toArray) := by rw [hzc]; simpa using hst
           cases N with
           | zero => exact absurd rfl hmin
           | succ N => simp [Builtin.clear_, run_underlying hu, zeroValue, typeInfo, hinf, hzv, hst']
         refine Ok.value (m' := m) hrun hk ?_
         have hkp : Keep (fun k => rows (m i) k) w (w.setRow b (fillVals vs (lo * t.size) news).toArray) := (keep_setRow w b _).weaken fun k _ e => by subst e; rw [hm']; simp [rows_p, rows_s, blk, hcap0]
         have := h.wrote (ob' := .arr t (copyL xs lo hi' (List.replicate N zd)) fx) (heap_get hi) hkp (fun hh => hh) fun hle => by
           refine ⟨_, n, cap, hm', by rw [copyL_length hlo hhi]; exact hn, hc, hl, .inr ⟨b, fillVals vs (lo * t.size) news, e', rfl, by simpa [Ctx.rc] using setRow_heap w b _ _ _ _ hb, by rw [fillVals_length]; exact hvl, hcm, fun k y hy => ?_⟩⟩
           rw [copyL_get hlo hhi, List.length_replicate, hN, Nat.min_self] at hy
           split at hy
           · rename_i hin
             rw [take_fill_in (by rw [hnl]; exact hroom) (Nat.mul_le_mul_right _ hin.1) (by
               rw [hnl, <- Nat.add_mul]
               calc k * t.size + t.size = (k + 1) * t.size := by rw [Nat.add_mul]; simp
                 _ <= _ := Nat.mul_le_mul_right _ (by omega)), <- Nat.sub_mul]
             have := hch2.2 _ y hy
             exact this.mono hle.size hle.X
           · rename_i hout
             have hr' := hrep k y hy
             rw [take_fill_other' (A := lo * t.size) (by rw [hnl]; simpa using hroom) (by
               rw [hnl]
               simp only [<- Nat.add_mul]
               rcases Nat.lt_or_ge k lo with hlt | hge
               · left
                 calc k * t.size + t.size = (k + 1) * t.size := by rw [Nat.add_mul]; simp
                   _ <= _ := Nat.mul_le_mul_right _ (by omega)
               · right
                 exact Nat.mul_le_mul_right _ (by omega))]
             exact hr'.mono hle.size hle.X
         exact this.put (v := .tup []) (val := .tuple #[]) ⟨[], rfl, rfl⟩ o.dst
     · cases hk
   · cases hk
 · cases hk
end Go.Ab


namespace Go.Ab
def retVal : List Value -> Value
 | [v] => v
 | vs => .tuple vs.toArray
def exitObjs : (ps : List PTy) -> mdens ps -> List (Option Obj)
 | [], _ => []
 | .v _ :: ps, u => exitObjs ps u
 | .r _ :: ps, u => exitObjs ps u
 | .f _ _ :: ps, u => exitObjs ps u
 | .rf _ _ :: ps, u => exitObjs ps u
 | .o _ :: ps, u => none :: exitObjs ps u
 | .mo t :: ps, u => some (.arr t u.1 true) :: exitObjs ps u.2
 | .m t :: ps, u => some (.box (cellsOf t u.1)) :: exitObjs ps u.2
def outObjs (sp : FSpec) (x : pdens sp.ps) : List (Option Obj) :=
 exitObjs sp.ps (sp.upd x) ++ (ressV sp.rs (sp.fn x) (exitObjs sp.ps (sp.upd x)).length).2.map some
def FOK (P : Program) (E : Env) (f : Nat) (sp : FSpec) : Prop :=
 Enters P f /\ ∀ (G : Ctx) (x : pdens sp.ps) (vs : List Value), G.P = P -> G.E = E -> G.n0 = (entry sp.ps x 0).2.length -> sp.pre x ->
   HoldsO G (entry sp.ps x 0).2 G.m0 G.w0 -> VRelL (G.rc (entry sp.ps x 0).2 G.m0 G.w0) (entry sp.ps x 0).1 vs ->
   Calls P f vs.toArray G.w0 fun e w' => ∃ m' vals, e = .returned (retVal vals) /\ HoldsO G (outObjs sp x) m' w' /\
     VRelL (G.rc (outObjs sp x) m' w') (ressV sp.rs (sp.fn x) (exitObjs sp.ps (sp.upd x)).length).1 vals
def CapsD (P : Program) (E : Env) (S : Nat -> Prop) (w : World) : (ps : List PTy) -> pdens ps -> List Value -> Prop
 | [], _, vs => vs = []
 | .v t :: ps, x, vs => ∃ v r, vs = v :: r /\ VD E S w t x.1 v /\ CapsD P E S w ps x.2 r
 | .r t :: ps, x, vs => ∃ b o cs r, vs = .pointer (some ⟨b, o, none⟩) :: r /\ b < w.heap.size /\ S b /\ (∀ (j : Nat) y, cs[j]? = some y -> w.cell? ⟨b, o + j, none⟩ = some y) /\ Rep E S w t x.1 cs /\ CapsD P E S w ps x.2 r
 | .rf as t :: ps, x, vs => ∃ b o u r, vs = .pointer (some ⟨b, o, none⟩) :: r /\ b < w.heap.size /\ S b /\ w.cell? ⟨b, o, none⟩ = some u /\ PF P E S w as t x.1 u /\ CapsD P E S w ps x.2 r
 | _, _, _ => False
theorem CapsD.mono {P : Program} {E : Env} {S S' : Nat -> Prop} {w w' : World} (hs : w.heap.size <= w'.heap.size) (hS : ∀ b, b < w.heap.size -> S b -> S' b /\ w'.heap[b]? = w.heap[b]?) :
   ∀ {ps : List PTy} {x : pdens ps} {vs : List Value}, CapsD P E S w ps x vs -> CapsD P E S' w' ps x vs
 | [], _, _, h => h
 | .v t :: ps, x, vs, h => by
   obtain ⟨v, r, rfl, h1, h2⟩ := h
   exact ⟨v, r, rfl, h1.mono hs hS, h2.mono hs hS⟩
 | .r t :: ps, x, vs, h => by
   obtain ⟨b, o, cs, r, rfl, hb, hSb, hc, h1, h2⟩ := h
   exact ⟨b, o, cs, r, rfl, Nat.lt_of_lt_of_le hb hs, (hS b hb hSb).1, fun j y hj => by rw [cell?_congr (hS b hb hSb).2]; exact hc j y hj, h1.mono hs hS, h2.mono hs hS⟩
 | .rf as t :: ps, x, vs, h => by
   obtain ⟨b, o, u, r, rfl, hb, hSb, hc, h1, h2⟩ := h
   exact ⟨b, o, u, r, rfl, Nat.lt_of_lt_of_le hb hs, (hS b hb hSb).1, by rw [cell?_congr (hS b hb hSb).2]; exact hc, h1.mono hs hS, h2.mono hs hS⟩
 | .f _ _ :: _, _, _, h => h.elim
 | .o _ :: _, _, _, h => h.elim
 | .mo _ :: _, _, _, h => h.elim
 | .m _ :: _, _, _, h => h.elim
def COK (P : Program) (E : Env) (f : Nat) (cl : CSpec) : Prop :=
 Enters P f /\ cl.b.leafB = true /\ cl.b.shares = false /\ ∀ (S : Nat -> Prop) (w : World) (y : pdens cl.cs) (x : dens cl.ats) (vs us : List Value), ArgsD E (fun _ => True) w cl.ats x vs -> CapsD P E S w cl.cs y us -> cl.pre y x ->
   Calls P f (vs.toArray ++ us.toArray) w fun e w2 => ∃ r, e = .returned r /\ Rep E (fun _ => True) w2 cl.b (cl.fn y x) [r] /\ Keep (fun _ => False) w w2
def ClosOK (P : Program) (E : Env) : Prop := ∀ f cl, look E.clos f = some cl -> COK P E f cl
structure Hand (c c' : RC) (h : Heap) : Prop where
 P : c'.P = c.P
 E : c'.E = c.E
 w : c'.w = c.w
 S : ∀ b, c.S b -> c'.S b
 box : ∀ i cs b, h i = some (.box cs) -> rows (c.m i) b -> c'.S b
 X : ∀ b, Seen c h b -> c'.X b
 XS : ∀ b, c'.X b -> c'.S b
theorem toR_ok {c : RC} {h : Heap} (hok : HeapOK c h) {t : Ty} {x : AV} {y : t.den} {v : Value} (hx : toR c.E h t x = some y) (hv : VRel c x v) :
   ∃ b o cs, v = .pointer (some ⟨b, o, none⟩) /\ b < c.w.heap.size /\ (c.S b ∨ ∃ i bs, h i = some (.box bs) /\ rows (c.m i) b) /\ (∀ (j : Nat) z, cs[j]? = some z -> c.w.cell? ⟨b, o + j, none⟩ = some z) /\ Rep c.E (Seen c h) c.w t y cs := by
 unfold toR at hx
 split at hx
 · rename_i i
   split at hx
   · rename_i cs hi
     split at hx
     · rename_i z hz
       cases hx
       obtain ⟨hn, b, hm, rfl⟩ := hv
       obtain ⟨b', t', vs, hm', hb, hr⟩ := (hok _ _ hi).2
       rw [hm] at hm'
       simp only [Value.pointer.injEq, Option.some.injEq, Addr.mk.injEq, and_true] at hm'
       subst hm'
       exact ⟨b, 0, vs, rfl, heap_lt hb, .inr ⟨i, cs, hi, by rw [hm]; rfl⟩, fun j z hj => by rw [cell_at hb]; simpa using hj, toD_all hok hz hr⟩
     · cases hx
   · cases hx
 · rename_i cs
   split at hx
   · rename_i z hz
     cases hx
     obtain ⟨b, o, rfl, hb, hS, vs, hc, hr⟩ := hv
     exact ⟨b, o, vs, rfl, hb, .inl hS, hc, toD_all hok hz hr⟩
   · cases hx
 · cases hx
theorem capsD_ok {c c' : RC} {h : Heap} (hh : Hand c c' h) (hok : HeapOK c h) : ∀ {ps : List PTy} {l : List AV} {x : pdens ps} {vs : List Value}, funD.capsD c.E h ps l = some x -> VRelL c l vs -> CapsD c'.P c'.E c'.S c'.w ps x vs
 | [], l, x, vs, hx, hv => by
   cases l with
   | nil => exact hv
   | cons _ _ => simp [funD.capsD] at hx
 | .v t :: ps, l, x, vs, hx, hv => by
   cases l with
   | nil => simp [funD.capsD] at hx
   | cons y r =>
     obtain ⟨v, q, rfl, hv1, hv2⟩ := hv
     simp only [funD.capsD] at hx
     split at hx
     · rename_i x1 x2 h1 h2
       cases hx
       refine ⟨v, q, rfl, ?_, capsD_ok hh hok h2 hv2⟩
       rw [hh.E, hh.w]
       exact (toV_ok hok h1 hv1).mono (Nat.le_refl _) (fun b _ hb => ⟨hh.XS b (hh.X b hb), rfl⟩)
     · cases hx
 | .r t :: ps, l, x, vs, hx, hv => by
   cases l with
   | nil => simp [funD.capsD] at hx
   | cons y r =>
     obtain ⟨v, q, rfl, hv1, hv2⟩ := hv
     simp only [funD.capsD] at hx
     split at hx
     · rename_i x1 x2 h1 h2
       cases hx
       obtain ⟨b, o, cs, rfl, hb, hS, hc, hr⟩ := toR_ok hok h1 hv1
       have hS' : c'.S b := by
         rcases hS with hS | ⟨i, bs, hi, hbk⟩
         · exact hh.S b hS
         · exact hh.box i bs b hi hbk
       rw [hh.E, hh.w]
       refine ⟨b, o, cs, q, rfl, hb, hS', hc, hr.mono (Nat.le_refl _) (fun b _ hb => ⟨hh.XS b (hh.X b hb), rfl⟩), ?_⟩
       have := capsD_ok hh hok h2 hv2
       rwa [hh.E, hh.w] at this
     · cases hx
 | .rf as t :: ps, l, x, vs, hx, hv => by
   have main : ∀ {b o : Nat} {u : Value} {q : List Value} {p : (dens as -> t.den) × (dens as -> Prop)} {y : pdens ps}, b < c.w.heap.size -> c'.S b -> c.w.cell? ⟨b, o, none⟩ = some u -> PF c.P c.E c.S c.w as t p u ->
       CapsD c'.P c'.E c'.S c'.w ps y q -> CapsD c'.P c'.E c'.S c'.w (.rf as t :: ps) (p, y) (.pointer (some ⟨b, o, none⟩) :: q) := by
     intro b o u q p y hb hS hc hp hq
     refine ⟨b, o, u, q, rfl, by rw [hh.w]; exact hb, hS, by rw [hh.w]; exact hc, ?_, hq⟩
     rw [hh.P, hh.E, hh.w]
     exact hp.mono (Nat.le_refl _) fun k _ hk => ⟨hh.S k hk, rfl⟩
   cases l with
   | nil => simp [funD.capsD] at hx
   | cons y r =>
     obtain ⟨v, q, rfl, hv1, hv2⟩ := hv
     cases y <;> first | (simp only [funD.capsD, reduceCtorEq] at hx; done) | skip
     case p i off =>
       cases off <;> first | (simp only [funD.capsD, reduceCtorEq] at hx; done) | skip
       simp only [funD.capsD] at hx
       split at hx
       · rename_i as' b' p y2 hi h2
         split at hx
         · rename_i e
           obtain ⟨rfl, rfl⟩ := e
           cases hx
           obtain ⟨hn, b, hm, rfl⟩ := hv1
           obtain ⟨b2, t', vs, hm', hb, hr⟩ := (hok _ _ hi).2
           rw [hm] at hm'
           simp only [Value.pointer.injEq, Option.some.injEq, Addr.mk.injEq, and_true] at hm'
           subst hm'
           simp only [VRelL] at hr
           obtain ⟨u, q', rfl, hu, rfl⟩ := hr
           exact main (heap_lt hb) (hh.box i _ b hi (by rw [hm]; rfl)) (by rw [cell_at hb]; rfl) hu (capsD_ok hh hok h2 hv2)
         · cases hx
       · cases hx
     case pc cs =>
       match cs, hx with
       | [.fp as' b' p], hx =>
         simp only [funD.capsD] at hx
         split at hx
         · rename_i y2 h2
           split at hx
           · rename_i e
             obtain ⟨rfl, rfl⟩ := e
             cases hx
             obtain ⟨b, o, rfl, hb, hS, vs, hc, hr⟩ := hv1
             simp only [VRelL] at hr
             obtain ⟨u, q', rfl, hu, rfl⟩ := hr
             have := hc 0 u rfl
             exact main hb (hh.S b hS) (by simpa using this) hu (capsD_ok hh hok h2 hv2)
           · cases hx
         · cases hx
 | .f _ _ :: ps, l, x, vs, hx, hv => by cases l <;> simp [funD.capsD] at hx
 | .o _ :: ps, l, x, vs, hx, hv => by cases l <;> simp [funD.capsD] at hx
 | .mo _ :: ps, l, x, vs, hx, hv => by cases l <;> simp [funD.capsD] at hx
 | .m _ :: ps, l, x, vs, hx, hv => by cases l <;> simp [funD.capsD] at hx
theorem funD_ok {c c' : RC} {h : Heap} (hh : Hand c c' h) (hok : HeapOK c h) (hcl : ClosOK c.P c.E) {as : List Ty} {b : Ty} {x : AV} {p : (dens as -> b.den) × (dens as -> Prop)} {v : Value} (hx : funD c.E h as b x = some p) (hv : VRel c x v) :
   PF c'.P c'.E c'.S c'.w as b p v := by
 unfold funD at hx
 split at hx
 · rename_i as' b' p'
   split at hx
   · rename_i e
     obtain ⟨rfl, rfl⟩ := e
     cases hx
     simp only [VRel] at hv
     rw [hh.P, hh.E, hh.w]
     exact hv.mono (Nat.le_refl _) fun k _ hk => ⟨hh.S k hk, rfl⟩
   · cases hx
 · rename_i f caps
   split at hx
   · rename_i cl hl
     split at hx
     · rename_i e
       obtain ⟨rfl, rfl⟩ := e
       split at hx
       · rename_i y hy
         cases hx
         obtain ⟨cs, rfl, hcs⟩ := hv
         obtain ⟨h1, h2, h3, h4⟩ := hcl f cl hl
         have hcap := capsD_ok hh hok hy hcs
         refine ⟨h2, h3, f, cs.toArray, rfl, by rw [hh.P]; exact h1, fun w1 hs hag z vs hz hpre => ?_⟩
         have := h4 c'.S w1 y z vs cs (by rw [<- hh.E]; exact hz) (by
           have := hcap.mono hs fun k hk hS => ⟨hS, hag k hk hS⟩
           rwa [hh.P, hh.E] at this) hpre
         rw [hh.P, hh.E]
         exact this
       · cases hx
     · cases hx
   · cases hx
 · cases hx
structure Item where
 id : Option Nat
 v : Value
 p : Obj
 q : Option Obj
def AV.oid : AV -> Option Nat
 | .os i => some i
 | .p i _ => some i
 | _ => none
def items : (ps : List PTy) -> List AV -> List Value -> pdens ps -> mdens ps -> List Item
 | [], _, _, _, _ => []
 | .v _ :: ps, _ :: as, _ :: vs, x, u => items ps as vs x.2 u
 | .r _ :: ps, _ :: as, _ :: vs, x, u => items ps as vs x.2 u
 | .f _ _ :: ps, _ :: as, _ :: vs, x, u => items ps as vs x.2 u
 | .rf _ _ :: ps, _ :: as, _ :: vs, x, u => items ps as vs x.2 u
 | .o t :: ps, y :: as, v :: vs, x, u => ⟨y.oid, v, .arr t x.1 false, none⟩ :: items ps as vs x.2 u
 | .mo t :: ps, y :: as, v :: vs, x, u => ⟨y.oid, v, .arr t x.1 true, some (.arr t u.1 true)⟩ :: items ps as vs x.2 u.2
 | .m t :: ps, y :: as, v :: vs, x, u => ⟨y.oid, v, .box (cellsOf t x.1), some (.box (cellsOf t u.1))⟩ :: items ps as vs x.2 u.2
 | _, _, _, _, _ => []
def fixQ (h : Heap) (i : Nat) : Option Obj -> Option Obj
 | some (.arr t ys _) => match h i with
   | some (.arr _ _ fx) => some (.arr t ys fx)
   | _ => none
 | some (.zone _ _) => none
 | q => q
theorem cast_slice {b t : Ty} {xs : List b.den} {y : List t.den} (h : castTy (.slice b) (.slice t) xs = some y) : ∃ e : b = t, e ▸ xs = y := by
 obtain ⟨e, h⟩ := castTy_some h
 cases e
 exact ⟨rfl, h⟩
def ItemOK (c : RC) (h g : Heap) (it : Item) : Prop :=
 (it.id = none /\ (∃ ad t, it.v = .slice ad 0 0 /\ it.p = .arr t [] false) /\ it.q = none) ∨
 (∃ i ob, it.id = some i /\ g i = some ob /\ it.v = c.m i /\ i < c.n /\
   ((∃ t xs f f', ob = .arr t xs f /\ it.p = .arr t xs f' /\ (it.q = none ∨ ∃ ys, it.q = some (.arr t ys true))) ∨
    (∃ t x y cs, ob = .box cs /\ it.p = .box (cellsOf t x) /\ toD c.E h t cs = some (x, []) /\ it.q = some (.box (cellsOf t y)))))
theorem args_ok {c : RC} {h g : Heap} (hok : HeapOK c h) : ∀ {ps : List PTy} {l : List AV} {x : pdens ps} {vs : List Value} (u : mdens ps) (n : Nat), argsD c.E h g ps l = some x -> VRelL c l vs ->
   (entry ps x n).2 = (items ps l vs x u).map (fun it => some it.p) /\ exitObjs ps u = (items ps l vs x u).map (·.q) /\ given ps l = (items ps l vs x u).filterMap (·.id) /\ (∀ it ∈ items ps l vs x u, ItemOK c h g it) /\
   (∀ h', handedL h' ps l u = (items ps l vs x u).filterMap fun it => it.id.map fun i => (i, fixQ h' i it.q)) /\
   (∀ c', Hand c c' h -> ClosOK c.P c.E -> (∀ k it, (items ps l vs x u)[k]? = some it -> c'.m (n + k) = it.v) -> n + (items ps l vs x u).length <= c'.n -> VRelL c' (entry ps x n).1 vs)
 | [], l, x, vs, u, n, hx, hv => by
   cases l with
   | nil => 
     refine ⟨rfl, rfl, rfl, ?_, fun _ => rfl, fun _ _ _ _ _ => hv⟩
     intro it hit
     cases hit
   | cons _ _ => simp [argsD] at hx
 | .v t :: ps, l, x, vs, u, n, hx, hv => by
   cases l with
   | nil => simp [argsD] at hx
   | cons y r =>
     obtain ⟨v, q, rfl, hv1, hv2⟩ := hv
     simp only [argsD] at hx
     split at hx
     · rename_i x1 x2 h1 h2
       cases hx
       obtain ⟨g1, g2, g3, g4, g5, g6⟩ := args_ok hok (ps := ps) u n h2 hv2
       refine ⟨g1, g2, g3, g4, g5, fun c' hh hcl hm hn => ⟨v, q, rfl, ?_, g6 c' hh hcl hm hn⟩⟩
       refine valOf_ok (c := c') (X := c'.X) (fun b hb => hb) ?_
       rw [hh.E, hh.w]
       exact (toV_ok hok h1 hv1).mono (Nat.le_refl _) (fun b _ hb => ⟨hh.X b hb, rfl⟩)
     · cases hx
 | .r t :: ps, l, x, vs, u, n, hx, hv => by
   cases l with
   | nil => simp [argsD] at hx
   | cons y r =>
     obtain ⟨v, q, rfl, hv1, hv2⟩ := hv
     simp only [argsD] at hx
     split at hx
     · rename_i x1 x2 h1 h2
       cases hx
       obtain ⟨g1, g2, g3, g4, g5, g6⟩ := args_ok hok (ps := ps) u n h2 hv2
       refine ⟨g1, g2, g3, g4, g5, fun c' hh hcl hm hn => ⟨v, q, rfl, ?_, g6 c' hh hcl hm hn⟩⟩
       obtain ⟨b, o, cs, rfl, hb, hS, hc, hr⟩ := toR_ok hok h1 hv1
       have hS' : c'.S b := by
         rcases hS with hS | ⟨i, bs, hi, hbk⟩
         · exact hh.S b hS
         · exact hh.box i bs b hi hbk
       refine ⟨b, o, rfl, by rw [hh.w]; exact hb, hS', cs, by rw [hh.w]; exact hc, cellsOf_ok (c := c') (X := c'.X) (fun b hb => hb) ?_⟩
       rw [hh.E, hh.w]
       exact hr.mono (Nat.le_refl _) (fun b _ hb => ⟨hh.X b hb, rfl⟩)
     · cases hx
 | .f as b :: ps, l, x, vs, u, n, hx, hv => by
   cases l with
   | nil => simp [argsD] at hx
   | cons y r =>
     obtain ⟨v, q, rfl, hv1, hv2⟩ := hv
     simp only [argsD] at hx
     split at hx
     · rename_i x1 x2 h1 h2
       cases hx
       obtain ⟨g1, g2, g3, g4, g5, g6⟩ := args_ok hok (ps := ps) u n h2 hv2
       exact ⟨g1, g2, g3, g4, g5, fun c' hh hcl hm hn => ⟨v, q, rfl, funD_ok hh hok hcl h1 hv1, g6 c' hh hcl hm hn⟩⟩
     · cases hx
 | .rf as b :: ps, l, x, vs, u, n, hx, hv => by cases l <;> simp [argsD] at hx
 | .o t :: ps, l, x, vs, u, n, hx, hv => by
   cases l with
   | nil => simp [argsD] at hx
   | cons y r =>
     obtain ⟨v, q, rfl, hv1, hv2⟩ := hv
     have main : ∀ (x1 : List t.den) (x2 : pdens ps), argsD c.E h g ps r = some x2 -> ItemOK c h g ⟨y.oid, v, .arr t x1 false, none⟩ -> (∃ ad k cap, v = .slice ad k cap) -> given (.o t :: ps) (y :: r) = y.oid.toList ++ given ps r ->
         (∀ h', handedL h' (.o t :: ps) (y :: r) u = (y.oid.map fun i => ((i, none) : Nat × Option Obj)).toList ++ handedL h' ps r u) ->
         (entry (.o t :: ps) (x1, x2) n).2 = (items (.o t :: ps) (y :: r) (v :: q) (x1, x2) u).map (fun it => some it.p) /\ exitObjs (.o t :: ps) u = (items (.o t :: ps) (y :: r) (v :: q) (x1, x2) u).map (·.q) /\
         given (.o t :: ps) (y :: r) = (items (.o t :: ps) (y :: r) (v :: q) (x1, x2) u).filterMap (·.id) /\ (∀ it ∈ items (.o t :: ps) (y :: r) (v :: q) (x1, x2) u, ItemOK c h g it) /\
         (∀ h', handedL h' (.o t :: ps) (y :: r) u = (items (.o t :: ps) (y :: r) (v :: q) (x1, x2) u).filterMap fun it => it.id.map fun i => (i, fixQ h' i it.q)) /\
         (∀ c', Hand c c' h -> ClosOK c.P c.E -> (∀ k it, (items (.o t :: ps) (y :: r) (v :: q) (x1, x2) u)[k]? = some it -> c'.m (n + k) = it.v) -> n + (items (.o t :: ps) (y :: r) (v :: q) (x1, x2) u).length <= c'.n -> VRelL c' (entry (.o t :: ps) (x1, x2) n).1 (v :: q)) := by
       intro x1 x2 h2 hit hsl hgv hhd
       obtain ⟨g1, g2, g3, g4, g5, g6⟩ := args_ok hok (ps := ps) u (n + 1) h2 hv2
       refine ⟨by simp only [entry, items, List.map_cons, g1], by simp only [exitObjs, items, List.map_cons, g2], ?_, ?_, fun h' => ?_, fun c' hh hcl hm hn => ?_⟩
       · rw [hgv, g3]
         simp only [items]
         cases ho : y.oid <;> simp
       · intro it hi
         simp only [items, List.mem_cons] at hi
         rcases hi with rfl | hi
         · exact hit
         · exact g4 it hi
       · rw [hhd h', g5 h']
         simp only [items]
         cases ho : y.oid <;> simp [fixQ]
       · simp only [items, List.length_cons] at hm hn
         refine ⟨v, q, rfl, ⟨by omega, ?_, hsl⟩, g6 c' hh hcl (fun k it hk => ?_) (by omega)⟩
         · exact (hm 0 _ rfl).symm
         · have := hm (k + 1) it (by simpa using hk)
           rw [<- this]; congr 1; omega
     cases y <;> first | (simp only [argsD, reduceCtorEq] at hx; done) | skip
     case os i =>
       simp only [argsD] at hx
       split at hx
       · rename_i b xs y2 hi h2
         split at hx
         · rename_i x1 hx1
           cases hx
           obtain ⟨rfl, rfl⟩ := cast_slice hx1
           simp only [VRel] at hv1
           exact main _ _ h2 (.inr ⟨i, _, rfl, hi, hv1.2.1, hv1.1, .inl ⟨_, xs, false, false, rfl, rfl, .inl rfl⟩⟩) hv1.2.2 rfl (fun _ => rfl)
         · cases hx
       · cases hx
     case emp b =>
       simp only [argsD] at hx
       split at hx
       · rename_i y2 h2
         cases hx
         simp only [VRel] at hv1
         obtain ⟨ad, rfl, _⟩ := hv1
         exact main _ _ h2 (.inl ⟨rfl, ⟨ad, t, rfl, rfl⟩, rfl⟩) ⟨_, _, _, rfl⟩ rfl (fun _ => rfl)
       · cases hx
 | .mo t :: ps, l, x, vs, u, n, hx, hv => by
   cases l with
   | nil => simp [argsD] at hx
   | cons y r =>
     obtain ⟨v, q, rfl, hv1, hv2⟩ := hv
     cases y <;> first | (simp only [argsD, reduceCtorEq] at hx; done) | skip
     rename_i i
     simp only [argsD] at hx
     split at hx
     · rename_i b xs f y2 hi h2
       split at hx
       · rename_i x1 hx1
         cases hx
         obtain ⟨rfl, rfl⟩ := cast_slice hx1
         simp only [VRel] at hv1
         obtain ⟨g1, g2, g3, g4, g5, g6⟩ := args_ok hok (ps := ps) u.2 (n + 1) h2 hv2
         refine ⟨by simp only [entry, items, List.map_cons, g1], by simp only [exitObjs, items, List.map_cons, g2], ?_, ?_, fun h' => ?_, fun c' hh hcl hm hn => ?_⟩
         · simp only [given, items, AV.oid, List.filterMap_cons, g3]
         · intro it hit
           simp only [items, List.mem_cons] at hit
           rcases hit with rfl | hit
           · exact .inr ⟨i, _, rfl, hi, hv1.2.1, hv1.1, .inl ⟨_, xs, f, true, rfl, rfl, .inr ⟨_, rfl⟩⟩⟩
           · exact g4 it hit
         · simp only [handedL, items, AV.oid, List.filterMap_cons, g5 h', Option.map_some, fixQ]
           rfl
         · simp only [items, List.length_cons] at hm hn
           refine ⟨v, q, rfl, ⟨by omega, ?_, hv1.2.2⟩, g6 c' hh hcl (fun k it hk => ?_) (by omega)⟩
           · exact (hm 0 _ rfl).symm
           · have := hm (k + 1) it (by simpa using hk)
             rw [<- this]; congr 1; omega
       · cases hx
     · cases hx
 | .m t :: ps, l, x, vs, u, n, hx, hv => by
   cases l with
   | nil => simp [argsD] at hx
   | cons y r =>
     obtain ⟨v, q, rfl, hv1, hv2⟩ := hv
     cases y <;> first | (simp only [argsD, reduceCtorEq] at hx; done) | skip
     rename_i i off
     cases off <;> first | (simp only [argsD, reduceCtorEq] at hx; done) | skip
     simp only [argsD] at hx
     split at hx
     · rename_i cs hi
       split at hx
       · rename_i x1 y2 h1 h2
         cases hx
         obtain ⟨hn1, b, hm1, rfl⟩ := hv1
         obtain ⟨g1, g2, g3, g4, g5, g6⟩ := args_ok hok (ps := ps) u.2 (n + 1) h2 hv2
         refine ⟨by simp only [entry, items, List.map_cons, g1], by simp only [exitObjs, items, List.map_cons, g2], ?_, ?_, fun h' => ?_, fun c' hh hcl hm hn => ?_⟩
         · simp only [given, items, AV.oid, List.filterMap_cons, g3]
         · intro it hit
           simp only [items, List.mem_cons] at hit
           rcases hit with rfl | hit
           · exact .inr ⟨i, _, rfl, hi, hm1.symm, hn1, .inr ⟨t, x1, _, cs, rfl, rfl, h1, rfl⟩⟩
           · exact g4 it hit
         · simp only [handedL, items, AV.oid, List.filterMap_cons, g5 h', Option.map_some, fixQ]
         · simp only [items, List.length_cons] at hm hn
           refine ⟨_, q, rfl, ⟨by omega, b, ?_, rfl⟩, g6 c' hh hcl (fun k it hk => ?_) (by omega)⟩
           · exact hm 0 _ rfl
           · have := hm (k + 1) it (by simpa using hk)
             rw [<- this]; congr 1; omega
       · cases hx
     · cases hx
end Go.Ab


namespace Go.Ab
variable {P : Program} {G : Ctx} {s : St} {a : Act} {w : World} {m : Nat -> Value} {o : Oper}
theorem memB_iff {i : Nat} : ∀ {l : List Nat}, memB i l = true ↔ i ∈ l
 | [] => by simp [memB]
 | j :: r => by
   simp only [memB, List.mem_cons]
   cases h : Nat.beq i j with
   | true => simp [Nat.eq_of_beq_eq_true h]
   | false =>
     have := beq_ne h
     simp only [cond_false, memB_iff]
     constructor
     · exact .inr
     · rintro (rfl | h)
       · exact absurd rfl this
       · exact h
theorem nodupB_iff : ∀ {l : List Nat}, nodupB l = true -> l.Nodup
 | [], _ => List.nodup_nil
 | i :: r, h => by
   simp only [nodupB, Bool.and_eq_true, Bool.not_eq_true'] at h
   refine List.nodup_cons.2 ⟨fun hm => ?_, nodupB_iff h.2⟩
   rw [memB_iff.2 hm] at h
   cases h.1
theorem nodup_filterMap {α : Type} {f : α -> Option Nat} : ∀ {l : List α}, (l.filterMap f).Nodup -> ∀ {k1 k2 : Nat} {a b : α} {i : Nat}, l[k1]? = some a -> l[k2]? = some b -> f a = some i -> f b = some i -> k1 = k2
 | [], _, k1, _, _, _, _, h1, _, _, _ => by simp at h1
 | x :: l, hn, k1, k2, a, b, i, h1, h2, ha, hb => by
   have tail : (l.filterMap f).Nodup := by
     rw [List.filterMap_cons] at hn
     split at hn
     · exact hn
     · exact (List.nodup_cons.1 hn).2
   have head : ∀ {k : Nat} {c : α}, l[k]? = some c -> f c = some i -> f x = some i -> False := fun {k c} hk hc hx => by
     rw [List.filterMap_cons, hx] at hn
     exact (List.nodup_cons.1 hn).1 (List.mem_filterMap.2 ⟨c, List.mem_of_getElem? hk, hc⟩)
   cases k1 with
   | zero =>
     simp only [List.getElem?_cons_zero, Option.some.injEq] at h1
     subst h1
     cases k2 with
     | zero => rfl
     | succ k2 => exact (head (by simpa using h2) hb ha).elim
   | succ k1 =>
     cases k2 with
     | zero =>
       simp only [List.getElem?_cons_zero, Option.some.injEq] at h2
       subst h2
       exact (head (by simpa using h1) ha hb).elim
     | succ k2 => exact congrArg (· + 1) (nodup_filterMap (i := i) tail (by simpa using h1) (by simpa using h2) ha hb)
theorem setO_length : ∀ (L : List (Nat × Option Obj)) (l : List (Option Obj)), (setObjsO l L).length = l.length
 | [], _ => rfl
 | (i, o) :: r, l => by simp [setObjsO, setO_length r]
theorem setO_get : ∀ (L : List (Nat × Option Obj)) (l : List (Option Obj)) {j : Nat} {p : Obj}, (setObjsO l L)[j]? = some (some p) ->
   (∃ e ∈ L, e.1 = j /\ e.2 = some p) ∨ ((∀ e ∈ L, e.1 ≠ j) /\ l[j]? = some (some p))
 | [], l, j, p, h => .inr ⟨by simp, h⟩
 | (i, o) :: r, l, j, p, h => by
   rcases setO_get r (l.set i o) h with ⟨e, he, h1, h2⟩ | ⟨h1, h2⟩
   · exact .inl ⟨e, List.mem_cons_of_mem _ he, h1, h2⟩
   · by_cases hj : i = j
     · subst hj
       have hlt := get_lt h2
       simp at hlt
       rw [List.getElem?_set_self hlt] at h2
       exact .inl ⟨_, List.mem_cons_self, rfl, Option.some.inj h2⟩
     · rw [List.getElem?_set_ne hj] at h2
       refine .inr ⟨fun e he => ?_, h2⟩
       rcases List.mem_cons.1 he with rfl | he
       · exact hj
       · exact h1 e he
theorem freeze1_len (s : St) (i : Nat) : (s.freeze1 i).objs.length = s.objs.length := by
 unfold St.freeze1
 split <;> simp
theorem freezes_len : ∀ (l : List Nat) (s : St), (s.freezes l).objs.length = s.objs.length
 | [], _ => rfl
 | i :: l, s => by rw [St.freezes, freezes_len l, freeze1_len]
theorem freeze1_live {s : St} {i j : Nat} {p : Obj} (h : (s.freeze1 i).objs[j]? = some (some p)) : ∃ p0, s.objs[j]? = some (some p0) := by
 unfold St.freeze1 at h
 split at h
 · obtain ⟨_, q, hq, _⟩ := freeze_get h
   exact ⟨q, hq⟩
 · exact ⟨p, h⟩
theorem freezes_live : ∀ (l : List Nat) {s : St} {j : Nat} {p : Obj}, (s.freezes l).objs[j]? = some (some p) -> ∃ p0, s.objs[j]? = some (some p0)
 | [], _, _, p, h => ⟨p, h⟩
 | i :: l, s, j, p, h => by
   obtain ⟨q, hq⟩ := freezes_live l h
   exact freeze1_live hq
theorem freeze1_keep {s : St} {i j : Nat} {p : Obj} (hj : j ≠ i) (h : s.objs[j]? = some (some p)) : ∃ p', (s.freeze1 i).objs[j]? = some (some p') := by
 unfold St.freeze1
 split
 · rename_i t xs f _
   rw [List.getElem?_set_ne (Ne.symm hj), List.getElem?_map, h]
   cases p <;> exact ⟨_, rfl⟩
 · exact ⟨p, h⟩
theorem freezes_keep : ∀ (l : List Nat) {s : St} {j : Nat} {p : Obj}, j ∉ l -> s.objs[j]? = some (some p) -> ∃ p', (s.freezes l).objs[j]? = some (some p')
 | [], _, _, p, _, h => ⟨p, h⟩
 | i :: l, s, j, p, hj, h => by
   simp only [List.mem_cons, not_or] at hj
   obtain ⟨q, hq⟩ := freeze1_keep hj.1 h
   exact freezes_keep l hj.2 hq
theorem freeze1_arr {s : St} {i j : Nat} {t : Ty} {xs : List t.den} {f : Bool} (h : s.objs[j]? = some (some (.arr t xs f))) : (s.freeze1 i).objs[j]? = some (some (.arr t xs f)) ∨ (s.freeze1 i).objs[j]? = some none := by
 unfold St.freeze1
 split
 · rename_i t' xs' f' _
   by_cases hj : j = i
   · subst hj
     right
     rw [List.getElem?_set_self (by simpa using get_lt h)]
   · left
     rw [List.getElem?_set_ne (Ne.symm hj), List.getElem?_map, h]
     rfl
 · exact .inl h
theorem freezes_none : ∀ (l : List Nat) {s : St} {j : Nat}, s.objs[j]? = some none -> ∀ p, (s.freezes l).objs[j]? ≠ some (some p) := by
 intro l s j h p hp
 obtain ⟨q, hq⟩ := freezes_live l hp
 rw [h] at hq; cases hq
theorem freezes_gone : ∀ (l : List Nat) {s : St} {j : Nat} {t : Ty} {xs : List t.den} {f : Bool}, j ∈ l -> s.objs[j]? = some (some (.arr t xs f)) -> ∀ p, (s.freezes l).objs[j]? ≠ some (some p)
 | [], _, _, _, _, _, hj, _ => by simp at hj
 | i :: l, s, j, t, xs, f, hj, h => by
   intro p hp
   by_cases hji : j = i
   · subst hji
     have : (s.freeze1 j).objs[j]? = some none := by
       have hh : s.heap j = some (.arr t xs f) := by simp [St.heap, h]
       unfold St.freeze1
       rw [hh]
       simp only
       rw [List.getElem?_set_self (by simpa using get_lt h)]
     exact freezes_none l this p hp
   · simp only [List.mem_cons, hji, false_or] at hj
     rcases freeze1_arr (i := i) h with h1 | h1
     · exact freezes_gone l hj h1 p hp
     · exact freezes_none l h1 p hp
theorem freezes_arrO : ∀ (l : List Nat) {s : St} {m : Nat -> Value} {b : Nat}, arrO (s.freezes l) m b -> arrO s m b
 | [], _, _, _, h => h
 | i :: l, s, m, b, h => by
   obtain ⟨j, t, xs, f, hj, hb⟩ := freezes_arrO l h
   unfold St.freeze1 at hj
   split at hj
   · obtain ⟨_, q, hq, hpq⟩ := freeze_get hj
     rcases hpq with ⟨cs, rfl, hh⟩ | ⟨u, ys, f', rfl, hh⟩ | ⟨u, ys, rfl, hh⟩
     · cases hh
     · exact ⟨j, _, _, _, hq, hb⟩
     · cases hh
   · exact ⟨j, t, xs, f, hj, hb⟩
theorem cells_trans {c1 c2 : RC} (hE : c2.E = c1.E) (hw : c2.w = c1.w) : ∀ {t : Ty} {x : t.den} {vs : List Value}, (t.shares = true -> ∀ b, c1.X b -> c2.X b) -> VRelL c1 (cellsOf t x) vs -> VRelL c2 (cellsOf t x) vs := by
 intro t
 have leaf : ∀ {t : Ty} {x : t.den} {vs : List Value}, (t.shares = true -> ∀ b, c1.X b -> c2.X b) -> VRelL c1 [.d t x] vs -> VRelL c2 [.d t x] vs := by
   intro t x vs hX h
   simp only [VRelL, VRel] at *
   obtain ⟨v, q, rfl, ⟨h1, h2⟩, h3⟩ := h
   refine ⟨v, q, rfl, ⟨h1, ?_⟩, h3⟩
   rw [hE, hw]
   cases hs : t.shares with
   | true => exact rep_X h2 (hX hs)
   | false => exact rep_scalar hs h2
 induction t with
 | unit => intro x vs _ h; exact h
 | pair a b iha ihb =>
   intro x vs hX h
   simp only [cellsOf] at *
   obtain ⟨v1, v2, rfl, h1, h2⟩ := h.split
   exact (iha (fun hs => hX (by simp [Ty.shares, hs])) h1).append (ihb (fun hs => hX (by simp [Ty.shares, hs])) h2)
 | int k => intro x vs hX h; exact leaf hX h
 | bool => intro x vs hX h; exact leaf hX h
 | str => intro x vs hX h; exact leaf hX h
 | any => intro x vs hX h; exact leaf hX h
 | err => intro x vs hX h; exact leaf hX h
 | slice t _ => intro x vs hX h; exact leaf hX h
theorem valOf_trans {c1 c2 : RC} {ag : Bool} {l : List AV} {v : Value} (hl : ∀ vs, VRelL c1 l vs -> VRelL c2 l vs) (h : VRel c1 (valOf ag l) v) : VRel c2 (valOf ag l) v := by
 unfold valOf at *
 cases ag with
 | true =>
   simp only [if_true, VRel] at *
   obtain ⟨vs, rfl, h⟩ := h
   exact ⟨vs, rfl, hl vs h⟩
 | false =>
   simp only [Bool.false_eq_true, if_false] at *
   match l, hl, h with
   | [x], hl, h =>
     have := hl [v] ⟨v, [], rfl, h, rfl⟩
     simp only [VRelL] at this
     obtain ⟨v', q, e, r, rfl⟩ := this
     simp only [List.cons.injEq, and_true] at e
     subst e
     exact r
   | [], _, _ => simp only [VRel]
   | _ :: _ :: _, _, _ => simp only [VRel]
theorem valOf_trans2 {c1 c2 : RC} {ag : Bool} {l l' : List AV} {v : Value} (hlen : l'.length = l.length) (hl : ∀ vs, VRelL c1 l vs -> VRelL c2 l' vs) (h : VRel c1 (valOf ag l) v) : VRel c2 (valOf ag l') v := by
 unfold valOf at *
 cases ag with
 | true =>
   simp only [if_true, VRel] at *
   obtain ⟨vs, rfl, h⟩ := h
   exact ⟨vs, rfl, hl vs h⟩
 | false =>
   simp only [Bool.false_eq_true, if_false] at *
   match l, l', hlen, hl, h with
   | [x], [x'], _, hl, h =>
     have := hl [v] ⟨v, [], rfl, h, rfl⟩
     simp only [VRelL] at this
     obtain ⟨v', q, e, r, rfl⟩ := this
     simp only [List.cons.injEq, and_true] at e
     subst e
     exact r
   | [], [], _, _, _ => simp only [VRel]
   | _ :: _ :: _, _ :: _ :: _, _, _, _ => simp only [VRel]
theorem cellsR_len : ∀ {t : Ty} {x : t.den} {n n' : Nat}, (cellsR t x n').1.length = (cellsR t x n).1.length
 | .unit, _, _, _ => rfl
 | .pair a b, x, n, n' => by
   simp only [cellsR, List.length_append]
   rw [cellsR_len (t := a) (n := n) (n' := n'), cellsR_len (t := b) (n := n + (cellsR a x.1 n).2.length) (n' := n' + _)]
 | .int _, _, _, _ => rfl
 | .bool, _, _, _ => rfl
 | .str, _, _, _ => rfl
 | .any, _, _, _ => rfl
 | .err, _, _, _ => rfl
 | .slice _, _, _, _ => rfl
theorem cellsR_news : ∀ {t : Ty} {x : t.den} {n n' : Nat}, (cellsR t x n).2 = (cellsR t x n').2
 | .unit, _, _, _ => rfl
 | .pair a b, x, n, n' => by
   simp only [cellsR]
   rw [cellsR_news (t := a) (n := n) (n' := n'), cellsR_news (t := b) (n := n + _) (n' := n' + (cellsR a x.1 n').2.length)]
 | .int _, _, _, _ => rfl
 | .bool, _, _, _ => rfl
 | .str, _, _, _ => rfl
 | .any, _, _, _ => rfl
 | .err, _, _, _ => rfl
 | .slice _, _, _, _ => rfl
theorem resV_news {r : RTy} {x : r.ty.den} {n n' : Nat} : (resV r x n).2 = (resV r x n').2 := by
 cases r with
 | v t => rfl
 | o t => exact cellsR_news
theorem ressV_news : ∀ {rs : List RTy} {x : rdens rs} {n n' : Nat}, (ressV rs x n).2 = (ressV rs x n').2
 | [], _, _, _ => rfl
 | r :: rs, x, n, n' => by
   simp only [ressV]
   rw [resV_news (n := n) (n' := n'), ressV_news (rs := rs) (n := n + _) (n' := n' + (resV r x.1 n').2.length)]
theorem cellsR_shape : ∀ {t : Ty} {x : t.den} {n : Nat} {p : Obj}, p ∈ (cellsR t x n).2 -> ∃ u xs, p = .arr u xs false /\ (u.shares = true -> t.inner = true)
 | .pair a b, x, n, p, h => by
   simp only [cellsR, List.mem_append] at h
   rcases h with h | h
   · obtain ⟨u, xs, e, hs⟩ := cellsR_shape h
     exact ⟨u, xs, e, fun hh => by simp [Ty.inner, hs hh]⟩
   · obtain ⟨u, xs, e, hs⟩ := cellsR_shape h
     exact ⟨u, xs, e, fun hh => by simp [Ty.inner, hs hh]⟩
 | .slice t, x, n, p, h => by
   simp only [cellsR, List.mem_singleton] at h
   exact ⟨t, x, h, fun hh => hh⟩
 | .unit, _, _, _, h => by simp [cellsR] at h
 | .int _, _, _, _, h => by simp [cellsR] at h
 | .bool, _, _, _, h => by simp [cellsR] at h
 | .str, _, _, _, h => by simp [cellsR] at h
 | .any, _, _, _, h => by simp [cellsR] at h
 | .err, _, _, _, h => by simp [cellsR] at h
theorem ressV_shape : ∀ {rs : List RTy} {x : rdens rs} {n : Nat} {p : Obj}, p ∈ (ressV rs x n).2 -> ∃ u xs, p = .arr u xs false /\ (u.shares = true -> shareAny rs = true)
 | [], _, _, _, h => by simp [ressV] at h
 | r :: rs, x, n, p, h => by
   simp only [ressV, List.mem_append] at h
   rcases h with h | h
   · cases r with
     | v t => simp [resV] at h
     | o t =>
       obtain ⟨u, xs, e, hs⟩ := cellsR_shape h
       exact ⟨u, xs, e, fun hh => by simp [shareAny, RTy.shares, hs hh]⟩
   · obtain ⟨u, xs, e, hs⟩ := ressV_shape h
     exact ⟨u, xs, e, fun hh => by simp [shareAny, hs hh]⟩
structure Back (c1 c2 : RC) (sh : Bool) : Prop where
 E : c2.E = c1.E
 w : c2.w = c1.w
 X : sh = true -> ∀ b, c1.X b -> c2.X b
theorem cellsR_shift {c1 c2 : RC} {sh : Bool} (hb : Back c1 c2 sh) : ∀ {t : Ty} {x : t.den} {n1 n2 : Nat} {vs : List Value}, (∀ k, k < (cellsR t x n1).2.length -> c2.m (n2 + k) = c1.m (n1 + k)) -> n2 + (cellsR t x n1).2.length <= c2.n ->
   VRelL c1 (cellsR t x n1).1 vs -> VRelL c2 (cellsR t x n2).1 vs := by
 have leaf : ∀ {t : Ty} {x : t.den} {vs : List Value}, t.shares = false -> VRelL c1 [.d t x] vs -> VRelL c2 [.d t x] vs := by
   intro t x vs hs h
   simp only [VRelL, VRel] at *
   obtain ⟨v, q, rfl, ⟨h1, h2⟩, h3⟩ := h
   exact ⟨v, q, rfl, ⟨h1, by rw [hb.E, hb.w]; exact rep_scalar hs h2⟩, h3⟩
 intro t
 induction t with
 | unit => intro x n1 n2 vs _ _ h; exact h
 | pair a b iha ihb =>
   intro x n1 n2 vs hm hn h
   simp only [cellsR, List.length_append] at *
   obtain ⟨v1, v2, rfl, h1, h2⟩ := h.split
   have e : (cellsR a x.1 n2).2.length = (cellsR a x.1 n1).2.length := by rw [cellsR_news]
   refine VRelL.append (iha (fun k hk => hm k (by omega)) (by omega) h1) (ihb (fun k hk => ?_) ?_ h2)
   · rw [e]
     have := hm ((cellsR a x.1 n1).2.length + k) (by omega)
     rw [<- Nat.add_assoc, <- Nat.add_assoc] at this
     exact this
   · rw [e]; omega
 | int k => intro x n1 n2 vs _ _ h; exact leaf rfl h
 | bool => intro x n1 n2 vs _ _ h; exact leaf rfl h
 | str => intro x n1 n2 vs _ _ h; exact leaf rfl h
 | any => intro x n1 n2 vs _ _ h; exact leaf rfl h
 | err => intro x n1 n2 vs _ _ h; exact leaf rfl h
 | slice t _ =>
   intro x n1 n2 vs hm hn h
   simp only [cellsR, List.length_singleton] at hm hn
   simp only [cellsR, VRelL, VRel] at h
   obtain ⟨v, q, rfl, ⟨_, e, hs⟩, rfl⟩ := h
   refine ⟨v, [], rfl, ⟨by omega, ?_, hs⟩, rfl⟩
   have := hm 0 (by omega)
   simp only [Nat.add_zero] at this
   rw [this, e]
theorem ressV_shift {c1 c2 : RC} {sh : Bool} (hb : Back c1 c2 sh) : ∀ {rs : List RTy} {x : rdens rs} {n1 n2 : Nat} {vs : List Value}, (shareAny rs = true -> sh = true) -> (∀ k, k < (ressV rs x n1).2.length -> c2.m (n2 + k) = c1.m (n1 + k)) -> n2 + (ressV rs x n1).2.length <= c2.n ->
   VRelL c1 (ressV rs x n1).1 vs -> VRelL c2 (ressV rs x n2).1 vs
 | [], x, n1, n2, vs, _, _, _, h => h
 | r :: rs, x, n1, n2, vs, hsh, hm, hn, h => by
   simp only [ressV, List.length_append, VRelL] at *
   obtain ⟨v, q, rfl, h1, h2⟩ := h
   have e : (resV r x.1 n2).2.length = (resV r x.1 n1).2.length := by rw [resV_news]
   refine ⟨v, q, rfl, ?_, ressV_shift hb (rs := rs) (fun hh => hsh (by simp [shareAny, hh])) (fun k hk => ?_) ?_ h2⟩
   · cases r with
     | v t =>
       exact valOf_trans (fun vs hv => cells_trans hb.E hb.w (fun hs => hb.X (hsh (by simp [shareAny, RTy.shares, hs]))) hv) h1
     | o t =>
       simp only [resV] at h1 hm hn ⊢
       have key : ∀ vs, VRelL c1 (cellsR t x.1 n1).1 vs -> VRelL c2 (cellsR t x.1 n2).1 vs := fun vs hv => cellsR_shift hb (fun k hk => hm k (by omega)) (by omega) hv
       exact valOf_trans2 cellsR_len key h1
   · rw [e]
     have := hm ((resV r x.1 n1).2.length + k) (by omega)
     rw [<- Nat.add_assoc, <- Nat.add_assoc] at this
     exact this
   · rw [e]; omega
theorem tup_ok {c : RC} {l : List AV} {vs : List Value} (h : VRelL c l vs) : VRel c (tupV l) (retVal vs) := by
 match l, h with
 | [], h =>
   simp only [VRelL] at h
   subst h
   exact ⟨[], rfl, rfl⟩
 | [x], h =>
   simp only [VRelL] at h
   obtain ⟨v, q, rfl, h2, rfl⟩ := h
   exact h2
 | x :: y :: r, h =>
   have h' := h
   simp only [VRelL] at h'
   obtain ⟨v, q, rfl, h1, u, q', rfl, _⟩ := h'
   exact ⟨_, rfl, h⟩
theorem items_shares : ∀ {ps : List PTy} {l : List AV} {vs : List Value} {x : pdens ps} {u : mdens ps} {it : Item}, it ∈ items ps l vs x u ->
   it.q = none ∨ (∃ t y, it.q = some (.box (cellsOf t y)) /\ (t.shares = true -> shareM ps = true)) ∨ (∃ t ys, it.q = some (.arr t ys true) /\ (t.shares = true -> shareM ps = true))
 | [], l, vs, x, u, it, h => by simp [items] at h
 | p :: ps, [], vs, x, u, it, h => by cases p <;> simp [items] at h
 | p :: ps, y :: as, [], x, u, it, h => by cases p <;> simp [items] at h
 | .v t :: ps, y :: as, v :: vs, x, u, it, h => items_shares (ps := ps) h
 | .r t :: ps, y :: as, v :: vs, x, u, it, h => items_shares (ps := ps) h
 | .f _ _ :: ps, y :: as, v :: vs, x, u, it, h => items_shares (ps := ps) h
 | .rf _ _ :: ps, y :: as, v :: vs, x, u, it, h => items_shares (ps := ps) h
 | .o t :: ps, y :: as, v :: vs, x, u, it, h => by
   simp only [items, List.mem_cons] at h
   rcases h with rfl | h
   · exact .inl rfl
   · exact items_shares (ps := ps) h
 | .mo t :: ps, y :: as, v :: vs, x, u, it, h => by
   simp only [items, List.mem_cons] at h
   rcases h with rfl | h
   · exact .inr (.inr ⟨t, u.1, rfl, fun hh => by simp [shareM, hh]⟩)
   · rcases items_shares (ps := ps) h with h | ⟨t', y', h1, h2⟩ | ⟨t', y', h1, h2⟩
     · exact .inl h
     · exact .inr (.inl ⟨t', y', h1, fun hh => by simp [shareM, h2 hh]⟩)
     · exact .inr (.inr ⟨t', y', h1, fun hh => by simp [shareM, h2 hh]⟩)
 | .m t :: ps, y :: as, v :: vs, x, u, it, h => by
   simp only [items, List.mem_cons] at h
   rcases h with rfl | h
   · exact .inr (.inl ⟨t, u.1, rfl, fun hh => by simp [shareM, hh]⟩)
   · rcases items_shares (ps := ps) h with h | ⟨t', y', h1, h2⟩ | ⟨t', y', h1, h2⟩
     · exact .inl h
     · exact .inr (.inl ⟨t', y', h1, fun hh => by simp [shareM, h2 hh]⟩)
     · exact .inr (.inr ⟨t', y', h1, fun hh => by simp [shareM, h2 hh]⟩)
theorem fixQ_some {h : Heap} {i : Nat} {q : Option Obj} {p : Obj} (hp : fixQ h i q = some p) :
   (∃ cs, q = some (.box cs) /\ p = .box cs) ∨ (∃ t ys f f' t2 xs2, q = some (.arr t ys f) /\ p = .arr t ys f' /\ h i = some (.arr t2 xs2 f')) := by
 cases q with
 | none => cases hp
 | some q =>
   cases q with
   | box cs => simp only [fixQ, Option.some.injEq] at hp; exact .inl ⟨cs, rfl, hp.symm⟩
   | arr t ys f =>
     simp only [fixQ] at hp
     split at hp
     · rename_i t2 xs2 f' hh
       cases hp
       exact .inr ⟨t, ys, f, f', t2, xs2, rfl, rfl, hh⟩
     · cases hp
   | zone t ys => cases hp
end Go.Ab


namespace Go.Ab
variable {P : Program} {G : Ctx} {s : St} {a : Act} {w : World} {m : Nat -> Value} {o : Oper}
theorem seenH_sub {h : Heap} {fr g : List Nat} {i : Nat} {ob : Obj} (hh : seenH h fr g i = some ob) : h i = some ob /\ i ∉ g /\ (∀ t xs f, ob = .arr t xs f -> i ∈ fr) /\ (∀ t xs, ob = .zone t xs -> i ∈ fr) := by
 unfold seenH at hh
 split at hh
 · rename_i t xs f hi
   cases hb : memB i fr && !(memB i g) with
   | false => rw [hb] at hh; cases hh
   | true =>
     rw [hb] at hh
     cases hh
     simp only [Bool.and_eq_true, Bool.not_eq_true'] at hb
     refine ⟨hi, fun hm => ?_, fun _ _ _ _ => memB_iff.1 hb.1, fun _ _ e => by cases e⟩
     rw [memB_iff.2 hm] at hb
     cases hb.2
 · rename_i cs hi
   cases hb : memB i g with
   | true => rw [hb] at hh; cases hh
   | false =>
     rw [hb] at hh
     cases hh
     refine ⟨hi, fun hm => ?_, (fun _ _ _ e => by cases e), (fun _ _ e => by cases e)⟩
     rw [memB_iff.2 hm] at hb
     cases hb
 · rename_i t xs hi
   cases hb : memB i fr && !(memB i g) with
   | false => rw [hb] at hh; cases hh
   | true =>
     rw [hb] at hh
     cases hh
     simp only [Bool.and_eq_true, Bool.not_eq_true'] at hb
     refine ⟨hi, fun hm => ?_, (fun _ _ _ e => by cases e), fun _ _ _ => memB_iff.1 hb.1⟩
     rw [memB_iff.2 hm] at hb
     cases hb.2
 · cases hh
theorem zfree_not {h : Heap} : ∀ {l : List Nat}, zfree h l = true -> ∀ {i : Nat} {t : Ty} {xs : List t.den}, i ∈ l -> h i ≠ some (.zone t xs)
 | [], _, _, _, _, hm => by cases hm
 | j :: r, hz, i, t, xs, hm => by
   simp only [zfree, Bool.and_eq_true] at hz
   rcases List.mem_cons.1 hm with rfl | hm
   · intro e
     rw [e] at hz
     exact Bool.noConfusion hz.1
   · exact zfree_not hz.2 hm
theorem mem_minus {l g : List Nat} {i : Nat} : i ∈ minusL l g ↔ i ∈ l /\ i ∉ g := by
 unfold minusL
 rw [List.mem_filter]
 constructor
 · rintro ⟨h1, h2⟩
   refine ⟨h1, fun hm => ?_⟩
   rw [memB_iff.2 hm] at h2
   cases h2
 · rintro ⟨h1, h2⟩
   refine ⟨h1, ?_⟩
   cases hb : memB i g with
   | true => exact absurd (memB_iff.1 hb) h2
   | false => rfl
theorem op_callF' (hP : G.P = P) (hcl : ClosOK P G.E) (h : Holds G s a w m) {fx : Operand} {args : Array Operand} {ts : Array TypeId} (ho : o.op = .call { callee := .value fx, args, argTypes := ts }) {g : Nat} (hf : s.eval fx = .fn g [])
   {sp : FSpec} (hfok : FOK P G.E g sp) {K : St -> Prop} (hk : callV G.E sp s (args.toList.map s.eval) o.dst K) :
   ∀ next Q, (∀ s' val w' m', K s' -> Holds G s' (a.put o.dst val) w' m' -> (given sp.ps (args.toList.map s.eval) = [] -> Keep (fun _ => False) w w' /\ ∀ b, b < w.heap.size -> arrO s' m' b -> arrO s m b) -> next (a.put o.dst val) w') -> o.wp P a w next Q := by
 have rf := eval_ok h fx
 rw [hf] at rf
 obtain ⟨cs0, hv0, hcs0⟩ := rf
 simp only [VRelL] at hcs0
 subst hcs0
 obtain ⟨hent, hspec⟩ := hfok
 unfold callV at hk
 obtain ⟨hnd0, hk⟩ := hk
 simp only [Bool.and_eq_true] at hnd0
 obtain ⟨hnd, hzf⟩ := hnd0
 have hnodup := nodupB_iff hnd
 split at hk
 · cases hk
 rename_i x hx
 obtain ⟨hpre, hk⟩ := hk
 have hvals := evals_ok h args.toList
 generalize hal : args.toList.map s.eval = al at *
 generalize hvl : args.toList.map a.eval = vals at *
 have hgsub : ∀ i ob, seenH s.heap (ownedBehind s.heap al) (given sp.ps al) i = some ob -> s.heap i = some ob /\ i ∉ given sp.ps al /\ (∀ t xs f, ob = .arr t xs f -> i ∈ ownedBehind s.heap al) /\ (∀ t xs, ob = .zone t xs -> i ∈ ownedBehind s.heap al) := fun i ob hh => seenH_sub hh
 generalize hS0 : seenH s.heap (ownedBehind s.heap al) (given sp.ps al) = hS at *
 have hokS : HeapOK (G.rc s.objs m w) hS := fun i ob hi => h.heap i ob (hgsub i ob hi).1
 obtain ⟨g1, g2, g3, g4, g5, g6⟩ := args_ok (g := s.heap) hokS (sp.upd x) 0 hx hvals
 have g7 : ∀ it ∈ items sp.ps al vals x (sp.upd x), _ := fun it hit => items_shares hit
 generalize hits : items sp.ps al vals x (sp.upd x) = its at *
 have row : ∀ it ∈ its, ∀ b, rows it.v b -> ∃ i ob, it.id = some i /\ s.objs[i]? = some (some ob) /\ it.v = m i /\ i ∈ given sp.ps al /\ rows (m i) b := by
   intro it hit b hb
   rcases g4 it hit with ⟨h1, ⟨ad, t, h2, h3⟩, h4⟩ | ⟨i, ob, h1, h2, h3, _, _⟩
   · rw [h2] at hb
     cases ad <;> simp [rows_p, rows_s, blk] at hb
   · have h3' : it.v = m i := h3
     exact ⟨i, ob, h1, heap_get h2, h3', by rw [g3]; exact List.mem_filterMap.2 ⟨it, hit, h1⟩, by rw [<- h3']; exact hb⟩
 have rowinj : ∀ {k1 k2 : Nat} {it1 it2 : Item} {b : Nat}, its[k1]? = some it1 -> its[k2]? = some it2 -> rows it1.v b -> rows it2.v b -> k1 = k2 := by
   intro k1 k2 it1 it2 b h1 h2 hb1 hb2
   obtain ⟨i1, ob1, e1, l1, _, _, r1⟩ := row it1 (List.mem_of_getElem? h1) b hb1
   obtain ⟨i2, ob2, e2, l2, _, _, r2⟩ := row it2 (List.mem_of_getElem? h2) b hb2
   have := h.o.disj i1 i2 ob1 ob2 b l1 l2 r1 r2
   subst this
   rw [g3] at hnodup
   exact nodup_filterMap hnodup h1 h2 e1 e2
 have ownS0 : ∀ it ∈ its, ∀ b, rows it.v b -> Own s.objs m b := fun it hit b hb => by
   obtain ⟨i, ob, _, hl, _, _, hr⟩ := row it hit b hb
   exact ⟨i, ob, hl, hr⟩
 let G' : Ctx :=
   { P := P, E := G.E, w0 := w, O0 := fun b => ∃ it ∈ its, rows it.v b, X0 := fun b => Seen (G.rc s.objs m w) hS b ∨ ∃ it ∈ its, rows it.v b, m0 := fun k => ((its[k]?).map (·.v)).getD undef, n0 := its.length, sub := fun b hb => .inr hb,
     tab := G.tabS _ _ G.tab fun b hb => h.o.keep.block b (G.tabO b hb).2 (G.tabO b hb).1,
     tabO := fun b hb => ⟨fun ⟨it, hit, hbk⟩ => by
       rcases h.o.new b (ownS0 it hit b hbk) with h1 | h1
       · exact (G.tabO b hb).1 h1
       · have := (G.tabO b hb).2; omega, Nat.lt_of_lt_of_le (G.tabO b hb).2 h.o.keep.size⟩,
     tabS := G.tabS }
 have hm0 : ∀ {k : Nat} {it : Item}, its[k]? = some it -> G'.m0 k = it.v := fun {k it} hk => by simp [G', hk]
 have hentget : ∀ {k : Nat} {p : Obj}, (entry sp.ps x 0).2[k]? = some (some p) -> ∃ it, its[k]? = some it /\ it.p = p := fun {k p} hk => by
   rw [g1, List.getElem?_map] at hk
   cases hit : its[k]? with
   | none => rw [hit] at hk; cases hk
   | some it => rw [hit] at hk; simp only [Option.map_some, Option.some.injEq] at hk; exact ⟨it, rfl, hk⟩
 have hownE : ∀ b, Own (entry sp.ps x 0).2 G'.m0 b -> ∃ it ∈ its, rows it.v b := by
   rintro b ⟨k, p, hk, hb⟩
   obtain ⟨it, hit, _⟩ := hentget hk
   rw [hm0 hit] at hb
   exact ⟨it, List.mem_of_getElem? hit, hb⟩
 have ownS : ∀ it ∈ its, ∀ b, rows it.v b -> Own s.objs m b := fun it hit b hb => by
   obtain ⟨i, ob, _, hl, _, _, hr⟩ := row it hit b hb
   exact ⟨i, ob, hl, hr⟩
 have seenNot : ∀ b, Seen (G.rc s.objs m w) hS b -> ¬ ∃ it ∈ its, rows it.v b := by
   rintro b hb ⟨it, hit, hbk⟩
   obtain ⟨i, ob, _, hl, _, hgv, hr⟩ := row it hit b hbk
   rcases hb with (hb | ⟨j, t, xs, f, hj, hbj⟩) | ⟨j, t, xs, hj, hbj⟩
   · exact hb.2 ⟨i, ob, hl, hr⟩
   · obtain ⟨hj1, hj2, _⟩ := hgsub j _ hj
     have := h.o.disj j i _ ob b (heap_get hj1) hl hbj hr
     subst this
     exact hj2 hgv
   · obtain ⟨hj1, hj2, _⟩ := hgsub j _ hj
     have := h.o.disj j i _ ob b (heap_get hj1) hl hbj hr
     subst this
     exact hj2 hgv
 have hand : Hand (G.rc s.objs m w) (G'.rc (entry sp.ps x 0).2 G'.m0 w) hS :=
   { P := hP.symm, E := rfl, w := rfl,
     S := fun b hb ho => by
       obtain ⟨it, hit, hbk⟩ := hownE b ho
       exact hb (ownS it hit b hbk),
     box := fun i cs b hi hbk ho => by
       obtain ⟨it, hit, hbi⟩ := hownE b ho
       obtain ⟨j, ob, _, hl, _, hgv, hr⟩ := row it hit b hbi
       obtain ⟨hi1, hi2, _⟩ := hgsub i _ hi
       have := h.o.disj i j _ ob b (heap_get hi1) hl hbk hr
       subst this
       exact hi2 hgv,
     X := fun b hb => ⟨.inl (.inl hb), fun ho => seenNot b hb (hownE b ho)⟩,
     XS := fun b hb => hb.2 }
 have hXle : ∀ b, (G.rc s.objs m w).X b -> (G'.rc (entry sp.ps x 0).2 G'.m0 w).X b := fun b hb => hand.X b (.inl (.inl hb))
 have hO : HoldsO G' (entry sp.ps x 0).2 G'.m0 G'.w0 :=
   { rel := by
       intro k p hk
       obtain ⟨it, hit, rfl⟩ := hentget hk
       rw [hm0 hit]
       rcases g4 it (List.mem_of_getElem? hit) with ⟨_, ⟨ad, t, h2, h3⟩, _⟩ | ⟨i, ob, _, h2, h3, _, h4⟩
       · rw [h2, h3]
         exact ⟨ad, 0, 0, rfl, rfl, Nat.le_refl _, by decide, .inl rfl⟩
       · have h3' : it.v = m i := h3
         have hor := (h.heap i ob h2).2
         rw [h3']
         rcases h4 with ⟨t, xs, f, f', rfl, hp, _⟩ | ⟨t, y, y', cs, rfl, hp, htd, _⟩
         · rw [hp]
           have := ORel.changed (c := G.rc s.objs m w) (c' := G'.rc (entry sp.ps x 0).2 G'.m0 w) (p := .arr t xs f) rfl (Nat.le_refl _) (fun b _ hb => ⟨hXle b hb, rfl⟩) (fun b _ => rfl) hor (.inr (.inl ⟨t, xs, f, rfl, rfl⟩))
           exact this
         · rw [hp]
           obtain ⟨b, ty, vs, hmi, hb, hr⟩ := hor
           refine ⟨b, ty, vs, hmi, hb, cellsOf_ok (c := G'.rc (entry sp.ps x 0).2 G'.m0 w) (X := Seen (G.rc s.objs m w) hS) hand.X ?_⟩
           exact toD_all hokS htd hr,
     disj := by
       intro k1 k2 p1 p2 b h1 h2 hb1 hb2
       obtain ⟨it1, hit1, _⟩ := hentget h1
       obtain ⟨it2, hit2, _⟩ := hentget h2
       rw [hm0 hit1] at hb1
       rw [hm0 hit2] at hb2
       exact rowinj hit1 hit2 hb1 hb2,
     keep := Keep.refl _ _,
     new := fun b hb => .inl (hownE b hb),
     len := by rw [g1, List.length_map]; exact Nat.le_refl _,
     fix := fun _ _ _ _ _ => rfl }
 have hV : VRelL (G'.rc (entry sp.ps x 0).2 G'.m0 G'.w0) (entry sp.ps x 0).1 vals :=
   g6 _ hand (by rw [show (G.rc s.objs m w).P = P from hP]; exact hcl) (fun k it hk => by rw [Nat.zero_add]; exact hm0 hk) (by rw [Nat.zero_add]; simp only [Ctx.rc, g1, List.length_map]; exact Nat.le_refl _)
 have hcall := hspec G' x vals rfl rfl (by rw [g1, List.length_map]) hpre hO hV
 intro next Q hn
 unfold Oper.wp
 rw [exec_value ho hv0 hent, Oper.upon_enter, hvl]
 simp only [Array.append_empty]
 refine Calls.mono hcall fun e w' he => ?_
 obtain ⟨mc, rvals, rfl, hpO, hpV⟩ := he
 generalize hsh : (shareAny sp.rs || shareM sp.ps) = sh at *
 generalize hs1 : (bif sh then s.freezes (minusL (ownedBehind s.heap al) (given sp.ps al)) else s) = s1 at *
 have H1 : Holds G s1 a w m := by
   rw [<- hs1]
   cases sh
   · exact h
   · exact h.freezes _
 have live1 : ∀ {j : Nat} {p : Obj}, s1.objs[j]? = some (some p) -> ∃ p0, s.objs[j]? = some (some p0) := by
   rw [<- hs1]
   cases sh
   · intro j p hj; exact ⟨p, hj⟩
   · intro j p hj; exact freezes_live _ hj
 have given1 : ∀ {i : Nat} {ob : Obj}, i ∈ given sp.ps al -> s.objs[i]? = some (some ob) -> ∃ ob1, s1.objs[i]? = some (some ob1) := by
   rw [<- hs1]
   cases sh
   · intro i ob _ hi; exact ⟨ob, hi⟩
   · intro i ob hg hi; exact freezes_keep _ (fun hm => (mem_minus.1 hm).2 hg) hi
 have gone1 : sh = true -> ∀ {i : Nat} {t : Ty} {xs : List t.den} {f : Bool}, hS i = some (.arr t xs f) -> ∀ p, s1.objs[i]? ≠ some (some p) := by
   intro hst i t xs f hi
   subst hst
   rw [<- hs1]
   obtain ⟨q1, q2, q3, _⟩ := hgsub i _ hi
   exact freezes_gone _ (mem_minus.2 ⟨q3 t xs f rfl, q2⟩) (heap_get q1)
 have nozone : sh = true -> ∀ {i : Nat} {t : Ty} {xs : List t.den}, hS i ≠ some (.zone t xs) := by
   intro hst i t xs hi
   obtain ⟨q1, _, _, q4⟩ := hgsub i _ hi
   rw [hst] at hzf
   exact zfree_not hzf (q4 t xs rfl) q1
 have len1 : s1.objs.length = s.objs.length := by
   rw [<- hs1]
   cases sh
   · rfl
   · exact freezes_len _ _
 have ownS1 : ∀ it ∈ its, ∀ b, rows it.v b -> Own s1.objs m b := fun it hit b hb => by
   obtain ⟨i, ob, _, hl, _, hg, hr⟩ := row it hit b hb
   obtain ⟨ob1, hl1⟩ := given1 hg hl
   exact ⟨i, ob1, hl1, hr⟩
 have own1S : ∀ b, Own s1.objs m b -> Own s.objs m b := by
   rintro b ⟨j, p, hj, hb⟩
   obtain ⟨q, hq⟩ := live1 hj
   exact ⟨j, q, hq, hb⟩
 let nE := (exitObjs sp.ps (sp.upd x)).length
 have hnE : nE = its.length := by simp only [nE, g2, List.length_map]
 let n1 := s1.objs.length
 let news := (ressV sp.rs (sp.fn x) nE).2
 have hnews : (ressV sp.rs (sp.fn x) (handed s1 sp.ps al (sp.upd x)).objs.length).2 = news := ressV_news
 let L := handedL s1.heap sp.ps al (sp.upd x)
 let objsF := setObjsO s1.objs L ++ news.map some
 let mF : Nat -> Value := fun j => if j < n1 then m j else mc (j - n1 + nE)
 have hF1 : ∀ {j : Nat}, j < n1 -> mF j = m j := fun {j} hj => by simp [mF, hj]
 have hF2 : ∀ k, mF (n1 + k) = mc (nE + k) := fun k => by
   have : ¬ n1 + k < n1 := by omega
   simp only [mF, this, if_false]
   congr 1; omega
 have hlenS : (setObjsO s1.objs L).length = n1 := setO_length _ _
 have outG : ∀ {k : Nat} {q : Obj}, (outObjs sp x)[k]? = some (some q) -> k < nE -> ∃ it, its[k]? = some it /\ it.q = some q := fun {k q} hk hlt => by
   unfold outObjs at hk
   rw [List.getElem?_append_left hlt, g2, List.getElem?_map] at hk
   cases hit : its[k]? with
   | none => rw [hit] at hk; cases hk
   | some it => rw [hit] at hk; simp only [Option.map_some, Option.some.injEq] at hk; exact ⟨it, rfl, hk⟩
 have outI : ∀ {k : Nat} {it : Item} {q : Obj}, its[k]? = some it -> it.q = some q -> (outObjs sp x)[k]? = some (some q) := fun {k it q} hk hq => by
   unfold outObjs
   have : k < (exitObjs sp.ps (sp.upd x)).length := by
     have := get_lt hk
     simp only [nE] at hnE
     omega
   rw [List.getElem?_append_left this, g2, List.getElem?_map, hk]
   simp [hq]
 have outN : ∀ {k : Nat} {p : Obj}, news[k]? = some p -> (outObjs sp x)[nE + k]? = some (some p) := fun {k p} hk => by
   unfold outObjs
   rw [List.getElem?_append_right (by simp only [nE]; omega), List.getElem?_map]
   simp only [nE, Nat.add_sub_cancel_left]
   simp only [news, nE] at hk
   rw [hk]
   rfl
 have qfixed : ∀ {it : Item} {q : Obj}, it ∈ its -> it.q = some q -> q.fixed = true := fun {it q} hit hq => by
   rcases g7 it hit with h1 | ⟨t, y, h1, _⟩ | ⟨t, ys, h1, _⟩
   · rw [h1] at hq; cases hq
   · rw [h1] at hq; cases hq; rfl
   · rw [h1] at hq; cases hq; rfl
 have mcI : ∀ {k : Nat} {it : Item} {q : Obj}, its[k]? = some it -> it.q = some q -> mc k = it.v := fun {k it q} hk hq => by
   rw [hpO.fix k q (outI hk hq) (by simp only [G']; exact get_lt hk) (qfixed (List.mem_of_getElem? hk) hq)]
   exact hm0 hk
 have orig : ∀ {j : Nat} {p : Obj}, objsF[j]? = some (some p) ->
     (∃ (k : Nat) (it : Item) (q : Obj) (ob1 : Obj), its[k]? = some it /\ it.q = some q /\ it.id = some j /\ fixQ s1.heap j (some q) = some p /\ s1.objs[j]? = some (some ob1) /\ mF j = it.v /\ mc k = it.v /\ mF j = m j /\ j ∈ given sp.ps al) ∨
     (s1.objs[j]? = some (some p) /\ j ∉ given sp.ps al /\ mF j = m j) ∨
     (∃ k, j = n1 + k /\ news[k]? = some p /\ mF j = mc (nE + k)) := by
   intro j p hj
   rcases Nat.lt_or_ge j n1 with hlt | hge
   · simp only [objsF] at hj
     rw [List.getElem?_append_left (by rw [hlenS]; exact hlt)] at hj
     have hLid : ∀ i, i ∈ given sp.ps al ↔ ∃ e ∈ L, e.1 = i := by
       intro i
       rw [g3]
       simp only [L, g5 s1.heap, List.mem_filterMap]
       constructor
       · rintro ⟨it, hit, hid⟩
         exact ⟨_, ⟨it, hit, by rw [hid]; rfl⟩, rfl⟩
       · rintro ⟨e, ⟨it, hit, he⟩, rfl⟩
         cases hid : it.id with
         | none => rw [hid] at he; cases he
         | some i => rw [hid] at he; simp only [Option.map_some, Option.some.injEq] at he; subst he; exact ⟨it, hit, hid⟩
     rcases setO_get L s1.objs hj with ⟨e, he, h1, h2⟩ | ⟨h1, h2⟩
     · left
       have hgj : j ∈ given sp.ps al := (hLid j).2 ⟨e, he, h1⟩
       simp only [L, g5 s1.heap] at he
       obtain ⟨it, hit, hie⟩ := List.mem_filterMap.1 he
       cases hid : it.id with
       | none => rw [hid] at hie; cases hie
       | some i =>
         rw [hid] at hie
         simp only [Option.map_some, Option.some.injEq] at hie
         subst hie
         simp only at h1 h2
         subst h1
         obtain ⟨k, hk⟩ := List.getElem?_of_mem hit
         have hq : ∃ q, it.q = some q := by
           cases hq : it.q with
           | none => rw [hq] at h2; cases h2
           | some q => exact ⟨q, rfl⟩
         obtain ⟨q, hq⟩ := hq
         rcases g4 it hit with ⟨h0, _⟩ | ⟨i', ob, h0, hob, hv, _, _⟩
         · rw [h0] at hid; cases hid
         · rw [hid] at h0
           cases h0
           obtain ⟨ob1, hob1⟩ := given1 hgj (heap_get hob)
           have hv' : it.v = m i := hv
           exact ⟨k, it, q, ob1, hk, hq, hid, by rw [<- hq]; exact h2, hob1, by rw [hF1 hlt, hv'], mcI hk hq, hF1 hlt, hgj⟩
     · right; left
       refine ⟨h2, fun hg => ?_, hF1 hlt⟩
       obtain ⟨e, he, hej⟩ := (hLid j).1 hg
       exact h1 e he hej
   · right; right
     simp only [objsF] at hj
     rw [List.getElem?_append_right (by rw [hlenS]; exact hge), hlenS, List.getElem?_map] at hj
     refine ⟨j - n1, by omega, ?_, ?_⟩
     · cases hk : news[j - n1]? with
       | none => rw [hk] at hj; cases hj
       | some p' => rw [hk] at hj; simp only [Option.map_some, Option.some.injEq] at hj; rw [hj]
     · have := hF2 (j - n1)
       rwa [show n1 + (j - n1) = j by omega] at this
 have newRow : ∀ {k : Nat} {p : Obj} {b : Nat}, news[k]? = some p -> rows (mc (nE + k)) b -> (∃ it ∈ its, rows it.v b) ∨ w.heap.size <= b := fun {k p b} hk hb => hpO.new b ⟨nE + k, p, outN hk, hb⟩
 have lt1 : ∀ {j : Nat} {p : Obj} {b : Nat}, s1.objs[j]? = some (some p) -> rows (m j) b -> b < w.heap.size := fun {j p b} hj hb => H1.o.own_lt ⟨j, p, hj, hb⟩
 have notIt : ∀ {j : Nat} {p : Obj} {b : Nat}, s1.objs[j]? = some (some p) -> j ∉ given sp.ps al -> rows (m j) b -> ¬ ∃ it ∈ its, rows it.v b := by
   rintro j p b hj hg hb ⟨it, hit, hbi⟩
   obtain ⟨i, ob, _, hl, _, hgi, hr⟩ := row it hit b hbi
   obtain ⟨p0, hp0⟩ := live1 hj
   have := h.o.disj j i p0 ob b hp0 hl hb hr
   subst this
   exact hg hgi
 have ownF : ∀ b, b < w.heap.size -> Own objsF mF b -> Own s1.objs m b := by
   rintro b hb ⟨j, p, hj, hbj⟩
   rcases orig hj with ⟨k, it, q, ob1, _, _, _, _, hob1, hv, _, hm1, _⟩ | ⟨hj1, _, hm1⟩ | ⟨k, rfl, hk, hm1⟩
   · rw [hm1] at hbj; exact ⟨j, ob1, hob1, hbj⟩
   · rw [hm1] at hbj; exact ⟨j, p, hj1, hbj⟩
   · rw [hm1] at hbj
     rcases newRow hk hbj with ⟨it, hit, hbi⟩ | h1
     · exact ownS1 it hit b hbi
     · omega
 have same : ∀ b, b < w.heap.size -> (¬ ∃ it ∈ its, rows it.v b) -> w'.heap[b]? = w.heap[b]? := fun b hb hn => hpO.keep.block b hb hn
 have hle : (G.rc s1.objs m w).Le (G.rc objsF mF w') :=
   { P := rfl, E := rfl, m := fun j hj => hF1 hj, n := by simp only [Ctx.rc, objsF, List.length_append, hlenS, n1]; omega, size := hpO.keep.size,
     S := fun b hb hS => ⟨fun ho => hS (ownF b hb ho), same b hb fun ⟨it, hit, hbi⟩ => hS (ownS1 it hit b hbi)⟩,
     X := fun b hb hX => ⟨⟨hX.1, fun ho => hX.2 (ownF b hb ho)⟩, same b hb fun ⟨it, hit, hbi⟩ => hX.2 (ownS1 it hit b hbi)⟩ }
 have back : Back (G'.rc (outObjs sp x) mc w') (G.rc objsF mF w') sh :=
   { E := rfl, w := rfl,
     X := by
       intro hst b hX
       obtain ⟨hX, hnO⟩ := hX
       have hO' : (∃ it ∈ its, rows it.v b) -> Own s.objs m b := fun ⟨it, hit, hbi⟩ => ownS it hit b hbi
       have ownX : Own s.objs m b -> G.X0 b ∨ G.w0.heap.size <= b := fun ho => (h.o.new b ho).imp (G.sub b) id
       refine ⟨?_, ?_⟩
       · rcases hX with (hX | hX) | hX
         · rcases hX with (hX | ⟨i, t, xs, f, hi, hbi⟩) | ⟨i, t, xs, hi, hbi⟩
           · exact hX.1
           · exact ownX ⟨i, _, heap_get (hgsub i _ hi).1, hbi⟩
           · exact ownX ⟨i, _, heap_get (hgsub i _ hi).1, hbi⟩
         · exact ownX (hO' hX)
         · exact .inr (Nat.le_trans h.o.keep.size hX)
       · rintro ⟨j, p, hj, hbj⟩
         rcases orig hj with ⟨k, it, q, ob1, hk, hq, _, _, _, hv, hmc, _, _⟩ | ⟨hj1, hjg, hm1⟩ | ⟨k, rfl, hk, hm1⟩
         · exact hnO ⟨k, q, outI hk hq, by rw [hmc, <- hv]; exact hbj⟩
         · rw [hm1] at hbj
           obtain ⟨p0, hp0⟩ := live1 hj1
           rcases hX with (hX | hX) | hX
           · rcases hX with (hX | ⟨i, t, xs, f, hi, hbi⟩) | ⟨i, t, xs, hi, hbi⟩
             · exact hX.2 ⟨j, p0, hp0, hbj⟩
             · have := h.o.disj i j _ p0 b (heap_get (hgsub i _ hi).1) hp0 hbi hbj
               subst this
               exact gone1 hst hi p hj1
             · exact nozone hst hi
           · exact notIt hj1 hjg hbj hX
           · have := lt1 hj1 hbj
             have hX' : w.heap.size <= b := hX
             omega
         · exact hnO ⟨nE + k, p, outN hk, by rw [<- hm1]; exact hbj⟩ }
 have arrBack : ∀ {v : Value} {t : Ty} {xs : List t.den} {f f' : Bool}, (t.shares = true -> sh = true) -> ORel (G'.rc (outObjs sp x) mc w') v (.arr t xs f) -> ORel (G.rc objsF mF w') v (.arr t xs f') := by
   intro v t xs f f' hts hr
   obtain ⟨ad, n, cap, e, hn', hc, hl, hr⟩ := hr
   refine ⟨ad, n, cap, e, hn', hc, hl, hr.imp id fun ⟨b, vs, e', q1, q2, q3, q4, q5⟩ => ⟨b, vs, e', q1, q2, q3, q4, fun k y hy => ?_⟩⟩
   have := q5 k y hy
   cases hs : t.shares with
   | true => exact rep_X this (back.X (hts hs))
   | false => exact rep_scalar hs this
 have hshM : shareM sp.ps = true -> sh = true := fun hh => by rw [<- hsh, hh]; simp
 have hshA : shareAny sp.rs = true -> sh = true := fun hh => by rw [<- hsh, hh]; simp
 have HO : HoldsO G objsF mF w' :=
   { rel := by
       intro j p hj
       rcases orig hj with ⟨k, it, q, ob1, hk, hq, _, hfq, _, hv, hmc, _, _⟩ | ⟨hj1, hjg, hm1⟩ | ⟨k, rfl, hk, hm1⟩
       · have hr := hpO.rel k q (outI hk hq)
         rw [hmc, <- hv] at hr
         rcases fixQ_some hfq with ⟨cs, e1, rfl⟩ | ⟨t, ys, f, f', t2, xs2, e1, rfl, _⟩
         · cases e1
           rcases g7 it (List.mem_of_getElem? hk) with h1 | ⟨t, y, h1, h2⟩ | ⟨t, ys, h1, _⟩
           · rw [h1] at hq; cases hq
           · rw [h1] at hq
             cases hq
             obtain ⟨b, ty, vs, e, hb, hr⟩ := hr
             exact ⟨b, ty, vs, e, hb, cells_trans back.E back.w (fun hs => back.X (hshM (h2 hs))) hr⟩
           · rw [h1] at hq; cases hq
         · cases e1
           rcases g7 it (List.mem_of_getElem? hk) with h1 | ⟨t', y, h1, h2⟩ | ⟨t', ys', h1, h2⟩
           · rw [h1] at hq; cases hq
           · rw [h1] at hq; cases hq
           · rw [h1] at hq
             cases hq
             exact arrBack (fun hs => hshM (h2 hs)) hr
       · rw [hm1]
         have hr := H1.o.rel j p hj1
         refine ORel.changed (c := G.rc s1.objs m w) rfl hpO.keep.size hle.X (fun b hb => same b (lt1 hj1 hb) (notIt hj1 hjg hb)) hr ?_
         cases p with
         | box cs => exact .inl ⟨cs, cs, rfl, rfl, fun vs hv => hv.mono hle⟩
         | arr t xs f => exact .inr (.inl ⟨t, xs, f, rfl, rfl⟩)
         | zone t xs => exact .inr (.inr ⟨t, xs, rfl, rfl⟩)
       · rw [hm1]
         have hr := hpO.rel _ p (outN hk)
         obtain ⟨t, xs, rfl, hs⟩ := ressV_shape (List.mem_of_getElem? hk)
         exact arrBack (fun hh => hshA (hs hh)) hr,
     disj := by
       intro j1 j2 p1 p2 b h1 h2 hb1 hb2
       rcases orig h1 with ⟨k1, it1, q1, ob1, hk1, hq1, hid1, _, hob1, hv1, hmc1, hm1, hg1⟩ | ⟨hj1, hjg1, hm1⟩ | ⟨k1, rfl, hk1, hm1⟩ <;>
         rcases orig h2 with ⟨k2, it2, q2, ob2, hk2, hq2, hid2, _, hob2, hv2, hmc2, hm2, hg2⟩ | ⟨hj2, hjg2, hm2⟩ | ⟨k2, rfl, hk2, hm2⟩
       · rw [hm1] at hb1
         rw [hm2] at hb2
         exact H1.o.disj j1 j2 ob1 ob2 b hob1 hob2 hb1 hb2
       · rw [hm1] at hb1
         rw [hm2] at hb2
         exact H1.o.disj j1 j2 ob1 p2 b hob1 hj2 hb1 hb2
       · have := hpO.disj k1 (nE + k2) q1 p2 b (outI hk1 hq1) (outN hk2) (by rw [hmc1, <- hv1]; exact hb1) (by rw [<- hm2]; exact hb2)
         have := get_lt hk1
         omega
       · rw [hm1] at hb1
         rw [hm2] at hb2
         exact H1.o.disj j1 j2 p1 ob2 b hj1 hob2 hb1 hb2
       · rw [hm1] at hb1
         rw [hm2] at hb2
         exact H1.o.disj j1 j2 p1 p2 b hj1 hj2 hb1 hb2
       · rw [hm1] at hb1
         rw [hm2] at hb2
         rcases newRow hk2 hb2 with hh | hh
         · exact absurd hh (notIt hj1 hjg1 hb1)
         · have := lt1 hj1 hb1; omega
       · have := hpO.disj (nE + k1) k2 p1 q2 b (outN hk1) (outI hk2 hq2) (by rw [<- hm1]; exact hb1) (by rw [hmc2, <- hv2]; exact hb2)
         have := get_lt hk2
         omega
       · rw [hm1] at hb1
         rw [hm2] at hb2
         rcases newRow hk1 hb1 with hh | hh
         · exact absurd hh (notIt hj2 hjg2 hb2)
         · have := lt1 hj2 hb2; omega
       · have := hpO.disj (nE + k1) (nE + k2) p1 p2 b (outN hk1) (outN hk2) (by rw [<- hm1]; exact hb1) (by rw [<- hm2]; exact hb2)
         omega,
     keep :=
       { os := hpO.keep.os.trans h.o.keep.os, tape := hpO.keep.tape.trans h.o.keep.tape, output := hpO.keep.output.trans h.o.keep.output, frozen := fun a ha => (hpO.keep.frozen a (Nat.lt_of_lt_of_le ha h.o.keep.size)).trans (h.o.keep.frozen a ha), size := Nat.le_trans h.o.keep.size hpO.keep.size,
         block := fun b hb hn => by
           rw [same b (Nat.lt_of_lt_of_le hb h.o.keep.size) ?_]
           · exact h.o.keep.block b hb hn
           · rintro ⟨it, hit, hbi⟩
             rcases h.o.new b (ownS it hit b hbi) with h1 | h1
             · exact hn h1
             · omega },
     new := by
       rintro b ⟨j, p, hj, hbj⟩
       rcases orig hj with ⟨k, it, q, ob1, _, _, _, _, hob1, _, _, hm1, _⟩ | ⟨hj1, _, hm1⟩ | ⟨k, rfl, hk, hm1⟩
       · rw [hm1] at hbj; exact H1.o.new b ⟨j, ob1, hob1, hbj⟩
       · rw [hm1] at hbj; exact H1.o.new b ⟨j, p, hj1, hbj⟩
       · rw [hm1] at hbj
         rcases newRow hk hbj with ⟨it, hit, hbi⟩ | h1
         · exact h.o.new b (ownS it hit b hbi)
         · exact .inr (Nat.le_trans h.o.keep.size h1),
     len := by
       simp only [objsF, List.length_append, hlenS]
       exact Nat.le_trans H1.o.len (by simp only [n1]; omega),
     fix := by
       intro j p hj hjn hpf
       have hjn1 : j < n1 := Nat.lt_of_lt_of_le hjn H1.o.len
       rcases orig hj with ⟨k, it, q, ob1, hk, hq, _, hfq, hob1, hv, hmc, hm1, _⟩ | ⟨hj1, _, hm1⟩ | ⟨k, hjk, hk, hm1⟩
       · rw [hm1]
         refine H1.o.fix j ob1 hob1 hjn ?_
         rcases fixQ_some hfq with ⟨cs, e1, rfl⟩ | ⟨t, ys, f, f', t2, xs2, e1, rfl, hh⟩
         ·
           cases e1
           have hr := hpO.rel k _ (outI hk hq)
           rw [hmc, <- hv, hm1] at hr
           obtain ⟨b, ty, vs, e, _⟩ := hr
           have hr1 := H1.o.rel j ob1 hob1
           cases ob1 with
           | box _ => rfl
           | arr t xs f =>
             obtain ⟨ad, n, cap, e', _⟩ := hr1
             rw [e] at e'
             cases e'
           | zone t xs =>
             obtain ⟨hd, l, e', _⟩ := hr1
             rw [e] at e'
             cases e'
         · have := heap_get hh
           rw [hob1] at this
           cases this
           exact hpf
       · rw [hm1]; exact H1.o.fix j p hj1 hjn hpf
       · omega }
 have hV' : VRelL (G.rc objsF mF w') (ressV sp.rs (sp.fn x) n1).1 rvals :=
   ressV_shift back hshA (fun k _ => hF2 k) (by simp only [Ctx.rc, objsF, List.length_append, hlenS, List.length_map, news]; exact Nat.le_refl _) hpV
 have hlenH : (handed s1 sp.ps al (sp.upd x)).objs.length = n1 := setO_length _ _
 have hfin : Holds G ((handed s1 sp.ps al (sp.upd x)).add news) a w' mF := { o := HO, tmps := H1.tmps.mono hle, defers := h.defers, kp := H1.kp.mono hle }
 have noIt : given sp.ps al = [] -> ∀ b, ¬ ∃ it ∈ its, rows it.v b := by
   rintro hg b ⟨it, hit, hb⟩
   obtain ⟨i, _, _, _, _, hgi, _⟩ := row it hit b hb
   rw [hg] at hgi
   cases hgi
 refine hn (callRes sp x (handed s1 sp.ps al (sp.upd x)) o.dst) (retVal rvals) w' mF hk ?_ fun hg => ⟨hpO.keep.weaken fun b _ hb => noIt hg b hb, ?_⟩
 · unfold callRes
   rw [hnews, hlenH]
   exact hfin.put (tup_ok hV') o.dst
 · rintro b hb ⟨j, t, xs, f, hj, hbj⟩
   unfold callRes at hj
   rw [put_objs, hnews] at hj
   have hj' : objsF[j]? = some (some (.arr t xs f)) := hj
   rcases orig hj' with ⟨k, it, q, ob1, _, _, _, _, _, _, _, _, hgj⟩ | ⟨hj1, _, hm1⟩ | ⟨k, rfl, hk', hm1⟩
   · rw [hg] at hgj; cases hgj
   · have : arrO s1 m b := ⟨j, t, xs, f, hj1, by rw [<- hm1]; exact hbj⟩
     rw [<- hs1] at this
     cases sh
     · exact this
     · exact freezes_arrO _ this
   · rw [hm1] at hbj
     rcases newRow hk' hbj with hh | hh
     · exact absurd hh (noIt hg b)
     · omega
theorem op_callF (hP : G.P = P) (hcl : ClosOK P G.E) (h : Holds G s a w m) {fx : Operand} {args : Array Operand} {ts : Array TypeId} (ho : o.op = .call { callee := .value fx, args, argTypes := ts }) {g : Nat} (hf : s.eval fx = .fn g [])
   {sp : FSpec} (hfok : FOK P G.E g sp) {K : St -> Prop} (hk : callV G.E sp s (args.toList.map s.eval) o.dst K) : Ok P G a w o K :=
 fun next Q hn => op_callF' hP hcl h ho hf hfok hk next Q fun s' val w' m' hK hh _ => hn s' val w' m' hK hh
end Go.Ab


namespace Go.Ab
variable {P : Program} {ops : Array Oper} {Q : Exit -> Act -> World -> Prop} {S S' : World -> Prop}
def wpAnyT (P : Program) (ops : Array Oper) (Q : Exit -> Act -> World -> Prop) (S : World -> Prop) (n : Nat) : Nat -> Array Bool -> Act -> World -> Prop
 | 0, listed, a, w => Region.seqB .any ops (ops.toList.drop n).length n listed = true /\ wpList P ops Q (ops.toList.drop n) a w
 | f + 1, listed, a, w => Region.ready .any ops listed ≠ [] /\ ∀ i ∈ Region.ready .any ops listed, wpOp P ops Q i (fun a' w' => S w' /\ wpAnyT P ops Q S n f (listed.setIfInBounds i true) a' w') a w
theorem wpAnyT_mono (h : ∀ w, S w -> S' w) {n : Nat} : ∀ {f : Nat} {listed : Array Bool} {a : Act} {w : World}, wpAnyT P ops Q S n f listed a w -> wpAnyT P ops Q S' n f listed a w
 | 0, _, _, _, hh => hh
 | f + 1, _, _, _, hh => ⟨hh.1, fun i hi => wpOp_mono (fun a' w' h' => ⟨h w' h'.1, wpAnyT_mono h h'.2⟩) (hh.2 i hi)⟩
theorem wpAny_of_T {n : Nat} (hn : n <= ops.size) : ∀ {f : Nat} {listed : Array Bool} {a : Act} {w : World}, wpAnyT P ops Q S n f listed a w -> wpAny P .any ops Q (f + (ops.toList.drop n).length) listed a w
 | 0, listed, a, w, h => by
   have := wpAny_of_seq (md := .any) (Q' := Q) (ops.toList.drop n) n listed a w (fun j => by simp [List.getElem?_drop]) h.1 h.2
   rwa [Nat.zero_add]
 | f + 1, listed, a, w, h => by
   rw [show f + 1 + (ops.toList.drop n).length = f + (ops.toList.drop n).length + 1 by omega]
   exact ⟨fun h0 => absurd h0 h.1, fun i hi => wpOp_mono (fun a' w' h' => wpAny_of_T hn h'.2) (h.2 i hi)⟩
def Down (ops : Array Oper) (listed : Array Bool) : Prop := ∀ t o, ops[t]? = some o -> listed.getD t false = true -> ∀ e ∈ o.after, Region.binds .any e = true -> listed.getD e.on false = true
def TailWaits (ops : Array Oper) (n : Nat) : Prop := ∀ listed, Down ops listed -> ∀ t, n <= t -> t ∈ Region.ready .any ops listed -> ∀ i, i < n -> listed.getD i false = true
theorem getD_set_false {l : Array Bool} {i k : Nat} (h : l.getD k false = true) : (l.setIfInBounds i true).getD k false = true := by
 simp only [Array.getD_eq_getD_getElem?, Array.getElem?_setIfInBounds] at *
 split
 · split <;> simp_all
 · exact h
theorem Down.set {listed : Array Bool} (h : Down ops listed) {i : Nat} (hr : i ∈ Region.ready .any ops listed) : Down ops (listed.setIfInBounds i true) := by
 intro t o ho ht e he hb
 refine getD_set_false ?_
 by_cases hti : i = t
 · subst hti
   obtain ⟨_, o', ho', hall⟩ := mem_ready.1 hr
   rw [ho] at ho'
   cases ho'
   exact hall e he hb
 · refine h t o ho ?_ e he hb
   simp only [Array.getD_eq_getD_getElem?, Array.getElem?_setIfInBounds, hti, if_false] at *
   exact ht
theorem down_none (n : Nat) : Down ops (Array.replicate n false) := by
 intro t o ho ht
 exfalso
 simp only [Array.getD_eq_getD_getElem?, Array.getElem?_replicate] at ht
 split at ht <;> cases ht
theorem tail_not_ready {n : Nat} (ht : TailWaits ops n) {listed : Array Bool} (hd : Down ops listed) (hls : listed.size = ops.size) {i : Nat} (hi : i < n) (hn : n <= ops.size) (hu : listed.getD i true = false) {t : Nat} (hnt : n <= t) : t ∉ Region.ready .any ops listed := by
 intro hr
 have := ht listed hd t hnt hr i hi
 have hlt : i < listed.size := by omega
 simp [hlt] at hu this
 rw [hu] at this; cases this
theorem wpAnyT_first {n : Nat} (hn : n <= ops.size) (ht : TailWaits ops n) {i : Nat} {oi : Oper} {v : Value} (hin : i < n) (hi : ops[i]? = some oi) (hsel : ∀ (j : Nat) (o : Oper) cs b, ops[j]? = some o -> o.op ≠ .select cs b)
   (hQ : ∀ c a w, Q (.panic c) (a.put oi.dst v) w -> Q (.panic c) a w) :
   ∀ (f : Nat) (listed : Array Bool) (a : Act) (w : World), listed.size = ops.size -> Down ops listed ->
     (∀ j oj, ops[j]? = some oj -> j ≠ i -> listed.getD j true = false -> (∀ e ∈ oj.after, Region.binds .any e = true -> e.on ≠ i) -> oi.apart ops oj = true) ->
     i ∈ Region.ready .any ops listed -> YieldsIf P ops S oi v a -> S w ->
     wpAnyT P ops Q S n f (listed.setIfInBounds i true) (a.put oi.dst v) w -> wpAnyT P ops Q S n (f + 1) listed a w := by
 intro f
 induction f with
 | zero =>
   intro listed a w hls hdn hfree hr hy hS H
   refine ⟨fun h => (by rw [h] at hr; cases hr), fun j hj => ?_⟩
   by_cases hji : j = i
   · subst hji; exact hy.wpOp hi hS ⟨hS, H⟩
   · have := seqB_ready H.1 j (ready_mono hj hji)
     exact absurd hj (tail_not_ready ht hdn hls hin hn (mem_ready.1 hr).1 this)
 | succ f ih =>
   intro listed a w hls hdn hfree hr hy hS H
   refine ⟨fun h => (by rw [h] at hr; cases hr), fun j hj => ?_⟩
   by_cases hji : j = i
   · subst hji; exact hy.wpOp hi hS ⟨hS, H⟩
   · have h1 := H.2 j (ready_mono hj hji)
     obtain ⟨hjun, oj, hoj, hall⟩ := mem_ready.1 hj
     have hnot : ∀ e ∈ oj.after, Region.binds .any e = true -> e.on ≠ i := fun e he hb heq => by
       have h1 := hall e he hb
       have h0 := (mem_ready.1 hr).1
       rw [heq] at h1
       have h' : i < listed.size := by omega
       simp [h'] at h0 h1; rw [h0] at h1; cases h1
     have h2 := wpOp_putIf hoj (hfree j oj hoj hji hjun hnot) (fun cs b => hsel i oi cs b hi) (fun cs b => hsel j oj cs b hoj) hQ hy h1
     have hfree' : ∀ k ok, ops[k]? = some ok -> k ≠ i -> (listed.setIfInBounds j true).getD k true = false ->
         (∀ e ∈ ok.after, Region.binds .any e = true -> e.on ≠ i) -> oi.apart ops ok = true := fun k ok hk hki hun hno => by
       refine hfree k ok hk hki ?_ hno
       by_cases hjk : j = k
       · subst hjk; exact hjun
       · rw [getD_set_ne true hjk] at hun; exact hun
     refine wpOp_mono (fun a' w' h3 => ⟨h3.2.1, ih (listed.setIfInBounds j true) a' w' (by simp [hls]) (hdn.set hj) hfree' (ready_mono hr (Ne.symm hji)) h3.1 h3.2.1 ?_⟩) h2
     rw [Array.setIfInBounds_comm _ _ hji]
     exact h3.2.2
def wpAnyJ (P : Program) (ops : Array Oper) (Q : Exit -> Act -> World -> Prop) (S : World -> Prop) (j n : Nat) : Nat -> Array Bool -> Act -> World -> Prop
 | 0, listed, a, w => Region.seqB .any ops (ops.toList.drop n).length n listed = true /\ wpList P ops Q (ops.toList.drop n) a w
 | f + 1, listed, a, w => Region.ready .any ops listed ≠ [] /\ ∀ i ∈ Region.ready .any ops listed, wpOp P ops Q i (fun a' w' => ((listed.setIfInBounds i true).getD j false = true ∨ S w') /\ wpAnyJ P ops Q S j n f (listed.setIfInBounds i true) a' w') a w
theorem wpAnyJ_mono (h : ∀ w, S w -> S' w) {j n : Nat} : ∀ {f : Nat} {listed : Array Bool} {a : Act} {w : World}, wpAnyJ P ops Q S j n f listed a w -> wpAnyJ P ops Q S' j n f listed a w
 | 0, _, _, _, hh => hh
 | f + 1, _, _, _, hh => ⟨hh.1, fun i hi => wpOp_mono (fun a' w' h' => ⟨h'.1.imp id (h w'), wpAnyJ_mono h h'.2⟩) (hh.2 i hi)⟩
theorem wpAnyJ_done {j n : Nat} : ∀ {f : Nat} {listed : Array Bool} {a : Act} {w : World}, listed.getD j false = true -> wpAnyJ P ops Q S j n f listed a w -> wpAnyJ P ops Q S' j n f listed a w
 | 0, _, _, _, _, hh => hh
 | f + 1, _, _, _, hj, hh => ⟨hh.1, fun i hi => wpOp_mono (fun a' w' h' => ⟨.inl (getD_set_false hj), wpAnyJ_done (getD_set_false hj) h'.2⟩) (hh.2 i hi)⟩
theorem wpAny_of_J {j n : Nat} (hn : n <= ops.size) : ∀ {f : Nat} {listed : Array Bool} {a : Act} {w : World}, wpAnyJ P ops Q S j n f listed a w -> wpAny P .any ops Q (f + (ops.toList.drop n).length) listed a w
 | 0, listed, a, w, h => by
   have := wpAny_of_seq (md := .any) (Q' := Q) (ops.toList.drop n) n listed a w (fun j => by simp [List.getElem?_drop]) h.1 h.2
   rwa [Nat.zero_add]
 | f + 1, listed, a, w, h => by
   rw [show f + 1 + (ops.toList.drop n).length = f + (ops.toList.drop n).length + 1 by omega]
   exact ⟨fun h0 => absurd h0 h.1, fun i hi => wpOp_mono (fun a' w' h' => wpAny_of_J hn h'.2) (h.2 i hi)⟩
theorem wpAnyJ_first {j n : Nat} (hn : n <= ops.size) (ht : TailWaits ops n) {i : Nat} {oi : Oper} {v : Value} (hin : i < n) (hi : ops[i]? = some oi) (hsel : ∀ (j : Nat) (o : Oper) cs b, ops[j]? = some o -> o.op ≠ .select cs b)
   (hQ : ∀ c a w, Q (.panic c) (a.put oi.dst v) w -> Q (.panic c) a w) (hij : i ≠ j) (hSS : ∀ w, S w -> S' w)
   (hj : (∀ w, S' w) ∨ ∀ listed, Down ops listed -> listed.getD j false = true -> listed.getD i false = true) :
   ∀ (f : Nat) (listed : Array Bool) (a : Act) (w : World), listed.size = ops.size -> Down ops listed ->
     (∀ j oj, ops[j]? = some oj -> j ≠ i -> listed.getD j true = false -> (∀ e ∈ oj.after, Region.binds .any e = true -> e.on ≠ i) -> oi.apart ops oj = true) ->
     i ∈ Region.ready .any ops listed -> YieldsIf P ops S' oi v a -> (listed.getD j false = true ∨ S w) ->
     wpAnyJ P ops Q S j n f (listed.setIfInBounds i true) (a.put oi.dst v) w -> wpAnyJ P ops Q S j n (f + 1) listed a w := by
 have holds : ∀ (listed : Array Bool) (w : World), listed.size = ops.size -> Down ops listed -> i ∈ Region.ready .any ops listed -> (listed.getD j false = true ∨ S w) -> S' w := by
   intro listed w hls hdn hr hR
   rcases hj with hj | hj
   · exact hj w
   · rcases hR with hR | hR
     · exfalso
       have h1 := hj listed hdn hR
       have h0 := (mem_ready.1 hr).1
       have h' : i < listed.size := by omega
       simp [h'] at h0 h1; rw [h0] at h1; cases h1
     · exact hSS w hR
 intro f
 induction f with
 | zero =>
   intro listed a w hls hdn hfree hr hy hS H
   refine ⟨fun h => (by rw [h] at hr; cases hr), fun k hk => ?_⟩
   by_cases hki : k = i
   · subst hki; exact hy.wpOp hi (holds listed w hls hdn hr hS) ⟨hS.imp getD_set_false id, H⟩
   · have := seqB_ready H.1 k (ready_mono hk hki)
     exact absurd hk (tail_not_ready ht hdn hls hin hn (mem_ready.1 hr).1 this)
 | succ f ih =>
   intro listed a w hls hdn hfree hr hy hS H
   refine ⟨fun h => (by rw [h] at hr; cases hr), fun k hk => ?_⟩
   by_cases hki : k = i
   · subst hki; exact hy.wpOp hi (holds listed w hls hdn hr hS) ⟨hS.imp getD_set_false id, H⟩
   · have h1 := H.2 k (ready_mono hk hki)
     obtain ⟨hjun, oj, hoj, hall⟩ := mem_ready.1 hk
     have hnot : ∀ e ∈ oj.after, Region.binds .any e = true -> e.on ≠ i := fun e he hb heq => by
       have h1 := hall e he hb
       have h0 := (mem_ready.1 hr).1
       rw [heq] at h1
       have h' : i < listed.size := by omega
       simp [h'] at h0 h1; rw [h0] at h1; cases h1
     have hyt : YieldsIf P ops S' oi v a := hy
     have h2 := wpOp_putIf hoj (hfree k oj hoj hki hjun hnot) (fun cs b => hsel i oi cs b hi) (fun cs b => hsel k oj cs b hoj) hQ hyt h1
     have hfree' : ∀ l ok, ops[l]? = some ok -> l ≠ i -> (listed.setIfInBounds k true).getD l true = false ->
         (∀ e ∈ ok.after, Region.binds .any e = true -> e.on ≠ i) -> oi.apart ops ok = true := fun l ok hl hli hun hno => by
       refine hfree l ok hl hli ?_ hno
       by_cases hkl : k = l
       · subst hkl; exact hjun
       · rw [getD_set_ne true hkl] at hun; exact hun
     refine wpOp_mono (fun a' w' h3 => ?_) h2
     have hR : (listed.setIfInBounds k true).getD j false = true ∨ S w' := by
       refine h3.2.1.imp (fun hh => ?_) id
       rw [Array.setIfInBounds_comm _ _ (Ne.symm hki), getD_set_ne false hij] at hh
       exact hh
     refine ⟨hR, ih (listed.setIfInBounds k true) a' w' (by simp [hls]) (hdn.set hk) hfree' (ready_mono hr (Ne.symm hki)) h3.1 hR ?_⟩
     rw [Array.setIfInBounds_comm _ _ hki]
     exact h3.2.2
theorem tb_eq (m i : Nat) : tbM m i = m.testBit i := by
 unfold tbM
 rw [Nat.testBit_eq_decide_div_mod_eq, show Nat.land (Nat.shiftRight m i) 1 = m / 2 ^ i % 2 from by
   show (m >>> i) &&& 1 = _
   rw [Nat.and_one_is_mod, Nat.shiftRight_eq_div_pow]]
 rw [Bool.eq_iff_iff, Nat.beq_eq, decide_eq_true_eq]
theorem tb_bit (i k : Nat) : (bitM i).testBit k = decide (i = k) := Nat.testBit_two_pow ..
theorem tb_lor (a b k : Nat) : (Nat.lor a b).testBit k = (a.testBit k || b.testBit k) := Nat.testBit_or ..
theorem tb_land (a b k : Nat) : (Nat.land a b).testBit k = (a.testBit k && b.testBit k) := Nat.testBit_and ..
theorem tb_mask (k : Nat) : ∀ l : List Nat, (bitsM l).testBit k = decide (k ∈ l)
 | [] => by simp [bitsM]
 | i :: r => by
   rw [bitsM, tb_lor, tb_bit, tb_mask k r]
   by_cases h : i = k
   · simp [h]
   · have : ¬ k = i := fun e => h e.symm
     simp [h, this]
theorem mem_edges {k : Nat} : ∀ {l : List Edge}, k ∈ edgesL l ↔ ∃ e ∈ l, Region.binds .any e = true /\ e.on = k
 | [] => by simp [edgesL]
 | e :: r => by
   unfold edgesL
   cases hb : Region.binds .any e with
   | true =>
     simp only [cond_true, List.mem_cons, mem_edges (l := r)]
     constructor
     · rintro (h | ⟨e', h1, h2⟩)
       · exact ⟨e, .inl rfl, hb, h.symm⟩
       · exact ⟨e', .inr h1, h2⟩
     · rintro ⟨e', h1 | h1, h2, h3⟩
       · subst h1; exact .inl h3.symm
       · exact .inr ⟨e', h1, h2, h3⟩
   | false =>
     simp only [cond_false, List.mem_cons, mem_edges (l := r)]
     constructor
     · rintro ⟨e', h1, h2⟩
       exact ⟨e', .inr h1, h2⟩
     · rintro ⟨e', h1 | h1, h2, h3⟩
       · subst h1; rw [hb] at h2; cases h2
       · exact ⟨e', h1, h2, h3⟩
theorem sub_mask {a d : Nat} : Nat.beq (Nat.land a d) a = true ↔ ∀ k, a.testBit k = true -> d.testBit k = true := by
 rw [Nat.beq_eq]
 constructor
 · intro h k hk
   have : (Nat.land a d).testBit k = true := by rw [h]; exact hk
   rw [tb_land, hk, Bool.true_and] at this
   exact this
 · intro h
   apply Nat.eq_of_testBit_eq
   intro k
   rw [tb_land]
   cases hk : a.testBit k with
   | false => rfl
   | true => rw [h k hk]; rfl
theorem land_zero {a b : Nat} (h : Nat.beq (Nat.land a b) 0 = true) (k : Nat) (ha : a.testBit k = true) : b.testBit k = false := by
 have := Nat.eq_of_beq_eq_true h
 have h2 : (Nat.land a b).testBit k = false := by rw [this]; simp
 rwa [tb_land, ha, Bool.true_and] at h2
structure Rl (ops : Array Oper) (listed : Array Bool) (d : Nat) : Prop where
 size : listed.size = ops.size
 bits : ∀ i, listed.getD i false = d.testBit i
theorem Rl.none : Rl ops (Array.replicate ops.size false) 0 := ⟨by simp, fun i => by
 simp only [Array.getD_eq_getD_getElem?, Array.getElem?_replicate, Nat.zero_testBit]
 split <;> rfl⟩
theorem Rl.set {listed : Array Bool} {d i : Nat} (h : Rl ops listed d) (hi : i < ops.size) : Rl ops (listed.setIfInBounds i true) (Nat.lor d (bitM i)) := by
 refine ⟨by simp [h.size], fun k => ?_⟩
 rw [tb_lor, tb_bit, <- h.bits k]
 simp only [Array.getD_eq_getD_getElem?, Array.getElem?_setIfInBounds]
 have hs := h.size
 by_cases hk : i = k
 · subst hk
   simp [hs, hi]
 · simp [hk]
theorem Rl.un {listed : Array Bool} {d i : Nat} (h : Rl ops listed d) (hi : i < ops.size) : listed.getD i true = d.testBit i := by
 rw [<- h.bits i]
 have : i < listed.size := by rw [h.size]; exact hi
 simp [this]
theorem prepL_get (all : List OI) : ∀ (l : List Oper) (i k : Nat), (prepL all i l)[k]? = (l[k]?).map fun o => { af := bitsM (edgesL o.after.toList), cf := (match all[i + k]? with | some x => confL x (i + k) 0 all | none => 0), lt := lightB o }
 | [], _, _ => by simp [prepL]
 | o :: r, i, k => by
   unfold prepL
   cases k with
   | zero => rfl
   | succ k => simp only [List.getElem?_cons_succ, prepL_get all r (i + 1) k, show i + 1 + k = i + (k + 1) by omega]
theorem prep_get {i : Nat} {o : Oper} (h : ops[i]? = some o) : (prep ops)[i]? = some { af := bitsM (edgesL o.after.toList), cf := confL (infoO ops o) i 0 (ops.toList.map (infoO ops)), lt := lightB o } := by
 unfold prep
 rw [prepL_get]
 have h' : ops.toList[i]? = some o := by simpa using h
 simp [h', h]
theorem prep_size : (prep ops).length = ops.size := by
 have aux : ∀ (all : List OI) (l : List Oper) (i : Nat), (prepL all i l).length = l.length := by
   intro all l
   induction l with
   | nil => intro i; rfl
   | cons o r ih => intro i; simp [prepL, ih]
 unfold prep
 rw [aux]
 simp
theorem prep_some {i : Nat} {p : OP} (h : (prep ops)[i]? = some p) : ∃ o, ops[i]? = some o := by
 have : i < ops.size := by rw [<- prep_size]; exact (List.getElem?_eq_some_iff.1 h).1
 exact ⟨_, Array.getElem?_eq_getElem this⟩
theorem confL_spec {x : OI} {i : Nat} : ∀ {l : List OI} {j : Nat} {k : Nat} {y : OI}, l[k]? = some y -> (confL x i j l).testBit (j + k) = false -> j + k = i ∨ tbM y.af i = true ∨ apartM x y = true
 | [], j, k, y, h, _ => by simp at h
 | z :: r, j, k, y, h, hc => by
   unfold confL at hc
   cases k with
   | zero =>
     simp only [List.getElem?_cons_zero, Option.some.injEq] at h
     subst h
     cases hb : (Nat.beq j i || (tbM z.af i || apartM x z)) with
     | true =>
       simp only [Bool.or_eq_true] at hb
       rcases hb with h1 | h1 | h1
       · exact .inl (Nat.eq_of_beq_eq_true h1)
       · exact .inr (.inl h1)
       · exact .inr (.inr h1)
     | false =>
       rw [hb] at hc
       simp only [cond_false, Nat.add_zero] at hc
       rw [tb_lor, tb_bit] at hc
       simp at hc
   | succ k =>
     simp only [List.getElem?_cons_succ] at h
     have : (confL x i (j + 1) r).testBit (j + 1 + k) = false := by
       rw [show j + 1 + k = j + (k + 1) by omega]
       cases hb : (Nat.beq j i || (tbM z.af i || apartM x z)) with
       | true => rw [hb] at hc; exact hc
       | false =>
         rw [hb] at hc
         simp only [cond_false] at hc
         rw [tb_lor] at hc
         simp only [Bool.or_eq_false_iff] at hc
         exact hc.2
     have := confL_spec h this
     rwa [show j + 1 + k = j + (k + 1) by omega] at this
theorem apartM_spec {o o' : Oper} (h : apartM (infoO ops o) (infoO ops o') = true) : o.apart ops o' = true := by
 unfold apartM infoO at h
 simp only [Bool.and_eq_true] at h
 obtain ⟨h1, h2, h3⟩ := h
 unfold Oper.apart
 cases hd : o.dst with
 | none =>
   cases hd' : o'.dst with
   | none => rfl
   | some t' =>
     rw [hd'] at h3
     have := land_zero h3 t' (by simp [dstM, tb_bit])
     rw [tb_mask] at this
     simpa using this
 | some t =>
   rw [hd] at h1 h2
   have e1 := land_zero h1 t (by simp [dstM, tb_bit])
   rw [tb_mask] at e1
   have e1 : t ∉ o'.looksAt ops := by simpa using e1
   have e2 := land_zero h2 t (by simp [dstM, tb_bit])
   have e2' : o'.dst ≠ some t := by
     intro e
     rw [e] at e2
     simp [dstM, tb_bit] at e2
   cases hd' : o'.dst with
   | none => simp [e1]
   | some t' =>
     rw [hd'] at h3
     have e3 := land_zero h3 t' (by simp [dstM, tb_bit])
     rw [tb_mask] at e3
     have e3 : t' ∉ o.looksAt ops := by simpa using e3
     rw [hd'] at e2'
     simp only [ne_eq, Option.some.injEq] at e2'
     simp [e1, e3, e2']
theorem rdy_iff {listed : Array Bool} {d i : Nat} {o : Oper} (h : Rl ops listed d) (ho : ops[i]? = some o) {c : Nat} {b : Bool} : rdyM { af := bitsM (edgesL o.after.toList), cf := c, lt := b } d i = true ↔ i ∈ Region.ready .any ops listed := by
 rw [mem_ready]
 have hi : i < ops.size := (Array.getElem?_eq_some_iff.1 ho).1
 rw [h.un hi]
 unfold rdyM
 rw [tb_eq, Bool.and_eq_true, sub_mask]
 refine and_congr (by simp) ?_
 constructor
 · intro hs
   refine ⟨o, ho, fun e he hb => ?_⟩
   rw [h.bits]
   refine hs _ ?_
   rw [tb_mask, decide_eq_true_eq, mem_edges]
   exact ⟨e, by simpa using he, hb, rfl⟩
 · rintro ⟨o', ho', hall⟩ k hk
   rw [ho] at ho'
   cases ho'
   rw [tb_mask, decide_eq_true_eq, mem_edges] at hk
   obtain ⟨e, he, hb, rfl⟩ := hk
   rw [<- h.bits]
   exact hall e (by simpa using he) hb
theorem rdyL_eq {listed : Array Bool} {d : Nat} (h : Rl ops listed d) : Region.ready .any ops listed = rdyL d 0 (prep ops) := by
 have aux : ∀ (l : List OP) (f : Nat -> Bool) (i : Nat), (∀ k p, l[k]? = some p -> f (i + k) = rdyM p d (i + k)) -> (List.range' i l.length).filter f = rdyL d i l := by
   intro l f
   induction l with
   | nil => intro i _; rfl
   | cons p r ih =>
     intro i hf
     have h0 := hf 0 p rfl
     rw [Nat.add_zero] at h0
     have hr := ih (i + 1) fun k q hk => by
       have := hf (k + 1) q (by simpa using hk)
       rwa [show i + (k + 1) = i + 1 + k by omega] at this
     rw [List.length_cons, List.range'_succ, List.filter_cons, h0, hr]
     have e : rdyL d i (p :: r) = bif rdyM p d i then i :: rdyL d (i + 1) r else rdyL d (i + 1) r := rfl
     rw [e]
     cases rdyM p d i <;> rfl
 unfold Region.ready
 rw [List.range_eq_range', <- prep_size]
 refine aux _ _ 0 fun k p hk => ?_
 obtain ⟨o, ho⟩ := prep_some hk
 rw [prep_get ho] at hk
 cases hk
 rw [Nat.zero_add]
 have h1 := @rdy_iff ops listed d k o h ho (confL (infoO ops o) k 0 (ops.toList.map (infoO ops))) (lightB o)
 rw [Bool.eq_iff_iff, h1]
 unfold Region.ready
 rw [List.mem_filter, List.mem_range]
 exact (and_iff_right (Array.getElem?_eq_some_iff.1 ho).1).symm
theorem lightM_spec {listed : Array Bool} {d i n : Nat} {p : OP} (h : Rl ops listed d) (hp : (prep ops)[i]? = some p) (hl : lightM n d i p = true) : ∃ o, ops[i]? = some o /\ lightB o = true /\ i < n /\ i ∈ Region.ready .any ops listed /\
   (∀ j oj, ops[j]? = some oj -> j ≠ i -> listed.getD j true = false -> (∀ e ∈ oj.after, Region.binds .any e = true -> e.on ≠ i) -> o.apart ops oj = true) := by
 obtain ⟨o, ho⟩ := prep_some hp
 rw [prep_get ho] at hp
 cases hp
 unfold lightM at hl
 simp only [Bool.and_eq_true] at hl
 obtain ⟨h1, h2, h3, h4⟩ := hl
 refine ⟨o, ho, h1, by simpa using h2, (rdy_iff h ho).1 h3, fun j oj hoj hne hun hno => ?_⟩
 have hj : j < ops.size := (Array.getElem?_eq_some_iff.1 hoj).1
 rw [h.un hj] at hun
 have hc : (confL (infoO ops o) i 0 (ops.toList.map (infoO ops))).testBit j = false := by
   cases hcb : (confL (infoO ops o) i 0 (ops.toList.map (infoO ops))).testBit j with
   | false => rfl
   | true => rw [sub_mask.1 h4 j hcb] at hun; cases hun
 have hget : (ops.toList.map (infoO ops))[j]? = some (infoO ops oj) := by simp [hoj]
 rcases confL_spec (j := 0) hget (by rw [Nat.zero_add]; exact hc) with h5 | h5 | h5
 · rw [Nat.zero_add] at h5; exact absurd h5 hne
 · rw [tb_eq] at h5
   unfold infoO at h5
   simp only at h5
   rw [tb_mask, decide_eq_true_eq, mem_edges] at h5
   obtain ⟨e, he, hb, hon⟩ := h5
   exact absurd hon (hno e (by simpa using he) hb)
 · exact apartM_spec h5
theorem findM_spec {n d : Nat} : ∀ {l : List OP} {j i : Nat}, findM n d j l = some i -> ∃ k p, i = j + k /\ l[k]? = some p /\ lightM n d i p = true
 | [], j, i, h => by cases h
 | p :: r, j, i, h => by
   unfold findM at h
   cases hb : lightM n d j p with
   | true =>
     rw [hb] at h
     simp only [cond_true, Option.some.injEq] at h
     subst h
     exact ⟨0, p, rfl, rfl, hb⟩
   | false =>
     rw [hb] at h
     obtain ⟨k, q, rfl, h2, h3⟩ := findM_spec h
     exact ⟨k + 1, q, by omega, by simpa using h2, h3⟩
theorem seqM_spec : ∀ {g k d : Nat} {listed : Array Bool}, Rl ops listed d -> seqM (prep ops) g k d = true -> Region.seqB .any ops g k listed = true
 | 0, k, d, listed, h, hs => by
   unfold seqM at hs
   unfold Region.seqB
   rw [rdyL_eq h]
   cases hr : rdyL d 0 (prep ops) with
   | nil => rfl
   | cons a r => rw [hr] at hs; cases hs
 | g + 1, k, d, listed, h, hs => by
   unfold seqM at hs
   unfold Region.seqB
   split at hs
   · rename_i j hr
     simp only [Bool.and_eq_true] at hs
     have := Nat.eq_of_beq_eq_true hs.1
     subst this
     have hmem : j ∈ Region.ready .any ops listed := by rw [rdyL_eq h, hr]; exact List.mem_singleton.2 rfl
     obtain ⟨_, o, ho, _⟩ := mem_ready.1 hmem
     rw [rdyL_eq h, hr, seqM_spec (h.set (Array.getElem?_eq_some_iff.1 ho).1) hs.2]
     simp
   · cases hs
theorem upL_spec {n i : Nat} : ∀ {l : List OP} {j : Nat}, (upL n j l).testBit i = true -> ∃ k p, l[k]? = some p /\ j + k < n /\ i < j + k /\ p.af.testBit i = true
 | [], j, h => by simp [upL] at h
 | p :: r, j, h => by
   unfold upL at h
   cases hb : Nat.blt j n with
   | false => rw [hb] at h; simp at h
   | true =>
     rw [hb] at h
     simp only [cond_true] at h
     rw [tb_lor, Bool.or_eq_true, tb_land, Bool.and_eq_true] at h
     rcases h with ⟨h1, h2⟩ | h
     · have : i < j := by
         have e : Nat.sub (bitM j) 1 = 2 ^ j - 1 := rfl
         rw [e, Nat.testBit_two_pow_sub_one] at h2
         simpa using h2
       exact ⟨0, p, rfl, by simpa using hb, by omega, h1⟩
     · obtain ⟨k, q, h1, h2, h3, h4⟩ := upL_spec h
       exact ⟨k + 1, q, by simpa using h1, by omega, by omega, h4⟩
theorem tailM_spec {pl : List OP} {n : Nat} : ∀ {l : List OP} {i : Nat}, tailM pl n i l = true -> ∀ k p, l[k]? = some p -> n <= i + k -> allW pl p n = true
 | [], i, _, k, p, hk, _ => by simp at hk
 | q :: r, i, h, k, p, hk, hn => by
   simp only [tailM, Bool.and_eq_true] at h
   cases k with
   | zero =>
     simp only [List.getElem?_cons_zero, Option.some.injEq] at hk
     subst hk
     have h1 := h.1
     simp only [Bool.or_eq_true] at h1
     rcases h1 with h1 | h1
     · simp at h1; omega
     · exact h1
   | succ k => exact tailM_spec h.2 k p (by simpa using hk) (by omega)
theorem tail_waits' {n : Nat} (h : tailM (prep ops) n 0 (prep ops) = true) : TailWaits ops n := by
 intro listed hd t hnt hr
 obtain ⟨_, o, ho, hall⟩ := mem_ready.1 hr
 have hw := tailM_spec h t _ (prep_get ho) (by omega)
 have hw' : ∀ i, i < n -> (∃ e ∈ o.after, Region.binds .any e = true /\ e.on = i) ∨ ∃ j oj, i < j /\ j < n /\ ops[j]? = some oj /\ ∃ e ∈ oj.after, Region.binds .any e = true /\ e.on = i := by
   intro i hi
   have e : lowM n = 2 ^ n - 1 := rfl
   have hbit : (lowM n).testBit i = true := by
     rw [e, Nat.testBit_two_pow_sub_one]
     simpa using hi
   have hb : Nat.land (Nat.lor (bitsM (edgesL o.after.toList)) (upL n 0 (prep ops))) (lowM n) = lowM n := Nat.eq_of_beq_eq_true hw
   rw [<- hb, tb_land, Bool.and_eq_true, tb_lor, Bool.or_eq_true] at hbit
   rcases hbit.1 with h1 | h1
   · rw [tb_mask, decide_eq_true_eq, mem_edges] at h1
     obtain ⟨e, he, hb, hon⟩ := h1
     exact .inl ⟨e, by simpa using he, hb, hon⟩
   · obtain ⟨k, p, h2, h3, h4, h5⟩ := upL_spec h1
     obtain ⟨ok, hok⟩ := prep_some h2
     rw [prep_get hok] at h2
     cases h2
     simp only at h5
     rw [tb_mask, decide_eq_true_eq, mem_edges] at h5
     obtain ⟨e, he, hb, hon⟩ := h5
     exact .inr ⟨k, ok, by omega, by omega, hok, e, by simpa using he, hb, hon⟩
 suffices hs : ∀ d i, i < n -> n - i <= d -> listed.getD i false = true from fun i hi => hs (n - i) i hi (Nat.le_refl _)
 intro d
 induction d with
 | zero => intro i hi hd; omega
 | succ d ih =>
   intro i hi hle
   rcases hw' i hi with ⟨e, he, hb, hon⟩ | ⟨j, oj, hj1, hj2, hoj, e, he, hb, hon⟩
   · exact hon ▸ hall e he hb
   · exact hon ▸ hd j oj hoj (ih j hj2 (by omega)) e he hb
theorem headT_le {pl : List OP} : ∀ t, headT pl t <= t
 | 0 => Nat.le_refl _
 | t + 1 => by
   unfold headT
   split
   · rename_i p _
     cases allW pl p t with
     | true => simp only [cond_true]; exact Nat.le_succ_of_le (headT_le t)
     | false => simp
   · exact Nat.le_refl _
theorem headD_le {pl : List OP} : ∀ t, headD pl t <= t
 | 0 => Nat.le_refl _
 | t + 1 => by
   unfold headD
   split
   · rename_i p _
     cases Nat.beq (Nat.land p.af (lowM t)) (lowM t) with
     | true => simp only [cond_true]; exact Nat.le_succ_of_le (headD_le t)
     | false => simp
   · exact Nat.le_refl _
theorem headM_le {pl : List OP} (t : Nat) : headM pl t <= t := by
 unfold headM
 cases tailM pl (headT pl t) 0 pl with
 | true => exact headT_le t
 | false => exact headD_le t
end Go.Ab


namespace Go.Ab
variable {P : Program} {G : Ctx} {s : St} {a : Act} {w : World} {m : Nat -> Value} {o : Oper}
def InlOK (P : Program) (E : Env) (f : Nat) (T : Inl) : Prop :=
 (Enters P f /\ ∀ {G : Ctx} {s : St} {a : Act} {w : World} {m : Nat -> Value} {args : List AV} {vals : List Value} {K : St -> List AV -> Prop}, G.P = P -> G.E = E -> Holds G s a w m -> VRelL (G.rc s.objs m w) args vals -> T s args K ->
   Calls P f vals.toArray w fun e w' => ∃ s' m' rs rvals, e = .returned (retVal rvals) /\ K s' rs /\ Holds G s' a w' m' /\ VRelL (G.rc s'.objs m' w') rs rvals) ∨
 (∀ {G : Ctx} {s : St} {a : Act} {w : World} {m : Nat -> Value} {args : List AV} {vals : List Value} {K : St -> List AV -> Prop}, G.P = P -> G.E = E -> Holds G s a w m -> VRelL (G.rc s.objs m w) args vals -> T s args K ->
   ∃ w' s' m' rs rvals, (callFunc f vals.toArray).run P w = .ok (.value (retVal rvals)) w' /\ K s' rs /\ Holds G s' a w' m' /\ VRelL (G.rc s'.objs m' w') rs rvals)
theorem exec_native {fx : Operand} {args : Array Operand} {ts : Array TypeId} (ho : o.op = .call { callee := .value fx, args, argTypes := ts }) {g : Nat} {caps : Array Value} (hv : a.eval fx = .func (.func g) #[] caps) {v : Value} {w' : World}
   (hr : (callFunc g ((args.toList.map a.eval).toArray ++ caps)).run P w = .ok (.value v) w') : (execOp a.eval o).run P w = .ok (.value v) w' := by
 have e : args.map a.eval = (args.toList.map a.eval).toArray := by rw [<- Array.toList_map]
 have e0 : #[] ++ args.map a.eval = (args.toList.map a.eval).toArray := by rw [e]; simp
 simp only [execOp, ho, resolve, hv, Deferred.ofValue, Sem.run_bind, Sem.run_pure, Result.andThen_ok, invoke, e0, hr]
theorem op_inl (hP : G.P = P) (h : Holds G s a w m) {fx : Operand} {args : Array Operand} {ts : Array TypeId} (ho : o.op = .call { callee := .value fx, args, argTypes := ts }) {g : Nat} {caps : List AV} (hf : s.eval fx = .fn g caps)
   {T : Inl} (hT : InlOK P G.E g T) {K : St -> Prop} (hk : T s (args.toList.map s.eval ++ caps) fun s' rs => K (s'.put o.dst (tupV rs))) : Ok P G a w o K := by
 have rf := eval_ok h fx
 rw [hf] at rf
 obtain ⟨cs0, hv0, hcs0⟩ := rf
 have e : (args.toList.map a.eval ++ cs0).toArray = (args.toList.map a.eval).toArray ++ cs0.toArray := by simp
 rcases hT with ⟨hT1, hT2⟩ | hT
 · intro next Q hn
   unfold Oper.wp
   rw [exec_value ho hv0 hT1, Oper.upon_enter]
   have := hT2 hP rfl h (VRelL.append (evals_ok h args.toList) hcs0) hk
   rw [e] at this
   refine Calls.mono this fun e w' he => ?_
   obtain ⟨s', m', rs, rvals, rfl, hK, hh, hr⟩ := he
   exact hn _ _ w' m' hK (hh.put (tup_ok hr) o.dst)
 · obtain ⟨w', s', m', rs, rvals, hr, hK, hh, hv⟩ := hT hP rfl h (VRelL.append (evals_ok h args.toList) hcs0) hk
   rw [e] at hr
   intro next Q hn
   unfold Oper.wp
   rw [exec_native ho hv0 hr, Oper.upon_value]
   exact hn _ _ w' m' hK (hh.put (tup_ok hv) o.dst)
def RegOK (P : Program) (E : Env) (r : Reg) : Prop := ∀ {G : Ctx} {s : St} {a : Act} {w : World} {m : Nat -> Value} {K : St -> Prop} {Q : Exit -> Act -> World -> Prop} {id : Nat} {ops : Array Oper}, G.P = P -> G.E = E -> Holds G s a w m -> eqOps ops.toList r.ops = true -> r.T s K ->
 (∀ s' a' w' m', K s' -> Holds G s' a' w' m' -> Q .normal a' w') -> (Code.region id ops false).wp P Q a w
structure ProgOK (P : Program) (E : Env) : Prop where
 env : EnvOK P E
 specs : ∀ f sp, look E.specs f = some sp -> FOK P E f sp
 clos : ClosOK P E
 inl : ∀ f T, look E.inl f = some T -> InlOK P E f T
 mixed : P.follows .mixedOrders = true
 reg : ∀ id r, look E.reg id = some r -> RegOK P E r := by intro _ _ h; cases h
def OkH (P : Program) (G : Ctx) (s : St) (a : Act) (w : World) (m : Nat -> Value) (o : Oper) (K : St -> Prop) : Prop :=
 ∀ next Q, (∀ s' val w' m', K s' -> Holds G s' (a.put o.dst val) w' m' -> Keep (fun b => touchB o = true /\ arrO s m b) w w' -> (∀ b, b < w.heap.size -> arrO s' m' b -> arrO s m b) -> next (a.put o.dst val) w') -> o.wp P a w next Q
theorem Ok1.okH {K : K1} {K' : St -> Prop} (h : Holds G s a w m) (h1 : Ok1 P G s a w m o K) (hk : ∀ v news, K v news -> K' ((s.add news).put o.dst v)) : OkH P G s a w m o K' := by
 intro next Q hn
 refine h1 next Q fun v news val w' m' hK hkeep hO hle hv => hn _ val w' m' (hk v news hK) ?_ (hkeep.weaken fun _ _ f => f.elim) ?_
 · have : Holds G (s.add news) a w' m' := { o := hO, tmps := h.tmps.mono hle, defers := h.defers, kp := h.kp.mono hle }
   exact this.put hv o.dst
 · have hm : ∀ j, j < s.objs.length -> m' j = m j := hle.m
   rintro b hb ⟨i, t, xs, f, hi, hbi⟩
   rw [put_objs] at hi
   rcases Nat.lt_or_ge i s.objs.length with hlt | hge
   · simp only [St.add] at hi
     rw [List.getElem?_append_left hlt] at hi
     exact ⟨i, t, xs, f, hi, by rw [<- hm i hlt]; exact hbi⟩
   ·
     exfalso
     have hown : ¬ ¬ Own s.objs m b := fun hno => (hle.S b hb hno).1 ⟨i, _, hi, hbi⟩
     refine hown fun ⟨j, p, hj, hbj⟩ => ?_
     have hjlt := get_lt hj
     have := hO.disj j i p _ b (by rw [List.getElem?_append_left hjlt]; exact hj) hi (by rw [hm j hjlt]; exact hbj) hbi
     omega
theorem OkH.ok {K : St -> Prop} (h : OkH P G s a w m o K) : Ok P G a w o K := fun next Q hn => h next Q fun s' val w' m' hk hh _ _ => hn s' val w' m' hk hh
theorem op_appendH (hE : EnvOK P G.E) (h : Holds G s a w m) {x0 x : Operand} {args : Array Operand} {ts : Array TypeId} (ho : o.op = .call { callee := .builtin .append, args, argTypes := ts }) (ha : args.toList = [x0, x]) {i : Nat} {t : Ty} {zs : List t.den} {fx : Bool} (hi : s.objs[i]? = some (some (.arr t zs fx)))
   {xs : List t.den} (hr : ∃ vs, RowF w t.size (a.eval x0) xs.length vs /\ Chunks G.E (G.rc s.objs m w).X w t xs vs /\ ∀ b, rows (a.eval x0) b -> rows (m i) b) {K : St -> Prop}
   (hk : appendV G.E s ts.toList i t xs (s.eval x) o.dst K) : OkH P G s a w m o K := by
 unfold appendV at hk
 split at hk
 · rename_i u u' hts
   split at hk
   · rename_i e hb hkd
     have := Nat.eq_of_beq_eq_true hb
     subst this
     split at hk
     · rename_i hty
       cases hE' : G.E.ty e with
       | none => rw [hE'] at hty; cases hty
       | some t' =>
         rw [hE'] at hty
         simp only [Option.map_some, Option.some.injEq, decide_eq_true_eq] at hty
         subst hty
         unfold appendV.go at hk
         split at hk
         · rename_i ys hx
           obtain ⟨vs, h1, h2, h3⟩ := hr
           rw [toList_two ha, toList_two hts] at ho
           obtain ⟨val, w', hex, hh, hkp, har⟩ := op_appendOwn' hE h ho hi h1 h2 h3 hkd hE' hx hk.1
           intro next Q hn
           unfold Oper.wp
           rw [hex, Oper.upon_value]
           refine hn _ val w' _ hk.2 hh (hkp.weaken fun b _ hb => ⟨by rw [touchB, ho], i, _, _, _, hi, hb⟩) fun b hb ha => ?_
           rcases har b ha with h4 | h4 | h4
           · exact h4
           · exact ⟨i, _, _, _, hi, h4⟩
           · omega
         · cases hk
     · cases hk
   · cases hk
 · cases hk
theorem op_buildH (hE : EnvOK P G.E) (hP : G.P = P) (h : Holds G s a w m) {K : St -> Prop} (l : List Nat)
   (hk : op1 G.E (s.freezes l).eval (s.freezes l).heap (s.freezes l).objs.length o fun v news => K (((s.freezes l).add news).put o.dst v)) : OkH P G s a w m o K := by
 have h' := h.freezes l
 have := (op1_ok hP hE h' hk).okH h' (fun v news hk => hk)
 intro next Q hn
 exact this next Q fun s' val w' m' hK hh hkp har => hn s' val w' m' hK hh (hkp.weaken fun b _ hb => ⟨hb.1, freezes_arrO l hb.2⟩) fun b hb hb2 => freezes_arrO l (har b hb hb2)
theorem aop_ok (hE : ProgOK P G.E) (hP : G.P = P) (h : Holds G s a w m) {K : St -> Prop} (hk : aop G.E s o K) : Ok P G a w o K := by
 unfold aop at hk
 split at hk
 ·
   rename_i t x v ho
   split at hk
   · rename_i i hi
     split at hk
     · rename_i e
       exact op_store hE.env (h.freezes _) ho hi hk
     · exact op_store hE.env h ho hi hk
   · cases hk
 ·
   rename_i x ho
   split at hk
   · rename_i i sz hi' hx
     split at hk
     · rename_i t xs hi
       split at hk
       · rename_i hsz
         have := Nat.eq_of_beq_eq_true hsz
         subst this
         exact op_narrow h ho hx hi hk.1 hk.2
       · cases hk
     · exact (op1_ok hP hE.env h hk).ok h fun _ _ hk => hk
   · exact (op1_ok hP hE.env h hk).ok h fun _ _ hk => hk
 · exact (op_buildH hE.env hP h _ hk).ok
 ·
   rename_i args ts ho
   split at hk
   · rename_i i x hx
     split at hk
     · rename_i t xs f hi
       obtain ⟨x0, x', hx', e1, rfl⟩ := map_two hx
       exact op_append hE.env h ho hx' (heap_get hi) (run_append_os h e1 hi) hk
     · cases hk
   · rename_i i sz hi' x hx
     split at hk
     · rename_i t xs f hi
       split at hk
       · rename_i hsz
         obtain ⟨x0, x', hx', e1, rfl⟩ := map_two hx
         obtain ⟨hle, hk⟩ := hk
         have := Nat.eq_of_beq_eq_true hsz
         subst this
         exact op_append hE.env h ho hx' (heap_get hi) (run_append_oss h e1 hi hle) hk
       · cases hk
     · cases hk
   · exact (op1_ok hP hE.env h hk).ok h fun _ _ hk => hk
 ·
   rename_i args ts ho
   split at hk
   · rename_i i x u u' hx hts
     split at hk
     · rename_i t xs fx z hi hz
       split at hk
       · rename_i hb
         obtain ⟨x0, x', hx', e1, rfl⟩ := map_two hx
         rw [toList_two hx', toList_two hts] at ho
         refine op_copy hE.env h ho hi hz (Nat.eq_of_beq_eq_true hb) (fun ad n cap hm hn _ _ => ?_) hk
         have r := eval_ok h x0
         rw [e1] at r
         have hv : a.eval x0 = m i := r.2.1
         rw [hm] at hv
         refine ⟨ad, cap, by rw [hv, hn]; rfl, fun _ => ?_⟩
         cases ad with
         | none => rfl
         | some ad => simp only [Option.map_some, Nat.zero_mul]; unfold Addr.add; split <;> simp_all
       · cases hk
     · cases hk
   · rename_i i sz lo hi' x u u' hx hts
     split at hk
     · rename_i t xs fx z hi hz
       split at hk
       · rename_i hb hb2
         obtain ⟨x0, x', hx', e1, rfl⟩ := map_two hx
         rw [toList_two hx', toList_two hts] at ho
         have e2 := Nat.eq_of_beq_eq_true hb2
         subst e2
         refine op_copy hE.env h ho hi hz (Nat.eq_of_beq_eq_true hb) (fun ad n cap hm hn _ _ => ?_) hk
         have r := eval_ok h x0
         rw [e1] at r
         obtain ⟨_, ad2, n2, cap2, ad', hm2, h1, h2, h3, h4, hv⟩ := r
         have hm2' : m i = .slice ad2 n2 cap2 := hm2
         rw [hm] at hm2'
         simp only [Value.slice.injEq] at hm2'
         obtain ⟨rfl, rfl, rfl⟩ := hm2'
         exact ⟨ad', _, hv, h4⟩
       · cases hk
     · cases hk
   · cases hk
 ·
   rename_i args ts ho
   split at hk
   · rename_i i sz lo hi' u hx hts
     split at hk
     · rename_i t xs fx z hi hz
       split at hk
       · rename_i hb hb2
         obtain ⟨x0, hx', e1⟩ := map_one hx
         rw [toList_one hx', toList_one hts] at ho
         have e2 := Nat.eq_of_beq_eq_true hb2
         subst e2
         refine op_clear hE.env h ho hi hz (Nat.eq_of_beq_eq_true hb) (fun ad n cap hm hn _ _ => ?_) hk
         have r := eval_ok h x0
         rw [e1] at r
         obtain ⟨_, ad2, n2, cap2, ad', hm2, h1, h2, h3, h4, hv⟩ := r
         have hm2' : m i = .slice ad2 n2 cap2 := hm2
         rw [hm] at hm2'
         simp only [Value.slice.injEq] at hm2'
         obtain ⟨rfl, rfl, rfl⟩ := hm2'
         exact ⟨ad', _, hv, h4⟩
       · cases hk
     · cases hk
   · cases hk
 ·
   rename_i f args ts ho
   split at hk
   · rename_i g hf
     split at hk
     · rename_i sp hl
       exact op_callF hP hE.clos h ho hf (hE.specs g sp hl) hk
     · unfold inlV at hk
       split at hk
       · rename_i T hT
         exact op_inl hP h ho hf (hE.inl g T hT) (by simpa using hk)
       · cases hk
   · rename_i g c cs hf
     unfold inlV at hk
     split at hk
     · rename_i T hT
       exact op_inl hP h ho hf (hE.inl g T hT) hk
     · cases hk
   · exact (op1_ok hP hE.env h hk).ok h fun _ _ hk => hk
 · exact (op1_ok hP hE.env h hk).ok h fun _ _ hk => hk
theorem aopH_ok (hE : ProgOK P G.E) (hP : G.P = P) (h : Holds G s a w m) {K : St -> Prop} (hk : aopH G.E s o K) : OkH P G s a w m o K := by
 unfold aopH at hk
 split at hk
 · cases hk
 · exact (op1_ok hP hE.env h hk).okH h fun _ _ hk => hk
 · cases hk
 · cases hk
 · rename_i f args ts ho
   split at hk
   · rename_i g hf
     split at hk
     · rename_i sp hl
       split at hk
       · rename_i hg
         intro next Q hn
         exact op_callF' hP hE.clos h ho hf (hE.specs g sp hl) hk next Q fun s' val w' m' hK hh hx => hn s' val w' m' hK hh ((hx hg).1.weaken fun _ _ f => f.elim) (hx hg).2
       · cases hk
     · cases hk
   · exact (op1_ok hP hE.env h hk).okH h fun _ _ hk => hk
 · rename_i h1 h5 h2 h4 h3
   unfold aop at hk
   split at hk
   · rename_i t x v ho; exact absurd ho (h1 t x v)
   · rename_i x ho; exact absurd ho (h5 x)
   · exact op_buildH hE.env hP h _ hk
   ·
     rename_i args ts ho
     split at hk
     · rename_i i x hx
       split at hk
       · rename_i t xs f hi
         obtain ⟨x0, x', hx', e1, rfl⟩ := map_two hx
         exact op_appendH hE.env h ho hx' (heap_get hi) (run_append_os h e1 hi) hk
       · cases hk
     · rename_i i sz hi' x hx
       split at hk
       · rename_i t xs f hi
         split at hk
         · rename_i hsz
           obtain ⟨x0, x', hx', e1, rfl⟩ := map_two hx
           obtain ⟨hle, hk⟩ := hk
           have := Nat.eq_of_beq_eq_true hsz
           subst this
           exact op_appendH hE.env h ho hx' (heap_get hi) (run_append_oss h e1 hi hle) hk
         · cases hk
       · cases hk
     · exact (op1_ok hP hE.env h hk).okH h fun _ _ hk => hk
   · rename_i args ts ho; exact absurd ho (h2 args ts)
   · rename_i args ts ho; exact absurd ho (h4 args ts)
   · rename_i f args ts ho; exact absurd ho (h3 f args ts)
   · exact (op1_ok hP hE.env h hk).okH h fun _ _ hk => hk
end Go.Ab


namespace Go.Ab
variable {G : Ctx}
structure Fewer (c c' : RC) : Prop where
 P : c'.P = c.P
 E : c'.E = c.E
 m : c'.m = c.m
 w : c'.w = c.w
 S : ∀ b, c.S b -> c'.S b
 X : ∀ b, c.X b -> c'.X b
theorem VRel.le_d {c c' : RC} (hf : Fewer c c') {t : Ty} {x : t.den} {v : Value} (r : VRel c (.d t x) v) : VRel c' (.d t x) v := by
 simp only [VRel] at *
 exact ⟨r.1, by rw [hf.E, hf.w]; exact rep_X r.2 hf.X⟩
mutual
theorem VRel.le {c c' : RC} (hf : Fewer c c') : ∀ {x y : AV} {v : Value}, AV.le x y -> y.wf c'.n = true -> VRel c x v -> VRel c' y v
 | x, .any, v, _, _, _ => by simp only [VRel]
 | .d t x, .d u y, v, h, _, r => by
   simp only [AV.le] at h
   split at h
   · rename_i e
     subst e
     cases h
     exact r.le_d hf
   · cases h
 | .lb a, .d u y, v, h, hw, r => by
   cases u <;> first | (simp only [AV.le] at h; done) | skip
   simp only [AV.le] at h
   subst h
   simp only [VRel] at r
   subst r
   exact mk_bool _
 | .d t a, .lb b, v, h, hw, r => by
   cases t <;> first | (simp only [AV.le] at h; done) | skip
   simp only [AV.le] at h
   subst h
   simp only [VRel] at r ⊢
   simpa [Rep] using r.2
 | .lb a, .lb b, v, h, _, r => by simp only [AV.le] at h; subst h; exact r
 | .emp a, .emp b, v, h, _, r => by simp only [AV.le] at h; subst h; exact r
 | .os i, .os j, v, h, hw, r => by
   simp only [AV.le] at h
   subst h
   simp only [VRel, AV.wf] at *
   exact ⟨by simpa using hw, by rw [hf.m]; exact r.2⟩
 | .oss i sz a b, .oss j sz2 a2 b2, v, h, hw, r => by
   simp only [AV.le] at h
   obtain ⟨rfl, rfl, rfl, rfl⟩ := h
   simp only [VRel, AV.wf] at *
   exact ⟨by simpa using hw, by rw [hf.m]; exact r.2⟩
 | .p i a, .p j b, v, h, hw, r => by
   simp only [AV.le] at h
   obtain ⟨rfl, rfl⟩ := h
   simp only [VRel, AV.wf] at *
   exact ⟨by simpa using hw, by rw [hf.m]; exact r.2⟩
 | .pe i n k a, .pe j m l b, v, h, hw, r => by
   simp only [AV.le] at h
   obtain ⟨rfl, rfl, rfl, rfl⟩ := h
   simp only [VRel, AV.wf] at *
   exact ⟨by simpa using hw, by rw [hf.m]; exact r.2⟩
 | .pc a, .pc b, v, h, hw, r => by
   simp only [AV.le] at h
   simp only [VRel, AV.wf] at *
   obtain ⟨bb, o, rfl, hb, hS, cs, hc, r⟩ := r
   exact ⟨bb, o, rfl, by rw [hf.w]; exact hb, hf.S bb hS, cs, by rw [hf.w]; exact hc, VRelL.le hf h hw r⟩
 | .agg a, .agg b, v, h, hw, r => by
   simp only [AV.le] at h
   simp only [VRel, AV.wf] at *
   obtain ⟨vs, rfl, r⟩ := r
   exact ⟨vs, rfl, VRelL.le hf h hw r⟩
 | .tup a, .tup b, v, h, hw, r => by
   simp only [AV.le] at h
   simp only [VRel, AV.wf] at *
   obtain ⟨vs, rfl, r⟩ := r
   exact ⟨vs, rfl, VRelL.le hf h hw r⟩
 | .fn f a, .fn g b, v, h, hw, r => by
   simp only [AV.le] at h
   obtain ⟨rfl, h⟩ := h
   simp only [VRel, AV.wf] at *
   obtain ⟨vs, rfl, r⟩ := r
   exact ⟨vs, rfl, VRelL.le hf h hw r⟩
 | .fp as b q, .fp as' b' q', v, h, _, r => by
   simp only [AV.le] at h
   split at h
   · rename_i e
     obtain ⟨rfl, rfl⟩ := e
     cases h
     simp only [VRel] at *
     rw [hf.P, hf.E, hf.w]
     exact r.mono (Nat.le_refl _) fun k _ hk => ⟨hf.S k hk, rfl⟩
   · cases h
 | .ifc t x, .ifc u y, v, h, hw, r => by
   simp only [AV.le] at h
   obtain ⟨rfl, h⟩ := h
   simp only [VRel, AV.wf] at *
   obtain ⟨z, rfl, r⟩ := r
   exact ⟨z, rfl, VRel.le hf h hw r⟩
 | .nili, .nili, v, _, _, r => r
 | .oz i, .oz j, v, h, hw, r => by
   simp only [AV.le] at h
   subst h
   simp only [VRel, AV.wf] at *
   exact ⟨by simpa using hw, by rw [hf.m]; exact r.2⟩
theorem VRelL.le {c c' : RC} (hf : Fewer c c') : ∀ {l r : List AV} {vs : List Value}, AV.leL l r -> AV.wfL c'.n r = true -> VRelL c l vs -> VRelL c' r vs
 | [], [], vs, _, _, h => h
 | x :: l, y :: r, vs, hl, hw, h => by
   have hl' : AV.le x y /\ AV.leL l r := by
     cases y <;> simp only [AV.leL] at hl
     case any => exact ⟨by cases x <;> simp only [AV.le], hl⟩
     all_goals exact hl
   simp only [AV.wfL, Bool.and_eq_true] at hw
   simp only [VRelL] at *
   obtain ⟨v, q, rfl, h1, h2⟩ := h
   exact ⟨v, q, rfl, VRel.le hf hl'.1 hw.1 h1, VRelL.le hf hl'.2 hw.2 h2⟩
end
theorem objs_le : ∀ {l r : List (Option Obj)}, Obj.leL l r -> ∀ {i : Nat} {p : Obj}, r[i]? = some (some p) -> ∃ q, l[i]? = some (some q) /\
   ((∃ cs cs', q = .box cs /\ p = .box cs' /\ AV.leL cs cs') ∨ (∃ t xs f, q = .arr t xs f /\ p = q) ∨ (∃ t xs, q = .zone t xs /\ p = q))
 | l, [], _, i, p, hp => by simp at hp
 | [], y :: r, h, i, p, hp => by simp only [Obj.leL] at h
 | x :: l, y :: r, h, i, p, hp => by
   simp only [Obj.leL] at h
   cases i with
   | succ i => simpa using objs_le h.2 (by simpa using hp)
   | zero =>
     simp only [List.getElem?_cons_zero, Option.some.injEq] at hp
     subst hp
     have h1 := h.1
     cases x with
     | none => simp only [Obj.le] at h1
     | some q =>
       refine ⟨q, rfl, ?_⟩
       cases q with
       | box cs =>
         cases p with
         | box cs' => simp only [Obj.le] at h1; exact .inl ⟨cs, cs', rfl, rfl, h1⟩
         | arr _ _ _ => simp only [Obj.le] at h1
         | zone _ _ => simp only [Obj.le] at h1
       | zone t xs =>
         cases p with
         | box _ => simp only [Obj.le] at h1
         | arr _ _ _ => simp only [Obj.le] at h1
         | zone u ys =>
           simp only [Obj.le] at h1
           split at h1
           · rename_i e
             subst e
             cases h1
             exact .inr (.inr ⟨_, _, rfl, rfl⟩)
           · cases h1
       | arr t xs f =>
         cases p with
         | box _ => simp only [Obj.le] at h1
         | zone _ _ => simp only [Obj.le] at h1
         | arr u ys g =>
           simp only [Obj.le] at h1
           obtain ⟨h1, rfl⟩ := h1
           split at h1
           · rename_i e
             subst e
             cases h1
             exact .inr (.inl ⟨_, _, _, rfl, rfl⟩)
           · cases h1
theorem wfL_get {n : Nat} : ∀ {l : List (Option Obj)}, Obj.wfL n l = true -> ∀ {i : Nat} {cs : List AV}, l[i]? = some (some (.box cs)) -> AV.wfL n cs = true
 | [], _, i, cs, h => by simp at h
 | x :: l, hw, i, cs, h => by
   cases i with
   | zero =>
     simp only [List.getElem?_cons_zero, Option.some.injEq] at h
     subst h
     simp only [Obj.wfL, Bool.and_eq_true] at hw
     exact hw.1
   | succ i =>
     have : Obj.wfL n l = true := by
       cases x with
       | none => exact hw
       | some q =>
         cases q with
         | box _ => simp only [Obj.wfL, Bool.and_eq_true] at hw; exact hw.2
         | arr _ _ _ => exact hw
         | zone _ _ => exact hw
     exact wfL_get this (by simpa using h)
theorem Holds.le {s t : St} {a : Act} {w : World} {m : Nat -> Value} (h : Holds G s a w m) (hle : s.le t) (hlen : G.n0 <= t.objs.length) : Holds G t a w m := by
 unfold St.le at hle
 split at hle
 · rename_i hwf
   unfold St.wf at hwf
   simp only [Bool.and_eq_true] at hwf
   obtain ⟨hwf, hwf3⟩ := hwf
   obtain ⟨h1, h2, h3⟩ := hle
   have hown : ∀ b, Own t.objs m b -> Own s.objs m b := by
     rintro b ⟨i, p, hi, hb⟩
     obtain ⟨q, hq, _⟩ := objs_le h2 hi
     exact ⟨i, q, hq, hb⟩
   have hF : Fewer (G.rc s.objs m w) (G.rc t.objs m w) :=
     { P := rfl, E := rfl, m := rfl, w := rfl, S := fun b hb ho => hb (hown b ho), X := fun b hb => ⟨hb.1, fun ho => hb.2 (hown b ho)⟩ }
   refine { o := { rel := ?_, disj := ?_, keep := h.o.keep, new := fun b hb => h.o.new b (hown b hb), len := hlen, fix := ?_ }, tmps := h.tmps.le hF h1 hwf.1, defers := h.defers, kp := h.kp.le hF h3 hwf3 }
   · intro i p hi
     obtain ⟨q, hq, hpq⟩ := objs_le h2 hi
     refine ORel.changed (c := G.rc s.objs m w) rfl (Nat.le_refl _) (fun b _ hb => ⟨hF.X b hb, rfl⟩) (fun b _ => rfl) (h.o.rel i q hq) ?_
     rcases hpq with ⟨cs, cs', rfl, rfl, hl⟩ | ⟨u, ys, f, rfl, rfl⟩ | ⟨u, ys, rfl, rfl⟩
     · exact .inl ⟨cs, cs', rfl, rfl, fun vs hv => hv.le hF hl (wfL_get hwf.2 hi)⟩
     · exact .inr (.inl ⟨u, ys, f, rfl, rfl⟩)
     · exact .inr (.inr ⟨u, ys, rfl, rfl⟩)
   · intro i j p q b hi hj hbi hbj
     obtain ⟨p', hp', _⟩ := objs_le h2 hi
     obtain ⟨q', hq', _⟩ := objs_le h2 hj
     exact h.o.disj i j p' q' b hp' hq' hbi hbj
   · intro i p hi hn hf
     obtain ⟨q, hq, hpq⟩ := objs_le h2 hi
     refine h.o.fix i q hq hn ?_
     rcases hpq with ⟨cs, cs', rfl, rfl, _⟩ | ⟨u, ys, f, rfl, rfl⟩ | ⟨u, ys, rfl, rfl⟩
     · rfl
     · exact hf
     · exact hf
 · cases hle
end Go.Ab


namespace Go.Ab
variable {P : Program} {G : Ctx} {s : St} {a : Act} {w : World} {m : Nat -> Value} {o : Oper} {ops : Array Oper} {Q : Exit -> Act -> World -> Prop}
theorem ltP_ok (hP : G.P = P) (hE : EnvOK P G.E) (h : Holds G s a w m) (hl : lightB o = true) (h1 : ∀ t x, o.op ≠ .load t x) (h2 : ∀ a b x, o.op ≠ .convert a b x) {K : AV -> Prop}
   (hk : op1 G.E s.eval s.heap s.objs.length o fun v _ => K v) : OkP P G s a w m o (fun v _ => K v) := by
 unfold op1 at hk
 unfold lightB at hl
 split at hk
 · rename_i x ho; exact op_move h (.inl ho) hk
 · rename_i x ho; rw [ho] at hl; cases hl
 · rename_i c x y ho
   obtain ⟨b, hb, hk⟩ := pickP_ok hk
   exact op_pick h ho hb hk
 · rename_i t ho; rw [ho] at hl; cases hl
 · rename_i t x ho; rw [ho] at hl; cases hl
 · rename_i t parts ho
   split at hk
   · rename_i i hi
     split at hk
     · rename_i cs hag hb; exact op_build hE h ho hi hag hb hk
     · cases hk
   · cases hk
 · rename_i t len parts ho; rw [ho] at hl; cases hl
 · rename_i t x ho; exact absurd ho (h1 t x)
 · rename_i x ho
   split at hk
   · rename_i e; exact op_nilCheck h ho (.inl ⟨_, _, e⟩) (by rw [e]; exact hk)
   · rename_i e; exact op_nilCheck h ho (.inr (.inl ⟨_, e⟩)) (by rw [e]; exact hk)
   · rename_i e; exact op_nilCheck h ho (.inr (.inr (.inl ⟨_, _, _, _, e⟩))) (by rw [e]; exact hk)
   · rename_i e; exact op_nilCheck h ho (.inr (.inr (.inr (.inl ⟨_, _, _, e⟩)))) (by rw [e]; exact hk)
   · rename_i e; exact op_nilCheck h ho (.inr (.inr (.inr (.inr ⟨_, _, e⟩)))) (by rw [e]; exact hk)
   · cases hk
 · rename_i op t x y u ho; exact op_bin hP hE h ho hk
 · rename_i op t x ho
   split at hk
   · rename_i b e; exact op_not h ho (b := b) (by rw [e]; rfl) (.inl rfl) hk
   · rename_i b e; exact op_not h ho (b := b) (by rw [e]; rfl) (.inr rfl) hk
   · rename_i k n e; exact op_neg h ho e hk
   · cases hk
 · rename_i src dst x ho; exact absurd ho (h2 src dst x)
 · rename_i t x ho
   split at hk
   · rename_i k ht; exact op_iface hE h ho ht (.inr (.inr ⟨_, rfl⟩)) hk
   · rename_i ht; exact op_iface hE h ho ht (.inl rfl) hk
   · rename_i ht; exact op_iface hE h ho ht (.inr (.inl rfl)) hk
   · cases hk
 · rename_i f first captured ho
   split at hk
   · rename_i hf; exact op_fn h ho hf hk
   · cases hk
 · rename_i t xl xc ho; rw [ho] at hl; cases hl
 · rename_i t x lo hi ho; exact op_slice hE h ho hk
 · rename_i t x f ho; exact op_fieldAddr hE h ho hk
 · rename_i t x f ho; exact op_field hE h ho hk
 · rename_i t x i ho; exact op_indexAddr hE h ho hk
 · rename_i t x i ho
   split at hk
   · rename_i l k n hx hi ht; exact op_index hE h ho hx hi ht hk
   · cases hk
 · rename_i t i ho
   split at hk
   · rename_i l hl
     split at hk
     · rename_i v hv; exact op_extract h ho hl hv hk
     · cases hk
   · cases hk
 · rename_i x xT t ok ho
   split at hk
   · rename_i v hx
     split at hk
     · rename_i h2; exact op_assert hE h ho hx (.inl ⟨Nat.eq_of_beq_eq_true h2, hk⟩)
     · rename_i h2 _; exact op_assert hE h ho hx (.inr (.inl ⟨Nat.eq_of_beq_eq_true h2, hk⟩))
     · rename_i h2 _ _; exact op_assert hE h ho hx (.inr (.inr ⟨Nat.eq_of_beq_eq_true h2, hk⟩))
     · cases hk
   · cases hk
 · rename_i b args ts ho
   rw [ho] at hl
   split at hk
   · rename_i x hx
     split at hk
     · rename_i t ht
       obtain ⟨x', hx', rfl⟩ := map_one hx
       exact op_len hE h ho hx' ht hk
     · cases hk
   · rename_i k p k' q hx
     obtain ⟨x', y', hx', e1, e2⟩ := map_two hx
     obtain ⟨rfl, hk⟩ := hk
     exact op_mm (mx := false) h (by rw [ho, toList_two hx']; rfl) e1 e2 hk
   · rename_i k p k' q hx
     obtain ⟨x', y', hx', e1, e2⟩ := map_two hx
     obtain ⟨rfl, hk⟩ := hk
     exact op_mm (mx := true) h (by rw [ho, toList_two hx']; rfl) e1 e2 hk
   · cases hl
   · cases hk
 · rename_i f args ts ho; rw [ho] at hl; cases hl
 · cases hk
theorem lt_ok {O : Nat -> Prop} (hP : G.P = P) (hE : EnvOK P G.E) (h : Holds G s a w m) (hO : ∀ b, O b -> arrO s m b) (hl : lightB o = true) (hpe : (∃ t x i n k f, o.op = .load t x /\ s.eval x = .pe i n k f) -> ∀ b, ¬ O b) (hcv : (∃ src dst x, o.op = .convert src dst x /\ ∀ k n, s.eval x ≠ .d (.int k) n) -> ∀ b, ¬ O b) {K : AV -> Prop}
   (hk : op1 G.E s.eval s.heap s.objs.length o fun v _ => K v) : OkL P G s a w m o O (fun v _ => K v) := by
 by_cases hL : ∃ t x, o.op = .load t x
 · obtain ⟨t, x, ho⟩ := hL
   unfold op1 at hk
   rw [ho] at hk
   exact op_load hE h hO (fun ⟨i, n, k, f, e⟩ => hpe ⟨t, x, i, n, k, f, ho, e⟩) ho hk
 · by_cases hC : ∃ a b x, o.op = .convert a b x
   · obtain ⟨src, dst, x, ho⟩ := hC
     unfold op1 at hk
     rw [ho] at hk
     exact op_convertL hE h ho (fun hn => hcv ⟨src, dst, x, ho, hn⟩) hk
   · exact (ltP_ok hP hE h hl (fun t x e => hL ⟨t, x, e⟩) (fun a b x e => hC ⟨a, b, x, e⟩) hk).okL
def touchO (touch : Bool) (s : St) (m : Nat -> Value) (b : Nat) : Prop := touch = true /\ arrO s m b
theorem aopL_ok {touch : Bool} (hP : G.P = P) (hE : EnvOK P G.E) (h : Holds G s a w m) (hl : lightB o = true) {K : AV -> Prop} (hk : aopL G.E touch s o K) : OkL P G s a w m o (touchO touch s m) (fun v _ => K v) := by
 have hO : ∀ b, touchO touch s m b -> arrO s m b := fun b hb => hb.2
 unfold aopL at hk
 split at hk
 · rename_i t x ho
   split at hk
   · cases hk
   · rename_i hne
     refine op_load hE h hO (fun ⟨i, n, k, f, e⟩ => ?_) ho hk
     exact absurd e (hne i n k f)
 · rename_i src dst x ho
   split at hk
   · rename_i k n e
     refine op_convertL hE h ho (fun hn => absurd e (hn k n)) (by rw [e]; exact hk)
   · cases hk
 · rename_i hne hne2
   refine lt_ok hP hE h hO hl (fun ⟨t, x, i, n, k, f, ho, e⟩ b hb => ?_) (fun ⟨src, dst, x, ho, e⟩ b hb => ?_) hk
   · exact hne t x hb.1 ho
   · exact hne2 src dst x hb.1 ho
theorem bool_at {c : RC} {s : St} {a : Act} (ht : VRelL c s.tmps a.tmps.toList) {t : Nat} {v : AV} (hv : s.tmps.getD t .any = v) (hne : v ≠ .any) : ∃ u, a.tmps[t]? = some u /\ VRel c v u := by
 cases hx : s.tmps[t]? with
 | none => simp [List.getD, hx] at hv; exact absurd hv.symm hne
 | some y =>
   simp [List.getD, hx] at hv
   subst hv
   obtain ⟨u, hu, r⟩ := ht.get t y hx
   exact ⟨u, by rw [<- hu]; simp, r⟩
theorem guardD_ok (h : Holds G s a w m) {act skip : St -> Prop} (hg : guardD ops s o act skip) :
   (Region.wanted o (yielded ops a.tmps) = true /\ ∃ s', s'.objs = s.objs /\ Holds G s' a w m /\ act s') ∨
   (Region.wanted o (yielded ops a.tmps) = false /\ ∃ s', s'.objs = s.objs /\ Holds G s' a w m /\ skip s') := by
 unfold guardD at hg
 unfold Region.wanted
 split at hg
 · rename_i hgd
   rw [hgd]
   exact .inl ⟨rfl, s, rfl, h, hg⟩
 · rename_i j want hgd
   rw [hgd]
   simp only
   split at hg
   · cases hg
   · rename_i t ht
     split at hg
     · rename_i b hb
       obtain ⟨u, hu, r⟩ := bool_at h.tmps hb (by simp)
       have r : u = .bool b := r
       have hy : yielded ops a.tmps j = some b := by simp [yielded, ht, hu, r]
       rw [hy]
       split at hg
       · rename_i e
         have : b = want := by simpa using e
         subst this
         exact .inl ⟨by simp, s, rfl, h, hg⟩
       · rename_i e
         have : b ≠ want := by simpa using e
         exact .inr ⟨by simp [this], s, rfl, h, hg⟩
     · rename_i b hb
       obtain ⟨u, hu, r⟩ := bool_at h.tmps hb (by simp)
       have r : u = .bool b := by simpa [VRel, Rep] using r.2
       have hy : yielded ops a.tmps j = some b := by simp [yielded, ht, hu, r]
       rw [hy]
       have known : ∀ c : Bool, b = c -> Holds G (s.put (some t) (.lb c)) a w m := fun c hc => by
         subst hc
         refine { o := by rw [put_objs]; exact h.o, tmps := ?_, defers := h.defers, kp := by rw [put_objs]; exact h.kp }
         rw [put_objs]
         have := h.tmps.set t (.lb b) (.bool b) rfl
         have e : a.tmps.toList.set t (.bool b) = a.tmps.toList := by
           apply List.ext_getElem?
           intro k
           by_cases hk : t = k
           · subst hk
             have hlt : t < a.tmps.toList.length := by
               have := (Array.getElem?_eq_some_iff.1 hu).1
               simpa using this
             rw [List.getElem?_set_self hlt, Array.getElem?_toList, hu, r]
           · rw [List.getElem?_set_ne hk]
         rwa [e] at this
       cases b <;> cases want
       · exact .inl ⟨by simp, _, put_objs .., known false rfl, hg.1 rfl⟩
       · exact .inr ⟨by simp, _, put_objs .., known false rfl, hg.2 rfl⟩
       · exact .inr ⟨by simp, _, put_objs .., known true rfl, hg.2 rfl⟩
       · exact .inl ⟨by simp, _, put_objs .., known true rfl, hg.1 rfl⟩
     · rename_i hb
       obtain ⟨u, hu, r⟩ := bool_at h.tmps hb (by simp)
       obtain ⟨vs, r, r2⟩ := r
       have hy : yielded ops a.tmps j = none := by simp [yielded, ht, hu, r]
       rw [hy]
       exact .inr ⟨by simp, s, rfl, h, hg⟩
     · cases hg
theorem aops_ok (hE : ProgOK P G.E) (hP : G.P = P) : ∀ (l : List Oper) {s : St} {a : Act} {w : World} {m : Nat -> Value} {K : St -> Prop}, Holds G s a w m -> aops G.E ops l s K ->
   (∀ s' a' w' m', K s' -> Holds G s' a' w' m' -> Q .normal a' w') -> wpList P ops Q l a w
 | [], s, a, w, m, K, h, hk, hQ => hQ s a w m hk h
 | o :: l, s, a, w, m, K, h, hk, hQ => by
   unfold aops at hk
   unfold wpList
   rcases guardD_ok h hk with ⟨hw, s', _, h', hk⟩ | ⟨hw, s', _, h', hk⟩
   · rw [if_pos hw]
     exact .inl (aop_ok hE hP h' hk _ _ fun s2 val w2 m2 hk2 h2 => aops_ok hE hP l h2 hk2 hQ)
   · rw [if_neg (by simp [hw])]
     exact aops_ok hE hP l (h'.put (v := .tup []) (val := undef) ⟨[], rfl, rfl⟩ o.dst) hk hQ
theorem allD_spec {f : Nat -> Prop} : ∀ {l : List Nat}, allD f l -> ∀ i ∈ l, f i
 | [], _, i, hi => by cases hi
 | [j], h, i, hi => by
   simp only [List.mem_singleton] at hi
   subst hi; exact h
 | j :: k :: r, h, i, hi => by
   rcases List.mem_cons.1 hi with rfl | hi
   · exact h.1
   · exact allD_spec h.2 i hi
theorem touch_put {touch : Bool} {m : Nat -> Value} {dst : Option Nat} {v : AV} : touchO touch (s.put dst v) m = touchO touch s m := by
 funext b
 simp only [touchO, arrO, put_objs]
theorem touch_objs {touch : Bool} {m : Nat -> Value} {s' : St} (h : s'.objs = s.objs) : touchO touch s' m = touchO touch s m := by
 funext b
 simp only [touchO, arrO, h]
theorem segD_ok (hE : ProgOK P G.E) (hP : G.P = P) {touch : Bool} {n : Nat} (hn : n <= ops.size) (ht : TailWaits ops n) (hsel : Region.noSelect ops = true) (hnp : ∀ c a w, ¬ Q (.panic c) a w) {S : World -> Prop} {w : World} {m : Nat -> Value} {t : St} {f : Nat} (hlen : G.n0 <= t.objs.length) :
   ∀ (l : List Nat) {listed : Array Bool} {d : Nat} {s : St} {a : Act}, Rl ops listed d -> Down ops listed -> Holds G s a w m -> S = Keep (touchO touch s m) w -> segD G.E ops (prep ops) touch n l d s (fun s' => s'.le t) ->
     (∀ listed' a', Rl ops listed' (setAll l d) -> Down ops listed' -> Holds G t a' w m -> wpAnyT P ops Q S n f listed' a' w) -> wpAnyT P ops Q S n (f + l.length) listed a w
 | [], listed, d, s, a, hls, hdn, h, hS, hk, hc => hc listed a hls hdn (h.le hk hlen)
 | i :: l, listed, d, s, a, hls, hdn, h, hS, hk, hc => by
   unfold segD at hk
   split at hk
   · rename_i o hp ho
     split at hp
     case h_2 => cases hp
     rename_i p hpl
     obtain ⟨o', ho', hl, hin, hmem, hfree⟩ := lightM_spec hls hpl hp
     rw [ho] at ho'
     cases ho'
     have hsz : i < ops.size := (Array.getElem?_eq_some_iff.1 ho).1
     have hSw : S w := by rw [hS]; exact Keep.refl _ _
     have first : ∀ {v : Value}, YieldsIf P ops S o v a -> wpAnyT P ops Q S n (f + l.length) (listed.setIfInBounds i true) (a.put o.dst v) w ->
         wpAnyT P ops Q S n (f + l.length + 1) listed a w := fun {v} hy hh =>
       wpAnyT_first hn ht hin ho (Region.noSelect_spec hsel) (fun c a w hq => absurd hq (hnp c _ w)) _ listed a w hls.size hdn hfree hmem hy hSw hh
     rcases guardD_ok h hk with ⟨hw, s', hso, h', hk⟩ | ⟨hw, s', hso, h', hk⟩
     · obtain ⟨v, val, hk', hv, hr⟩ := aopL_ok hP hE.env h' hl hk
       rw [touch_objs hso, <- hS] at hr
       exact first (v := val) (.inl ⟨hw, hr⟩) (segD_ok hE hP hn ht hsel hnp hlen l (hls.set hsz) (hdn.set hmem) (h'.put hv o.dst) (by rw [touch_put, touch_objs hso]; exact hS) hk' hc)
     · exact first (v := undef) (.inr ⟨hw, rfl⟩) (segD_ok hE hP hn ht hsel hnp hlen l (hls.set hsz) (hdn.set hmem) (h'.put (v := .tup []) (val := undef) ⟨[], rfl, rfl⟩ o.dst) (by rw [touch_put, touch_objs hso]; exact hS) hk hc)
   · cases hk
theorem aopsD_ok (hE : ProgOK P G.E) (hP : G.P = P) {touch : Bool} {n : Nat} {sg : Segs} (hn : n <= ops.size) (ht : TailWaits ops n) (hsel : Region.noSelect ops = true) (hnp : ∀ c a w, ¬ Q (.panic c) a w) {K : St -> Prop}
   (htouch : touch = false -> ∀ (o : Oper), o ∈ ops -> touchB o = false)
   (hQ : ∀ s' a' w' m', K s' -> Holds G s' a' w' m' -> Q .normal a' w') :
   ∀ (g f : Nat) {listed : Array Bool} {d : Nat} {s : St} {a : Act} {w : World} {m : Nat -> Value}, Rl ops listed d -> Down ops listed -> Holds G s a w m -> aopsD G.E ops (prep ops) touch n sg g f d s K ->
     wpAnyT P ops Q (Keep (touchO touch s m) w) n f listed a w
 | 0, 0, listed, d, s, a, w, m, hls, hdn, h, hk => by
   unfold aopsD at hk
   simp only at hk
   split at hk
   · rename_i hs
     exact ⟨seqM_spec hls hs, aops_ok hE hP _ h hk hQ⟩
   · cases hk
 | 0, f + 1, listed, d, s, a, w, m, hls, hdn, h, hk => by
   unfold aopsD at hk
   cases hk
 | g + 1, 0, listed, d, s, a, w, m, hls, hdn, h, hk => by
   unfold aopsD at hk
   simp only at hk
   split at hk
   · rename_i hs
     exact ⟨seqM_spec hls hs, aops_ok hE hP _ h hk hQ⟩
   · cases hk
 | g + 1, f + 1, listed, d, s, a, w, m, hls, hdn, h, hk => by
   unfold aopsD at hk
   simp only at hk
   split at hk
   ·
     rename_i i hi
     obtain ⟨k, p, rfl, hpl, hp⟩ := findM_spec hi
     rw [Nat.zero_add] at hp hk
     obtain ⟨o, ho, hl, hin, hmem, hfree⟩ := lightM_spec hls hpl hp
     have hsz : k < ops.size := (Array.getElem?_eq_some_iff.1 ho).1
     split at hk
     case h_2 =>
       rename_i p _
       split at hk
       · rename_i hble
         have hle : p.1.length <= f := Nat.le_of_ble_eq_true hble
         have := segD_ok hE hP hn ht hsel hnp (t := segSt ops (k :: p.1) (p.2 s) s) (f := f - p.1.length) h.o.len (k :: p.1) hls hdn h rfl hk.1 (fun listed' a' hls' hdn' ht' => by
           have := aopsD_ok hE hP hn ht hsel hnp htouch hQ g (f - p.1.length) hls' hdn' ht' hk.2
           rwa [show touchO touch (segSt ops (k :: p.1) (p.2 s) s) m = touchO touch s m from touch_objs rfl] at this)
         rwa [show f - p.1.length + (k :: p.1).length = f + 1 by simp only [List.length_cons]; omega] at this
       · cases hk
     split at hk
     · cases hk
     · rename_i o2 ho2
       rw [ho] at ho2
       cases ho2
       have first : ∀ {v : Value}, YieldsIf P ops (Keep (touchO touch s m) w) o v a -> wpAnyT P ops Q (Keep (touchO touch s m) w) n f (listed.setIfInBounds k true) (a.put o.dst v) w ->
           wpAnyT P ops Q (Keep (touchO touch s m) w) n (f + 1) listed a w := fun {v} hy hh =>
         wpAnyT_first hn ht hin ho (Region.noSelect_spec hsel) (fun c a w hq => absurd hq (hnp c _ w)) f listed a w hls.size hdn hfree hmem hy (Keep.refl _ _) hh
       rcases guardD_ok h hk with ⟨hw, s', hso, h', hk⟩ | ⟨hw, s', hso, h', hk⟩
       · obtain ⟨v, val, hk', hv, hr⟩ := aopL_ok hP hE.env h' hl hk
         rw [touch_objs hso] at hr
         refine first (v := val) (.inl ⟨hw, hr⟩) ?_
         have := aopsD_ok hE hP hn ht hsel hnp htouch hQ g f (listed := listed.setIfInBounds k true) (hls.set hsz) (hdn.set hmem) (h'.put hv o.dst) hk'
         rwa [touch_put, touch_objs hso] at this
       · refine first (v := undef) (.inr ⟨hw, rfl⟩) ?_
         have := aopsD_ok hE hP hn ht hsel hnp htouch hQ g f (listed := listed.setIfInBounds k true) (hls.set hsz) (hdn.set hmem) (h'.put (v := .tup []) (val := undef) ⟨[], rfl, rfl⟩ o.dst) hk
         rwa [touch_put, touch_objs hso] at this
   ·
     split at hk
     · cases hk
     · rename_i rs hne
       have er := rdyL_eq hls
       refine ⟨fun h0 => hne (by rw [<- er]; exact h0), fun i hi => ?_⟩
       have hki := allD_spec hk i (by rw [<- er]; exact hi)
       split at hki
       · cases hki
       · rename_i o ho
         unfold wpOp
         rw [ho]
         simp only
         rcases guardD_ok h hki with ⟨hw, s', hso, h', hki⟩ | ⟨hw, s', hso, h', hki⟩
         · rw [if_pos hw]
           refine .inl ?_
           have main : ∀ (next : Act -> World -> Prop), (∀ s2 val w2 m2, aopsD G.E ops (prep ops) touch n sg g f (Nat.lor d (bitM i)) s2 K -> Holds G s2 (a.put o.dst val) w2 m2 -> Keep (touchO touch s m) w w2 ->
               (∀ b, b < w.heap.size -> touchO touch s2 m2 b -> touchO touch s m b) -> next (a.put o.dst val) w2) -> o.wp P a w next Q := by
             intro next hnext
             refine aopH_ok hE hP h' hki next Q fun s2 val w2 m2 hk2 h2 hkp har => ?_
             have ea : arrO s' m = arrO s m := by funext b; simp only [arrO, hso]
             rw [ea] at hkp har
             refine hnext s2 val w2 m2 hk2 h2 (hkp.weaken fun b _ hb => ⟨?_, hb.2⟩) fun b hb hb2 => ⟨hb2.1, har b hb hb2.2⟩
             cases htc : touch with
             | true => rfl
             | false =>
               have := htouch htc o (Array.mem_of_getElem? ho)
               rw [hb.1] at this
               cases this
           refine main _ fun s2 val w2 m2 hk2 h2 hkp har => ⟨hkp, ?_⟩
           refine wpAnyT_mono (fun w3 h3 => ?_) (aopsD_ok hE hP hn ht hsel hnp htouch hQ g f (hls.set (Array.getElem?_eq_some_iff.1 ho).1) (hdn.set hi) h2 hk2)
           exact { os := h3.os.trans hkp.os, tape := h3.tape.trans hkp.tape, output := h3.output.trans hkp.output, frozen := fun a ha => (h3.frozen a (Nat.lt_of_lt_of_le ha hkp.size)).trans (hkp.frozen a ha), size := Nat.le_trans hkp.size h3.size,
                   block := fun b hb hno => (h3.block b (Nat.lt_of_lt_of_le hb hkp.size) fun hh => hno (har b hb hh)).trans (hkp.block b hb hno) }
         · rw [if_neg (by simp [hw])]
           refine ⟨Keep.refl _ _, ?_⟩
           have := aopsD_ok hE hP hn ht hsel hnp htouch hQ g f (listed := listed.setIfInBounds i true) (hls.set (Array.getElem?_eq_some_iff.1 ho).1) (hdn.set hi) (h'.put (v := .tup []) (val := undef) ⟨[], rfl, rfl⟩ o.dst) hki
           rwa [touch_put, touch_objs hso] at this
theorem unionAf_spec {B : Nat -> Prop} (hB : ∀ k p, (prep ops)[k]? = some p -> B k -> ∀ i, p.af.testBit i = true -> B i) : ∀ {l : List OP} {i m : Nat}, (∀ k p, l[k]? = some p -> (prep ops)[i + k]? = some p) -> (∀ k, m.testBit k = true -> B k) -> ∀ k, (unionAf l i m).testBit k = true -> B k
 | [], i, m, _, hm, k, h => hm k h
 | p :: r, i, m, hl, hm, k, h => by
   unfold unionAf at h
   refine unionAf_spec hB (l := r) (i := i + 1) (fun k p hk => by
     have := hl (k + 1) p (by simpa using hk)
     rwa [show i + 1 + k = i + (k + 1) by omega]) (fun k hk => ?_) k h
   cases ht : tbM m i with
   | false => rw [ht] at hk; exact hm k hk
   | true =>
     rw [ht, cond_true, tb_lor, Bool.or_eq_true] at hk
     rcases hk with hk | hk
     · exact hm k hk
     · rw [tb_eq] at ht
       exact hB i p (by simpa using hl 0 p rfl) (hm i ht) k hk
theorem closeM_spec {B : Nat -> Prop} (hB : ∀ k p, (prep ops)[k]? = some p -> B k -> ∀ i, p.af.testBit i = true -> B i) : ∀ {g m : Nat}, (∀ k, m.testBit k = true -> B k) -> ∀ k, (closeM (prep ops) g m).testBit k = true -> B k
 | 0, m, hm, k, h => hm k h
 | g + 1, m, hm, k, h => closeM_spec hB (g := g) (fun k hk => unionAf_spec hB (fun k p hk => by simpa using hk) hm k hk) k h
theorem awaits_spec {j i : Nat} (h : awaits (prep ops) j i = true) : ∀ listed, Down ops listed -> listed.getD j false = true -> listed.getD i false = true := by
 intro listed hdn hlj
 have one : ∀ k p, (prep ops)[k]? = some p -> listed.getD k false = true -> ∀ i, p.af.testBit i = true -> listed.getD i false = true := by
   intro k p hp hk i hi
   obtain ⟨o, ho⟩ := prep_some hp
   rw [prep_get ho] at hp
   cases hp
   rw [tb_mask, decide_eq_true_eq] at hi
   obtain ⟨e, he, hb, hon⟩ := mem_edges.1 hi
   rw [<- hon]
   exact hdn k o ho hk e (Array.mem_toList_iff.1 he) hb
 unfold awaits at h
 split at h
 · rename_i p hp
   rw [tb_eq] at h
   exact closeM_spec (B := fun k => listed.getD k false = true) one (fun k hk => one j p hp hlj k hk) i h
 · cases h
theorem ins_light (hi : insB o = true) : (∀ t x, o.op ≠ .load t x) /\ ∀ a b x, o.op ≠ .convert a b x := by
 unfold insB at hi
 refine ⟨fun t x e => ?_, fun a b x e => ?_⟩ <;> (rw [e] at hi; cases hi)
theorem ins_ok {touch : Bool} (hP : G.P = P) (hE : EnvOK P G.E) (h : Holds G s a w m) (hl : lightB o = true) (hi : insB o = true) {K : AV -> Prop} (hk : aopL G.E touch s o K) : OkP P G s a w m o (fun v _ => K v) := by
 obtain ⟨h1, h2⟩ := ins_light hi
 unfold aopL at hk
 split at hk
 · rename_i t x ho; exact absurd ho (h1 t x)
 · rename_i src dst x ho; exact absurd ho (h2 src dst x)
 · exact ltP_ok hP hE h hl h1 h2 hk
theorem aopsE_ok (hE : ProgOK P G.E) (hP : G.P = P) {touch : Bool} {n j : Nat} (hn : n <= ops.size) (ht : TailWaits ops n) (hsel : Region.noSelect ops = true) (hnp : ∀ c a w, ¬ Q (.panic c) a w) {K : St -> Prop}
   (htouch : touch = false -> ∀ (o : Oper), o ∈ ops -> touchB o = false)
   (hQ : ∀ s' a' w' m', K s' -> Holds G s' a' w' m' -> Q .normal a' w') :
   ∀ (f : Nat) {listed : Array Bool} {d : Nat} {s : St} {a : Act} {w : World} {m : Nat -> Value}, Rl ops listed d -> Down ops listed -> Holds G s a w m -> aopsE G.E ops (prep ops) touch n j f d s K ->
     wpAnyJ P ops Q (Keep (touchO touch s m) w) j n f listed a w
 | 0, listed, d, s, a, w, m, hls, hdn, h, hk => by
   unfold aopsE at hk
   split at hk
   · rename_i hs
     exact ⟨seqM_spec hls hs, aops_ok hE hP _ h hk hQ⟩
   · cases hk
 | f + 1, listed, d, s, a, w, m, hls, hdn, h, hk => by
   unfold aopsE at hk
   split at hk
   ·
     rename_i i hi
     obtain ⟨k, p, rfl, hpl, hp⟩ := findM_spec hi
     rw [Nat.zero_add] at hp hk
     obtain ⟨o, ho, hl, hin, hmem, hfree⟩ := lightM_spec hls hpl hp
     have hsz : k < ops.size := (Array.getElem?_eq_some_iff.1 ho).1
     split at hk
     · cases hk
     · rename_i o2 ho2
       rw [ho] at ho2
       cases ho2
       obtain ⟨hc, hk⟩ := gate_ok hk
       · simp only [Bool.and_eq_true, Bool.or_eq_true, Bool.not_eq_true'] at hc
         have hij : k ≠ j := fun e => by
           have := hc.1
           rw [e, Nat.beq_refl] at this; cases this
         rcases guardD_ok h hk with ⟨hw, s', hso, h', hk⟩ | ⟨hw, s', hso, h', hk⟩
         · rcases hc.2 with hins | haw
           · obtain ⟨v, val, hk', hv, hr⟩ := ins_ok hP hE.env h' hl hins hk
             have := aopsE_ok hE hP hn ht hsel hnp htouch hQ f (listed := listed.setIfInBounds k true) (hls.set hsz) (hdn.set hmem) (h'.put hv o.dst) hk'
             rw [touch_put, touch_objs hso] at this
             exact wpAnyJ_first (S' := fun _ => True) hn ht hin ho (Region.noSelect_spec hsel) (fun c a w hq => absurd hq (hnp c _ w)) hij (fun _ _ => trivial) (.inl fun _ => trivial) f listed a w hls.size hdn hfree hmem (.inl ⟨hw, fun w' _ => hr w'⟩) (.inr (Keep.refl _ _)) this
           · obtain ⟨v, val, hk', hv, hr⟩ := aopL_ok hP hE.env h' hl hk
             rw [touch_objs hso] at hr
             have := aopsE_ok hE hP hn ht hsel hnp htouch hQ f (listed := listed.setIfInBounds k true) (hls.set hsz) (hdn.set hmem) (h'.put hv o.dst) hk'
             rw [touch_put, touch_objs hso] at this
             exact wpAnyJ_first (S' := Keep (touchO touch s m) w) hn ht hin ho (Region.noSelect_spec hsel) (fun c a w hq => absurd hq (hnp c _ w)) hij (fun _ h => h) (.inr (awaits_spec haw)) f listed a w hls.size hdn hfree hmem (.inl ⟨hw, hr⟩) (.inr (Keep.refl _ _)) this
         · have := aopsE_ok hE hP hn ht hsel hnp htouch hQ f (listed := listed.setIfInBounds k true) (hls.set hsz) (hdn.set hmem) (h'.put (v := .tup []) (val := undef) ⟨[], rfl, rfl⟩ o.dst) hk
           rw [touch_put, touch_objs hso] at this
           exact wpAnyJ_first (S' := fun _ => True) hn ht hin ho (Region.noSelect_spec hsel) (fun c a w hq => absurd hq (hnp c _ w)) hij (fun _ _ => trivial) (.inl fun _ => trivial) f listed a w hls.size hdn hfree hmem (.inr ⟨hw, rfl⟩) (.inr (Keep.refl _ _)) this
   ·
     split at hk
     · cases hk
     · rename_i rs hne
       have er := rdyL_eq hls
       refine ⟨fun h0 => hne (by rw [<- er]; exact h0), fun i hi => ?_⟩
       have hki := allD_spec hk i (by rw [<- er]; exact hi)
       split at hki
       · cases hki
       · rename_i o ho
         have hsz : i < ops.size := (Array.getElem?_eq_some_iff.1 ho).1
         unfold wpOp
         rw [ho]
         simp only
         rcases guardD_ok h hki with ⟨hw, s', hso, h', hki⟩ | ⟨hw, s', hso, h', hki⟩
         · rw [if_pos hw]
           refine .inl ?_
           split at hki
           · rename_i hb
             have e : i = j := Nat.eq_of_beq_eq_true hb
             subst e
             have hd : (listed.setIfInBounds i true).getD i false = true := by
               have : i < listed.size := by rw [hls.size]; exact hsz
               simp [Array.getD_eq_getD_getElem?, Array.getElem?_setIfInBounds, this]
             refine aop_ok hE hP h' hki _ _ fun s2 val w2 m2 hk2 h2 => ⟨.inl hd, wpAnyJ_done hd (aopsE_ok hE hP hn ht hsel hnp htouch hQ f (hls.set hsz) (hdn.set hi) h2 hk2)⟩
           · have main : ∀ (next : Act -> World -> Prop), (∀ s2 val w2 m2, aopsE G.E ops (prep ops) touch n j f (Nat.lor d (bitM i)) s2 K -> Holds G s2 (a.put o.dst val) w2 m2 -> Keep (touchO touch s m) w w2 ->
                 (∀ b, b < w.heap.size -> touchO touch s2 m2 b -> touchO touch s m b) -> next (a.put o.dst val) w2) -> o.wp P a w next Q := by
               intro next hnext
               refine aopH_ok hE hP h' hki next Q fun s2 val w2 m2 hk2 h2 hkp har => ?_
               have ea : arrO s' m = arrO s m := by funext b; simp only [arrO, hso]
               rw [ea] at hkp har
               refine hnext s2 val w2 m2 hk2 h2 (hkp.weaken fun b _ hb => ⟨?_, hb.2⟩) fun b hb hb2 => ⟨hb2.1, har b hb hb2.2⟩
               cases htc : touch with
               | true => rfl
               | false =>
                 have := htouch htc o (Array.mem_of_getElem? ho)
                 rw [hb.1] at this
                 cases this
             refine main _ fun s2 val w2 m2 hk2 h2 hkp har => ⟨.inr hkp, ?_⟩
             refine wpAnyJ_mono (fun w3 h3 => ?_) (aopsE_ok hE hP hn ht hsel hnp htouch hQ f (hls.set hsz) (hdn.set hi) h2 hk2)
             exact { os := h3.os.trans hkp.os, tape := h3.tape.trans hkp.tape, output := h3.output.trans hkp.output, frozen := fun a ha => (h3.frozen a (Nat.lt_of_lt_of_le ha hkp.size)).trans (hkp.frozen a ha), size := Nat.le_trans hkp.size h3.size,
                     block := fun b hb hno => (h3.block b (Nat.lt_of_lt_of_le hb hkp.size) fun hh => hno (har b hb hh)).trans (hkp.block b hb hno) }
         · rw [if_neg (by simp [hw])]
           refine ⟨.inr (Keep.refl _ _), ?_⟩
           have := aopsE_ok hE hP hn ht hsel hnp htouch hQ f (listed := listed.setIfInBounds i true) (hls.set hsz) (hdn.set hi) (h'.put (v := .tup []) (val := undef) ⟨[], rfl, rfl⟩ o.dst) hki
           rwa [touch_put, touch_objs hso] at this
theorem op_loadPc (hE : EnvOK P G.E) (h : Holds G s a w m) {t : TypeId} {x : Operand} {l : List AV} (hx : s.eval x = .pc l) (ho : o.op = .load t x) {K : AV -> Prop} (hk : loadV G.E s.heap t (.pc l) K) : OkL P G s a w m o (fun b => Own s.objs m b) (fun v _ => K v) := by
 have r := eval_ok h x
 unfold loadV at hk
 split at hk
 · cases hk
 · rename_i i hi
   simp only at hk
   rw [hx] at r
   obtain ⟨b, off, hv, hb, hS, vs, hc, hr⟩ := r
   have hlen := hr.length
   obtain ⟨val, h1, h2⟩ := run_loadVar' (P := P) hE hi (b := b) (off := off) (cs := vs.take i.size) (by simp; omega)
   refine .litO (val := val) (fun w' hw => ?_) (valOf_cells (hr.take i.size) h2) hk.2
   have := h1 w' (fun j v hj => by
     have hlt := get_lt hj
     simp at hlt
     rw [List.getElem?_take_of_lt (by omega)] at hj
     rw [keep_cell hw hb (fun hh => hS hh)]
     exact hc j v hj)
   simp [execOp, ho, hv, this]
theorem aopB_ok (hP : G.P = P) (hE : EnvOK P G.E) (h : Holds G s a w m) (hl : lightB o = true) {K : AV -> Prop} (hk : aopB G.E s o K) : OkL P G s a w m o (fun b => Own s.objs m b) (fun v _ => K v) := by
 unfold aopB at hk
 split at hk
 · rename_i t x ho
   split at hk
   · rename_i l hx
     exact op_loadPc hE h hx ho hk
   · cases hk
 · cases hk
 · rename_i h1 h2
   exact (ltP_ok hP hE h hl h1 (fun a b x e => h2 a b x e) hk).okL
theorem storeP_ok (hE : EnvOK P G.E) (h : Holds G s a w m) {K : St -> Prop} (hk : storeP G.E s o K) :
   ∀ next Q, (∀ s2 w2, K s2 -> Holds G s2 (a.put o.dst undef) w2 m -> Keep (fun b => Own s.objs m b) w w2 -> next (a.put o.dst undef) w2) -> o.wp P a w next Q := by
 unfold storeP at hk
 split at hk
 · rename_i t x y ho
   split at hk
   · rename_i i hi
     split at hk
     · rename_i ob off hx
       have rx := eval_ok h x
       have ry := eval_ok h y
       unfold storeV at hk
       split at hk
       · cases hk
       · rename_i l hl
         have hcl := cells_ok hl ry
         split at hk
         · rename_i hlen hsol
           have hlen := Nat.eq_of_beq_eq_true hlen
           have hll := hcl.length
           have hone := solidL_one hsol hcl
           simp only at hk
           split at hk
           · rename_i cs hcs
             rw [hx] at rx
             obtain ⟨hn, b, hm, hv⟩ := rx
             obtain ⟨b', t', vs, hm', hb, hr⟩ := (h.heap ob _ hcs).2
             simp only [Ctx.rc] at hm hm' hb
             rw [hm] at hm'
             simp only [Value.pointer.injEq, Option.some.injEq, Addr.mk.injEq, and_true] at hm'
             subst hm'
             obtain ⟨hle, hk⟩ := hk
             have hlv := hr.length
             have hrun := run_store (P := P) hE hi hb (off := off) (v := a.eval y) (by omega) (by omega) hone
             intro next Q hn'
             have hkp : Keep (fun k => rows (m ob) k) w (w.setRow b (fillVals vs off (a.eval y).cells.toList).toArray) := (keep_setRow w b _).weaken fun k _ e => by subst e; rw [hm]; rfl
             refine exec_store ho (by rw [hv]; exact hrun) (hn' _ _ hk ?_ (hkp.weaken fun k _ e => ⟨ob, _, heap_get hcs, e⟩))
             have := h.wrote (ob' := .box (fillCells cs off l)) (heap_get hcs) hkp (fun _ => rfl) fun hle => ⟨b, t', fillVals vs off (a.eval y).cells.toList, hm, by simpa [Ctx.rc] using setRow_heap w b _ _ _ _ hb, (hr.mono hle).fill off (hcl.mono hle)⟩
             exact this.put (by simp only [VRel]) o.dst
           · cases hk
         · cases hk
     · cases hk
   · cases hk
 · cases hk
theorem own_put {dst : Option Nat} {v : AV} : (fun b => Own (s.put dst v).objs m b) = fun b => Own s.objs m b := by simp only [put_objs]
theorem own_objs {s' : St} (h : s'.objs = s.objs) : (fun b => Own s'.objs m b) = fun b => Own s.objs m b := by simp only [h]
theorem aopsB_ok (hE : ProgOK P G.E) (hP : G.P = P) {n j : Nat} (hn : n <= ops.size) (ht : TailWaits ops n) (hsel : Region.noSelect ops = true) (hnp : ∀ c a w, ¬ Q (.panic c) a w) {K : St -> Prop}
   (hQ : ∀ s' a' w' m', K s' -> Holds G s' a' w' m' -> Q .normal a' w') :
   ∀ (f : Nat) {listed : Array Bool} {d : Nat} {s : St} {a : Act} {w : World} {m : Nat -> Value} {S : World -> Prop}, Rl ops listed d -> Down ops listed -> Holds G s a w m -> (f = 0 ∨ S = Keep (fun b => Own s.objs m b) w) -> aopsB G.E ops (prep ops) n j f d s K ->
     wpAnyT P ops Q S n f listed a w
 | 0, listed, d, s, a, w, m, S, hls, hdn, h, hS, hk => by
   unfold aopsB at hk
   split at hk
   · rename_i hs
     exact ⟨seqM_spec hls hs, aops_ok hE hP _ h hk hQ⟩
   · cases hk
 | f + 1, listed, d, s, a, w, m, S, hls, hdn, h, hS, hk => by
   have hS : S = Keep (fun b => Own s.objs m b) w := hS.resolve_left (Nat.succ_ne_zero f)
   subst hS
   unfold aopsB at hk
   split at hk
   ·
     rename_i i hi
     obtain ⟨k, p, rfl, hpl, hp⟩ := findM_spec hi
     rw [Nat.zero_add] at hp hk
     obtain ⟨o, ho, hl, hin, hmem, hfree⟩ := lightM_spec hls hpl hp
     have hsz : k < ops.size := (Array.getElem?_eq_some_iff.1 ho).1
     split at hk
     · cases hk
     · rename_i o2 ho2
       rw [ho] at ho2
       cases ho2
       have first : ∀ {v : Value}, YieldsIf P ops (Keep (fun b => Own s.objs m b) w) o v a -> wpAnyT P ops Q (Keep (fun b => Own s.objs m b) w) n f (listed.setIfInBounds k true) (a.put o.dst v) w ->
           wpAnyT P ops Q (Keep (fun b => Own s.objs m b) w) n (f + 1) listed a w := fun {v} hy hh =>
         wpAnyT_first hn ht hin ho (Region.noSelect_spec hsel) (fun c a w hq => absurd hq (hnp c _ w)) f listed a w hls.size hdn hfree hmem hy (Keep.refl _ _) hh
       rcases guardD_ok h hk with ⟨hw, s', hso, h', hk⟩ | ⟨hw, s', hso, h', hk⟩
       · obtain ⟨v, val, hk', hv, hr⟩ := aopB_ok hP hE.env h' hl hk
         rw [own_objs hso] at hr
         refine first (v := val) (.inl ⟨hw, hr⟩) ?_
         exact aopsB_ok hE hP hn ht hsel hnp hQ f (listed := listed.setIfInBounds k true) (hls.set hsz) (hdn.set hmem) (h'.put hv o.dst) (.inr (by rw [own_put, own_objs hso])) hk'
       · refine first (v := undef) (.inr ⟨hw, rfl⟩) ?_
         exact aopsB_ok hE hP hn ht hsel hnp hQ f (listed := listed.setIfInBounds k true) (hls.set hsz) (hdn.set hmem) (h'.put (v := .tup []) (val := undef) ⟨[], rfl, rfl⟩ o.dst) (.inr (by rw [own_put, own_objs hso])) hk
   ·
     split at hk
     · rename_i i hr
       have er := rdyL_eq hls
       rw [hr] at er
       split at hk
       · rename_i o _ ho
         refine ⟨fun h0 => (by rw [er] at h0; cases h0), fun i2 hi2 => ?_⟩
         have e : i2 = i := by rw [er] at hi2; simpa using hi2
         subst e
         have hsz : i2 < ops.size := (Array.getElem?_eq_some_iff.1 ho).1
         unfold wpOp
         rw [ho]
         simp only
         rcases guardD_ok h hk with ⟨hw, s', hso, h', hk⟩ | ⟨hw, s', hso, h', hk⟩
         · rw [if_pos hw]
           refine .inl (storeP_ok hE.env h' hk _ _ fun s2 w2 hk2 h2 hkp => ⟨?_, aopsB_ok hE hP hn ht hsel hnp hQ 0 (hls.set hsz) (hdn.set hi2) h2 (.inl rfl) hk2⟩)
           rwa [own_objs hso] at hkp
         · rw [if_neg (by simp [hw])]
           exact ⟨Keep.refl _ _, aopsB_ok hE hP hn ht hsel hnp hQ 0 (hls.set hsz) (hdn.set hi2) (h'.put (v := .tup []) (val := undef) ⟨[], rfl, rfl⟩ o.dst) (.inl rfl) hk⟩
       · cases hk
     · cases hk
theorem region_ok {sg : Segs} (hE : ProgOK P G.E) (hP : G.P = P) (hnp : ∀ c a w, ¬ Q (.panic c) a w) {K : St -> Prop} (hQ : ∀ s' a' w' m', K s' -> Holds G s' a' w' m' -> Q .normal a' w') (draw : Bool) (id : Nat) (h : Holds G s a w m)
   (hk : match draw with | false => aops G.E ops ops.toList s K | true => aregion G.E ops (prep ops) sg s K) : (Code.region id ops draw).wp P Q a w := by
 cases draw with
 | false => exact wp_region_list (aops_ok hE hP _ h hk hQ)
 | true =>
   simp only at hk
   have hd : Holds G s a { w with drawn := w.drawn + 1 } m := by
     have := h.o.grow (keep_drew w)
     exact { o := this.1, tmps := h.tmps.mono this.2, defers := h.defers, kp := h.kp.mono this.2 }
   have htt : ops.any touchB = false -> ∀ (o : Oper), o ∈ ops -> touchB o = false := fun ht o ho => by
     cases hb : touchB o with
     | false => rfl
     | true =>
       have : ops.any touchB = true := Array.any_eq_true'.2 ⟨o, ho, hb⟩
       rw [this] at ht; cases ht
   have e : headM (prep ops) ops.size + (ops.toList.drop (headM (prep ops) ops.size)).length = ops.size := by
     have := headM_le (pl := prep ops) ops.size
     simp; omega
   unfold aregion at hk
   split at hk
   · rename_i hc _
     simp only [Bool.and_eq_true] at hc
     refine wp_region_any hE.mixed ?_
     have h1 := aopsD_ok hE hP (headM_le ops.size) (tail_waits' hc.2) hc.1 hnp htt hQ _ _ Rl.none (down_none _) hd hk
     have h2 := wpAny_of_T (headM_le ops.size) h1
     rwa [e] at h2
   · rename_i hc _ _
     simp only [Bool.and_eq_true] at hc
     refine wp_region_any hE.mixed ?_
     have h1 := aopsE_ok hE hP (headM_le ops.size) (tail_waits' hc.2) hc.1 hnp htt hQ _ Rl.none (down_none _) hd hk
     have h2 := wpAny_of_J (headM_le ops.size) h1
     rwa [e] at h2
   · rename_i hc _ _
     simp only [Bool.and_eq_true] at hc
     refine wp_region_any hE.mixed ?_
     have h1 := aopsB_ok hE hP (headM_le ops.size) (tail_waits' hc.2) hc.1 hnp hQ _ Rl.none (down_none _) hd (.inr rfl) hk
     have h2 := wpAny_of_T (headM_le ops.size) h1
     rwa [e] at h2
   · cases hk
end Go.Ab


namespace Go.Ab
variable {P : Program} {G : Ctx} {A : List (Nat × (St -> LoopAnn))}
def Ex.out : Ex -> Exit
 | .normal => .normal
 | .exit id => .exit id
 | .ret => .ret
theorem setObjs_length : ∀ (L : List (Nat × Obj)) (l : List (Option Obj)), (setObjs l L).length = l.length
 | [], _ => rfl
 | (i, o) :: r, l => by simp [setObjs, setObjs_length r]
theorem awp_ok (hE : ProgOK P G.E) (hP : G.P = P) : ∀ (c : Code) {Q' : Ex -> St -> Prop} {Q : Exit -> Act -> World -> Prop} {s : St} {a : Act} {w : World} {m : Nat -> Value}, Holds G s a w m -> awp G.E A c Q' s ->
   (∀ c a w, ¬ Q (.panic c) a w) -> (∀ e s' a' w' m', Q' e s' -> Holds G s' a' w' m' -> Q e.out a' w') -> c.wp P Q a w
 | .skip, Q', Q, s, a, w, m, h, hk, hnp, hQ => wp_skip (hQ .normal s a w m hk h)
 | .region id ops draw, Q', Q, s, a, w, m, h, hk, hnp, hQ => by
   unfold awp at hk
   split at hk
   · rename_i r hr
     obtain ⟨hc, hk2⟩ := gate_ok hk
     simp only [Bool.and_eq_true, Bool.not_eq_true'] at hc
     obtain ⟨rfl, hc⟩ := hc
     exact hE.reg id r hr hP rfl h hc hk2 fun s' a' w' m' hk hh => hQ .normal s' a' w' m' hk hh
   · split at hk
     · refine region_ok (sg := segsOf A id s) hE hP hnp (K := Q' .normal) (fun s' a' w' m' hk hh => hQ .normal s' a' w' m' hk hh) draw id h ?_
       unfold regV at hk
       cases draw <;> exact hk
     · rename_i L _
       obtain ⟨h1, h2⟩ := hk
       refine region_ok (sg := segsOf A id s) hE hP hnp (K := fun s' => s'.le (cutSt (L s) (dsts ops) s)) (fun s' a' w' m' hle hh => ?_) draw id h ?_
       · exact hQ .normal _ a' w' m' h2 (hh.le hle h.o.len)
       · unfold regV at h1
         cases draw <;> exact h1
 | .seq x y, Q', Q, s, a, w, m, h, hk, hnp, hQ => by
   unfold awp at hk
   refine wp_seq (awp_ok hE hP x h hk (fun c a w hq => hnp c a w hq) fun e s' a' w' m' hq hh => ?_)
   cases e with
   | normal => exact awp_ok hE hP y hh hq hnp hQ
   | exit id => exact hQ (.exit id) s' a' w' m' hq hh
   | ret => exact hQ .ret s' a' w' m' hq hh
 | .cond c x y, Q', Q, s, a, w, m, h, hk, hnp, hQ => by
   unfold awp at hk
   have r := eval_ok h c
   split at hk
   · rename_i hc
     rw [hc] at r
     exact wp_cond_true r (awp_ok hE hP x h hk hnp hQ)
   · rename_i hc
     rw [hc] at r
     exact wp_cond_false r (awp_ok hE hP y h hk hnp hQ)
   · rename_i b hc
     rw [hc] at r
     have e : a.eval c = .bool b := by simpa [VRel, Rep] using r.2
     exact wp_cond_split e (fun hb => awp_ok hE hP x h (hk.1 hb) hnp hQ) (fun hb => awp_ok hE hP y h (hk.2 hb) hnp hQ)
   · cases hk
 | .block id x, Q', Q, s, a, w, m, h, hk, hnp, hQ => by
   unfold awp at hk
   split at hk
   · refine wp_block (awp_ok hE hP x h hk (fun c a w hq => hnp c a w hq) fun e s' a' w' m' hq hh => ?_)
     cases e with
     | normal => exact hQ .normal s' a' w' m' hq hh
     | exit j =>
       simp only [Ex.out, Exit.inBlock]
       simp only at hq
       split at hq
       · rename_i hj
         rw [if_pos (Nat.eq_of_beq_eq_true hj)]
         exact hQ .normal s' a' w' m' hq hh
       · rename_i hj
         rw [if_neg (fun e => by subst e; simp at hj)]
         exact hQ (.exit j) s' a' w' m' hq hh
     | ret => exact hQ .ret s' a' w' m' hq hh
   · rename_i LF _
     obtain ⟨hk, hn⟩ := hk
     have hlen : ∀ i, G.n0 <= ((LF s).st (writes x) s i).objs.length := fun i => by
       simp only [LoopAnn.st, setObjs_length]
       exact h.o.len
     have fin : ∀ {s' : St} {a' : Act} {w' : World} {m' : Nat -> Value}, (∃ i, (LF s).inv i /\ (s'.fzS (LF s).fz).le ((LF s).st (writes x) s i)) -> Holds G s' a' w' m' -> Q .normal a' w' := fun {s' a' w' m'} hq hh => by
       obtain ⟨i, hi, hle⟩ := hq
       exact hQ .normal _ a' w' m' (hn i hi) ((show Holds G (s'.fzS (LF s).fz) a' w' m' from hh.freezes _).le hle (hlen i))
     refine wp_block (awp_ok hE hP x h hk (fun c a w hq => hnp c a w hq) fun e s' a' w' m' hq hh => ?_)
     cases e with
     | normal => exact fin hq hh
     | exit j =>
       simp only [Ex.out, Exit.inBlock]
       simp only at hq
       split at hq
       · rename_i hj
         rw [if_pos (Nat.eq_of_beq_eq_true hj)]
         exact fin hq hh
       · rename_i hj
         rw [if_neg (fun e => by subst e; simp at hj)]
         exact hQ (.exit j) s' a' w' m' hq hh
     | ret => exact hQ .ret s' a' w' m' hq hh
 | .loop x, Q', Q, s, a, w, m, h, hk, hnp, hQ => by
   unfold awp at hk
   split at hk
   · cases hk
   · rename_i LF _
     have h := (show Holds G (s.fzS (LF s).fz) a w m from h.freezes _)
     revert hk h
     generalize s.fzS (LF s).fz = s0
     intro hk h
     generalize LF s0 = L at hk
     obtain ⟨⟨i0, hi0, hle0⟩, hround⟩ := hk
     have hlen : ∀ i, G.n0 <= (L.st (writes x) s0 i).objs.length := fun i => by
       simp only [LoopAnn.st, setObjs_length]
       exact h.o.len
     refine wp_loop_ghost (fun n a w => ∃ i m, L.inv i /\ L.μ i = n /\ Holds G (L.st (writes x) s0 i) a w m) (L.μ i0) ⟨i0, m, hi0, rfl, h.le hle0 (hlen i0)⟩ ?_
     rintro n a' w' ⟨i, m', hi, rfl, hh⟩
     refine awp_ok hE hP x hh (hround i hi) (fun c a w hq => hnp c a w hq) fun e s2 a2 w2 m2 hq h2 => ?_
     cases e with
     | normal =>
       obtain ⟨j, hj, hlt, hle⟩ := hq
       exact ⟨L.μ j, hlt, j, m2, hj, rfl, (show Holds G (s2.fzS L.fz) a2 w2 m2 from h2.freezes _).le hle (hlen j)⟩
     | exit id => exact hQ (.exit id) s2 a2 w2 m2 hq h2
     | ret => exact hQ .ret s2 a2 w2 m2 hq h2
 | .exit id, Q', Q, s, a, w, m, h, hk, hnp, hQ => wp_exit (hQ (.exit id) s a w m hk h)
 | .ret, Q', Q, s, a, w, m, h, hk, hnp, hQ => wp_ret (hQ .ret s a w m hk h)
 | .rangeFunc .., _, _, _, _, _, _, _, hk, _, _ => by simp only [awp] at hk
 | .scope _, _, _, _, _, _, _, _, hk, _, _ => by simp only [awp] at hk
 | .label _, _, _, _, _, _, _, _, hk, _, _ => by simp only [awp] at hk
 | .goto _, _, _, _, _, _, _, _, hk, _, _ => by simp only [awp] at hk
 | .refuse _, _, _, _, _, _, _, _, hk, _, _ => by simp only [awp] at hk
end Go.Ab


namespace Go.Ab
variable {P : Program} {G : Ctx} {s : St} {a : Act} {w : World} {m : Nat -> Value}
def resRun (P : Program) (w : World) (a : Act) : ResultVar -> Value -> Prop
 | .tmp t, v => v = a.tmps.getD t undef
 | .cell x t, v => (do loadVar t (<- asAddr (a.tmps.getD x undef)) : Sem Value).run P w = .ok v w
theorem mapM_run {α : Type} (g : α -> Sem Value) (f : α -> Value) : ∀ l : List α, (∀ r ∈ l, (g r).run P w = .ok (f r) w) -> (l.mapM g).run P w = .ok (l.map f) w := by
 intro l
 induction l with
 | nil => intro _; rfl
 | cons r l ih =>
   intro hr
   have h1 := hr r List.mem_cons_self
   have h2 := ih fun r' hr' => hr r' (List.mem_cons_of_mem _ hr')
   rw [List.mapM_cons, Sem.run_bind, h1, Result.andThen_ok, Sem.run_bind, h2]
   rfl
theorem results_run {fn : Func} {f : ResultVar -> Value} (hf : ∀ r ∈ fn.results.toList, resRun P w a r (f r)) : (results fn a.tmps).run P w = .ok (retVal (fn.results.toList.map f)) w := by
 unfold results
 rw [Sem.run_bind, Array.mapM_eq_mapM_toList, Sem.run_map, mapM_run (P := P) (w := w) _ f fn.results.toList (fun r hr => ?_)]
 · simp only [Result.andThen_ok]
   unfold retVal
   generalize fn.results.toList.map f = l
   match l with
   | [] => rfl
   | [v] => rfl
   | _ :: _ :: _ => simp
 · have := hf r hr
   cases r with
   | tmp t => simp only [resRun] at this; rw [this]; rfl
   | cell x t => exact this
theorem resAV_ok (hE : EnvOK P G.E) (h : Holds G s a w m) (r : ResultVar) (hne : resAV s r (resSize G.E r) ≠ .any) : ∃ val, resRun P w a r val /\ VRel (G.rc s.objs m w) (resAV s r (resSize G.E r)) val := by
 cases r with
 | tmp t =>
   refine ⟨_, rfl, ?_⟩
   have := eval_ok h (.tmp t)
   exact this
 | cell x t =>
   have rx := eval_ok h (.tmp x)
   simp only [St.eval, Act.eval] at rx
   simp only [resAV, resSize] at hne ⊢
   cases hv : s.tmps.getD x .any <;> rw [hv] at hne rx <;> first | exact absurd rfl hne | skip
   rename_i i off
   simp only at hne ⊢
   cases hb : s.heap i with
   | none => rw [hb] at hne; exact absurd rfl hne
   | some ob =>
     rw [hb] at hne
     cases ob with
     | arr _ _ _ => exact absurd rfl hne
     | zone _ _ => exact absurd rfl hne
     | box cs =>
       simp only at hne ⊢
       cases hi : G.E.ti t with
       | none =>
         rw [hi] at hne
         exfalso
         simp only [Option.map_none, Option.getD_none, List.take_zero] at hne
         have ha : isAggT G.E t = false := by simp [isAggT, hi]
         rw [ha] at hne
         split at hne
         · exact hne rfl
         · exact hne rfl
       | some ti =>
         rw [hi] at hne
         simp only [Option.map_some, Option.getD_some] at hne ⊢
         split at hne
         · rename_i hle
           have hle := Nat.le_of_ble_eq_true hle
           obtain ⟨hn, b, hm, hv'⟩ := rx
           obtain ⟨b', t', vs, hm', hbb, hr⟩ := (h.heap i _ hb).2
           simp only [Ctx.rc] at hm hm' hbb
           rw [hm] at hm'
           simp only [Value.pointer.injEq, Option.some.injEq, Addr.mk.injEq, and_true] at hm'
           subst hm'
           have hlen := hr.length
           obtain ⟨val, h1, h2⟩ := run_loadVar' (P := P) hE hi (b := b) (off := off) (cs := (vs.drop off).take ti.size) (by simp; omega)
           have h3 := h1 w (fun j v hj => by
             have hlt := get_lt hj
             simp at hlt
             rw [List.getElem?_take_of_lt (by omega), List.getElem?_drop] at hj
             rw [cell_at hbb, hj])
           refine ⟨val, ?_, valOf_cells ((hr.drop off).take ti.size) h2⟩
           simp only [resRun, hv']
           have e : (Instr.loadAt t (.pointer (some ⟨b, off, none⟩))).run P w = (do loadVar t (<- asAddr (.pointer (some ⟨b, off, none⟩))) : Sem Value).run P w := by
             simp [Instr.loadAt, Instr.sureAddr, asAddr]
           rw [<- e]; exact h3
         · exact absurd rfl hne
inductive All2 {α β : Type} (R : α -> β -> Prop) : List α -> List β -> Prop
 | nil : All2 R [] []
 | cons {a b l r} : R a b -> All2 R l r -> All2 R (a :: l) (b :: r)
theorem All2.append {α β : Type} {R : α -> β -> Prop} {l l' : List α} {r r' : List β} (h : All2 R l r) (h' : All2 R l' r') : All2 R (l ++ l') (r ++ r') := by
 induction h with
 | nil => exact h'
 | cons h1 _ ih => exact .cons h1 ih
theorem All2.get {α β : Type} {R : α -> β -> Prop} {l : List α} {r : List β} (h : All2 R l r) : ∀ {k : Nat} {b : β}, r[k]? = some b -> ∃ a, l[k]? = some a /\ R a b := by
 induction h with
 | nil => intro k b hb; simp at hb
 | cons h1 _ ih =>
   intro k b hb
   cases k with
   | zero => simp at hb; subst hb; exact ⟨_, rfl, h1⟩
   | succ k => simpa using ih (by simpa using hb)
theorem All2.length {α β : Type} {R : α -> β -> Prop} {l : List α} {r : List β} (h : All2 R l r) : l.length = r.length := by
 induction h with
 | nil => rfl
 | cons _ _ ih => simp [ih]
def slot : AV -> Option (Option Nat)
 | .os i => some (some i)
 | .emp _ => some none
 | _ => none
def slotsL (l : List AV) : List (Option Nat) := l.filterMap slot
def isSl : Value -> Bool
 | .slice _ _ _ => true
 | _ => false
def slotObj (h : Heap) (sl : Option Nat) (p : Obj) : Prop :=
 match sl with
 | some i => ∃ t xs f, h i = some (.arr t xs f) /\ p = .arr t xs false
 | none => ∃ t, p = .arr t [] false
def slotHd (c : RC) (sl : Option Nat) (v : Value) : Prop :=
 match sl with
 | some i => i < c.n /\ v = c.m i /\ ∃ a n cap, v = .slice a n cap
 | none => ∃ a, v = .slice a 0 0
theorem ownedOKL_append : ∀ {l r : List AV}, AV.ownedOKL (l ++ r) = (AV.ownedOKL l && AV.ownedOKL r)
 | [], r => by simp [AV.ownedOKL]
 | x :: l, r => by simp [AV.ownedOKL, ownedOKL_append, Bool.and_assoc]
theorem leaf_slot {c : RC} {h : Heap} (hok : HeapOK c h) {t : Ty} {x : AV} {y : t.den} {v : Value} (hl : t.leafB = true) (hx : leafD c.E h t x = some y) (ho : AV.ownedOK x = true) (hv : VRel c x v) (n : Nat) :
   All2 (slotObj h) (slotsL [x]) (cellsR t y n).2 /\ All2 (slotHd c) (slotsL [x]) ([v].filter isSl) /\
   (∀ c', c'.E = c.E -> (∀ (k : Nat) hd, ([v].filter isSl)[k]? = some hd -> c'.m (n + k) = hd) -> n + ([v].filter isSl).length <= c'.n -> VRelL c' (cellsR t y n).1 [v]) := by
 cases t with
 | unit => simp [Ty.leafB] at hl
 | pair a b => simp [Ty.leafB] at hl
 | slice t =>
   cases x <;> first | (simp only [leafD, reduceCtorEq] at hx; done) | (simp only [AV.ownedOK, Bool.false_eq_true] at ho; done) | skip
   case d u z =>
     cases u <;> first | (simp only [leafD, reduceCtorEq] at hx; done) | (simp [AV.ownedOK, Ty.shares] at ho; done)
   case os i =>
     simp only [leafD] at hx
     split at hx
     · rename_i b xs f hh
       obtain ⟨e, rfl⟩ := castTy_some hx
       cases e
       obtain ⟨h1, h2, ad, k, cap, h3⟩ := hv
       subst h3
       refine ⟨.cons ⟨_, xs, f, hh, rfl⟩ .nil, .cons ⟨h1, h2, _, _, _, rfl⟩ .nil, fun c' _ hm hn => ?_⟩
       have hn : n + 1 <= c'.n := hn
       have := hm 0 _ rfl
       exact ⟨_, [], rfl, ⟨by omega, by simpa using this.symm, _, _, _, rfl⟩, rfl⟩
     · cases hx
   case emp b =>
     simp only [leafD, Option.some.injEq] at hx
     subst hx
     obtain ⟨ad, rfl, _⟩ := hv
     refine ⟨.cons ⟨_, rfl⟩ .nil, .cons ⟨ad, rfl⟩ .nil, fun c' _ hm hn => ?_⟩
     have hn : n + 1 <= c'.n := hn
     have := hm 0 _ rfl
     exact ⟨_, [], rfl, ⟨by omega, by simpa using this.symm, _, _, _, rfl⟩, rfl⟩
 | int k => exact scal hok rfl rfl hx ho hv n rfl
 | bool => exact scal hok rfl rfl hx ho hv n rfl
 | str => exact scal hok rfl rfl hx ho hv n rfl
 | any => exact scal hok rfl rfl hx ho hv n rfl
 | err => exact scal hok rfl rfl hx ho hv n rfl
where
 scal {c : RC} {h : Heap} (hok : HeapOK c h) {t : Ty} {x : AV} {y : t.den} {v : Value} (hl : t.leafB = true) (hs : t.shares = false) (hx : leafD c.E h t x = some y) (ho : AV.ownedOK x = true) (hv : VRel c x v) (n : Nat) (hc : cellsR t y n = ([.d t y], [])) :
     All2 (slotObj h) (slotsL [x]) (cellsR t y n).2 /\ All2 (slotHd c) (slotsL [x]) ([v].filter isSl) /\
     (∀ c', c'.E = c.E -> (∀ (k : Nat) hd, ([v].filter isSl)[k]? = some hd -> c'.m (n + k) = hd) -> n + ([v].filter isSl).length <= c'.n -> VRelL c' (cellsR t y n).1 [v]) := by
   have hr := leafD_ok hok hx hv
   have hsx : slot x = none := by
     cases x <;> first | rfl | skip
     case os i => cases t <;> first | (simp only [leafD, reduceCtorEq] at hx; done) | (simp [Ty.shares] at hs; done)
     case emp b => cases t <;> first | (simp only [leafD, reduceCtorEq] at hx; done) | (simp [Ty.shares] at hs; done)
   have hsl : isSl v = false := by
     cases t with
     | unit => simp [Ty.leafB] at hl
     | pair a b => simp [Ty.leafB] at hl
     | slice t => simp [Ty.shares] at hs
     | int k => simp only [Rep, List.cons.injEq, and_true] at hr; subst hr; rfl
     | bool => simp only [Rep, List.cons.injEq, and_true] at hr; subst hr; rfl
     | str => simp only [Rep, List.cons.injEq, and_true] at hr; obtain ⟨rfl, _⟩ := hr; rfl
     | any => simp only [Rep, List.cons.injEq, and_true] at hr; obtain ⟨rfl, _⟩ := hr; cases y <;> rfl
     | err =>
       obtain ⟨u, hu, h2⟩ := hr
       simp only [List.cons.injEq, and_true] at hu
       subst hu
       rcases h2 with ⟨_, rfl⟩ | ⟨_, _, _, rfl⟩ <;> rfl
   rw [hc]
   refine ⟨by simp only [slotsL, List.filterMap_cons, hsx, List.filterMap_nil]; exact .nil, by simp only [slotsL, List.filterMap_cons, hsx, List.filterMap_nil, List.filter_cons, hsl, Bool.false_eq_true, if_false, List.filter_nil]; exact .nil, fun c' hE _ _ => ?_⟩
   exact ⟨v, [], rfl, ⟨hl, by rw [hE]; exact rep_scalar hs hr⟩, rfl⟩
end Go.Ab


namespace Go.Ab
variable {P : Program} {G : Ctx} {s : St} {a : Act} {w : World} {m : Nat -> Value}
theorem leaf_owned {E : Env} {h : Heap} {t : Ty} {x : AV} {y : t.den} (hx : leafD E h t x = some y) (ho : AV.ownedOK x = true) : AV.owned x = (slotsL [x]).filterMap id := by
 cases x <;> first | rfl | (simp only [AV.ownedOK, Bool.false_eq_true] at ho; done) | skip
 case agg l => cases t <;> simp [leafD] at hx
theorem ownedL_append : ∀ {l r : List AV}, AV.ownedL (l ++ r) = AV.ownedL l ++ AV.ownedL r
 | [], r => by simp [AV.ownedL]
 | x :: l, r => by simp [AV.ownedL, ownedL_append]
theorem cells_slot {c : RC} {h : Heap} (hok : HeapOK c h) : ∀ {t : Ty} {l r : List AV} {x : t.den} {vs : List Value}, toD c.E h t l = some (x, r) -> AV.ownedOKL l = true -> VRelL c l vs ->
   ∃ l1 v1 v2, l = l1 ++ r /\ vs = v1 ++ v2 /\ VRelL c r v2 /\ AV.ownedL l1 = (slotsL l1).filterMap id /\ (∀ n, All2 (slotObj h) (slotsL l1) (cellsR t x n).2) /\ All2 (slotHd c) (slotsL l1) (v1.filter isSl) /\
     ∀ c' n, c'.E = c.E -> (∀ (k : Nat) hd, (v1.filter isSl)[k]? = some hd -> c'.m (n + k) = hd) -> n + (v1.filter isSl).length <= c'.n -> VRelL c' (cellsR t x n).1 v1 := by
 have leaf : ∀ {t : Ty} {b : AV} {r : List AV} {y : t.den} {vs : List Value}, t.leafB = true -> leafD c.E h t b = some y -> AV.ownedOKL (b :: r) = true -> VRelL c (b :: r) vs ->
     ∃ l1 v1 v2, b :: r = l1 ++ r /\ vs = v1 ++ v2 /\ VRelL c r v2 /\ AV.ownedL l1 = (slotsL l1).filterMap id /\ (∀ n, All2 (slotObj h) (slotsL l1) (cellsR t y n).2) /\ All2 (slotHd c) (slotsL l1) (v1.filter isSl) /\
       ∀ c' n, c'.E = c.E -> (∀ (k : Nat) hd, (v1.filter isSl)[k]? = some hd -> c'.m (n + k) = hd) -> n + (v1.filter isSl).length <= c'.n -> VRelL c' (cellsR t y n).1 v1 := by
   intro t b r y vs hl hx ho hv
   simp only [AV.ownedOKL, Bool.and_eq_true] at ho
   simp only [VRelL] at hv
   obtain ⟨v, q, rfl, h1, h2⟩ := hv
   exact ⟨[b], [v], q, rfl, rfl, h2, by simpa [AV.ownedL] using leaf_owned hx ho.1, fun n => (leaf_slot hok hl hx ho.1 h1 n).1, (leaf_slot hok hl hx ho.1 h1 0).2.1, fun c' n => (leaf_slot hok hl hx ho.1 h1 n).2.2 c'⟩
 intro t
 induction t with
 | unit =>
   intro l r x vs hx ho hv
   simp only [toD, Option.some.injEq, Prod.mk.injEq, true_and] at hx
   subst hx
   exact ⟨[], [], vs, rfl, rfl, hv, rfl, fun _ => .nil, .nil, fun _ _ _ _ _ => rfl⟩
 | pair a b iha ihb =>
   intro l r x vs hx ho hv
   simp only [toD] at hx
   split at hx
   · rename_i y q hy
     split at hx
     · rename_i z q' hz
       cases hx
       obtain ⟨l1, v1, v2, rfl, rfl, h1, o1, h2, h3, h4⟩ := iha hy ho hv
       rw [ownedOKL_append, Bool.and_eq_true] at ho
       obtain ⟨l2, v3, v4, rfl, rfl, h5, o2, h6, h7, h8⟩ := ihb hz ho.2 h1
       refine ⟨l1 ++ l2, v1 ++ v3, v4, by simp, by simp, h5, ?_, fun n => ?_, ?_, fun c' n hE hm hn => ?_⟩
       · rw [ownedL_append, o1, o2]
         simp [slotsL]
       · have e : slotsL (l1 ++ l2) = slotsL l1 ++ slotsL l2 := by simp [slotsL]
         rw [e]
         exact (h2 n).append (h6 _)
       · have e : slotsL (l1 ++ l2) = slotsL l1 ++ slotsL l2 := by simp [slotsL]
         rw [e, List.filter_append]
         exact h3.append h7
       · rw [List.filter_append] at hm hn
         rw [List.length_append] at hn
         have len1 : (cellsR a y n).2.length = (v1.filter isSl).length := by rw [<- (h2 n).length, h3.length]
         refine VRelL.append (h4 c' n hE (fun k hd hk => hm k hd ?_) (by omega)) (h8 c' _ hE (fun k hd hk => ?_) (by rw [len1]; omega))
         · rw [List.getElem?_append_left (get_lt hk)]; exact hk
         · rw [len1, Nat.add_assoc]
           refine hm _ hd ?_
           rw [List.getElem?_append_right (by omega), Nat.add_sub_cancel_left]; exact hk
     · cases hx
   · cases hx
 | int k =>
   intro l r x vs hx ho hv
   cases l with
   | nil => simp [toD] at hx
   | cons b l =>
     simp only [toD] at hx
     split at hx
     · rename_i y hy; cases hx; exact leaf rfl hy ho hv
     · cases hx
 | bool =>
   intro l r x vs hx ho hv
   cases l with
   | nil => simp [toD] at hx
   | cons b l =>
     simp only [toD] at hx
     split at hx
     · rename_i y hy; cases hx; exact leaf rfl hy ho hv
     · cases hx
 | str =>
   intro l r x vs hx ho hv
   cases l with
   | nil => simp [toD] at hx
   | cons b l =>
     simp only [toD] at hx
     split at hx
     · rename_i y hy; cases hx; exact leaf rfl hy ho hv
     · cases hx
 | any =>
   intro l r x vs hx ho hv
   cases l with
   | nil => simp [toD] at hx
   | cons b l =>
     simp only [toD] at hx
     split at hx
     · rename_i y hy; cases hx; exact leaf rfl hy ho hv
     · cases hx
 | err =>
   intro l r x vs hx ho hv
   cases l with
   | nil => simp [toD] at hx
   | cons b l =>
     simp only [toD] at hx
     split at hx
     · rename_i y hy; cases hx; exact leaf rfl hy ho hv
     · cases hx
 | slice t _ =>
   intro l r x vs hx ho hv
   cases l with
   | nil => simp [toD] at hx
   | cons b l =>
     simp only [toD] at hx
     split at hx
     · rename_i y hy; cases hx; exact leaf rfl hy ho hv
     · cases hx
def AV.cl : AV -> List AV
 | .agg l => l
 | v => [v]
theorem val_slot {c : RC} {h : Heap} (hok : HeapOK c h) {t : Ty} {v : AV} {x : t.den} {val : Value} (hx : toV c.E h t v = some x) (ho : AV.ownedOK v = true) (hv : VRel c v val) :
   AV.owned v = (slotsL v.cl).filterMap id /\ (∀ n, All2 (slotObj h) (slotsL v.cl) (cellsR t x n).2) /\ All2 (slotHd c) (slotsL v.cl) (val.cells.toList.filter isSl) /\
     ∀ c' n, c'.E = c.E -> (∀ (k : Nat) hd, (val.cells.toList.filter isSl)[k]? = some hd -> c'.m (n + k) = hd) -> n + (val.cells.toList.filter isSl).length <= c'.n -> VRel c' (valOf t.isPair (cellsR t x n).1) val := by
 unfold toV at hx
 split at hx
 · rename_i l
   split at hx
   · rename_i hp
     split at hx
     · rename_i y hy
       cases hx
       obtain ⟨vs, rfl, hvs⟩ := hv
       obtain ⟨l1, v1, v2, e1, e2, h1, o1, h2, h3, h4⟩ := cells_slot hok hy (by simpa [AV.ownedOK] using ho) hvs
       simp only [VRelL] at h1
       subst h1
       simp only [List.append_nil] at e1 e2
       subst e1 e2
       have ec : (Value.agg vs.toArray).cells.toList = vs := by simp [Value.cells]
       rw [ec]
       refine ⟨by simpa [AV.owned, AV.cl] using o1, by simpa [AV.cl] using h2, by simpa [AV.cl] using h3, fun c' n hE hm hn => ?_⟩
       rw [hp]
       exact ⟨vs, rfl, h4 c' n hE hm hn⟩
     · cases hx
   · cases hx
 · rename_i hna
   split at hx
   · rename_i hl
     have hcl : v.cl = [v] := by
       cases v <;> first | rfl | skip
       exact absurd rfl (hna _)
     have hp : t.isPair = false := by cases t <;> simp_all [Ty.leafB, Ty.isPair]
     have hone : val.cells.toList = [val] := by
       have := leafD_ok hok hx hv
       rw [oneCell_cells (rep_one this val (by simp))]
     rw [hcl, hone]
     refine ⟨leaf_owned hx ho, fun n => (leaf_slot hok hl hx ho hv n).1, (leaf_slot hok hl hx ho hv 0).2.1, fun c' n hE hm hn => ?_⟩
     have := (leaf_slot hok hl hx ho hv n).2.2 c' hE hm hn
     rw [hp]
     cases t with
     | unit => simp [Ty.leafB] at hl
     | pair a b => simp [Ty.leafB] at hl
     | _ =>
       simp only [cellsR, VRelL] at this
       obtain ⟨v', q, e, r, rfl⟩ := this
       simp only [List.cons.injEq, and_true] at e
       subst e
       exact r
   · cases hx
def resSlots : List RTy -> List AV -> List (Option Nat)
 | .o _ :: rs, v :: vs => slotsL v.cl ++ resSlots rs vs
 | .v _ :: rs, _ :: vs => resSlots rs vs
 | _, _ => []
def resHds : List RTy -> List Value -> List Value
 | .o _ :: rs, v :: vs => v.cells.toList.filter isSl ++ resHds rs vs
 | .v _ :: rs, _ :: vs => resHds rs vs
 | _, _ => []
theorem res_slot {c : RC} {h : Heap} (hok : HeapOK c h) : ∀ {rs : List RTy} {vs : List AV} {y : rdens rs} {vals : List Value}, ressD c.E h rs vs = some y -> ownsOK rs vs = true -> VRelL c vs vals ->
   ownIds rs vs = (resSlots rs vs).filterMap id /\ (∀ n, All2 (slotObj h) (resSlots rs vs) (ressV rs y n).2) /\ All2 (slotHd c) (resSlots rs vs) (resHds rs vals) /\
     ∀ c' n, c'.E = c.E -> c'.w = c.w -> (∀ b, c.X b -> c'.X b) -> (∀ (k : Nat) hd, (resHds rs vals)[k]? = some hd -> c'.m (n + k) = hd) -> n + (resHds rs vals).length <= c'.n -> VRelL c' (ressV rs y n).1 vals
 | [], vs, y, vals, hx, ho, hv => by
   cases vs with
   | nil =>
     simp only [VRelL] at hv
     subst hv
     exact ⟨rfl, fun _ => .nil, .nil, fun _ _ _ _ _ _ _ => rfl⟩
   | cons _ _ => simp [ressD] at hx
 | .v t :: rs, [], y, vals, hx, ho, hv => by simp [ressD] at hx
 | .o t :: rs, [], y, vals, hx, ho, hv => by simp [ressD] at hx
 | .v t :: rs, v :: vs, y, vals, hx, ho, hv => by
   simp only [ressD] at hx
   split at hx
   · rename_i x1 x2 h1 h2
     cases hx
     simp only [VRelL] at hv
     obtain ⟨val, q, rfl, r1, r2⟩ := hv
     simp only [ownsOK, Bool.and_eq_true] at ho
     obtain ⟨g1, g2, g3, g4⟩ := res_slot hok h2 ho.2 r2
     refine ⟨g1, fun n => by simpa [ressV, resV, resSlots] using g2 n, g3, fun c' n hE hw hX hm hn => ?_⟩
     refine ⟨val, q, rfl, ?_, ?_⟩
     · refine valOf_ok (c := c') (X := c'.X) (fun b hb => hb) ?_
       rw [hE, hw]
       refine (toV_ok (noheap c) h1 r1).mono (Nat.le_refl _) fun b _ hb => ⟨?_, rfl⟩
       rcases hb with (hb | ⟨i, _, _, _, hb, _⟩) | ⟨i, _, _, hb, _⟩
       · exact hX b hb
       · cases hb
       · cases hb
     · have := g4 c' n hE hw hX hm hn
       simpa [ressV, resV] using this
   · cases hx
 | .o t :: rs, v :: vs, y, vals, hx, ho, hv => by
   simp only [ressD] at hx
   split at hx
   · rename_i x1 x2 h1 h2
     cases hx
     simp only [VRelL] at hv
     obtain ⟨val, q, rfl, r1, r2⟩ := hv
     simp only [ownsOK, Bool.and_eq_true] at ho
     obtain ⟨g1, g2, g3, g4⟩ := res_slot hok h2 ho.2 r2
     obtain ⟨k1, k2, k3, k4⟩ := val_slot hok h1 ho.1 r1
     refine ⟨by simp [ownIds, resSlots, g1, k1], fun n => (k2 n).append (g2 _), k3.append g3, fun c' n hE hw hX hm hn => ?_⟩
     simp only [resHds, List.length_append] at hm hn
     have len1 : (cellsR t x1 n).2.length = (val.cells.toList.filter isSl).length := by rw [<- (k2 n).length, k3.length]
     refine ⟨val, q, rfl, k4 c' n hE (fun k hd hk => hm k hd ?_) (by omega), g4 c' _ hE hw hX (fun k hd hk => ?_) ?_⟩
     · rw [List.getElem?_append_left (get_lt hk)]; exact hk
     · simp only [resV]
       rw [len1, Nat.add_assoc]
       refine hm _ hd ?_
       rw [List.getElem?_append_right (by omega), Nat.add_sub_cancel_left]; exact hk
     · simp only [resV]
       rw [len1]; omega
   · cases hx
theorem entry_len : ∀ {ps : List PTy} {x : pdens ps} {u : mdens ps} {n : Nat}, (entry ps x n).2.length = (exitObjs ps u).length
 | [], _, _, _ => rfl
 | .v _ :: ps, x, u, n => entry_len (ps := ps)
 | .r _ :: ps, x, u, n => entry_len (ps := ps)
 | .f _ _ :: ps, x, u, n => entry_len (ps := ps)
 | .rf _ _ :: ps, x, u, n => entry_len (ps := ps)
 | .o _ :: ps, x, u, n => by simp [entry, exitObjs, entry_len (ps := ps) (x := x.2) (u := u) (n := n + 1)]
 | .mo _ :: ps, x, u, n => by simp [entry, exitObjs, entry_len (ps := ps) (x := x.2) (u := u.2) (n := n + 1)]
 | .m _ :: ps, x, u, n => by simp [entry, exitObjs, entry_len (ps := ps) (x := x.2) (u := u.2) (n := n + 1)]
theorem entry_len1 : ∀ {ps : List PTy} {x : pdens ps} {n : Nat}, (entry ps x n).1.length = ps.length
 | [], _, _ => rfl
 | .v _ :: ps, x, n => by simp [entry, entry_len1 (ps := ps)]
 | .r _ :: ps, x, n => by simp [entry, entry_len1 (ps := ps)]
 | .f _ _ :: ps, x, n => by simp [entry, entry_len1 (ps := ps)]
 | .rf _ _ :: ps, x, n => by simp [entry, entry_len1 (ps := ps)]
 | .o _ :: ps, x, n => by simp [entry, entry_len1 (ps := ps)]
 | .mo _ :: ps, x, n => by simp [entry, entry_len1 (ps := ps)]
 | .m _ :: ps, x, n => by simp [entry, entry_len1 (ps := ps)]
theorem upd_slot {E : Env} {h : Heap} : ∀ {ps : List PTy} {n : Nat} {u : mdens ps}, updD E h ps n = some u -> ∀ {k : Nat} {p : Obj}, (exitObjs ps u)[k]? = some (some p) ->
   (∃ t y cs, h (n + k) = some (.box cs) /\ p = .box (cellsOf t y) /\ toD E (fun _ => none) t cs = some (y, [])) ∨ (∃ t xs, h (n + k) = some (.arr t xs true) /\ p = .arr t xs true)
 | [], n, u, hu, k, p, hp => by simp [exitObjs] at hp
 | .v _ :: ps, n, u, hu, k, p, hp => upd_slot (ps := ps) hu hp
 | .r _ :: ps, n, u, hu, k, p, hp => upd_slot (ps := ps) hu hp
 | .f _ _ :: ps, n, u, hu, k, p, hp => upd_slot (ps := ps) hu hp
 | .rf _ _ :: ps, n, u, hu, k, p, hp => upd_slot (ps := ps) hu hp
 | .o _ :: ps, n, u, hu, k, p, hp => by
   cases k with
   | zero => simp [exitObjs] at hp
   | succ k =>
     have := upd_slot (ps := ps) (n := n + 1) hu (k := k) (by simpa [exitObjs] using hp)
     rwa [show n + 1 + k = n + (k + 1) by omega] at this
 | .m t :: ps, n, u, hu, k, p, hp => by
   simp only [updD] at hu
   split at hu
   · rename_i cs hc
     split at hu
     · rename_i x y h1 h2
       cases hu
       cases k with
       | zero =>
         simp only [exitObjs, List.getElem?_cons_zero, Option.some.injEq] at hp
         exact .inl ⟨t, x, cs, hc, hp.symm, h1⟩
       | succ k =>
         have := upd_slot (ps := ps) (n := n + 1) h2 (k := k) (by simpa [exitObjs] using hp)
         rwa [show n + 1 + k = n + (k + 1) by omega] at this
     · cases hu
   · cases hu
 | .mo t :: ps, n, u, hu, k, p, hp => by
   simp only [updD] at hu
   split at hu
   · rename_i v xs hc
     split at hu
     · rename_i x y h1 h2
       cases hu
       obtain ⟨rfl, rfl⟩ := cast_slice h1
       cases k with
       | zero =>
         simp only [exitObjs, List.getElem?_cons_zero, Option.some.injEq] at hp
         exact .inr ⟨_, _, hc, hp.symm⟩
       | succ k =>
         have := upd_slot (ps := ps) (n := n + 1) h2 (k := k) (by simpa [exitObjs] using hp)
         rwa [show n + 1 + k = n + (k + 1) by omega] at this
     · cases hu
   · cases hu
theorem allFree_spec {h : Heap} : ∀ {l : List Nat}, allFree h l = true -> ∀ i ∈ l, ∃ t xs, h i = some (.arr t xs false)
 | [], _, i, hi => by cases hi
 | j :: r, hf, i, hi => by
   simp only [allFree, Bool.and_eq_true] at hf
   rcases List.mem_cons.1 hi with rfl | hi
   · have h1 := hf.1
     split at h1
     · rename_i t xs hh; exact ⟨t, xs, hh⟩
     · cases h1
   · exact allFree_spec hf.2 i hi
theorem leafD_any {E : Env} {h : Heap} {t : Ty} : leafD E h t .any = none := by cases t <;> rfl
theorem ressD_ne {E : Env} {h : Heap} : ∀ {rs : List RTy} {vs : List AV} {y : rdens rs}, ressD E h rs vs = some y -> ∀ v ∈ vs, v ≠ .any
 | [], vs, y, hx, v, hv => by
   cases vs with
   | nil => cases hv
   | cons _ _ => simp [ressD] at hx
 | .v t :: rs, [], y, hx, v, hv => by cases hv
 | .o t :: rs, [], y, hx, v, hv => by cases hv
 | .v t :: rs, u :: vs, y, hx, v, hv => by
   simp only [ressD] at hx
   split at hx
   · rename_i x1 x2 h1 h2
     rcases List.mem_cons.1 hv with rfl | hv
     · rintro rfl
       simp [toV, leafD_any] at h1
     · exact ressD_ne h2 v hv
   · cases hx
 | .o t :: rs, u :: vs, y, hx, v, hv => by
   simp only [ressD] at hx
   split at hx
   · rename_i x1 x2 h1 h2
     rcases List.mem_cons.1 hv with rfl | hv
     · rintro rfl
       simp [toV, leafD_any] at h1
     · exact ressD_ne h2 v hv
   · cases hx
end Go.Ab


namespace Go.Ab
variable {P : Program} {G : Ctx} {s : St} {a : Act} {w : World} {m : Nat -> Value}
theorem vals_of (hE : EnvOK P G.E) (h : Holds G s a w m) : ∀ (l : List ResultVar), (∀ r ∈ l, resAV s r (resSize G.E r) ≠ .any) -> ∃ f : ResultVar -> Value, (∀ r ∈ l, resRun P w a r (f r)) /\ VRelL (G.rc s.objs m w) (l.map fun r => resAV s r (resSize G.E r)) (l.map f) := by
 intro l hl
 have : ∀ r, ∃ val, r ∈ l -> resRun P w a r val /\ VRel (G.rc s.objs m w) (resAV s r (resSize G.E r)) val := fun r => by
   by_cases hr : r ∈ l
   · obtain ⟨val, h1, h2⟩ := resAV_ok hE h r (hl r hr)
     exact ⟨val, fun _ => ⟨h1, h2⟩⟩
   · exact ⟨undef, fun h => absurd h hr⟩
 let f : ResultVar -> Value := fun r => Classical.choose (this r)
 have hf : ∀ r ∈ l, resRun P w a r (f r) /\ VRel (G.rc s.objs m w) (resAV s r (resSize G.E r)) (f r) := fun r hr => Classical.choose_spec (this r) hr
 have key : ∀ l' : List ResultVar, (∀ r ∈ l', VRel (G.rc s.objs m w) (resAV s r (resSize G.E r)) (f r)) -> VRelL (G.rc s.objs m w) (l'.map fun r => resAV s r (resSize G.E r)) (l'.map f) := by
   intro l'
   induction l' with
   | nil => intro _; rfl
   | cons r l' ih => intro hl; exact ⟨_, _, rfl, hl r List.mem_cons_self, ih fun r hr => hl r (List.mem_cons_of_mem _ hr)⟩
 exact ⟨f, fun r hr => (hf r hr).1, key l fun r hr => (hf r hr).2⟩
theorem retC_ok {sp : FSpec} {x : pdens sp.ps} {vs : List AV} {vals : List Value} (h : Holds G s a w m) (hn0 : G.n0 = (exitObjs sp.ps (sp.upd x)).length) (hk : retC G.E sp x s vs) (hv : VRelL (G.rc s.objs m w) vs vals) :
   ∃ m', HoldsO G (outObjs sp x) m' w /\ VRelL (G.rc (outObjs sp x) m' w) (ressV sp.rs (sp.fn x) (exitObjs sp.ps (sp.upd x)).length).1 vals := by
 unfold retC at hk
 split at hk
 · rename_i y u ho hnd hfr hy hu
   obtain ⟨rfl, rfl⟩ := hk
   obtain ⟨k1, k2, k3, k4⟩ := res_slot (c := G.rc s.objs m w) h.heap hy ho hv
   have hnodup := nodupB_iff hnd
   rw [k1] at hnodup
   let nE := (exitObjs sp.ps (sp.upd x)).length
   let m' : Nat -> Value := fun k => if k < nE then G.m0 k else (resHds sp.rs vals).getD (k - nE) undef
   have hm1 : ∀ {k}, k < nE -> m' k = G.m0 k := fun {k} hk => by simp [m', hk]
   have hm2 : ∀ {k hd}, (resHds sp.rs vals)[k]? = some hd -> m' (nE + k) = hd := fun {k hd} hk => by
     have : ¬ nE + k < nE := by omega
     simp only [m', this, if_false, Nat.add_sub_cancel_left, List.getD, hk, Option.getD_some]
   have orig : ∀ {j : Nat} {p : Obj}, (outObjs sp x)[j]? = some (some p) ->
       (j < nE /\ m' j = m j /\ ((∃ t y cs, s.heap j = some (.box cs) /\ p = .box (cellsOf t y) /\ toD G.E (fun _ => none) t cs = some (y, [])) ∨ (∃ t xs, s.heap j = some (.arr t xs true) /\ p = .arr t xs true))) ∨
       (∃ k sl, j = nE + k /\ (resSlots sp.rs vs)[k]? = some sl /\ slotObj s.heap sl p /\ slotHd (G.rc s.objs m w) sl (m' j)) := by
     intro j p hj
     rcases Nat.lt_or_ge j nE with hlt | hge
     · left
       unfold outObjs at hj
       rw [List.getElem?_append_left hlt] at hj
       have hs := upd_slot hu hj
       rw [Nat.zero_add] at hs
       refine ⟨hlt, ?_, hs⟩
       rw [hm1 hlt]
       rcases hs with ⟨t, y, cs, hc, _⟩ | ⟨t, xs, hc, _⟩
       · exact (h.o.fix j _ (heap_get hc) (by rw [hn0]; exact hlt) rfl).symm
       · exact (h.o.fix j _ (heap_get hc) (by rw [hn0]; exact hlt) rfl).symm
     · right
       unfold outObjs at hj
       rw [List.getElem?_append_right hge, List.getElem?_map] at hj
       cases hp : (ressV sp.rs (sp.fn x) nE).2[j - nE]? with
       | none => rw [hp] at hj; cases hj
       | some p' =>
         rw [hp] at hj
         simp only [Option.map_some, Option.some.injEq] at hj
         subst hj
         obtain ⟨sl, hsl, hso⟩ := (k2 nE).get hp
         have hlt : j - nE < (resHds sp.rs vals).length := by rw [<- k3.length]; exact get_lt hsl
         obtain ⟨sl', hsl', hsh⟩ := k3.get (List.getElem?_eq_getElem hlt)
         rw [hsl] at hsl'
         cases hsl'
         refine ⟨j - nE, sl, by omega, hsl, hso, ?_⟩
         have := hm2 (List.getElem?_eq_getElem hlt)
         rw [show nE + (j - nE) = j by omega] at this
         rw [this]; exact hsh
   have rowOf : ∀ {j : Nat} {p : Obj} {b : Nat}, (outObjs sp x)[j]? = some (some p) -> rows (m' j) b ->
       (j < nE /\ ∃ ob, s.objs[j]? = some (some ob) /\ rows (m j) b /\ (∀ t xs, ob ≠ .arr t xs false)) ∨
       (∃ k i t xs, j = nE + k /\ (resSlots sp.rs vs)[k]? = some (some i) /\ s.objs[i]? = some (some (.arr t xs false)) /\ rows (m i) b) := by
     intro j p b hj hb
     rcases orig hj with ⟨hlt, hm, hs⟩ | ⟨k, sl, rfl, hsl, hso, hsh⟩
     · left
       rw [hm] at hb
       rcases hs with ⟨t, y, cs, hc, _⟩ | ⟨t, xs, hc, _⟩
       · exact ⟨hlt, _, heap_get hc, hb, by simp⟩
       · exact ⟨hlt, _, heap_get hc, hb, by intro t xs e; cases e⟩
     · right
       cases sl with
       | none =>
         obtain ⟨ad, e⟩ := hsh
         rw [e] at hb
         cases ad <;> simp [rows_p, rows_s, blk] at hb
       | some i =>
         obtain ⟨_, e, _⟩ := hsh
         have hi : i ∈ ownIds sp.rs vs := by rw [k1]; exact List.mem_filterMap.2 ⟨some i, List.mem_of_getElem? hsl, rfl⟩
         obtain ⟨t, xs, hh⟩ := allFree_spec hfr i hi
         refine ⟨k, i, t, xs, rfl, hsl, heap_get hh, ?_⟩
         have e' : m' (nE + k) = m i := e
         rw [<- e']; exact hb
   have hown : ∀ b, Own (outObjs sp x) m' b -> Own s.objs m b := by
     rintro b ⟨j, p, hj, hb⟩
     rcases rowOf hj hb with ⟨_, ob, ho, hb', _⟩ | ⟨k, i, t, xs, _, _, hi, hb'⟩
     · exact ⟨j, ob, ho, hb'⟩
     · exact ⟨i, _, hi, hb'⟩
   have hX : ∀ b, (G.rc s.objs m w).X b -> (G.rc (outObjs sp x) m' w).X b := fun b hb => ⟨hb.1, fun ho => hb.2 (hown b ho)⟩
   have arrT : ∀ {v : Value} {t : Ty} {xs : List t.den} {f f' : Bool}, ORel (G.rc s.objs m w) v (.arr t xs f) -> ORel (G.rc (outObjs sp x) m' w) v (.arr t xs f') := by
     intro v t xs f f' hr
     obtain ⟨ad, n, cap, e, hn', hc, hl, hr⟩ := hr
     exact ⟨ad, n, cap, e, hn', hc, hl, hr.imp id fun ⟨b, vs, e', q1, q2, q3, q4, q5⟩ => ⟨b, vs, e', q1, q2, q3, q4, fun k y hy => rep_X (q5 k y hy) hX⟩⟩
   refine ⟨m', { rel := ?_, disj := ?_, keep := h.o.keep, new := fun b hb => h.o.new b (hown b hb), len := ?_, fix := ?_ }, ?_⟩
   · intro j p hj
     rcases orig hj with ⟨hlt, hm, hs⟩ | ⟨k, sl, rfl, hsl, hso, hsh⟩
     · rw [hm]
       rcases hs with ⟨t, y, cs, hc, rfl, hd⟩ | ⟨t, xs, hc, rfl⟩
       · obtain ⟨b, ty, us, hmj, hb, hr⟩ := (h.heap j _ hc).2
         refine ⟨b, ty, us, hmj, hb, cellsOf_ok (c := G.rc (outObjs sp x) m' w) (X := (G.rc (outObjs sp x) m' w).X) (fun b hb => hb) ?_⟩
         exact rep_X (rep_noheap (c := G.rc s.objs m w) (toD_all (c := G.rc s.objs m w) (noheap _) hd hr)) hX
       · exact arrT (h.heap j _ hc).2
     · cases sl with
       | none =>
         obtain ⟨ad, e⟩ := hsh
         obtain ⟨t, rfl⟩ := hso
         rw [e]
         exact ⟨ad, 0, 0, rfl, rfl, Nat.le_refl _, by decide, .inl rfl⟩
       | some i =>
         obtain ⟨_, e, _⟩ := hsh
         obtain ⟨t, xs, f, hh, rfl⟩ := hso
         rw [e]
         exact arrT (h.heap i _ hh).2
   · intro j1 j2 p1 p2 b h1 h2 hb1 hb2
     rcases rowOf h1 hb1 with ⟨l1, o1, q1, r1, n1⟩ | ⟨c1, i1, t1, x1, e1, s1, q1, r1⟩ <;> rcases rowOf h2 hb2 with ⟨l2, o2, q2, r2, n2⟩ | ⟨c2, i2, t2, x2, e2, s2, q2, r2⟩
     · exact h.o.disj j1 j2 o1 o2 b q1 q2 r1 r2
     · have := h.o.disj j1 i2 _ _ b q1 q2 r1 r2
       subst this
       rw [q1] at q2
       cases q2
       exact absurd rfl (n1 _ _)
     · have := h.o.disj i1 j2 _ _ b q1 q2 r1 r2
       subst this
       rw [q1] at q2
       cases q2
       exact absurd rfl (n2 _ _)
     · have := h.o.disj i1 i2 _ _ b q1 q2 r1 r2
       subst this
       have := nodup_filterMap hnodup s1 s2 rfl rfl
       omega
   · rw [hn0]
     simp [outObjs]
   · intro i p hi hlt _
     exact hm1 (by rw [hn0] at hlt; exact hlt)
   · refine k4 (G.rc (outObjs sp x) m' w) nE rfl rfl hX (fun k hd hk => hm2 hk) ?_
     simp only [Ctx.rc, outObjs, List.length_append, List.length_map]
     rw [<- k3.length, (k2 nE).length]
     exact Nat.le_refl _
 · cases hk
theorem holdsO_ks {G : Ctx} {objs : List (Option Obj)} {m : Nat -> Value} {w : World} (l : List Value) (d : List Deferred) (h : HoldsO G objs m w) : HoldsO { G with ks := l, df := d } objs m w :=
 { rel := h.rel, disj := h.disj, keep := h.keep, new := h.new, len := h.len, fix := h.fix }
theorem fok_of_vc {E : Env} (hE : ProgOK P E) {f : Nat} {fn : Func} (hf : P.funcs[f]? = some fn) (hname : (fn.name == "runtime.NumGoroutine") = false) {sp : FSpec} (A : pdens sp.ps -> List (Nat × (St -> LoopAnn))) (hv : ∀ x, sp.pre x -> vc E (A x) fn sp x) (hb : fn.body.isSome = true) : FOK P E f sp := by
 refine ⟨⟨fn, hf, hb, hname⟩, fun G0 x vs hP hEq hn0 hpre hO hV => ?_⟩
 subst hEq
 suffices hmain : ∀ G : Ctx, G.ks = [] -> G.df = [] -> G.P = P -> ProgOK P G.E -> (∀ x, sp.pre x -> vc G.E (A x) fn sp x) -> G.n0 = (entry sp.ps x 0).2.length -> HoldsO G (entry sp.ps x 0).2 G.m0 G.w0 -> VRelL (G.rc (entry sp.ps x 0).2 G.m0 G.w0) (entry sp.ps x 0).1 vs ->
     Calls P f vs.toArray G.w0 fun e w' => ∃ m' vals, e = .returned (retVal vals) /\ HoldsO G (outObjs sp x) m' w' /\ VRelL (G.rc (outObjs sp x) m' w') (ressV sp.rs (sp.fn x) (exitObjs sp.ps (sp.upd x)).length).1 vals by
   refine Calls.mono (hmain { G0 with ks := [], df := [] } rfl rfl hP hE hv hn0 (holdsO_ks _ _ hO) hV) fun e w' he => ?_
   obtain ⟨m', vals, h1, h2, h3⟩ := he
   exact ⟨m', vals, h1, holdsO_ks (G := { G0 with ks := [], df := [] }) G0.ks G0.df h2, h3⟩
 clear hE hv hn0 hO hV hP
 intro G hks hdf hP hE hv hn0 hO hV
 have hvc := hv x hpre
 unfold vc at hvc
 split at hvc
 · cases hvc
 · rename_i c hc
   refine calls_of_wp hf hc ?_
   have hlen := hV.length
   rw [entry_len1] at hlen
   have h : Holds G (entrySt fn sp x) { tmps := vs.toArray ++ Array.replicate (fn.ntmps - vs.toArray.size) undef, defers := [] } G.w0 G.m0 := by
     refine { o := hO, tmps := ?_, defers := hdf.symm, kp := by rw [hks]; rfl }
     have hrep : ∀ k, VRelL (G.rc (entry sp.ps x 0).2 G.m0 G.w0) (List.replicate k .any) (List.replicate k undef) := by
       intro k
       induction k with
       | zero => rfl
       | succ k ih => exact ⟨undef, _, rfl, by simp only [VRel], ih⟩
     have := hV.append (hrep (fn.ntmps - sp.ps.length))
     simpa [entrySt, hlen] using this
   refine awp_ok (P := P) hE hP c h hvc (fun c a w hq => by obtain ⟨_, _, _, hq, _⟩ := hq; cases hq) fun e s a w m hq hh => ?_
   have fin : retV G.E sp fn x s -> bodyPost P fn (fun e w' => ∃ m' vals, e = .returned (retVal vals) /\ HoldsO G (outObjs sp x) m' w' /\ VRelL (G.rc (outObjs sp x) m' w') (ressV sp.rs (sp.fn x) (exitObjs sp.ps (sp.upd x)).length).1 vals) .ret a w := by
     intro hr
     unfold retV at hr
     generalize hs1 : s.freezes (vOwned sp.rs (resAVs G.E fn s) ++ mOwned s.heap sp.ps 0) = s1 at hr
     have h1 : Holds G s1 a w m := by rw [<- hs1]; exact hh.freezes _
     have hne : ∀ r ∈ fn.results.toList, resAV s1 r (resSize G.E r) ≠ .any := by
       intro r hr'
       have hr2 := hr
       unfold retC at hr2
       split at hr2
       · rename_i y u _ _ _ hy _
         exact ressD_ne hy _ (List.mem_map.2 ⟨r, hr', rfl⟩)
       · cases hr2
     obtain ⟨f, hf1, hf2⟩ := vals_of hE.env h1 fn.results.toList hne
     obtain ⟨m', g1, g2⟩ := retC_ok h1 (by rw [hn0]; exact entry_len) hr hf2
     exact ⟨hh.defers.trans hdf, _, results_run hf1, m', _, rfl, g1, g2⟩
   cases e with
   | normal => exact fin hq
   | ret => exact fin hq
   | exit id => cases hq
end Go.Ab


namespace Go.Ab
def Ty.dflt : (t : Ty) -> t.den
 | .int _ => (0 : Int)
 | .bool => false
 | .str => []
 | .any => .b false
 | .unit => ()
 | .err => true
 | .pair a b => (a.dflt, b.dflt)
 | .slice _ => []
def noUpd : (ps : List PTy) -> mdens ps
 | [] => ()
 | .v _ :: ps => noUpd ps
 | .r _ :: ps => noUpd ps
 | .f _ _ :: ps => noUpd ps
 | .rf _ _ :: ps => noUpd ps
 | .o _ :: ps => noUpd ps
 | .m t :: ps => (t.dflt, noUpd ps)
 | .mo _ :: ps => ([], noUpd ps)
def vps (as : List Ty) (cs : List PTy) : List PTy := match as with
 | [] => cs
 | t :: as => .v t :: vps as cs
def joinP : (as : List Ty) -> (cs : List PTy) -> dens as -> pdens cs -> pdens (vps as cs)
 | [], _, _, y => y
 | _ :: as, cs, x, y => (x.1, joinP as cs x.2 y)
def splitA : (as : List Ty) -> (cs : List PTy) -> pdens (vps as cs) -> dens as
 | [], _, _ => ()
 | _ :: as, cs, z => (z.1, splitA as cs z.2)
def splitC : (as : List Ty) -> (cs : List PTy) -> pdens (vps as cs) -> pdens cs
 | [], _, z => z
 | _ :: as, cs, z => splitC as cs z.2
theorem splitA_join : ∀ (as : List Ty) (cs : List PTy) (x : dens as) (y : pdens cs), splitA as cs (joinP as cs x y) = x
 | [], _, _, _ => rfl
 | _ :: as, cs, x, y => by simp only [joinP, splitA, splitA_join as cs]
theorem splitC_join : ∀ (as : List Ty) (cs : List PTy) (x : dens as) (y : pdens cs), splitC as cs (joinP as cs x y) = y
 | [], _, _, _ => rfl
 | _ :: as, cs, x, y => splitC_join as cs x.2 y
def CSpec.fspec (cl : CSpec) : FSpec :=
 { ps := vps cl.ats cl.cs, rs := [.v cl.b], pre := fun z => cl.pre (splitC _ _ z) (splitA _ _ z), fn := fun z => (cl.fn (splitC _ _ z) (splitA _ _ z), ()), upd := fun _ => noUpd _ }
theorem caps_entry {P : Program} {E : Env} {S : Nat -> Prop} {w : World} (c : RC) (hP : c.P = P) (hE : c.E = E) (hw : c.w = w) (hS : ∀ b, c.S b) (hX : ∀ b, c.X b) :
   ∀ {ps : List PTy} {y : pdens ps} {us : List Value} (n : Nat), CapsD P E S w ps y us -> (entry ps y n).2 = [] /\ VRelL c (entry ps y n).1 us
 | [], y, us, n, h => ⟨rfl, h⟩
 | .v t :: ps, y, us, n, h => by
   obtain ⟨v, r, rfl, h1, h2⟩ := h
   obtain ⟨g1, g2⟩ := caps_entry c hP hE hw hS hX (ps := ps) n h2
   subst hE hw
   exact ⟨g1, v, r, rfl, valOf_ok (X := S) (fun b _ => hX b) h1, g2⟩
 | .r t :: ps, y, us, n, h => by
   obtain ⟨b, o, cs, r, rfl, hb, hSb, hc, h1, h2⟩ := h
   obtain ⟨g1, g2⟩ := caps_entry c hP hE hw hS hX (ps := ps) n h2
   subst hE hw
   exact ⟨g1, _, r, rfl, ⟨b, o, rfl, hb, hS b, cs, hc, cellsOf_ok (X := S) (fun b _ => hX b) h1⟩, g2⟩
 | .rf as t :: ps, y, us, n, h => by
   obtain ⟨b, o, u, r, rfl, hb, hSb, hc, h1, h2⟩ := h
   obtain ⟨g1, g2⟩ := caps_entry c hP hE hw hS hX (ps := ps) n h2
   subst hE hw hP
   refine ⟨g1, _, r, rfl, ⟨b, o, rfl, hb, hS b, [u], fun j x hj => ?_, u, [], rfl, ?_, rfl⟩, g2⟩
   · cases j with
     | zero => simp at hj; subst hj; simpa using hc
     | succ j => simp at hj
   · exact h1.mono (Nat.le_refl _) fun k _ _ => ⟨hS k, rfl⟩
 | .f _ _ :: _, _, _, _, h => h.elim
 | .o _ :: _, _, _, _, h => h.elim
 | .mo _ :: _, _, _, _, h => h.elim
 | .m _ :: _, _, _, _, h => h.elim
theorem args_entry {P : Program} {E : Env} {S : Nat -> Prop} {w : World} (c : RC) (hP : c.P = P) (hE : c.E = E) (hw : c.w = w) (hS : ∀ b, c.S b) (hX : ∀ b, c.X b) :
   ∀ {as : List Ty} {cs : List PTy} {x : dens as} {y : pdens cs} {vs us : List Value} (n : Nat), ArgsD E (fun _ => True) w as x vs -> CapsD P E S w cs y us -> (entry (vps as cs) (joinP as cs x y) n).2 = [] /\ VRelL c (entry (vps as cs) (joinP as cs x y) n).1 (vs ++ us)
 | [], cs, x, y, vs, us, n, h1, h2 => by
   have : vs = [] := h1
   subst this
   exact caps_entry c hP hE hw hS hX n h2
 | t :: as, cs, x, y, vs, us, n, h1, h2 => by
   obtain ⟨v, r, rfl, h3, h4⟩ := h1
   obtain ⟨g1, g2⟩ := args_entry c hP hE hw hS hX (as := as) (cs := cs) (y := y) n h4 h2
   subst hE hw
   exact ⟨g1, v, r ++ us, rfl, valOf_ok (X := fun _ => True) (fun b _ => hX b) h3, g2⟩
theorem cok_of_fok {P : Program} {E : Env} {f : Nat} {cl : CSpec} (h : FOK P E f cl.fspec) (hb : cl.b.leafB = true) (hs : cl.b.shares = false) (ht : ∀ w, E.tab w) (hg : E.gl = 0) : COK P E f cl := by
 refine ⟨h.1, hb, hs, fun S w y x vs us hx hy hpre => ?_⟩
 let G : Ctx := { P := P, E := E, w0 := w, O0 := fun _ => False, X0 := fun _ => True, m0 := fun _ => undef, n0 := 0, sub := fun _ h => h.elim, tab := ht w, tabO := fun b hb => by rw [hg] at hb; omega, tabS := fun _ w' _ _ => ht w' }
 have hno : ∀ m b, ¬ Own [] m b := by rintro m b ⟨i, o, hi, _⟩; simp at hi
 obtain ⟨g1, g2⟩ := args_entry (P := P) (E := E) (S := S) (w := w) (G.rc [] G.m0 w) rfl rfl rfl (fun b => hno _ b) (fun b => ⟨.inl trivial, hno _ b⟩) 0 hx hy
 have hO : HoldsO G (entry cl.fspec.ps (joinP _ _ x y) 0).2 G.m0 G.w0 := by
   rw [show (entry cl.fspec.ps (joinP _ _ x y) 0).2 = [] from g1]
   exact { rel := fun i o hi => by simp at hi, disj := fun i j o o' b hi => by simp at hi, keep := Keep.refl _ _, new := fun b hb => absurd hb (hno _ b), len := Nat.le_refl _, fix := fun i o hi => by simp at hi }
 have hV : VRelL (G.rc (entry cl.fspec.ps (joinP _ _ x y) 0).2 G.m0 G.w0) (entry cl.fspec.ps (joinP _ _ x y) 0).1 (vs ++ us) := by
   rw [show (entry cl.fspec.ps (joinP _ _ x y) 0).2 = [] from g1]
   exact g2
 have := h.2 G (joinP _ _ x y) (vs ++ us) rfl rfl (by rw [show (entry cl.fspec.ps (joinP _ _ x y) 0).2 = [] from g1]; rfl) (by
   show cl.pre (splitC _ _ (joinP _ _ x y)) (splitA _ _ (joinP _ _ x y))
   rw [splitA_join, splitC_join]; exact hpre) hO hV
 have e : (vs ++ us).toArray = vs.toArray ++ us.toArray := by simp
 rw [e] at this
 refine Calls.mono this fun en w' he => ?_
 obtain ⟨m', vals, rfl, q1, q2⟩ := he
 simp only [CSpec.fspec, ressV, resV, VRelL] at q2
 obtain ⟨v, q, rfl, r1, rfl⟩ := q2
 rw [leaf_val hb] at r1
 refine ⟨v, rfl, ?_, q1.keep⟩
 have r2 := r1.2
 rw [splitA_join, splitC_join] at r2
 exact rep_X r2 fun _ _ => trivial
structure AnyEq (E E' : Env) : Prop where
 b : E'.anyB = E.anyB
 n : E'.anyN = E.anyN
 s : E'.anyS = E.anyS
theorem AnyEq.symm {E E' : Env} (h : AnyEq E E') : AnyEq E' E := ⟨h.b.symm, h.n.symm, h.s.symm⟩
theorem rep_env {E E' : Env} (h : AnyEq E E') {X : Nat -> Prop} {w : World} : ∀ {t : Ty} {x : t.den} {cs : List Value}, Rep E X w t x cs -> Rep E' X w t x cs
 | .int _, _, _, r => r
 | .bool, _, _, r => r
 | .str, _, _, r => r
 | .unit, _, _, r => r
 | .err, _, _, r => r
 | .any, x, cs, r => by
   obtain ⟨rfl, r⟩ := r
   refine ⟨?_, r⟩
   cases x <;> simp [anyVal, h.b, h.n, h.s]
 | .pair a b, x, cs, r => by
   obtain ⟨c1, c2, rfl, h1, h2⟩ := r
   exact ⟨c1, c2, rfl, rep_env h h1, rep_env h h2⟩
 | .slice t, xs, cs, r => by
   obtain ⟨a, n, c, rfl, hn, hc, hl, r⟩ := r
   refine ⟨a, n, c, rfl, hn, hc, hl, r.imp id ?_⟩
   rintro ⟨b, off, rfl, hb, hX, r⟩
   exact ⟨b, off, rfl, hb, hX, fun i x hi => let ⟨cells, h1, h2⟩ := r i x hi; ⟨cells, h1, rep_env h h2⟩⟩
theorem vd_env {E E' : Env} (h : AnyEq E E') {X : Nat -> Prop} {w : World} {t : Ty} {x : t.den} {v : Value} (r : VD E X w t x v) : VD E' X w t x v := by
 unfold VD at *
 split at r
 · obtain ⟨cs, rfl, r⟩ := r; rw [if_pos (by assumption)]; exact ⟨cs, rfl, rep_env h r⟩
 · rw [if_neg (by assumption)]; exact ⟨r.1, rep_env h r.2⟩
theorem args_env {E E' : Env} (h : AnyEq E E') {X : Nat -> Prop} {w : World} : ∀ {ts : List Ty} {x : dens ts} {vs : List Value}, ArgsD E X w ts x vs -> ArgsD E' X w ts x vs
 | [], _, _, r => r
 | _ :: _, _, _, r => by
   obtain ⟨v, q, rfl, h1, h2⟩ := r
   exact ⟨v, q, rfl, vd_env h h1, args_env h h2⟩
theorem pf_env {P : Program} {E E' : Env} (h : AnyEq E E') {S : Nat -> Prop} {w : World} {ts : List Ty} {b : Ty} {p : (dens ts -> b.den) × (dens ts -> Prop)} {v : Value} (r : PF P E S w ts b p v) : PF P E' S w ts b p v := by
 obtain ⟨h1, h2, g, caps, rfl, hg, r⟩ := r
 refine ⟨h1, h2, g, caps, rfl, hg, fun w1 hs ha x vs hx hp => Calls.mono (r w1 hs ha x vs (args_env h.symm hx) hp) fun e w2 he => ?_⟩
 obtain ⟨r, rfl, q1, q2⟩ := he
 exact ⟨r, rfl, rep_env h q1, q2⟩
mutual
theorem VRel.env {c : RC} {E' : Env} (h : AnyEq c.E E') : ∀ {x : AV} {v : Value}, VRel c x v -> VRel { c with E := E' } x v
 | .d t x, v, r => by simp only [VRel] at *; exact ⟨r.1, rep_env h r.2⟩
 | .lb b, v, r => r
 | .emp n, v, r => r
 | .agg l, v, r => by
   simp only [VRel] at *
   obtain ⟨vs, rfl, r⟩ := r
   exact ⟨vs, rfl, VRelL.env h r⟩
 | .tup l, v, r => by
   simp only [VRel] at *
   obtain ⟨vs, rfl, r⟩ := r
   exact ⟨vs, rfl, VRelL.env h r⟩
 | .os i, v, r => r
 | .oss .., v, r => r
 | .p .., v, r => r
 | .pc l, v, r => by
   simp only [VRel] at *
   obtain ⟨b, o, rfl, hb, hS, cs, hc, r⟩ := r
   exact ⟨b, o, rfl, hb, hS, cs, hc, VRelL.env h r⟩
 | .pe .., v, r => r
 | .fn f l, v, r => by
   simp only [VRel] at *
   obtain ⟨vs, rfl, r⟩ := r
   exact ⟨vs, rfl, VRelL.env h r⟩
 | .fp ts b p, v, r => by simp only [VRel] at *; exact pf_env h r
 | .ifc t x, v, r => by
   simp only [VRel] at *
   obtain ⟨u, rfl, r⟩ := r
   exact ⟨u, rfl, VRel.env h r⟩
 | .nili, v, r => r
 | .any, _, _ => by simp only [VRel]
 | .oz .., v, r => r
theorem VRelL.env {c : RC} {E' : Env} (h : AnyEq c.E E') : ∀ {l : List AV} {vs : List Value}, VRelL c l vs -> VRelL { c with E := E' } l vs
 | [], vs, r => r
 | x :: l, vs, r => by
   simp only [VRelL] at *
   obtain ⟨v, q, rfl, r1, r2⟩ := r
   exact ⟨v, q, rfl, VRel.env h r1, VRelL.env h r2⟩
end
theorem nr_env {E E' : Env} (h : AnyEq E E') {w : World} : ∀ {t : Ty} {x : t.den} {cs hs : List Value}, NR E w t x cs hs -> NR E' w t x cs hs
 | .int _, _, _, _, r => ⟨r.1, rep_env h r.2⟩
 | .bool, _, _, _, r => ⟨r.1, rep_env h r.2⟩
 | .str, _, _, _, r => ⟨r.1, rep_env h r.2⟩
 | .any, _, _, _, r => ⟨r.1, rep_env h r.2⟩
 | .unit, _, _, _, r => ⟨r.1, rep_env h r.2⟩
 | .err, _, _, _, r => ⟨r.1, rep_env h r.2⟩
 | .pair a b, x, cs, hs, r => by
   obtain ⟨c1, c2, h1, h2, e1, e2, r1, r2⟩ := r
   exact ⟨c1, c2, h1, h2, e1, e2, nr_env h r1, nr_env h r2⟩
 | .slice a, xs, cs, hs, r => by
   obtain ⟨hd, hs', e1, e2, ad, n, cap, e3, hn, hc, hl, r⟩ := r
   refine ⟨hd, hs', e1, e2, ad, n, cap, e3, hn, hc, hl, r.imp id ?_⟩
   rintro ⟨b, vs, e, q1, q2, q3, q4, hss, q5, q6, q7⟩
   exact ⟨b, vs, e, q1, q2, q3, q4, hss, q5, q6, fun k x hk hx hh => nr_env h (q7 k x hk hx hh)⟩
theorem orel_env {c : RC} {E' : Env} (h : AnyEq c.E E') {v : Value} {o : Obj} (r : ORel c v o) : ORel { c with E := E' } v o := by
 cases o with
 | box cs => obtain ⟨b, t, vs, e, hb, r⟩ := r; exact ⟨b, t, vs, e, hb, r.env h⟩
 | arr t xs f =>
   obtain ⟨ad, n, cap, e, hn, hc, hl, r⟩ := r
   exact ⟨ad, n, cap, e, hn, hc, hl, r.imp id fun ⟨b, vs, e', q1, q2, q3, q4, q5⟩ => ⟨b, vs, e', q1, q2, q3, q4, fun k y hy => rep_env h (q5 k y hy)⟩⟩
 | zone t xs =>
   obtain ⟨hd, hs, e, r, ha⟩ := r
   exact ⟨hd, hs, e, nr_env h r, ha⟩
theorem holdsO_env {G G' : Ctx} (h : AnyEq G.E G'.E) (hP : G'.P = G.P) (hw : G'.w0 = G.w0) (hO : G'.O0 = G.O0) (hX : G'.X0 = G.X0) (hm : G'.m0 = G.m0) (hn : G'.n0 = G.n0) {objs : List (Option Obj)} {m : Nat -> Value} {w : World} (r : HoldsO G objs m w) : HoldsO G' objs m w := by
 have e : G'.rc objs m w = { G.rc objs m w with E := G'.E } := by unfold Ctx.rc; rw [hP, hw, hX]
 exact { rel := fun i o hi => by rw [e]; exact orel_env (c := G.rc objs m w) h (r.rel i o hi), disj := r.disj, keep := by rw [hO, hw]; exact r.keep, new := by rw [hO, hw]; exact r.new, len := by rw [hn]; exact r.len, fix := by rw [hn, hm]; exact r.fix }
def Ctx.env (G : Ctx) (E' : Env) (h : TabLe G.E E') : Ctx := { G with E := E', tab := h.tab _ G.tab, tabO := fun b hb => G.tabO b (Nat.lt_of_lt_of_le hb h.gl), tabS := h.st }
theorem fok_env {P : Program} {E E' : Env} (h : AnyEq E E') (ht : TabLe E' E) {f : Nat} {sp : FSpec} (r : FOK P E f sp) : FOK P E' f sp := by
 refine ⟨r.1, fun G x vs hP hE hn hpre hO hV => ?_⟩
 subst hE
 have h' : AnyEq G.E E := h.symm
 have := r.2 (G.env E ht) x vs hP rfl hn hpre (holdsO_env (G' := G.env E ht) h' rfl rfl rfl rfl rfl rfl hO) (VRelL.env (c := G.rc _ G.m0 G.w0) h' hV)
 refine Calls.mono this fun e w' he => ?_
 obtain ⟨m', vals, rfl, q1, q2⟩ := he
 exact ⟨m', vals, rfl, holdsO_env (G := G.env E ht) (G' := G) h rfl rfl rfl rfl rfl rfl q1, VRelL.env (c := (G.env E ht).rc _ m' w') h q2⟩
theorem caps_env {P : Program} {E E' : Env} (h : AnyEq E E') {S : Nat -> Prop} {w : World} : ∀ {ps : List PTy} {y : pdens ps} {us : List Value}, CapsD P E S w ps y us -> CapsD P E' S w ps y us
 | [], _, _, r => r
 | .v t :: ps, _, _, r => by obtain ⟨v, q, rfl, h1, h2⟩ := r; exact ⟨v, q, rfl, vd_env h h1, caps_env h h2⟩
 | .r t :: ps, _, _, r => by obtain ⟨b, o, cs, q, rfl, hb, hS, hc, h1, h2⟩ := r; exact ⟨b, o, cs, q, rfl, hb, hS, hc, rep_env h h1, caps_env h h2⟩
 | .rf as t :: ps, _, _, r => by obtain ⟨b, o, u, q, rfl, hb, hS, hc, h1, h2⟩ := r; exact ⟨b, o, u, q, rfl, hb, hS, hc, pf_env h h1, caps_env h h2⟩
 | .f _ _ :: _, _, _, r => r.elim
 | .o _ :: _, _, _, r => r.elim
 | .mo _ :: _, _, _, r => r.elim
 | .m _ :: _, _, _, r => r.elim
theorem cok_env {P : Program} {E E' : Env} (h : AnyEq E E') {f : Nat} {cl : CSpec} (r : COK P E f cl) : COK P E' f cl := by
 obtain ⟨h1, h2, h3, r⟩ := r
 refine ⟨h1, h2, h3, fun S w y x vs us hx hy hp => Calls.mono (r S w y x vs us (args_env h.symm hx) (caps_env h.symm hy) hp) fun e w2 he => ?_⟩
 obtain ⟨v, rfl, q1, q2⟩ := he
 exact ⟨v, rfl, rep_env h q1, q2⟩
end Go.Ab


