/- Packed by wip/tools/pack.py out of Lit. -/
import Derived.Laws.Tables
import Derived.Laws.NewFold
import Derived.Tactics
import Derived.WalkKit
import Derived.Laws.Rows
namespace Go.Proofs.YtpgfhbdnlojdfaaGreatDoor.Lit
open Go Go.RowKit
def builtSlice (P : Program) (t : TypeId) (len : Nat) (parts : List (Nat × Value)) : Option (Array Value × TypeId) :=
  match P.underlying t with
  | some (.slice el) =>
    match P.info? el with
    | some i =>
      match i.zero with
      | some z => if len * i.size > 2 ^ 24 ∨ len * i.size = 0 then none else (Instr.fill (fun j => some (j * i.size, i.size)) ((Array.range (len * i.size)).map (z.cells[· % z.cells.size]!)) parts).map (·, el)
      | none => none
    | none => none
  | _ => none
theorem run_builtSlice {P : Program} (w : World) (t : TypeId) (len : Nat) (parts : Array (Nat × Value)) (cells : Array Value) (el : TypeId) (h : builtSlice P t len parts.toList = some (cells, el)) :
    (Instr.buildSlice t len parts).run P w = .ok (.slice (some ⟨w.heap.size, 0, none⟩) len len) (w.alloc (.cells cells el)) := by
  unfold builtSlice at h
  cases hu : P.underlying t with
  | none => simp [hu] at h
  | some d =>
    cases d <;> try (simp [hu] at h; done)
    rename_i e
    cases hi : P.info? e with
    | none => simp [hu, hi] at h
    | some i =>
      cases hz : i.zero with
      | none => simp [hu, hi, hz] at h
      | some z =>
        simp only [hu, hi, hz] at h
        split at h
        · cases h
        · rename_i hs
          simp only [not_or, Nat.not_lt] at hs
          obtain ⟨cs, hc, he⟩ := Option.map_eq_some_iff.1 h
          injection he with h1 h2
          subst h1; subst h2
          simp [Instr.buildSlice, run_underlying hu, sizeOf, typeInfo, hi, zeroValue, hz, hs.2, hc, newRow, Nat.not_lt.2 hs.1]
structure LitSt where
  tmps : Array Value
  objs : Array Obj
  ptrs : List (Tmp × Nat) := []
def LitSt.put (s : LitSt) (d : Option Tmp) (v : Value) : LitSt :=
  match d with
  | some d => { s with tmps := s.tmps.setIfInBounds d v, ptrs := s.ptrs.filter fun p => p.1 != d }
  | none => s
def LitSt.Ok (s : LitSt) (n : Nat) : Prop := ∀ p ∈ s.ptrs, s.tmps.getD p.1 undef = .pointer (some ⟨n + p.2, 0, none⟩)
theorem LitSt.Ok.put {s : LitSt} {n : Nat} (h : s.Ok n) (d : Option Tmp) (v : Value) : (s.put d v).Ok n := by
  cases d with
  | none => exact h
  | some d =>
    intro p hp
    obtain ⟨h1, h2⟩ := List.mem_filter.1 hp
    have hne : ¬ d = p.1 := fun e => by simp [e] at h2
    have := h p h1
    simp only [LitSt.put, Array.getD_eq_getD_getElem?, Array.getElem?_setIfInBounds, if_neg hne] at this ⊢
    exact this
def LitSt.eval (s : LitSt) (x : Operand) : Value := Act.eval { tmps := s.tmps, defers := [] } x
def litOper (P : Program) (n : Nat) (s : LitSt) (o : Oper) : Option LitSt :=
  match o.guard with
  | some _ => none
  | none =>
    match o.op with
    | .move x | .assign x => some (s.put o.dst (s.eval x))
    | .build t parts => (P.built t (parts.map fun (i, x) => (i, s.eval x)).toList).map fun cs => s.put o.dst (.agg cs)
    | .buildSlice t len parts => (builtSlice P t len (parts.map fun (i, x) => (i, s.eval x)).toList).map fun c => { s.put o.dst (.slice (some ⟨n + s.objs.size, 0, none⟩) len len) with objs := s.objs.push (.cells c.1 c.2) }
    | .alloc t =>
      match P.info? t, o.dst with
      | some i, some d =>
        match i.zero with
        | some z => if d < s.tmps.size then some { tmps := s.tmps.setIfInBounds d (.pointer (some ⟨n + s.objs.size, 0, none⟩)), objs := s.objs.push (.cells z.cells t), ptrs := (d, s.objs.size) :: s.ptrs.filter fun p => p.1 != d } else none
        | none => none
      | _, _ => none
    | .store ty (.tmp u) y =>
      match s.ptrs.find? (fun p => p.1 == u), s.eval y, o.dst with
      | some p, .agg cells, none =>
        match s.objs[p.2]? with
        | some (.cells old t (0, 0)) => if (P.info? ty).map (·.size) = some cells.size ∧ old.size = cells.size ∧ cells.all (·.oneCell') = true then some { s with objs := s.objs.setIfInBounds p.2 (.cells cells t) } else none
        | _ => none
      | _, _, _ => none
    | _ => none
def litRun (P : Program) (n : Nat) : List Oper → LitSt → Option LitSt
  | [], s => some s
  | o :: l, s => (litOper P n s o).bind (litRun P n l)
def grow (w : World) (objs : Array Obj) : World := { w with heap := w.heap ++ objs }
theorem grow_push (w : World) (objs : Array Obj) (o : Obj) : (grow w objs).alloc o = grow w (objs.push o) := by
  unfold grow World.alloc; simp
theorem grow_size (w : World) (objs : Array Obj) : (grow w objs).heap.size = w.heap.size + objs.size := by simp [grow]
theorem put_tmps (s : LitSt) (d : Option Tmp) (v : Value) (ds : List Deferred) : ({ tmps := s.tmps, defers := ds } : Act).put d v = { tmps := (s.put d v).tmps, defers := ds } := by cases d <;> rfl
theorem put_objs (s : LitSt) (d : Option Tmp) (v : Value) : (s.put d v).objs = s.objs := by cases d <;> rfl
theorem eval_act (s : LitSt) (ds : List Deferred) : Act.eval ({ tmps := s.tmps, defers := ds } : Act) = s.eval := by funext x; cases x <;> rfl
theorem grow_setRow (w : World) (objs : Array Obj) (i : Nat) (cs old : Array Value) (t : TypeId) (h : objs[i]? = some (.cells old t (0, 0))) : (grow w objs).setRow (w.heap.size + i) cs = grow w (objs.setIfInBounds i (.cells cs t)) := by
  obtain ⟨hi, he⟩ := Array.getElem?_eq_some_iff.1 h
  unfold grow World.setRow
  congr 1
  apply Array.ext
  · simp
  · intro k h1 h2
    simp only [Array.getElem_modify, Array.getElem_append]
    by_cases hk : k < w.heap.size
    · simp [hk, show ¬ w.heap.size + i = k by omega]
    · by_cases hk2 : w.heap.size + i = k
      · subst hk2
        simp only [dif_neg hk, if_true, Nat.add_sub_cancel_left, he, Array.getElem_setIfInBounds_self]
      · have hki : k - w.heap.size < objs.size := by simp at h2; omega
        simp only [dif_neg hk, if_neg hk2]
        rw [Array.getElem_setIfInBounds_ne hki (by omega)]
theorem wpList_lit {P : Program} {ops : Array Oper} {Q : Exit → Act → World → Prop} {rest : List Oper} {w : World} {ds : List Deferred} :
    ∀ (l : List Oper) (s s' : LitSt), s.Ok w.heap.size → litRun P w.heap.size l s = some s' → (s'.Ok w.heap.size → wpList P ops Q rest { tmps := s'.tmps, defers := ds } (grow w s'.objs)) → wpList P ops Q (l ++ rest) { tmps := s.tmps, defers := ds } (grow w s.objs) := by
  intro l
  induction l with
  | nil => intro s s' hok h hk; cases h; exact hk hok
  | cons o l ih =>
    intro s s' hok h hk
    obtain ⟨s1, h1, h2⟩ := Option.bind_eq_some_iff.1 h
    have next := fun hok1 => ih s1 s' hok1 h2 hk
    unfold litOper at h1
    cases hg : o.guard with
    | some g => simp [hg] at h1
    | none =>
      simp only [hg] at h1
      refine wpList_plain hg fun K hK => ?_
      replace next := fun hok1 => hK _ _ (next hok1)
      unfold Oper.wp execOp
      rw [eval_act]
      cases ho : o.op <;> simp only [ho] at h1 <;> try (cases h1; done)
      case move x =>
        cases h1
        rw [put_objs] at next
        simp only [Sem.run_pure]
        rw [Oper.upon_value, put_tmps]
        exact next (hok.put _ _)
      case assign x =>
        cases h1
        rw [put_objs] at next
        simp only [Sem.run_pure]
        rw [Oper.upon_value, put_tmps]
        exact next (hok.put _ _)
      case build t parts =>
        obtain ⟨cs, hc, rfl⟩ := Option.map_eq_some_iff.1 h1
        rw [put_objs] at next
        simp only [Sem.run_bind, run_build _ t _ cs hc, Result.andThen_ok, Sem.run_pure]
        rw [Oper.upon_value, put_tmps]
        exact next (hok.put _ _)
      case buildSlice t len parts =>
        obtain ⟨⟨cs, el⟩, hc, rfl⟩ := Option.map_eq_some_iff.1 h1
        simp only [Sem.run_bind, run_builtSlice _ t len _ cs el hc, Result.andThen_ok, Sem.run_pure]
        rw [Oper.upon_value, put_tmps, grow_push, grow_size]
        exact next (hok.put _ _)
      case alloc t =>
        split at h1
        · rename_i i d hi hd
          split at h1
          · rename_i z hz
            split at h1
            · rename_i hlt
              cases h1
              have hrun : (Instr.alloc t true (.tuple #[])).run P (grow w s.objs) = .ok (.pointer (some ⟨w.heap.size + s.objs.size, 0, none⟩)) (grow w (s.objs.push (.cells z.cells t))) := by
                rw [← grow_push, ← grow_size]
                simp [Instr.alloc, zeroValue, typeInfo, hi, hz, newVar, newRow]
              simp only [Sem.run_bind, hrun, Result.andThen_ok, Sem.run_pure]
              rw [Oper.upon_value, hd]
              refine next ?_
              intro p hp
              rcases List.mem_cons.1 hp with rfl | hp
              · simp [Array.getD_eq_getD_getElem?, hlt]
              · exact hok.put (some d) _ p hp
            · cases h1
          · cases h1
        · cases h1
      case store ty x y =>
        cases x <;> dsimp only at h1 <;> try (cases h1; done)
        rename_i u
        split at h1
        · rename_i p cells hp hy hd
          split at h1
          · rename_i old t hobj
            split at h1
            · rename_i hc
              cases h1
              have hptr := hok p (List.mem_of_find?_eq_some hp)
              have hpu : p.1 = u := by have := List.find?_some hp; simpa using this
              rw [hpu] at hptr
              have hrow : (grow w s.objs).heap[w.heap.size + p.2]? = some (.cells old t (0, 0)) := by
                unfold grow
                rw [Array.getElem?_append_right (by omega)]
                simpa using hobj
              have hrun := run_storeVar_row (P := P) (grow w s.objs) (w.heap.size + p.2) t ty old cells hrow hc.1 hc.2.1 hc.2.2
              have hxe : s.eval (.tmp u) = .pointer (some ⟨w.heap.size + p.2, 0, none⟩) := hptr
              simp only [hxe, hy, Instr.storeAt, Instr.sureAddr, Sem.run_bind, Sem.run_pure, Result.andThen_ok, hrun]
              rw [grow_setRow w s.objs p.2 cells old t hobj]
              rw [Oper.upon_skip, hd]
              exact next hok
            · cases h1
          · cases h1
        · cases h1
def litCode (P : Program) (n : Nat) : Code → LitSt → Option (LitSt × Bool)
  | .seq x y, s => (litCode P n x s).bind fun r => if r.2 then some r else litCode P n y r.1
  | .region _ ops false, s => (litRun P n ops.toList s).map (·, false)
  | .ret, s => some (s, true)
  | .skip, s => some (s, false)
  | _, _ => none
theorem wp_lit {P : Program} {w : World} {ds : List Deferred} : ∀ (c : Code) (Q : Exit → Act → World → Prop) (s s' : LitSt) (r : Bool), s.Ok w.heap.size → litCode P w.heap.size c s = some (s', r) →
    (s'.Ok w.heap.size → Q (if r then .ret else .normal) { tmps := s'.tmps, defers := ds } (grow w s'.objs)) → c.wp P Q { tmps := s.tmps, defers := ds } (grow w s.objs) := by
  intro c
  induction c with
  | seq x y ihx ihy =>
    intro Q s s' r hok h hq
    obtain ⟨⟨s1, r1⟩, h1, h2⟩ := Option.bind_eq_some_iff.1 h
    refine wp_seq (ihx _ s s1 r1 hok h1 (fun hok1 => ?_))
    cases r1 with
    | true => cases h2; exact hq hok1
    | false => exact ihy Q s1 s' r hok1 h2 hq
  | region id ops dr =>
    intro Q s s' r hok h hq
    cases dr with
    | true => cases h
    | false =>
      obtain ⟨s1, h1, h2⟩ := Option.map_eq_some_iff.1 h
      cases h2
      refine wp_region_list ?_
      have := wpList_lit (ops := ops) (Q := Q) (rest := []) (ds := ds) ops.toList s s' hok h1 hq
      rwa [List.append_nil] at this
  | ret => intro Q s s' r hok h hq; cases h; exact wp_ret (hq hok)
  | skip => intro Q s s' r hok h hq; cases h; exact wp_skip (hq hok)
  | _ => intro Q s s' r hok h hq; cases h
theorem grow_nil (w : World) : grow w #[] = w := by unfold grow; simp
theorem grow_one (w : World) (o : Obj) : grow w #[o] = w.alloc o := by rw [show #[o] = (#[] : Array Obj).push o from rfl, ← grow_push, grow_nil]
theorem calls_lit {P : Program} {f : FuncId} {fn : Func} {c : Code} {u : Tmp} {w : World} {v : Value} {objs : Array Obj} (hf : P.funcs[f]? = some fn) (hb : fn.body = some c) (hr : fn.results = #[.tmp u])
    (h : (litCode P w.heap.size c { tmps := Array.replicate fn.ntmps undef, objs := #[] }).map (fun r => (r.1.tmps.getD u undef, r.1.objs)) = some (v, objs)) :
    Calls P f #[] w fun e w' => e = .returned v ∧ w' = grow w objs := by
  obtain ⟨⟨s, r⟩, h1, h2⟩ := Option.map_eq_some_iff.1 h
  injection h2 with h2 h3
  refine calls_of_wp hf hb ?_
  have := wp_lit (ds := []) c (bodyPost P fn fun e w' => e = .returned v ∧ w' = grow w objs) _ s r (fun p hp => by cases hp) h1 ?_
  · rw [grow_nil] at this
    simpa using this
  · intro _
    cases r <;> exact ⟨rfl, v, by rw [← h2]; exact results_tmp hr _ _ _, rfl, by rw [← h3]⟩
theorem calls_lit_cell {P : Program} {f : FuncId} {fn : Func} {c : Code} {u : Tmp} {ty : TypeId} {w : World} {objs : Array Obj} (hf : P.funcs[f]? = some fn) (hb : fn.body = some c) (hr : fn.results = #[.cell u ty]) (i : Nat) {cs : Array Value} {t : TypeId} {d : TypeDesc}
    (h : (litCode P w.heap.size c { tmps := Array.replicate fn.ntmps undef, objs := #[] }).map (fun r => (r.1.tmps.getD u undef, r.1.objs)) = some (.pointer (some ⟨w.heap.size + i, 0, none⟩), objs))
    (hc : objs[i]? = some (.cells cs t (0, 0))) (hu : P.underlying ty = some d) (hd : (match d with | .struct _ | .array _ _ => true | _ => false) = true) (hi : (P.info? ty).map (·.size) = some cs.size) :
    Calls P f #[] w fun e w' => e = .returned (.agg cs) ∧ w' = grow w objs := by
  obtain ⟨⟨s, r⟩, h1, h2⟩ := Option.map_eq_some_iff.1 h
  injection h2 with h2 h3
  refine calls_of_wp hf hb ?_
  have := wp_lit (ds := []) c (bodyPost P fn fun e w' => e = .returned (.agg cs) ∧ w' = grow w objs) _ s r (fun p hp => by cases hp) h1 ?_
  · rw [grow_nil] at this
    simpa using this
  · intro _
    have hrow : (grow w s.objs).heap[w.heap.size + i]? = some (.cells cs t (0, 0)) := by
      rw [h3]
      unfold grow
      rw [Array.getElem?_append_right (by omega)]
      simpa using hc
    cases r <;> exact ⟨rfl, .agg cs, results_cell_row hr _ _ _ t cs (0, 0) d h2 hrow hu hd hi, rfl, by rw [h3]⟩
end Go.Proofs.YtpgfhbdnlojdfaaGreatDoor.Lit
