/- Packed by wip/tools/pack.py out of MOf. -/
import Derived.Deep.DeepMust
import Derived.WalkArith
import Derived.Test.YtpgfhbdnlojdfaaGreatDoorR10
import Derived.Test.YtpgfhbdnlojdfaaGreatDoorR12
namespace Go.Proofs.YtpgfhbdnlojdfaaGreatDoor.P
open Go.RowKit Go.Proofs.YtpgfhbdnlojdfaaGreatDoorW.PrintWords Go.Proofs.YtpgfhbdnlojdfaaGreatDoorW.PrintLast Go.Proofs.YtpgfhbdnlojdfaaGreatDoorW.PrintMore Go.Proofs.YtpgfhbdnlojdfaaGreatDoor.Lit
open Go.Maps (Keyed)
set_option linter.unusedVariables false
set_option linter.unusedSimpArgs false
def heldV (v : Value) : Option (DataW Value × List MemPlace) := some (.held v, [])
theorem heldV_inv {v v' : Value} {ps : List MemPlace} (h : heldV v = some (.held v', ps)) : v = v' := by injection h with h; injection h with h1 h2; injection h1
def aggF (x : S143) : Value := .agg #[.int .i64 x.f0, .int .u16 x.f1, .string x.f2, .int .i64 x.f3, .int .i64 x.f4, .int .i64 x.f5, .int .i64 x.f6]
def inClass (c : Int) (x : S143) : S143 := { x with f0 := c }
def putAll (c : Int) (l : List S143) : DataW Value := l.foldl (fun D x => D.put (.int .u16 x.f1) (.held (aggF (inClass c x)))) (.map [])
theorem putAll_snoc (c : Int) (l : List S143) (x : S143) : putAll c (l ++ [x]) = (putAll c l).put (.int .u16 x.f1) (.held (aggF (inClass c x))) := by simp [putAll]
def lastF (t : Int) (l : List S143) : Option S143 := l.foldl (fun acc x => if x.f1 = t then some x else acc) none
theorem key16 : Keyed Tryz.prog 22 := Maps.int_keyed Tryz.underlying22
theorem C_turn {w w' : World} {A : Option Addr} {n b : Nat} {xs : List S143} (h : Kd.C k143 w A n xs) (hg : w.grownBy w' (some b)) (hb : ∀ cs t fr, w.heap[b]? ≠ some (.cells cs t fr)) : Kd.C k143 w' A n xs := by
  refine ⟨h.1, h.2.1, fun hp => ?_⟩
  obtain ⟨ad, e, hx⟩ := h.2.2 hp
  refine ⟨ad, e, fun j p hj => ?_⟩
  obtain ⟨cs, h1, h2, h3⟩ := hx j p hj
  refine ⟨cs, h1, by rw [k143_open h2]; exact k143_mk w' p, fun i u hu => ?_⟩
  have hc := h3 i u hu
  have hlt := World.block_lt_of_cell? w _ hc
  refine (cell_same' (hg.block _ hlt (fun e => ?_))).trans hc
  unfold World.cell? at hc
  injection e with e
  rw [e] at hc
  cases ho : w.heap[b]? with
  | none => rw [ho] at hc; cases hc
  | some o => cases o <;> first | exact hb _ _ _ ho | (rw [ho] at hc; cases hc)
theorem rdF_mem (l : List S143) (k : Nat) (h : k < l.length) : rd_T143 l (k : Int) ∈ l := by
  unfold rd_T143
  rw [Int.toNat_natCast, List.getD_eq_getElem?_getD, List.getElem?_eq_getElem h]; exact List.getElem_mem _
theorem rdF_take (l : List S143) (k : Nat) (h : k < l.length) : l.take (k + 1) = l.take k ++ [rd_T143 l (k : Int)] := by
  unfold rd_T143
  rw [Int.toNat_natCast, List.getD_eq_getElem?_getD, List.getElem?_eq_getElem h, List.take_succ_eq_append_getElem h]; rfl
theorem putAll_look (c t : Int) : ∀ (l : List S143) (D : DataW Value) (acc : Option S143), Maps.IsMap D → (∀ z, D.atKey (.int .u16 t) z = (acc.map fun x => DataW.held (aggF (inClass c x))).getD z) → Maps.has D (.int .u16 t) = acc.isSome →
    Maps.IsMap (l.foldl (fun D x => D.put (.int .u16 x.f1) (.held (aggF (inClass c x)))) D) ∧
    (∀ z, (l.foldl (fun D x => D.put (.int .u16 x.f1) (.held (aggF (inClass c x)))) D).atKey (.int .u16 t) z = ((l.foldl (fun acc x => if x.f1 = t then some x else acc) acc).map fun x => DataW.held (aggF (inClass c x))).getD z) ∧
    Maps.has (l.foldl (fun D x => D.put (.int .u16 x.f1) (.held (aggF (inClass c x)))) D) (.int .u16 t) = (l.foldl (fun acc x => if x.f1 = t then some x else acc) acc).isSome
  | [], D, acc, hm, h1, h2 => ⟨hm, h1, h2⟩
  | x :: l, D, acc, hm, h1, h2 => by
    refine putAll_look c t l _ _ ?_ ?_ ?_
    · exact hm.put _ _
    · intro z
      dsimp only
      by_cases e : x.f1 = t
      · rw [if_pos e, e, Maps.atKey_put_same hm (by trivial)]; rfl
      · rw [if_neg e, Maps.atKey_put_other (by simpa [eq_comm] using e)]; exact h1 z
    · dsimp only
      by_cases e : x.f1 = t
      · rw [if_pos e, e, Maps.has_put_same hm (by trivial)]; rfl
      · rw [if_neg e, Maps.has_put_other (by simpa [eq_comm] using e)]; exact h2
set_option maxRecDepth 100000 in
set_option maxHeartbeats 4000000 in
theorem forms.at1 (la lb : List S143) (hll : la.length ≤ 27) (HT : ∀ w, Calls Tryz.prog 116 #[] w fun e w' => ∃ g1 g2, e = .returned (.agg #[.slice none 0 0, .slice (some ⟨g1, 0, none⟩) la.length la.length, .slice (some ⟨g2, 0, none⟩) lb.length lb.length]) ∧
    Kd.C k143 w' (some ⟨g1, 0, none⟩) la.length la ∧ Kd.C k143 w' (some ⟨g2, 0, none⟩) lb.length lb ∧ Below w.heap.size w w') (hwf : ∀ x ∈ la, (Lit.int .u16 x.f1).wf = true) (w : World) :
    Calls Tryz.prog 111 #[.int .i64 1] w fun e w' => ∃ b, e = .returned (.map (some b)) ∧ w'.ownsMap Tryz.prog 22 heldV b la.length (putAll 1 la) ∧ Below w.heap.size w w' := by
  replace HT := Aside0.mk HT
  have HWF := Aside0.mk hwf
  have hmk : ∀ W : World, (Instr.makeMap 169 none).run Tryz.prog W = .ok (.map (some W.heap.size)) (W.alloc (.map #[] 0)) := fun W => rfl
  have hix : ∀ (a b c : Value) (W : World), (Instr.index 188 (.agg #[a, b, c]) (.int .i64 1)).run Tryz.prog W = .ok b W := fun a b c W => by kernel_rfl
  clear hwf
  go_enter Tryz.func111, Tryz.ntmps111
  go_wp2_with (first | (go_at_call 116; refine (HT.out _).mono ?_; rintro e w1 ⟨g1, g2, rfl, hc1, hc2, hb⟩; have HC1 := Aside0.mk hc1; have HC2 := Aside0.mk hc2; (first | (have HM := Aside0.mk (HM.out.kept (grown_of_below hb none) (by simp)); have HB := Aside0.mk (HB.out.trans (hb.mono HB.out.size))) | (have HB := Aside0.mk (((Below.refl _ w).alloc (Nat.le_refl _) _).trans (hb.mono (by simp))); have HM := Aside0.mk (World.ownsMap.kept (World.ownsMap_made w Tryz.prog 22 heldV) (grown_of_below hb none) (by simp)))); clear hc1 hc2 hb))
  have hRows := HC1.out
  clear HC1 HC2
  obtain ⟨ad, had⟩ : ∃ ad : Addr, ad = ⟨g1, 0, none⟩ := ⟨_, rfl⟩
  rw [← had] at hRows ⊢
  clear had
  have HR0 := Aside0.mk hRows
  have hB0 := HB.out
  have HB0 := Aside0.mk hB0
  clear hRows hB0
  go_loopw [20] (fun i W => ∃ k : Nat, k ≤ la.length ∧ i = .int .i64 k ∧ Aside0 (W.ownsMap Tryz.prog 22 heldV w.heap.size k (putAll 1 (la.take k))) ∧ Aside0 (Below w.heap.size w W) ∧ Aside0 (Kd.C k143 W (some ad) la.length la)) (fun i _ => la.length - (intOf i).toNat)
  case atStart => exact ⟨0, Nat.zero_le _, rfl, ⟨HM.out⟩, ⟨HB0.out⟩, ⟨HR0.out⟩⟩
  case round =>
    clear HB HM HB0 HR0
    obtain ⟨k, hk, rfl, HM, HB, HC⟩ := hrel
    by_cases hlt : k < la.length
    · have HKM := Aside0.mk (show k < maxLen by unfold maxLen; omega)
      have hk0 : (0 : Int) ≤ (k : Int) := by omega
      have hk1 : (k : Int) < la.length := by omega
      obtain ⟨ad', e, hx0, hx1, hx2, hx3, hx4, hx5, hx6⟩ := at_T143 HC.out (k : Int) hk0 hk1
      injection e with e
      subst e
      rw [Int.toNat_natCast] at hx0 hx1 hx2 hx3 hx4 hx5 hx6
      obtain ⟨x, hx⟩ : ∃ x, x = rd_T143 la (k : Int) := ⟨_, rfl⟩
      rw [← hx] at hx0 hx1 hx2 hx3 hx4 hx5 hx6
      have HX := Aside0.mk hx
      clear hx
      have HKEY := Aside0.mk (Maps.keyOf_int_mk Tryz.underlying22 (HWF.out x (by rw [HX.out]; exact rdF_mem la k hlt)))
      go_wp2_with (first | (at_mapUpdate; refine wpList_mapUpdate_own _ rfl _ _ _ 169 rfl 22 143 key16 Tryz.underlying169 heldV w.heap.size k _ rfl (HM.out.alloc _) HKM.out _ _ (.int .u16 x.f1) rfl rfl HKEY.out (.held (aggF (inClass 1 x))) [] rfl ?_; intro w3 hown hgrow; have HM3 := Aside0.mk hown; have HG3 := Aside0.mk hgrow; clear hown hgrow))
      refine ⟨⟨k + 1, by omega, by go_num, ⟨?_⟩, ⟨?_⟩, ⟨?_⟩⟩, by simp [intOf]; omega⟩
      · rw [rdF_take la k hlt, putAll_snoc, ← HX.out]; exact HM3.out
      · exact (HB.out.alloc HB.out.size _).grown HG3.out (by have := HB.out.size; simp; omega) (fun k e => by cases e; exact Nat.le_refl _)
      · exact C_turn (Kd.C_alloc HC.out _) HG3.out (by obtain ⟨es, clock, hm, _⟩ := HM.out.alloc (.cells #[.int .i64 1, .int .u16 x.f1, .string x.f2, .int .i64 x.f3, .int .i64 x.f4, .int .i64 x.f5, .int .i64 x.f6] 143); intro cs t fr e; rw [hm] at e; cases e)
    · obtain rfl : k = la.length := by omega
      go_wp2
      go_ret
      have hM := HM.out
      rw [List.take_length] at hM
      exact ⟨_, rfl, hM, HB.out⟩
set_option maxRecDepth 100000 in
set_option maxHeartbeats 4000000 in
theorem forms.at2 (la lb : List S143) (hll : lb.length ≤ 27) (HT : ∀ w, Calls Tryz.prog 116 #[] w fun e w' => ∃ g1 g2, e = .returned (.agg #[.slice none 0 0, .slice (some ⟨g1, 0, none⟩) la.length la.length, .slice (some ⟨g2, 0, none⟩) lb.length lb.length]) ∧
    Kd.C k143 w' (some ⟨g1, 0, none⟩) la.length la ∧ Kd.C k143 w' (some ⟨g2, 0, none⟩) lb.length lb ∧ Below w.heap.size w w') (hwf : ∀ x ∈ lb, (Lit.int .u16 x.f1).wf = true) (w : World) :
    Calls Tryz.prog 111 #[.int .i64 2] w fun e w' => ∃ b, e = .returned (.map (some b)) ∧ w'.ownsMap Tryz.prog 22 heldV b lb.length (putAll 2 lb) ∧ Below w.heap.size w w' := by
  replace HT := Aside0.mk HT
  have HWF := Aside0.mk hwf
  have hmk : ∀ W : World, (Instr.makeMap 169 none).run Tryz.prog W = .ok (.map (some W.heap.size)) (W.alloc (.map #[] 0)) := fun W => rfl
  have hix : ∀ (a b c : Value) (W : World), (Instr.index 188 (.agg #[a, b, c]) (.int .i64 2)).run Tryz.prog W = .ok c W := fun a b c W => by kernel_rfl
  clear hwf
  go_enter Tryz.func111, Tryz.ntmps111
  go_wp2_with (first | (go_at_call 116; refine (HT.out _).mono ?_; rintro e w1 ⟨g1, g2, rfl, hc1, hc2, hb⟩; have HC1 := Aside0.mk hc1; have HC2 := Aside0.mk hc2; (first | (have HM := Aside0.mk (HM.out.kept (grown_of_below hb none) (by simp)); have HB := Aside0.mk (HB.out.trans (hb.mono HB.out.size))) | (have HB := Aside0.mk (((Below.refl _ w).alloc (Nat.le_refl _) _).trans (hb.mono (by simp))); have HM := Aside0.mk (World.ownsMap.kept (World.ownsMap_made w Tryz.prog 22 heldV) (grown_of_below hb none) (by simp)))); clear hc1 hc2 hb))
  have hRows := HC2.out
  clear HC1 HC2
  obtain ⟨ad, had⟩ : ∃ ad : Addr, ad = ⟨g2, 0, none⟩ := ⟨_, rfl⟩
  rw [← had] at hRows ⊢
  clear had
  have HR0 := Aside0.mk hRows
  have hB0 := HB.out
  have HB0 := Aside0.mk hB0
  clear hRows hB0
  go_loopw [20] (fun i W => ∃ k : Nat, k ≤ lb.length ∧ i = .int .i64 k ∧ Aside0 (W.ownsMap Tryz.prog 22 heldV w.heap.size k (putAll 2 (lb.take k))) ∧ Aside0 (Below w.heap.size w W) ∧ Aside0 (Kd.C k143 W (some ad) lb.length lb)) (fun i _ => lb.length - (intOf i).toNat)
  case atStart => exact ⟨0, Nat.zero_le _, rfl, ⟨HM.out⟩, ⟨HB0.out⟩, ⟨HR0.out⟩⟩
  case round =>
    clear HB HM HB0 HR0
    obtain ⟨k, hk, rfl, HM, HB, HC⟩ := hrel
    by_cases hlt : k < lb.length
    · have HKM := Aside0.mk (show k < maxLen by unfold maxLen; omega)
      have hk0 : (0 : Int) ≤ (k : Int) := by omega
      have hk1 : (k : Int) < lb.length := by omega
      obtain ⟨ad', e, hx0, hx1, hx2, hx3, hx4, hx5, hx6⟩ := at_T143 HC.out (k : Int) hk0 hk1
      injection e with e
      subst e
      rw [Int.toNat_natCast] at hx0 hx1 hx2 hx3 hx4 hx5 hx6
      obtain ⟨x, hx⟩ : ∃ x, x = rd_T143 lb (k : Int) := ⟨_, rfl⟩
      rw [← hx] at hx0 hx1 hx2 hx3 hx4 hx5 hx6
      have HX := Aside0.mk hx
      clear hx
      have HKEY := Aside0.mk (Maps.keyOf_int_mk Tryz.underlying22 (HWF.out x (by rw [HX.out]; exact rdF_mem lb k hlt)))
      go_wp2_with (first | (at_mapUpdate; refine wpList_mapUpdate_own _ rfl _ _ _ 169 rfl 22 143 key16 Tryz.underlying169 heldV w.heap.size k _ rfl (HM.out.alloc _) HKM.out _ _ (.int .u16 x.f1) rfl rfl HKEY.out (.held (aggF (inClass 2 x))) [] rfl ?_; intro w3 hown hgrow; have HM3 := Aside0.mk hown; have HG3 := Aside0.mk hgrow; clear hown hgrow))
      refine ⟨⟨k + 1, by omega, by go_num, ⟨?_⟩, ⟨?_⟩, ⟨?_⟩⟩, by simp [intOf]; omega⟩
      · rw [rdF_take lb k hlt, putAll_snoc, ← HX.out]; exact HM3.out
      · exact (HB.out.alloc HB.out.size _).grown HG3.out (by have := HB.out.size; simp; omega) (fun k e => by cases e; exact Nat.le_refl _)
      · exact C_turn (Kd.C_alloc HC.out _) HG3.out (by obtain ⟨es, clock, hm, _⟩ := HM.out.alloc (.cells #[.int .i64 2, .int .u16 x.f1, .string x.f2, .int .i64 x.f3, .int .i64 x.f4, .int .i64 x.f5, .int .i64 x.f6] 143); intro cs t fr e; rw [hm] at e; cases e)
    · obtain rfl : k = lb.length := by omega
      go_wp2
      go_ret
      have hM := HM.out
      rw [List.take_length] at hM
      exact ⟨_, rfl, hM, HB.out⟩
set_option maxHeartbeats 2000000 in
theorem formsOther (c : Int) (hc : c < 0 ∨ 3 ≤ c ∨ c = 0) (w : World) :
    Calls Tryz.prog 111 #[.int .i64 c] w fun e w' => ∃ b, e = .returned (.map (some b)) ∧ w'.ownsMap Tryz.prog 22 heldV b 0 (.map []) ∧ Below w.heap.size w w' := by
  have HT := Aside0.mk (fun W => table.any W)
  have hmk : ∀ W : World, (Instr.makeMap 169 none).run Tryz.prog W = .ok (.map (some W.heap.size)) (W.alloc (.map #[] 0)) := fun W => rfl
  have hix : ∀ (a b c : Value) (W : World), (Instr.index 188 (.agg #[a, b, c]) (.int .i64 0)).run Tryz.prog W = .ok a W := fun a b c W => by kernel_rfl
  rcases hc with h | h | rfl
  · go_enter Tryz.func111, Tryz.ntmps111
    go_wp2
    go_ret
    exact ⟨_, rfl, World.ownsMap_made w _ _ _, (Below.refl _ w).alloc (Nat.le_refl _) _⟩
  · have h2 : ¬ c < 0 := by omega
    go_enter Tryz.func111, Tryz.ntmps111
    go_wp2_with (first | (go_at_call 116; refine (HT.out _).mono ?_; rintro e w1 ⟨g1, g2, rfl, hc1, hc2, hb⟩; have HM := Aside0.mk (World.ownsMap.kept (World.ownsMap_made w Tryz.prog 22 heldV) (grown_of_below hb none) (by simp)); have HB := Aside0.mk (((Below.refl _ w).alloc (Nat.le_refl _) _).trans (hb.mono (by simp))); clear hc1 hc2 hb))
    go_ret
    exact ⟨_, rfl, HM.out, HB.out⟩
  · go_enter Tryz.func111, Tryz.ntmps111
    go_wp2_with (first | (go_at_call 116; refine (HT.out _).mono ?_; rintro e w1 ⟨g1, g2, rfl, hc1, hc2, hb⟩; (first | (have HM := Aside0.mk (HM.out.kept (grown_of_below hb none) (by simp)); have HB := Aside0.mk (HB.out.trans (hb.mono HB.out.size))) | (have HB := Aside0.mk (((Below.refl _ w).alloc (Nat.le_refl _) _).trans (hb.mono (by simp))); have HM := Aside0.mk (World.ownsMap.kept (World.ownsMap_made w Tryz.prog 22 heldV) (grown_of_below hb none) (by simp)))); clear hc1 hc2 hb))
    go_loopw [20] (fun i W => i = .int .i64 0 ∧ W = w1) (fun i _ => 0)
    case atStart => exact ⟨rfl, rfl⟩
    case round =>
      obtain ⟨rfl, rfl⟩ := hrel
      go_wp2
      go_ret
      exact ⟨_, rfl, HM.out, HB.out⟩
def formsOf (c : Int) : List S143 := if c = 1 then tabP else if c = 2 then tabC else []
theorem wf_tab (l : List S143) (h : l.all (fun x => (Lit.int .u16 x.f1).wf) = true) : ∀ x ∈ l, (Lit.int .u16 x.f1).wf = true := fun x hx => List.all_eq_true.1 h x hx
theorem forms.any (c : Int) (w : World) :
    Calls Tryz.prog 111 #[.int .i64 c] w fun e w' => ∃ b n, e = .returned (.map (some b)) ∧ w'.ownsMap Tryz.prog 22 heldV b n (putAll c (formsOf c)) ∧ Below w.heap.size w w' := by
  by_cases h1 : c = 1
  · subst h1
    refine (forms.at1 tabP tabC (by decide) (fun W => table.any W) (wf_tab _ (by decide)) w).mono ?_
    rintro e w' ⟨b, h⟩
    exact ⟨b, _, h⟩
  · by_cases h2 : c = 2
    · subst h2
      refine (forms.at2 tabP tabC (by decide) (fun W => table.any W) (wf_tab _ (by decide)) w).mono ?_
      rintro e w' ⟨b, h⟩
      exact ⟨b, _, h⟩
    · refine (formsOther c (by omega) w).mono ?_
      rintro e w' ⟨b, h⟩
      have e0 : formsOf c = [] := by unfold formsOf; rw [if_neg h1, if_neg h2]
      rw [e0]
      exact ⟨b, 0, h⟩
def shape_Of.f (a0 a1 : Int) : Option (Int × Int × ByteArray × Int × Int × Int × Int × Bool) :=
  if 0 ≤ a1 ∧ a1 < 65536 then
    some (match lastF a1 (formsOf a0) with
    | some x => (a0, x.f1, x.f2, x.f3, x.f4, x.f5, x.f6, true)
    | none => (0, 0, ⟨#[]⟩, 0, 0, 0, 0, false))
  else none
theorem zeroForm (W : World) : (zeroValue 143).run Tryz.prog W = .ok (.agg #[.int .i64 0, .int .u16 0, .string ⟨#[]⟩, .int .i64 0, .int .i64 0, .int .i64 0, .int .i64 0]) W := by kernel_rfl
theorem oneF (r1 r2 : Int) (r3 : ByteArray) (r4 r5 r6 r7 : Int) : (#[.int .i64 r1, .int .u16 r2, .string r3, .int .i64 r4, .int .i64 r5, .int .i64 r6, .int .i64 r7] : Array Value).all (·.oneCell') = true := by simp [Value.oneCell']
theorem grown_setRow (w : World) (g : Nat) (cs : Array Value) : w.grownBy (w.setRow g cs) (some g) := ⟨rfl, rfl, rfl, by simp, fun k _ hk => setRow_other w g k cs (fun e => hk (by rw [e]))⟩
theorem sizeForm : (Tryz.prog.info? 143).map (·.size) = some 7 := by kernel_rfl
set_option maxHeartbeats 2000000 in
theorem shape_Of.calls (a0 a1 : Int) (r1 r2 : Int) (r3 : ByteArray) (r4 r5 r6 r7 : Int) (r8 : Bool) (w : World) (h : shape_Of.f a0 a1 = some (r1, r2, r3, r4, r5, r6, r7, r8)) :
    Calls Tryz.prog 98 #[.int .i64 a0, .int .u16 a1] w fun e w' => e = .returned (.tuple #[.agg #[.int .i64 r1, .int .u16 r2, .string r3, .int .i64 r4, .int .i64 r5, .int .i64 r6, .int .i64 r7], .bool r8]) ∧ Below w.heap.size w w' := by
  unfold shape_Of.f at h
  by_cases hd : 0 ≤ a1 ∧ a1 < 65536
  · rw [if_pos hd] at h
    have hk := putAll_look a0 a1 (formsOf a0) (.map []) none Maps.isMap_empty (fun z => rfl) rfl
    have HKEY := Aside0.mk (Maps.keyOf_int_mk (k := 22) (q := .u16) (a := a1) Tryz.underlying22 (WalkArith.wf_u16 (by omega)))
    have HV : Aside0 (∀ v ps, heldV v = some ((putAll a0 (formsOf a0)).atKey (.int .u16 a1) (.held (aggF ⟨0, 0, ⟨#[]⟩, 0, 0, 0, 0⟩)), ps) → v = .agg #[.int .i64 r1, .int .u16 r2, .string r3, .int .i64 r4, .int .i64 r5, .int .i64 r6, .int .i64 r7]) := ⟨fun v ps hv => by
      rw [putAll, hk.2.1] at hv
      have h' := Option.some.inj h
      unfold lastF at h'
      cases hx : (formsOf a0).foldl (fun acc x => if x.f1 = a1 then some x else acc) none with
      | none =>
        rw [hx] at h' hv
        simp only [Prod.mk.injEq] at h'
        obtain ⟨rfl, rfl, rfl, rfl, rfl, rfl, rfl, rfl⟩ := h'
        exact heldV_inv hv
      | some x =>
        rw [hx] at h' hv
        simp only [Prod.mk.injEq] at h'
        obtain ⟨rfl, rfl, rfl, rfl, rfl, rfl, rfl, rfl⟩ := h'
        exact heldV_inv hv⟩
    have HH : Aside0 (Maps.has (putAll a0 (formsOf a0)) (.int .u16 a1) = r8) := ⟨by
      rw [putAll, hk.2.2]
      have h' := Option.some.inj h
      unfold lastF at h'
      cases hx : (formsOf a0).foldl (fun acc x => if x.f1 = a1 then some x else acc) none with
      | none => rw [hx] at h'; simp only [Prod.mk.injEq] at h'; rw [← h'.2.2.2.2.2.2.2]; rfl
      | some x => rw [hx] at h'; simp only [Prod.mk.injEq] at h'; rw [← h'.2.2.2.2.2.2.2]; rfl⟩
    have HF := Aside0.mk (fun W => forms.any a0 W)
    have hz := zeroForm
    have HZ := Aside0.mk hz
    clear h hk hd hz
    go_enter Tryz.func98, Tryz.ntmps98
    go_wp2_with (first | (go_at_call 111; refine (HF.out _).mono ?_; rintro e w1 ⟨b, n, rfl, hm, hb⟩; have HM := Aside0.mk hm; have HK := Aside0.mk (blk_below (heap_alloc_new w (.cells #[.int .i64 0, .int .u16 0, .string ⟨#[]⟩, .int .i64 0, .int .i64 0, .int .i64 0, .int .i64 0] 143)) hb); have HB := Aside0.mk (((Below.refl _ w).alloc (Nat.le_refl _) _).trans (hb.mono (by simp))); clear hm hb) | (refine wpList_store_row rfl 143 _ _ rfl w.heap.size #[.int .i64 r1, .int .u16 r2, .string r3, .int .i64 r4, .int .i64 r5, .int .i64 r6, .int .i64 r7] rfl rfl 143 _ (blk_alloc HK.out _) sizeForm rfl (oneF _ _ _ _ _ _ _) ?_; have HK2 := Aside0.mk (setRow_heap _ _ _ #[.int .i64 r1, .int .u16 r2, .string r3, .int .i64 r4, .int .i64 r5, .int .i64 r6, .int .i64 r7] _ _ (blk_alloc HK.out (.cells #[.int .i64 r1, .int .u16 r2, .string r3, .int .i64 r4, .int .i64 r5, .int .i64 r6, .int .i64 r7] 143)))) | (at_lookup; refine wpList_lookup_own_ok _ rfl _ _ 169 rfl 22 143 key16 Tryz.underlying169 heldV (HZ.out _) (.held (aggF ⟨0, 0, ⟨#[]⟩, 0, 0, 0, 0⟩)) [] rfl _ _ _ rfl HM.out _ (.int .u16 a1) rfl HKEY.out ?_; intro v ps hv; have e0 := HV.out _ _ hv; subst e0; rw [HH.out]; clear hv))
    exact ⟨rfl, _, results_ct rfl _ _ w.heap.size _ _ (0, 0) _ rfl HK2.out Tryz.underlying143 rfl sizeForm, rfl, (HB.out.alloc HB.out.size _).grown (grown_setRow _ w.heap.size _) (by have := HB.out.size; simp; omega) (fun k e => by cases e; exact Nat.le_refl _)⟩
  · rw [if_neg hd] at h; cases h
end Go.Proofs.YtpgfhbdnlojdfaaGreatDoor.P
