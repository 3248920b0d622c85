/- Packed by wip/tools/pack.py out of Fwharfref08Size, MSpec. -/
import Derived.Test.YtpgfhbdnlojdfaaGreatDoorR07
namespace Go.Proofs.YtpgfhbdnlojdfaaGreatDoor.P
open Go.RowKit Go.Proofs.YtpgfhbdnlojdfaaGreatDoorW.PrintWords Go.Proofs.YtpgfhbdnlojdfaaGreatDoorW.PrintLast Go.Proofs.YtpgfhbdnlojdfaaGreatDoorW.PrintMore
attribute [local go_sem] max2_int min2_int max_two min_two max_three min_three max_four min_four
set_option linter.unusedVariables false
set_option linter.unusedSimpArgs false
mutual
def wharfref08_Size.l0 : Nat → List (S26) → Int → Int → Option (Int)
  | 0, _, _, _ => none
  | k + 1, x0, x3, x4 => if x4 < (x0.length : Int) then (if 0 ≤ x4 then ((wharfref08_Size.f k ((rd_T26 x0 x4).f2)).bind fun t351 => (if x4 < (wrap64 ((x0.length : Int) - 1)) then ((wharfref03_Gap.f k (wrap64 ((wrap64 (4 + (((rd_T26 x0 x4).f1).length : Int))) + t351))).bind fun t352 => (wharfref08_Size.l0 k x0 (wrap64 ((wrap64 (x3 + (wrap64 ((wrap64 (4 + (((rd_T26 x0 x4).f1).length : Int))) + t351)))) + t352)) (wrap64 (x4 + 1)))) else (wharfref08_Size.l0 k x0 (wrap64 (x3 + (wrap64 ((wrap64 (4 + (((rd_T26 x0 x4).f1).length : Int))) + t351)))) (wrap64 (x4 + 1))))) else (none)) else (some x3)
def wharfref08_Size.f : Nat → List (S26) → Option (Int)
  | 0, _ => none
  | k + 1, l0 => wharfref08_Size.l0 k l0 0 0
end
def wharfref08_Size.T5 : Bool × List (List Nat × List Nat) := (true, [([], []), ([], []), ([0, 1], [0, 1]), ([2], [2]), ([3], [3]), ([4], [4]), ([5], [5]), ([], []), ([], []), ([7, 8], [7, 8]), ([9], [9]), ([10], [10]), ([11], [11]), ([6, 12], [6, 12]), ([13, 12, 0, 1, 2, 3, 4, 5, 6, 7, 8, 9, 10, 11, 12, 13], [13])])
def wharfref08_Size.B5 : List Nat := [0, 0, 3, 7, 15, 31, 63, 0, 0, 384, 896, 1920, 3968, 8191, 16383]
theorem wharfref08_Size.tab5 : rtab .any (opsOf Tryz.f77 5) = wharfref08_Size.T5 := by kernel_rfl
theorem wharfref08_Size.bits5 : waitsOk wharfref08_Size.T5.2 wharfref08_Size.B5 = true := by kernel_rfl
set_option maxHeartbeats 8000000 in
set_option maxRecDepth 100000 in
theorem wharfref08_Size.calls (k : Nat) : ∀ (A0 : Option Addr) (c0 : Nat) (l0 : List (S26)) (r : Int) (w : World) (hr0 : Kd.C k26 w A0 l0.length l0) (hc0 : l0.length ≤ c0) (h : wharfref08_Size.f k l0 = some r),
    Calls Tryz.prog 77 #[.slice A0 l0.length c0] w fun e w' => e = .returned (.int .i64 r) ∧ Below w.heap.size w w' := by
  induction k using Nat.strongRecOn with
  | _ k ih =>
  intro A0 c0 l0 r w hr0 hc0 h
  cases k with
  | zero => exact absurd h (by simp [wharfref08_Size.f])
  | succ k =>
  simp only [wharfref08_Size.f] at h
  have HR0 := Aside0.mk hr0
  have HC0 := Aside0.mk hc0
  clear hr0 hc0
  have HB := Aside0.mk (Below.refl w.heap.size w)
  have H : (wharfref08_Size.l0 k l0 0 0) = some r := h
  clear h
  have H' := Aside0.mk H
  clear H
  go_enter Tryz.func77, Tryz.ntmps77
  go_wp2
  go_loopg [3, 4] k (fun kq v3 v4 w' => ∃ (x3_1 : Int) (x4_1 : Int), v3 = .int .i64 x3_1 ∧ v4 = .int .i64 x4_1 ∧ Aside0 (wharfref08_Size.l0 kq l0 x3_1 x4_1 = some r) ∧ Aside0 (kq ≤ k) ∧ Aside0 (Below w.heap.size w w'))
  case atStart => exact ⟨(0), (0), (by first | rfl | (simp; done) | (simp [*]; done)), (by first | rfl | (simp; done) | (simp [*]; done)), H', ⟨Nat.le_refl _⟩, ⟨by repeat (first | (with_reducible first | exact HB.out | apply below_alloc | apply pw_below_drewN | apply below_drew1) | exact HB.out)⟩⟩
  case round =>
    clear H'
    obtain ⟨x3_1, x4_1, rfl, rfl, HA, HK1, HB⟩ := hrel
    cases gk with
    | zero => exact absurd HA.out (by simp [wharfref08_Size.l0])
    | succ k1 =>
      have H := HA.out
      clear HA
      simp only [wharfref08_Size.l0] at H
      by_cases c2 : x4_1 < (l0.length : Int)
      · rw [if_pos c2] at H
        have c2b0 : decide (x4_1 < (l0.length : Int)) = true := decide_eq_true c2
        clear c2
        by_cases c3 : 0 ≤ x4_1
        · rw [if_pos c3] at H
          have c3b0 : decide (0 ≤ x4_1) = true := decide_eq_true c3
          clear c3
          replace H := Option.bind_eq_some_iff.mp H
          obtain ⟨t351, A40, H⟩ := H
          replace H : (if x4_1 < (wrap64 ((l0.length : Int) - 1)) then ((wharfref03_Gap.f k1 (wrap64 ((wrap64 (4 + (((rd_T26 l0 x4_1).f1).length : Int))) + t351))).bind fun t352 => (wharfref08_Size.l0 k1 l0 (wrap64 ((wrap64 (x3_1 + (wrap64 ((wrap64 (4 + (((rd_T26 l0 x4_1).f1).length : Int))) + t351)))) + t352)) (wrap64 (x4_1 + 1)))) else (wharfref08_Size.l0 k1 l0 (wrap64 (x3_1 + (wrap64 ((wrap64 (4 + (((rd_T26 l0 x4_1).f1).length : Int))) + t351)))) (wrap64 (x4_1 + 1)))) = some r := H
          have A4 := Aside0.mk A40
          clear A40
          by_cases c5 : x4_1 < (wrap64 ((l0.length : Int) - 1))
          · rw [if_pos c5] at H
            have c5b0 : decide (x4_1 < (wrap64 ((l0.length : Int) - 1))) = true := decide_eq_true c5
            clear c5
            replace H := Option.bind_eq_some_iff.mp H
            obtain ⟨t352, A60, H⟩ := H
            replace H : (wharfref08_Size.l0 k1 l0 (wrap64 ((wrap64 (x3_1 + (wrap64 ((wrap64 (4 + (((rd_T26 l0 x4_1).f1).length : Int))) + t351)))) + t352)) (wrap64 (x4_1 + 1))) = some r := H
            have A6 := Aside0.mk A60
            clear A60
            have H' := Aside0.mk H
            clear H
            try go_wp2
            have n0_ := Aside0.mk (below_drew1 HB.out)
            clear HB
            have HB := n0_
            clear n0_
            have p349 : 0 ≤ (x4_1 : Int) := of_decide_eq_true (by first | (with_reducible assumption) | assumption)
            have q349 : x4_1 < (l0.length : Int) := of_decide_eq_true (by first | (with_reducible assumption) | assumption)
            obtain ⟨ad349, A349_1, c349_1, A349_2, c349_2, e349, hx349_0, hx349_1, hx349_2, hl349_1, hi349_1, hl349_2, hi349_2⟩ := at_T26 HR0.out x4_1 p349 q349
            have hw349_2 := hx349_2
            have hw349_1 := hx349_1
            have hw349_0 := hx349_0
            cases e349
            replace hx349_0 := (HB.out.cell (World.block_lt_of_cell? w _ hx349_0)).trans hx349_0
            replace hx349_1 := (HB.out.cell (World.block_lt_of_cell? w _ hx349_1)).trans hx349_1
            replace hx349_2 := (HB.out.cell (World.block_lt_of_cell? w _ hx349_2)).trans hx349_2
            have HR349_1 := Aside0.mk hi349_1
            have HC349_1 := Aside0.mk hl349_1
            clear hi349_1 hl349_1
            have HR349_2 := Aside0.mk hi349_2
            have HC349_2 := Aside0.mk hl349_2
            clear hi349_2 hl349_2
            replace p349 := eq_true p349
            replace q349 := eq_true q349
            have p350 : 0 ≤ (x4_1 : Int) := of_decide_eq_true (by first | (with_reducible assumption) | assumption)
            have q350 : x4_1 < (l0.length : Int) := of_decide_eq_true (by first | (with_reducible assumption) | assumption)
            obtain ⟨ad350, A350_1, c350_1, A350_2, c350_2, e350, hx350_0, hx350_1, hx350_2, hl350_1, hi350_1, hl350_2, hi350_2⟩ := at_T26 HR0.out x4_1 p350 q350
            have hw350_2 := hx350_2
            have hw350_1 := hx350_1
            have hw350_0 := hx350_0
            obtain rfl : ad349 = ad350 := (by injection e350)
            replace hx350_0 := (HB.out.cell (World.block_lt_of_cell? w _ hx350_0)).trans hx350_0
            replace hx350_1 := (HB.out.cell (World.block_lt_of_cell? w _ hx350_1)).trans hx350_1
            replace hx350_2 := (HB.out.cell (World.block_lt_of_cell? w _ hx350_2)).trans hx350_2
            have HR350_1 := Aside0.mk hi350_1
            have HC350_1 := Aside0.mk hl350_1
            clear hi350_1 hl350_1
            have HR350_2 := Aside0.mk hi350_2
            have HC350_2 := Aside0.mk hl350_2
            clear hi350_2 hl350_2
            replace p350 := eq_true p350
            replace q350 := eq_true q350
            have ea_ := Option.some.inj (hx349_1.symm.trans hx350_1)
            injection ea_ with ea_ en_ ec_
            subst ea_
            subst ec_
            clear en_
            have ea_ := Option.some.inj (hx349_2.symm.trans hx350_2)
            injection ea_ with ea_ en_ ec_
            subst ea_
            subst ec_
            clear en_
            refine start_ (n := 15) (S := fun w' => w'.cell? (ad349.add ((x4_1).toNat * 3)) = some (.int .u16 ((rd_T26 l0 x4_1).f0)) ∧ w'.cell? ⟨(ad349.add ((x4_1).toNat * 3)).block, (ad349.add ((x4_1).toNat * 3)).off + 1, none⟩ = some (.slice A349_1 ((rd_T26 l0 x4_1).f1).length c349_1) ∧ w'.cell? ⟨(ad349.add ((x4_1).toNat * 3)).block, (ad349.add ((x4_1).toNat * 3)).off + 2, none⟩ = some (.slice A349_2 ((rd_T26 l0 x4_1).f2).length c349_2) ∧ w'.cell? (ad349.add ((x4_1).toNat * 3)) = some (.int .u16 ((rd_T26 l0 x4_1).f0)) ∧ w'.cell? ⟨(ad349.add ((x4_1).toNat * 3)).block, (ad349.add ((x4_1).toNat * 3)).off + 1, none⟩ = some (.slice A349_1 ((rd_T26 l0 x4_1).f1).length c349_1) ∧ w'.cell? ⟨(ad349.add ((x4_1).toNat * 3)).block, (ad349.add ((x4_1).toNat * 3)).off + 2, none⟩ = some (.slice A349_2 ((rd_T26 l0 x4_1).f2).length c349_2)) (ds := []) #[false, false, false, false, false, false, false, false, false, false, false, false, false, false, false] (by kernel_rfl) rfl rfl ⟨((HB.out.cell (World.block_lt_of_cell? w _ hw349_0)).trans hw349_0), ((HB.out.cell (World.block_lt_of_cell? w _ hw349_1)).trans hw349_1), ((HB.out.cell (World.block_lt_of_cell? w _ hw349_2)).trans hw349_2), ((HB.out.cell (World.block_lt_of_cell? w _ hw350_0)).trans hw350_0), ((HB.out.cell (World.block_lt_of_cell? w _ hw350_1)).trans hw350_1), ((HB.out.cell (World.block_lt_of_cell? w _ hw350_2)).trans hw350_2)⟩ (fun hHeld => ?_); refine with_tabW wharfref08_Size.tab5 wharfref08_Size.bits5 (fun HT_ HW_ => ?_)
            generalize wr.drew = w7 at HB HR349_1 HR349_2 HR350_1 HR350_2 hx349_0 hx349_1 hx349_2 hx350_0 hx350_1 hx350_2 hHeld ⊢
            refine pure_ (i := 0) (N := some 12) (v := ?_) (a' := ?_) #[true, false, false, false, false, false, false, false, false, false, false, false, false, false, false] rfl rfl (any_of HT_.out (by kernel_rfl)) (fun _ _ _ h => h) (Or.inl ⟨by rfl, ?_⟩) ?_ ?_
            rotate_left
            · intro w'
              go_simp
              with_reducible rfl
            rotate_left
            · simp only [Act.put, List.setIfInBounds_toArray, List.set_cons_zero, List.set_cons_succ, i64_w, i32_w]
              rfl
            refine pure_ (i := 1) (N := some 13) (v := ?_) (a' := ?_) #[true, true, false, false, false, false, false, false, false, false, false, false, false, false, false] rfl rfl (any_of HT_.out (by kernel_rfl)) (fun _ _ _ h => h) (Or.inl ⟨by rfl, ?_⟩) ?_ ?_
            rotate_left
            · intro w'
              go_simp
              with_reducible rfl
            rotate_left
            · simp only [Act.put, List.setIfInBounds_toArray, List.set_cons_zero, List.set_cons_succ, i64_w, i32_w]
              rfl
            refine pure_ (i := 2) (N := some 14) (v := ?_) (a' := ?_) #[true, true, true, false, false, false, false, false, false, false, false, false, false, false, false] rfl rfl (any_of HT_.out (by kernel_rfl)) (fun _ _ _ h => h) (Or.inl ⟨by rfl, ?_⟩) ?_ ?_
            rotate_left
            · intro w'
              go_simp
              with_reducible rfl
            rotate_left
            · simp only [Act.put, List.setIfInBounds_toArray, List.set_cons_zero, List.set_cons_succ, i64_w, i32_w]
              rfl
            refine pure_ (i := 3) (N := some 15) (v := ?_) (a' := ?_) #[true, true, true, true, false, false, false, false, false, false, false, false, false, false, false] rfl rfl (any_of HT_.out (by kernel_rfl)) (fun _ _ _ h => h) (Or.inl ⟨by rfl, ?_⟩) ?_ ?_
            rotate_left
            · intro w'
              go_simp
              with_reducible rfl
            rotate_left
            · simp only [Act.put, List.setIfInBounds_toArray, List.set_cons_zero, List.set_cons_succ, i64_w, i32_w]
              rfl
            refine pure_ (i := 7) (N := some 19) (v := ?_) (a' := ?_) #[true, true, true, true, false, false, false, true, false, false, false, false, false, false, false] rfl rfl (any_of HT_.out (by kernel_rfl)) (fun _ _ _ h => h) (Or.inl ⟨by rfl, ?_⟩) ?_ ?_
            rotate_left
            · intro w'
              go_simp
              with_reducible rfl
            rotate_left
            · simp only [Act.put, List.setIfInBounds_toArray, List.set_cons_zero, List.set_cons_succ, i64_w, i32_w]
              rfl
            refine pure_ (i := 8) (N := some 20) (v := ?_) (a' := ?_) #[true, true, true, true, false, false, false, true, true, false, false, false, false, false, false] rfl rfl (any_of HT_.out (by kernel_rfl)) (fun _ _ _ h => h) (Or.inl ⟨by rfl, ?_⟩) ?_ ?_
            rotate_left
            · intro w'
              go_simp
              with_reducible rfl
            rotate_left
            · simp only [Act.put, List.setIfInBounds_toArray, List.set_cons_zero, List.set_cons_succ, i64_w, i32_w]
              rfl
            refine pure_ (i := 9) (N := some 21) (v := ?_) (a' := ?_) #[true, true, true, true, false, false, false, true, true, true, false, false, false, false, false] rfl rfl (any_of HT_.out (by kernel_rfl)) (fun _ _ _ h => h) (Or.inl ⟨by rfl, ?_⟩) ?_ ?_
            rotate_left
            · intro w'
              go_simp
              with_reducible rfl
            rotate_left
            · simp only [Act.put, List.setIfInBounds_toArray, List.set_cons_zero, List.set_cons_succ, i64_w, i32_w]
              rfl
            refine pure_ (i := 10) (N := some 22) (v := ?_) (a' := ?_) #[true, true, true, true, false, false, false, true, true, true, true, false, false, false, false] rfl rfl (any_of HT_.out (by kernel_rfl)) (fun _ _ _ h => h) (Or.inl ⟨by rfl, ?_⟩) ?_ ?_
            rotate_left
            · intro w'
              go_simp
              with_reducible rfl
            rotate_left
            · simp only [Act.put, List.setIfInBounds_toArray, List.set_cons_zero, List.set_cons_succ, i64_w, i32_w]
              rfl
            refine take_ (i := 4) (N := some 16) (v := ?_) (a' := ?_) #[true, true, true, true, true, false, false, true, true, true, true, false, false, false, false] rfl rfl (take_ofW HT_.out HW_.out (by kernel_rfl)) (fun _ _ _ h => h) (Or.inl ⟨by rfl, ?_⟩) hHeld ?_ ?_
            rotate_left
            · rintro w' ⟨s0, s1, s2, s3, s4, s5⟩
              go_simp
              with_reducible rfl
            rotate_left
            · simp only [Act.put, List.setIfInBounds_toArray, List.set_cons_zero, List.set_cons_succ, i64_w, i32_w]
              rfl
            refine pure_ (i := 5) (N := some 17) (v := ?_) (a' := ?_) #[true, true, true, true, true, true, false, true, true, true, true, false, false, false, false] rfl rfl (any_of HT_.out (by kernel_rfl)) (fun _ _ _ h => h) (Or.inl ⟨by rfl, ?_⟩) ?_ ?_
            rotate_left
            · intro w'
              go_simp
              with_reducible rfl
            rotate_left
            · simp only [Act.put, List.setIfInBounds_toArray, List.set_cons_zero, List.set_cons_succ, i64_w, i32_w]
              rfl
            refine pure_ (i := 6) (N := some 18) (v := ?_) (a' := ?_) #[true, true, true, true, true, true, true, true, true, true, true, false, false, false, false] rfl rfl (any_of HT_.out (by kernel_rfl)) (fun _ _ _ h => h) (Or.inl ⟨by rfl, ?_⟩) ?_ ?_
            rotate_left
            · intro w'
              go_simp
              with_reducible rfl
            rotate_left
            · simp only [Act.put, List.setIfInBounds_toArray, List.set_cons_zero, List.set_cons_succ, i64_w, i32_w]
              rfl
            refine take_ (i := 11) (N := some 23) (v := ?_) (a' := ?_) #[true, true, true, true, true, true, true, true, true, true, true, true, false, false, false] rfl rfl (take_ofW HT_.out HW_.out (by kernel_rfl)) (fun _ _ _ h => h) (Or.inl ⟨by rfl, ?_⟩) hHeld ?_ ?_
            rotate_left
            · rintro w' ⟨s0, s1, s2, s3, s4, s5⟩
              go_simp
              with_reducible rfl
            rotate_left
            · simp only [Act.put, List.setIfInBounds_toArray, List.set_cons_zero, List.set_cons_succ, i64_w, i32_w]
              rfl
            refine one_ (i := 12) (N := some 24) #[true, true, true, true, true, true, true, true, true, true, true, true, true, false, false] rfl rfl (one_of HT_.out (by kernel_rfl)) (by decide) (fun K hK => ?_)
            refine goes_ Tryz.func77 (by kernel_rfl) rfl #[.slice A349_2 ((rd_T26 l0 x4_1).f2).length c349_2] (by rfl) rfl rfl (by (try simp only [List.map_toArray, List.map_cons, List.map_nil]); first | done | rfl | (simp only [List.length_drop, List.length_take]; rfl)) ?_
            with_reducible refine (ih k1 (by have := HK1.out; omega) _ _ ((rd_T26 l0 x4_1).f2) t351 _ ?side1 ?side2 A4.out).mono ?_
            (case side1 => repeat (first | exact (Kd.C_below HR350_2.out HB.out) | (with_reducible refine Kd.C_alloc ?_ _) | (with_reducible refine Kd.C_drewN ?_ _) | (with_reducible refine Kd.C_drew ?_)))
            (case side2 => exact HC350_2.out)
            rintro e w8 ⟨rfl, hb⟩
            refine ⟨_, rfl, ?_⟩
            have n0_ := Aside0.mk (below_step (by repeat (first | (with_reducible first | exact HB.out | apply below_alloc | apply pw_below_drewN | apply below_drew1) | exact HB.out)) hb)
            clear HB
            have HB := n0_
            clear n0_
            (try clear hb)
            (try clear hb2)
            (try clear hk)
            (try clear hi)
            refine hK.out _ _ ⟨((HB.out.cell (World.block_lt_of_cell? w _ hw349_0)).trans hw349_0), ((HB.out.cell (World.block_lt_of_cell? w _ hw349_1)).trans hw349_1), ((HB.out.cell (World.block_lt_of_cell? w _ hw349_2)).trans hw349_2), ((HB.out.cell (World.block_lt_of_cell? w _ hw350_0)).trans hw350_0), ((HB.out.cell (World.block_lt_of_cell? w _ hw350_1)).trans hw350_1), ((HB.out.cell (World.block_lt_of_cell? w _ hw350_2)).trans hw350_2)⟩ (fun hHeld => ?_)
            clear hK K
            refine norm_ (a' := ?_) ?_ ?_
            rotate_left
            · show Act.put _ (some 24) _ = _
              simp only [Act.put, List.setIfInBounds_toArray, List.set_cons_zero, List.set_cons_succ, i64_w, i32_w]
              rfl
            refine pure_ (i := 13) (N := some 25) (v := ?_) (a' := ?_) #[true, true, true, true, true, true, true, true, true, true, true, true, true, true, false] rfl rfl (any_of HT_.out (by kernel_rfl)) (fun _ _ _ h => h) (Or.inl ⟨by rfl, ?_⟩) ?_ ?_
            rotate_left
            · intro w'
              go_simp
              with_reducible rfl
            rotate_left
            · simp only [Act.put, List.setIfInBounds_toArray, List.set_cons_zero, List.set_cons_succ, i64_w, i32_w]
              rfl
            refine pure_ (i := 14) (N := some 5) (v := ?_) (a' := ?_) #[true, true, true, true, true, true, true, true, true, true, true, true, true, true, true] rfl rfl (any_of HT_.out (by kernel_rfl)) (fun _ _ _ h => h) (Or.inl ⟨by rfl, ?_⟩) ?_ ?_
            rotate_left
            · intro w'
              go_simp
              with_reducible rfl
            rotate_left
            · simp only [Act.put, List.setIfInBounds_toArray, List.set_cons_zero, List.set_cons_succ, i64_w, i32_w]
              rfl
            refine done_ (done_of HT_.out (by kernel_rfl)) ?_
            try go_wp2_with (first | ((with_reducible refine gate_callee (f := 96) rfl ?_); refine goesL_ (some 36) rfl rfl Tryz.func96 (by kernel_rfl) rfl #[.int .i64 (wrap64 ((wrap64 (4 + (((rd_T26 l0 x4_1).f1).length : Int))) + t351))] rfl (by (try simp only [List.map_toArray, List.map_cons, List.map_nil]); first | done | rfl | (simp only [List.length_drop, List.length_take]; rfl)) ?_; (with_reducible refine (wharfref03_Gap.calls k1 (wrap64 ((wrap64 (4 + (((rd_T26 l0 x4_1).f1).length : Int))) + t351)) t352 _ A6.out).mono ?_); rintro e w' ⟨rfl, ⟨nd, rfl⟩⟩; refine ⟨_, rfl, ?_⟩))
            go_roundg k1
            case measure => have := HK1.out; omega
            case rel => exact ⟨(wrap64 ((wrap64 (x3_1 + (wrap64 ((wrap64 (4 + (((rd_T26 l0 x4_1).f1).length : Int))) + t351)))) + t352)), (wrap64 (x4_1 + 1)), (by first | rfl | (simp; done) | (simp [*]; done)), (by first | rfl | (simp; done) | (simp [*]; done)), H', ⟨by have := HK1.out; omega⟩, ⟨by repeat (first | (with_reducible first | exact HB.out | apply below_alloc | apply pw_below_drewN | apply below_drew1) | exact HB.out)⟩⟩
          · rw [if_neg c5] at H
            have c5b0 : decide (x4_1 < (wrap64 ((l0.length : Int) - 1))) = false := decide_eq_false c5
            clear c5
            have H' := Aside0.mk H
            clear H
            try go_wp2
            have n0_ := Aside0.mk (below_drew1 HB.out)
            clear HB
            have HB := n0_
            clear n0_
            have p349 : 0 ≤ (x4_1 : Int) := of_decide_eq_true (by first | (with_reducible assumption) | assumption)
            have q349 : x4_1 < (l0.length : Int) := of_decide_eq_true (by first | (with_reducible assumption) | assumption)
            obtain ⟨ad349, A349_1, c349_1, A349_2, c349_2, e349, hx349_0, hx349_1, hx349_2, hl349_1, hi349_1, hl349_2, hi349_2⟩ := at_T26 HR0.out x4_1 p349 q349
            have hw349_2 := hx349_2
            have hw349_1 := hx349_1
            have hw349_0 := hx349_0
            cases e349
            replace hx349_0 := (HB.out.cell (World.block_lt_of_cell? w _ hx349_0)).trans hx349_0
            replace hx349_1 := (HB.out.cell (World.block_lt_of_cell? w _ hx349_1)).trans hx349_1
            replace hx349_2 := (HB.out.cell (World.block_lt_of_cell? w _ hx349_2)).trans hx349_2
            have HR349_1 := Aside0.mk hi349_1
            have HC349_1 := Aside0.mk hl349_1
            clear hi349_1 hl349_1
            have HR349_2 := Aside0.mk hi349_2
            have HC349_2 := Aside0.mk hl349_2
            clear hi349_2 hl349_2
            replace p349 := eq_true p349
            replace q349 := eq_true q349
            have p350 : 0 ≤ (x4_1 : Int) := of_decide_eq_true (by first | (with_reducible assumption) | assumption)
            have q350 : x4_1 < (l0.length : Int) := of_decide_eq_true (by first | (with_reducible assumption) | assumption)
            obtain ⟨ad350, A350_1, c350_1, A350_2, c350_2, e350, hx350_0, hx350_1, hx350_2, hl350_1, hi350_1, hl350_2, hi350_2⟩ := at_T26 HR0.out x4_1 p350 q350
            have hw350_2 := hx350_2
            have hw350_1 := hx350_1
            have hw350_0 := hx350_0
            obtain rfl : ad349 = ad350 := (by injection e350)
            replace hx350_0 := (HB.out.cell (World.block_lt_of_cell? w _ hx350_0)).trans hx350_0
            replace hx350_1 := (HB.out.cell (World.block_lt_of_cell? w _ hx350_1)).trans hx350_1
            replace hx350_2 := (HB.out.cell (World.block_lt_of_cell? w _ hx350_2)).trans hx350_2
            have HR350_1 := Aside0.mk hi350_1
            have HC350_1 := Aside0.mk hl350_1
            clear hi350_1 hl350_1
            have HR350_2 := Aside0.mk hi350_2
            have HC350_2 := Aside0.mk hl350_2
            clear hi350_2 hl350_2
            replace p350 := eq_true p350
            replace q350 := eq_true q350
            have ea_ := Option.some.inj (hx349_1.symm.trans hx350_1)
            injection ea_ with ea_ en_ ec_
            subst ea_
            subst ec_
            clear en_
            have ea_ := Option.some.inj (hx349_2.symm.trans hx350_2)
            injection ea_ with ea_ en_ ec_
            subst ea_
            subst ec_
            clear en_
            refine start_ (n := 15) (S := fun w' => w'.cell? (ad349.add ((x4_1).toNat * 3)) = some (.int .u16 ((rd_T26 l0 x4_1).f0)) ∧ w'.cell? ⟨(ad349.add ((x4_1).toNat * 3)).block, (ad349.add ((x4_1).toNat * 3)).off + 1, none⟩ = some (.slice A349_1 ((rd_T26 l0 x4_1).f1).length c349_1) ∧ w'.cell? ⟨(ad349.add ((x4_1).toNat * 3)).block, (ad349.add ((x4_1).toNat * 3)).off + 2, none⟩ = some (.slice A349_2 ((rd_T26 l0 x4_1).f2).length c349_2) ∧ w'.cell? (ad349.add ((x4_1).toNat * 3)) = some (.int .u16 ((rd_T26 l0 x4_1).f0)) ∧ w'.cell? ⟨(ad349.add ((x4_1).toNat * 3)).block, (ad349.add ((x4_1).toNat * 3)).off + 1, none⟩ = some (.slice A349_1 ((rd_T26 l0 x4_1).f1).length c349_1) ∧ w'.cell? ⟨(ad349.add ((x4_1).toNat * 3)).block, (ad349.add ((x4_1).toNat * 3)).off + 2, none⟩ = some (.slice A349_2 ((rd_T26 l0 x4_1).f2).length c349_2)) (ds := []) #[false, false, false, false, false, false, false, false, false, false, false, false, false, false, false] (by kernel_rfl) rfl rfl ⟨((HB.out.cell (World.block_lt_of_cell? w _ hw349_0)).trans hw349_0), ((HB.out.cell (World.block_lt_of_cell? w _ hw349_1)).trans hw349_1), ((HB.out.cell (World.block_lt_of_cell? w _ hw349_2)).trans hw349_2), ((HB.out.cell (World.block_lt_of_cell? w _ hw350_0)).trans hw350_0), ((HB.out.cell (World.block_lt_of_cell? w _ hw350_1)).trans hw350_1), ((HB.out.cell (World.block_lt_of_cell? w _ hw350_2)).trans hw350_2)⟩ (fun hHeld => ?_); refine with_tabW wharfref08_Size.tab5 wharfref08_Size.bits5 (fun HT_ HW_ => ?_)
            generalize wr.drew = w9 at HB HR349_1 HR349_2 HR350_1 HR350_2 hx349_0 hx349_1 hx349_2 hx350_0 hx350_1 hx350_2 hHeld ⊢
            refine pure_ (i := 0) (N := some 12) (v := ?_) (a' := ?_) #[true, false, false, false, false, false, false, false, false, false, false, false, false, false, false] rfl rfl (any_of HT_.out (by kernel_rfl)) (fun _ _ _ h => h) (Or.inl ⟨by rfl, ?_⟩) ?_ ?_
            rotate_left
            · intro w'
              go_simp
              with_reducible rfl
            rotate_left
            · simp only [Act.put, List.setIfInBounds_toArray, List.set_cons_zero, List.set_cons_succ, i64_w, i32_w]
              rfl
            refine pure_ (i := 1) (N := some 13) (v := ?_) (a' := ?_) #[true, true, false, false, false, false, false, false, false, false, false, false, false, false, false] rfl rfl (any_of HT_.out (by kernel_rfl)) (fun _ _ _ h => h) (Or.inl ⟨by rfl, ?_⟩) ?_ ?_
            rotate_left
            · intro w'
              go_simp
              with_reducible rfl
            rotate_left
            · simp only [Act.put, List.setIfInBounds_toArray, List.set_cons_zero, List.set_cons_succ, i64_w, i32_w]
              rfl
            refine pure_ (i := 2) (N := some 14) (v := ?_) (a' := ?_) #[true, true, true, false, false, false, false, false, false, false, false, false, false, false, false] rfl rfl (any_of HT_.out (by kernel_rfl)) (fun _ _ _ h => h) (Or.inl ⟨by rfl, ?_⟩) ?_ ?_
            rotate_left
            · intro w'
              go_simp
              with_reducible rfl
            rotate_left
            · simp only [Act.put, List.setIfInBounds_toArray, List.set_cons_zero, List.set_cons_succ, i64_w, i32_w]
              rfl
            refine pure_ (i := 3) (N := some 15) (v := ?_) (a' := ?_) #[true, true, true, true, false, false, false, false, false, false, false, false, false, false, false] rfl rfl (any_of HT_.out (by kernel_rfl)) (fun _ _ _ h => h) (Or.inl ⟨by rfl, ?_⟩) ?_ ?_
            rotate_left
            · intro w'
              go_simp
              with_reducible rfl
            rotate_left
            · simp only [Act.put, List.setIfInBounds_toArray, List.set_cons_zero, List.set_cons_succ, i64_w, i32_w]
              rfl
            refine pure_ (i := 7) (N := some 19) (v := ?_) (a' := ?_) #[true, true, true, true, false, false, false, true, false, false, false, false, false, false, false] rfl rfl (any_of HT_.out (by kernel_rfl)) (fun _ _ _ h => h) (Or.inl ⟨by rfl, ?_⟩) ?_ ?_
            rotate_left
            · intro w'
              go_simp
              with_reducible rfl
            rotate_left
            · simp only [Act.put, List.setIfInBounds_toArray, List.set_cons_zero, List.set_cons_succ, i64_w, i32_w]
              rfl
            refine pure_ (i := 8) (N := some 20) (v := ?_) (a' := ?_) #[true, true, true, true, false, false, false, true, true, false, false, false, false, false, false] rfl rfl (any_of HT_.out (by kernel_rfl)) (fun _ _ _ h => h) (Or.inl ⟨by rfl, ?_⟩) ?_ ?_
            rotate_left
            · intro w'
              go_simp
              with_reducible rfl
            rotate_left
            · simp only [Act.put, List.setIfInBounds_toArray, List.set_cons_zero, List.set_cons_succ, i64_w, i32_w]
              rfl
            refine pure_ (i := 9) (N := some 21) (v := ?_) (a' := ?_) #[true, true, true, true, false, false, false, true, true, true, false, false, false, false, false] rfl rfl (any_of HT_.out (by kernel_rfl)) (fun _ _ _ h => h) (Or.inl ⟨by rfl, ?_⟩) ?_ ?_
            rotate_left
            · intro w'
              go_simp
              with_reducible rfl
            rotate_left
            · simp only [Act.put, List.setIfInBounds_toArray, List.set_cons_zero, List.set_cons_succ, i64_w, i32_w]
              rfl
            refine pure_ (i := 10) (N := some 22) (v := ?_) (a' := ?_) #[true, true, true, true, false, false, false, true, true, true, true, false, false, false, false] rfl rfl (any_of HT_.out (by kernel_rfl)) (fun _ _ _ h => h) (Or.inl ⟨by rfl, ?_⟩) ?_ ?_
            rotate_left
            · intro w'
              go_simp
              with_reducible rfl
            rotate_left
            · simp only [Act.put, List.setIfInBounds_toArray, List.set_cons_zero, List.set_cons_succ, i64_w, i32_w]
              rfl
            refine take_ (i := 4) (N := some 16) (v := ?_) (a' := ?_) #[true, true, true, true, true, false, false, true, true, true, true, false, false, false, false] rfl rfl (take_ofW HT_.out HW_.out (by kernel_rfl)) (fun _ _ _ h => h) (Or.inl ⟨by rfl, ?_⟩) hHeld ?_ ?_
            rotate_left
            · rintro w' ⟨s0, s1, s2, s3, s4, s5⟩
              go_simp
              with_reducible rfl
            rotate_left
            · simp only [Act.put, List.setIfInBounds_toArray, List.set_cons_zero, List.set_cons_succ, i64_w, i32_w]
              rfl
            refine pure_ (i := 5) (N := some 17) (v := ?_) (a' := ?_) #[true, true, true, true, true, true, false, true, true, true, true, false, false, false, false] rfl rfl (any_of HT_.out (by kernel_rfl)) (fun _ _ _ h => h) (Or.inl ⟨by rfl, ?_⟩) ?_ ?_
            rotate_left
            · intro w'
              go_simp
              with_reducible rfl
            rotate_left
            · simp only [Act.put, List.setIfInBounds_toArray, List.set_cons_zero, List.set_cons_succ, i64_w, i32_w]
              rfl
            refine pure_ (i := 6) (N := some 18) (v := ?_) (a' := ?_) #[true, true, true, true, true, true, true, true, true, true, true, false, false, false, false] rfl rfl (any_of HT_.out (by kernel_rfl)) (fun _ _ _ h => h) (Or.inl ⟨by rfl, ?_⟩) ?_ ?_
            rotate_left
            · intro w'
              go_simp
              with_reducible rfl
            rotate_left
            · simp only [Act.put, List.setIfInBounds_toArray, List.set_cons_zero, List.set_cons_succ, i64_w, i32_w]
              rfl
            refine take_ (i := 11) (N := some 23) (v := ?_) (a' := ?_) #[true, true, true, true, true, true, true, true, true, true, true, true, false, false, false] rfl rfl (take_ofW HT_.out HW_.out (by kernel_rfl)) (fun _ _ _ h => h) (Or.inl ⟨by rfl, ?_⟩) hHeld ?_ ?_
            rotate_left
            · rintro w' ⟨s0, s1, s2, s3, s4, s5⟩
              go_simp
              with_reducible rfl
            rotate_left
            · simp only [Act.put, List.setIfInBounds_toArray, List.set_cons_zero, List.set_cons_succ, i64_w, i32_w]
              rfl
            refine one_ (i := 12) (N := some 24) #[true, true, true, true, true, true, true, true, true, true, true, true, true, false, false] rfl rfl (one_of HT_.out (by kernel_rfl)) (by decide) (fun K hK => ?_)
            refine goes_ Tryz.func77 (by kernel_rfl) rfl #[.slice A349_2 ((rd_T26 l0 x4_1).f2).length c349_2] (by rfl) rfl rfl (by (try simp only [List.map_toArray, List.map_cons, List.map_nil]); first | done | rfl | (simp only [List.length_drop, List.length_take]; rfl)) ?_
            with_reducible refine (ih k1 (by have := HK1.out; omega) _ _ ((rd_T26 l0 x4_1).f2) t351 _ ?side1 ?side2 A4.out).mono ?_
            (case side1 => repeat (first | exact (Kd.C_below HR350_2.out HB.out) | (with_reducible refine Kd.C_alloc ?_ _) | (with_reducible refine Kd.C_drewN ?_ _) | (with_reducible refine Kd.C_drew ?_)))
            (case side2 => exact HC350_2.out)
            rintro e w10 ⟨rfl, hb⟩
            refine ⟨_, rfl, ?_⟩
            have n0_ := Aside0.mk (below_step (by repeat (first | (with_reducible first | exact HB.out | apply below_alloc | apply pw_below_drewN | apply below_drew1) | exact HB.out)) hb)
            clear HB
            have HB := n0_
            clear n0_
            (try clear hb)
            (try clear hb2)
            (try clear hk)
            (try clear hi)
            refine hK.out _ _ ⟨((HB.out.cell (World.block_lt_of_cell? w _ hw349_0)).trans hw349_0), ((HB.out.cell (World.block_lt_of_cell? w _ hw349_1)).trans hw349_1), ((HB.out.cell (World.block_lt_of_cell? w _ hw349_2)).trans hw349_2), ((HB.out.cell (World.block_lt_of_cell? w _ hw350_0)).trans hw350_0), ((HB.out.cell (World.block_lt_of_cell? w _ hw350_1)).trans hw350_1), ((HB.out.cell (World.block_lt_of_cell? w _ hw350_2)).trans hw350_2)⟩ (fun hHeld => ?_)
            clear hK K
            refine norm_ (a' := ?_) ?_ ?_
            rotate_left
            · show Act.put _ (some 24) _ = _
              simp only [Act.put, List.setIfInBounds_toArray, List.set_cons_zero, List.set_cons_succ, i64_w, i32_w]
              rfl
            refine pure_ (i := 13) (N := some 25) (v := ?_) (a' := ?_) #[true, true, true, true, true, true, true, true, true, true, true, true, true, true, false] rfl rfl (any_of HT_.out (by kernel_rfl)) (fun _ _ _ h => h) (Or.inl ⟨by rfl, ?_⟩) ?_ ?_
            rotate_left
            · intro w'
              go_simp
              with_reducible rfl
            rotate_left
            · simp only [Act.put, List.setIfInBounds_toArray, List.set_cons_zero, List.set_cons_succ, i64_w, i32_w]
              rfl
            refine pure_ (i := 14) (N := some 5) (v := ?_) (a' := ?_) #[true, true, true, true, true, true, true, true, true, true, true, true, true, true, true] rfl rfl (any_of HT_.out (by kernel_rfl)) (fun _ _ _ h => h) (Or.inl ⟨by rfl, ?_⟩) ?_ ?_
            rotate_left
            · intro w'
              go_simp
              with_reducible rfl
            rotate_left
            · simp only [Act.put, List.setIfInBounds_toArray, List.set_cons_zero, List.set_cons_succ, i64_w, i32_w]
              rfl
            refine done_ (done_of HT_.out (by kernel_rfl)) ?_
            try go_wp2
            go_roundg k1
            case measure => have := HK1.out; omega
            case rel => exact ⟨(wrap64 (x3_1 + (wrap64 ((wrap64 (4 + (((rd_T26 l0 x4_1).f1).length : Int))) + t351)))), (wrap64 (x4_1 + 1)), (by first | rfl | (simp; done) | (simp [*]; done)), (by first | rfl | (simp; done) | (simp [*]; done)), H', ⟨by have := HK1.out; omega⟩, ⟨by repeat (first | (with_reducible first | exact HB.out | apply below_alloc | apply pw_below_drewN | apply below_drew1) | exact HB.out)⟩⟩
        · rw [if_neg c3] at H
          exact absurd H (by simp)
      · rw [if_neg c2] at H
        have c2b0 : decide (x4_1 < (l0.length : Int)) = false := decide_eq_false c2
        clear c2
        obtain rfl := Option.some.inj H
        go_wp2
        go_ret
        exact ⟨by first | rfl | (simp [errW_none, errW_some] <;> rfl) | (simp [*, errW_none, errW_some] <;> rfl), by repeat (first | (with_reducible first | exact HB.out | apply below_alloc | apply pw_below_drewN | apply below_drew1) | exact HB.out)⟩
end Go.Proofs.YtpgfhbdnlojdfaaGreatDoor.P
namespace Go.Proofs.YtpgfhbdnlojdfaaGreatDoor.P
open Go.RowKit Go.Proofs.YtpgfhbdnlojdfaaGreatDoorW.PrintWords Go.Proofs.YtpgfhbdnlojdfaaGreatDoorW.PrintLast Go.Proofs.YtpgfhbdnlojdfaaGreatDoorW.PrintMore
set_option linter.unusedVariables false
theorem w64 {n : Int} (h0 : -9223372036854775808 ≤ n) (h1 : n ≤ 9223372036854775807) : wrap64 n = n := by unfold wrap64; omega
theorem rdN_at (l : List S26) (k : Nat) (h : k < l.length) : rd_T26 l (k : Int) = l[k] := by
  unfold rd_T26
  rw [Int.toNat_natCast, List.getD_eq_getElem?_getD, List.getElem?_eq_getElem h]; rfl
mutual
def ctN : S26 → Nat
  | ⟨_, _, k⟩ => 1 + ctL k
def ctL : List S26 → Nat
  | [] => 0
  | x :: l => ctN x + ctL l
end
mutual
def szN : S26 → Nat
  | ⟨_, d, k⟩ => 4 + d.length + szL k
def szL : List S26 → Nat
  | [] => 0
  | x :: l => szN x + (if l.isEmpty then 0 else (4 - szN x % 4) % 4) + szL l
end
theorem ctN_eq (x : S26) : ctN x = 1 + ctL x.f2 := by cases x; rw [ctN]
theorem szN_eq (x : S26) : szN x = 4 + x.f1.length + szL x.f2 := by cases x; rw [szN]
theorem ctL_cons (x : S26) (l : List S26) : ctL (x :: l) = ctN x + ctL l := by rw [ctL]
theorem szL_cons (x : S26) (l : List S26) : szL (x :: l) = szN x + (if l.isEmpty then 0 else (4 - szN x % 4) % 4) + szL l := by rw [szL]
theorem szL_len (l : List S26) : 4 * l.length ≤ szL l := by
  induction l with
  | nil => simp [szL]
  | cons x l ih => rw [szL_cons, szN_eq]; simp; omega
theorem ct_mem {x : S26} {l : List S26} (h : x ∈ l) : ctN x ≤ ctL l := by
  induction l with
  | nil => cases h
  | cons y l ih =>
    rw [ctL_cons]
    rcases List.mem_cons.1 h with rfl | h
    · omega
    · have := ih h; omega
theorem sz_mem {x : S26} {l : List S26} (h : x ∈ l) : szN x ≤ szL l := by
  induction l with
  | nil => cases h
  | cons y l ih =>
    rw [szL_cons]
    rcases List.mem_cons.1 h with rfl | h
    · omega
    · have := ih h; omega
theorem drop_cons {α : Type} (l : List α) (i : Nat) (h : i < l.length) : l.drop i = l[i] :: l.drop (i + 1) := List.drop_eq_getElem_cons h
theorem refGap_ev (n : Int) (h0 : 0 ≤ n) (h1 : n ≤ 1099511627776) : Ev (fun k => wharfref03_Gap.f k n) ((4 - n % 4) % 4) := by
  have key : ∀ m : Nat, m ≤ 4 → ∀ g : Int, 0 ≤ g → g ≤ (4 - n % 4) % 4 → ((4 - n % 4) % 4) - g ≤ m → Ev (fun k => wharfref03_Gap.l0 k n g) ((4 - n % 4) % 4) := by
    intro m
    induction m with
    | zero =>
      intro _ g g0 g1 g2
      have e : g = (4 - n % 4) % 4 := by omega
      refine Ev.step (f := fun _ => some g) (fun k => ?_) (by rw [e]; exact Ev.now _)
      show (if Int.tmod (wrap64 (n + g)) 4 = 0 then _ else _) = _
      rw [w64 (by omega) (by omega), Int.tmod_eq_emod_of_nonneg (by omega), if_pos (by omega)]
    | succ m ih =>
      intro hm g g0 g1 g2
      by_cases e : g = (4 - n % 4) % 4
      · refine Ev.step (f := fun _ => some g) (fun k => ?_) (by rw [e]; exact Ev.now _)
        show (if Int.tmod (wrap64 (n + g)) 4 = 0 then _ else _) = _
        rw [w64 (by omega) (by omega), Int.tmod_eq_emod_of_nonneg (by omega), if_pos (by omega)]
      · refine Ev.step (f := fun k => wharfref03_Gap.l0 k n (g + 1)) (fun k => ?_) (ih (by omega) (g + 1) (by omega) (by omega) (by omega))
        show (if Int.tmod (wrap64 (n + g)) 4 = 0 then _ else wharfref03_Gap.l0 k n (wrap64 (g + 1))) = _
        rw [w64 (by omega) (by omega), Int.tmod_eq_emod_of_nonneg (by omega), if_neg (by omega), w64 (by omega) (by omega)]
  exact key 4 (Nat.le_refl _) 0 (Int.le_refl _) (by omega) (by omega)
theorem refSize_ev : ∀ (c : Nat) (l : List S26), ctL l ≤ c → szL l ≤ 4194304 → Ev (fun k => wharfref08_Size.f k l) (szL l : Int) := by
  intro c
  induction c with
  | zero =>
    intro l hc hs
    cases l with
    | cons x l => rw [ctL_cons, ctN_eq] at hc; omega
    | nil =>
      refine Ev.step (f := fun k => wharfref08_Size.l0 k [] 0 0) (fun k => rfl) ?_
      refine Ev.step (f := fun _ => some 0) (fun k => rfl) (Ev.now _)
  | succ c ih =>
    intro l hc hs
    refine Ev.step (f := fun k => wharfref08_Size.l0 k l 0 0) (fun k => rfl) ?_
    have key : ∀ (m i : Nat) (acc : Nat), l.length - i = m → i ≤ l.length → acc + szL (l.drop i) = szL l → Ev (fun k => wharfref08_Size.l0 k l (acc : Int) (i : Int)) (szL l : Int) := by
      intro m
      induction m with
      | zero =>
        intro i acc hm hi ha
        rw [List.drop_eq_nil_of_le (by omega)] at ha
        simp [szL] at ha
        refine Ev.step (f := fun _ => some (acc : Int)) (fun k => ?_) (by rw [← ha]; exact Ev.now _)
        show (if (i : Int) < (l.length : Int) then _ else _) = _
        rw [if_neg (by omega)]
      | succ m ihm =>
        intro i acc hm hi ha
        have hlt : i < l.length := by omega
        rw [drop_cons l i hlt, szL_cons] at ha
        have hx := szN_eq l[i]
        have hmem := List.getElem_mem hlt
        have hct := ct_mem hmem
        have hll := szL_len l
        rw [ctN_eq] at hct
        have hK := ih l[i].f2 (by omega) (by omega)
        have e : ∀ k, wharfref08_Size.l0 (k + 1) l (acc : Int) (i : Int) = (wharfref08_Size.f k l[i].f2).bind fun t => (if (i : Int) < (wrap64 ((l.length : Int) - 1)) then ((wharfref03_Gap.f k (wrap64 ((wrap64 (4 + ((l[i].f1).length : Int))) + t))).bind fun g => (wharfref08_Size.l0 k l (wrap64 ((wrap64 ((acc : Int) + (wrap64 ((wrap64 (4 + ((l[i].f1).length : Int))) + t)))) + g)) (wrap64 ((i : Int) + 1)))) else (wharfref08_Size.l0 k l (wrap64 ((acc : Int) + (wrap64 ((wrap64 (4 + ((l[i].f1).length : Int))) + t)))) (wrap64 ((i : Int) + 1)))) := fun k => by
          rw [wharfref08_Size.l0, if_pos (by omega), if_pos (by omega), rdN_at l i hlt]
        refine Ev.step e (Ev.bind hK ?_)
        rw [w64 (n := (l.length : Int) - 1) (by omega) (by omega), w64 (n := 4 + ((l[i].f1).length : Int)) (by omega) (by omega), w64 (n := 4 + ((l[i].f1).length : Int) + (szL l[i].f2 : Int)) (by omega) (by omega), w64 (n := (acc : Int) + (4 + ((l[i].f1).length : Int) + (szL l[i].f2 : Int))) (by omega) (by omega), w64 (n := (i : Int) + 1) (by omega) (by omega)]
        by_cases hlast : i + 1 < l.length
        · rw [if_neg (by rw [List.isEmpty_iff]; intro h; have := congrArg List.length h; simp at this; omega)] at ha
          refine Ev.congr (fun k => if_pos (by omega)) ?_
          refine Ev.bind (refGap_ev _ (by omega) (by omega)) ?_
          have hg : (4 - (4 + ((l[i].f1).length : Int) + (szL l[i].f2 : Int)) % 4) % 4 = (((4 - szN l[i] % 4) % 4 : Nat) : Int) := by omega
          rw [hg, w64 (by omega) (by omega)]
          have := ihm (i + 1) (acc + szN l[i] + (4 - szN l[i] % 4) % 4) (by omega) (by omega) (by omega)
          rw [show (acc : Int) + (4 + ((l[i].f1).length : Int) + (szL l[i].f2 : Int)) + (((4 - szN l[i] % 4) % 4 : Nat) : Int) = ((acc + szN l[i] + (4 - szN l[i] % 4) % 4 : Nat) : Int) by omega]
          exact this
        · rw [if_pos (by rw [List.isEmpty_iff]; exact List.drop_eq_nil_of_le (by omega))] at ha
          refine Ev.congr (fun k => if_neg (by omega)) ?_
          have := ihm (i + 1) (acc + szN l[i]) (by omega) (by omega) (by omega)
          rw [show (acc : Int) + (4 + ((l[i].f1).length : Int) + (szL l[i].f2 : Int)) = ((acc + szN l[i] : Nat) : Int) by omega]
          exact this
    exact key l.length 0 0 rfl (Nat.zero_le _) (by simp)
theorem sizes_szL : ∀ (l : List S26) (s : Int), 0 ≤ s → (l.map fun x => (szN x : Int)).foldl (fun s n => upN s + n) s = if l.isEmpty then s else upN s + (szL l : Int)
  | [], s, hs => by simp
  | [x], s, hs => by simp [szL]
  | x :: y :: l, s, hs => by
    have ih := sizes_szL (y :: l) (upN s + szN x) (by have := upN_le s hs; omega)
    rw [List.map_cons, List.foldl_cons, ih]
    rw [szL_cons x]
    simp only [List.isEmpty_cons, if_false, Bool.false_eq_true]
    unfold upN
    omega
theorem sizesN_szL (l : List S26) : sizesN (l.map fun x => (szN x : Int)) = (szL l : Int) := by
  unfold sizesN
  rw [sizes_szL l 0 (Int.le_refl _)]
  cases l with
  | nil => simp [szL]
  | cons x l => simp [upN]
def frameZ (x : S26) : S166 := ⟨0, List.replicate (x.f1.length + szL x.f2) 0⟩
theorem tlvSize_ev (l : List S26) (hs : szL l ≤ 4194304) : Ev (fun k => tlv_Size.f k (l.map frameZ)) (szL l : Int) := by
  have hll := szL_len l
  have hok : okSizes (l.map fun x => (szN x : Int)) = true := by
    unfold okSizes
    simp only [Bool.and_eq_true, decide_eq_true_eq, List.all_eq_true, List.length_map]
    refine ⟨by omega, fun n hn => ?_⟩
    obtain ⟨x, hx, rfl⟩ := List.mem_map.1 hn
    have := sz_mem hx
    omega
  have key : ∀ (m i : Nat), l.length - i = m → i ≤ l.length → Ev (fun k => tlv_Size.l0 k ((l.take i).map fun x => (szN x : Int)) (l.map frameZ) (l.length : Int) (i : Int)) (szL l : Int) := by
    intro m
    induction m with
    | zero =>
      intro i hm hi
      have e : ∀ k, tlv_Size.l0 (k + 1) ((l.take i).map fun x => (szN x : Int)) (l.map frameZ) (l.length : Int) (i : Int) = some (szL l : Int) := fun k => by
        rw [tlv_Size.l0, if_neg (by omega), List.take_of_length_le (by omega)]
        unfold pad_Sizes.f
        rw [if_pos hok, sizesN_szL]; rfl
      exact Ev.step (f := fun _ => some (szL l : Int)) e (Ev.now _)
    | succ m ihm =>
      intro i hm hi
      have hlt : i < l.length := by omega
      have hlt2 : i < (l.map frameZ).length := by rw [List.length_map]; exact hlt
      have hmem := sz_mem (List.getElem_mem hlt)
      have hx := szN_eq l[i]
      have hrd : rd_T166 (l.map frameZ) (i : Int) = frameZ l[i] := by
        unfold rd_T166
        rw [Int.toNat_natCast, List.getD_eq_getElem?_getD, List.getElem?_eq_getElem hlt2]; simp
      have e : ∀ k, tlv_Size.l0 (k + 1) ((l.take i).map fun x => (szN x : Int)) (l.map frameZ) (l.length : Int) (i : Int) = tlv_Size.l0 k ((l.take (i + 1)).map fun x => (szN x : Int)) (l.map frameZ) (l.length : Int) ((i + 1 : Nat) : Int) := fun k => by
        rw [tlv_Size.l0, if_pos (by omega), if_pos (by omega), if_pos (by rw [List.length_map]; omega), if_pos (by rw [List.length_map, List.length_take]; omega), hrd, List.take_succ_eq_append_getElem hlt, List.map_append]
        unfold frameZ
        rw [List.length_replicate, w64 (by omega) (by omega), w64 (by omega) (by omega)]
        rw [show (4 : Int) + ((l[i].f1.length + szL l[i].f2 : Nat) : Int) = (szN l[i] : Int) by omega]
        rfl
      exact Ev.step e (ihm (i + 1) (by omega) (by omega))
  have h0 := key l.length 0 rfl (Nat.zero_le _)
  refine Ev.congr (fun k => ?_) h0
  unfold tlv_Size.f
  rw [List.length_map]; rfl
theorem nodeSize_ev : ∀ (c : Nat) (l : List S26), ctL l ≤ c → szL l ≤ 4194304 → Ev (fun k => node_Size.f k l) (szL l : Int) := by
  intro c
  induction c with
  | zero =>
    intro l hc hs
    cases l with
    | cons x l => rw [ctL_cons, ctN_eq] at hc; omega
    | nil =>
      refine Ev.step (f := fun k => node_Size.l0 k [] [] 0 0) (fun k => rfl) ?_
      refine Ev.step (f := fun k => (tlv_Size.f k []).bind fun t => some t) (fun k => rfl) ?_
      exact Ev.bind (tlvSize_ev [] hs) (Ev.now _)
  | succ c ih =>
    intro l hc hs
    refine Ev.step (f := fun k => node_Size.l0 k [] l (l.length : Int) 0) (fun k => rfl) ?_
    have hll := szL_len l
    have key : ∀ (m i : Nat), l.length - i = m → i ≤ l.length → Ev (fun k => node_Size.l0 k ((l.take i).map frameZ) l (l.length : Int) (i : Int)) (szL l : Int) := by
      intro m
      induction m with
      | zero =>
        intro i hm hi
        have e : ∀ k, node_Size.l0 (k + 1) ((l.take i).map frameZ) l (l.length : Int) (i : Int) = (tlv_Size.f k (l.map frameZ)).bind fun t => some t := fun k => by
          rw [node_Size.l0, if_neg (by omega), List.take_of_length_le (by omega)]
        exact Ev.step e (Ev.bind (tlvSize_ev l hs) (Ev.now _))
      | succ m ihm =>
        intro i hm hi
        have hlt : i < l.length := by omega
        have hmem := sz_mem (List.getElem_mem hlt)
        have hx := szN_eq l[i]
        have hct := ct_mem (List.getElem_mem hlt)
        rw [ctN_eq] at hct
        have e : ∀ k, node_Size.l0 (k + 1) ((l.take i).map frameZ) l (l.length : Int) (i : Int) = (node_Size.f k l[i].f2).bind fun t => (if 0 ≤ (wrap64 (((l[i].f1).length : Int) + t)) then (if (wrap64 (((l[i].f1).length : Int) + t) : Int).toNat ≤ 281474976710656 then (if ((l.take i).map frameZ).length < 4398046511104 then (node_Size.l0 k ((l.take i).map frameZ ++ [(⟨0, (List.replicate (wrap64 (((l[i].f1).length : Int) + t) : Int).toNat 0)⟩ : S166)]) l (l.length : Int) (wrap64 ((i : Int) + 1))) else (none)) else (none)) else (none)) := fun k => by
          rw [node_Size.l0, if_pos (by omega), if_pos (by omega), if_pos (by omega), rdN_at l i hlt]
        refine Ev.step e (Ev.bind (ih l[i].f2 (by omega) (by omega)) ?_)
        rw [w64 (n := ((l[i].f1).length : Int) + (szL l[i].f2 : Int)) (by omega) (by omega), w64 (n := (i : Int) + 1) (by omega) (by omega)]
        refine Ev.congr (fun k => (if_pos (by omega)).trans ((if_pos (by omega)).trans (if_pos (by rw [List.length_map, List.length_take]; omega)))) ?_
        have := ihm (i + 1) (by omega) (by omega)
        rw [List.take_succ_eq_append_getElem hlt, List.map_append] at this
        rw [show (((l[i].f1).length : Int) + (szL l[i].f2 : Int)).toNat = l[i].f1.length + szL l[i].f2 by omega]
        exact this
    exact key l.length 0 rfl (Nat.zero_le _)
end Go.Proofs.YtpgfhbdnlojdfaaGreatDoor.P
