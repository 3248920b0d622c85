/- Packed by wip/tools/pack.py out of Fwharfref07Fits, Fwharfref08wanted, Fwharfref08Counted, Fwharfref08Inside. -/
import Derived.Test.YtpgfhbdnlojdfaaGreatDoorR07
namespace Go.Proofs.YtpgfhbdnlojdfaaGreatDoor.P
open Go.RowKit Go.Proofs.YtpgfhbdnlojdfaaGreatDoorW.PrintWords Go.Proofs.YtpgfhbdnlojdfaaGreatDoorW.PrintLast Go.Proofs.YtpgfhbdnlojdfaaGreatDoorW.PrintMore
attribute [local go_sem] max2_int min2_int max_two min_two max_three min_three max_four min_four
set_option linter.unusedVariables false
set_option linter.unusedSimpArgs false
def wharfref07_Fits.l0 : Nat → Int → Int → Int → Int → ByteArray → Int → Int → Int → Int → Option (Bool)
  | 0, _, _, _, _, _, _, _, _, _ => none
  | k + 1, x1, x5, x342000, x342001, x342002, x342003, x342004, x342005, x342006 => if x5 ≤ x342004 then (if x5 = x1 then (some true) else (wharfref07_Fits.l0 k x1 (wrap64 (x5 + x342005)) x342000 x342001 x342002 x342003 x342004 x342005 x342006)) else (some false)
def wharfref07_Fits.f (k : Nat) (a0_0 : Int) (a0_1 : Int) (a0_2 : ByteArray) (a0_3 : Int) (a0_4 : Int) (a0_5 : Int) (a0_6 : Int) (a1 : Int) : Option (Bool) := wharfref07_Fits.l0 k a1 a0_3 a0_0 a0_1 a0_2 a0_3 a0_4 a0_5 a0_6
set_option maxHeartbeats 8000000 in
set_option maxRecDepth 100000 in
theorem wharfref07_Fits.calls (k : Nat) (a0_0 : Int) (a0_1 : Int) (a0_2 : ByteArray) (a0_3 : Int) (a0_4 : Int) (a0_5 : Int) (a0_6 : Int) (a1 : Int) (r : Bool) (w : World) (h : wharfref07_Fits.f k a0_0 a0_1 a0_2 a0_3 a0_4 a0_5 a0_6 a1 = some r) :
    Calls Tryz.prog 73 #[.agg #[.int .i64 a0_0, .int .u16 a0_1, .string a0_2, .int .i64 a0_3, .int .i64 a0_4, .int .i64 a0_5, .int .i64 a0_6], .int .i64 a1] w fun e w' => e = .returned (.bool r) ∧ Below w.heap.size w w' := by
  have hu106 := Tryz.underlying106
  have HB := Aside0.mk (Below.refl w.heap.size w)
  have H : (wharfref07_Fits.l0 k a1 a0_3 a0_0 a0_1 a0_2 a0_3 a0_4 a0_5 a0_6) = some r := h
  clear h
  have H' := Aside0.mk H
  clear H
  go_enter Tryz.func73, Tryz.ntmps73
  go_wp2_with (first | ((with_reducible refine gate_dst (N := 2) rfl ?_); refine box_event ?hg (N := 2) ?hd (cs := #[.int .i64 a0_0, .int .u16 a0_1, .string a0_2, .int .i64 a0_3, .int .i64 a0_4, .int .i64 a0_5, .int .i64 a0_6]) (t := 106) ?hr ?_; (case hd => rfl); (case hg => rfl); (case hr => first | (go_simp; done) | (go_simp; rfl)); intro gb341 hg w3 hbox hb; have n0_ := Aside0.mk (below_step (by repeat (first | (with_reducible first | exact HB.out | apply below_alloc | apply pw_below_drewN | apply below_drew1) | exact HB.out)) hb); have n1_ := Aside0.mk (hbox); have n2_ := Aside0.mk ((by rw [hg]; exact (below_size (by repeat (first | (with_reducible first | exact HB.out | apply below_alloc | apply pw_below_drewN | apply below_drew1) | exact HB.out))) : w.heap.size ≤ gb341)); have n3_ := Aside0.mk ((by rw [hg]; exact (below_size (by repeat (first | (with_reducible first | exact HB.out | apply below_alloc | apply pw_below_drewN | apply below_drew1) | exact HB.out))) : w.heap.size ≤ gb341)); clear HB; have HB := n0_; have BK341 := n1_; have GW341 := n2_; have GE341 := n3_; clear n0_ n1_ n2_ n3_; clear hb hbox hg; have hcz4_0 : w3.cell? ⟨gb341, 0, none⟩ = some (.int .i64 a0_0) := (blk_cell BK341.out 0).trans rfl; have hcz4_1 : w3.cell? ⟨gb341, 1, none⟩ = some (.int .u16 a0_1) := (blk_cell BK341.out 1).trans rfl; have hcz4_2 : w3.cell? ⟨gb341, 2, none⟩ = some (.string a0_2) := (blk_cell BK341.out 2).trans rfl; have hcz4_3 : w3.cell? ⟨gb341, 3, none⟩ = some (.int .i64 a0_3) := (blk_cell BK341.out 3).trans rfl; have hcz4_4 : w3.cell? ⟨gb341, 4, none⟩ = some (.int .i64 a0_4) := (blk_cell BK341.out 4).trans rfl; have hcz4_5 : w3.cell? ⟨gb341, 5, none⟩ = some (.int .i64 a0_5) := (blk_cell BK341.out 5).trans rfl; have hcz4_6 : w3.cell? ⟨gb341, 6, none⟩ = some (.int .i64 a0_6) := (blk_cell BK341.out 6).trans rfl; have hfz4_0 := blk_frozen BK341.out 0; have hfz4_1 := blk_frozen BK341.out 1; have hfz4_2 := blk_frozen BK341.out 2; have hfz4_3 := blk_frozen BK341.out 3; have hfz4_4 := blk_frozen BK341.out 4; have hfz4_5 := blk_frozen BK341.out 5; have hfz4_6 := blk_frozen BK341.out 6))
  go_loopg [5] k (fun kq v5 w' => ∃ (x5_1 : Int), v5 = .int .i64 x5_1 ∧ Aside0 (wharfref07_Fits.l0 kq a1 x5_1 a0_0 a0_1 a0_2 a0_3 a0_4 a0_5 a0_6 = some r) ∧ Aside0 (kq ≤ k) ∧ Aside0 (w'.heap[gb341]? = some (.cells #[.int .i64 a0_0, .int .u16 a0_1, .string a0_2, .int .i64 a0_3, .int .i64 a0_4, .int .i64 a0_5, .int .i64 a0_6] 106 (0, 0))) ∧ Aside0 (Below w.heap.size w w'))
  case atStart => exact ⟨(a0_3), (by first | rfl | (simp; done) | (simp [*]; done)), H', ⟨Nat.le_refl _⟩, ⟨by (with_reducible repeat (first | refine blk_drewN ?_ _ | refine blk_drew ?_ | refine blk_alloc ?_ _)); exact BK341.out⟩, ⟨by repeat (first | (with_reducible first | exact HB.out | apply below_alloc | apply pw_below_drewN | apply below_drew1 | refine below_set ?_ GE341.out) | exact HB.out)⟩⟩
  case round =>
    clear H'
    try clear p2
    try clear hcz4_0
    try clear hcz4_1
    try clear hcz4_2
    try clear hcz4_3
    try clear hcz4_4
    try clear hcz4_5
    try clear hcz4_6
    try clear hfz4_0
    try clear hfz4_1
    try clear hfz4_2
    try clear hfz4_3
    try clear hfz4_4
    try clear hfz4_5
    try clear hfz4_6
    obtain ⟨x5_1, rfl, HA, HK1, BK341, HB⟩ := hrel
    cases gk with
    | zero => exact absurd HA.out (by simp [wharfref07_Fits.l0])
    | succ k1 =>
      have H := HA.out
      clear HA
      simp only [wharfref07_Fits.l0] at H
      by_cases c5 : x5_1 ≤ a0_4
      · rw [if_pos c5] at H
        have c5b0 : decide (x5_1 ≤ a0_4) = true := decide_eq_true c5
        clear c5
        by_cases c6 : x5_1 = a1
        · rw [if_pos c6] at H
          have c6b0 : (x5_1 == a1) = true := beq_iff_eq.mpr c6
          have c6b1 : (x5_1 != a1) = false := bne_eq_false_iff_eq.mpr c6
          clear c6
          obtain rfl := Option.some.inj H
          have hcz7_0 : wr.cell? ⟨gb341, 0, none⟩ = some (.int .i64 a0_0) := (blk_cell BK341.out 0).trans rfl
          have hcz7_1 : wr.cell? ⟨gb341, 1, none⟩ = some (.int .u16 a0_1) := (blk_cell BK341.out 1).trans rfl
          have hcz7_2 : wr.cell? ⟨gb341, 2, none⟩ = some (.string a0_2) := (blk_cell BK341.out 2).trans rfl
          have hcz7_3 : wr.cell? ⟨gb341, 3, none⟩ = some (.int .i64 a0_3) := (blk_cell BK341.out 3).trans rfl
          have hcz7_4 : wr.cell? ⟨gb341, 4, none⟩ = some (.int .i64 a0_4) := (blk_cell BK341.out 4).trans rfl
          have hcz7_5 : wr.cell? ⟨gb341, 5, none⟩ = some (.int .i64 a0_5) := (blk_cell BK341.out 5).trans rfl
          have hcz7_6 : wr.cell? ⟨gb341, 6, none⟩ = some (.int .i64 a0_6) := (blk_cell BK341.out 6).trans rfl
          have hfz7_0 := blk_frozen BK341.out 0
          have hfz7_1 := blk_frozen BK341.out 1
          have hfz7_2 := blk_frozen BK341.out 2
          have hfz7_3 := blk_frozen BK341.out 3
          have hfz7_4 := blk_frozen BK341.out 4
          have hfz7_5 := blk_frozen BK341.out 5
          have hfz7_6 := blk_frozen BK341.out 6
          go_wp2
          go_ret
          exact ⟨by first | rfl | (simp [errW_none, errW_some] <;> rfl) | (simp [*, errW_none, errW_some] <;> rfl), by repeat (first | (with_reducible first | exact HB.out | apply below_alloc | apply pw_below_drewN | apply below_drew1 | refine below_set ?_ GE341.out) | exact HB.out)⟩
        · rw [if_neg c6] at H
          have c6b0 : (x5_1 == a1) = false := beq_eq_false_iff_ne.mpr c6
          have c6b1 : (x5_1 != a1) = true := bne_iff_ne.mpr c6
          have H' := Aside0.mk H
          clear H
          have hcz8_0 : wr.cell? ⟨gb341, 0, none⟩ = some (.int .i64 a0_0) := (blk_cell BK341.out 0).trans rfl
          have hcz8_1 : wr.cell? ⟨gb341, 1, none⟩ = some (.int .u16 a0_1) := (blk_cell BK341.out 1).trans rfl
          have hcz8_2 : wr.cell? ⟨gb341, 2, none⟩ = some (.string a0_2) := (blk_cell BK341.out 2).trans rfl
          have hcz8_3 : wr.cell? ⟨gb341, 3, none⟩ = some (.int .i64 a0_3) := (blk_cell BK341.out 3).trans rfl
          have hcz8_4 : wr.cell? ⟨gb341, 4, none⟩ = some (.int .i64 a0_4) := (blk_cell BK341.out 4).trans rfl
          have hcz8_5 : wr.cell? ⟨gb341, 5, none⟩ = some (.int .i64 a0_5) := (blk_cell BK341.out 5).trans rfl
          have hcz8_6 : wr.cell? ⟨gb341, 6, none⟩ = some (.int .i64 a0_6) := (blk_cell BK341.out 6).trans rfl
          have hfz8_0 := blk_frozen BK341.out 0
          have hfz8_1 := blk_frozen BK341.out 1
          have hfz8_2 := blk_frozen BK341.out 2
          have hfz8_3 := blk_frozen BK341.out 3
          have hfz8_4 := blk_frozen BK341.out 4
          have hfz8_5 := blk_frozen BK341.out 5
          have hfz8_6 := blk_frozen BK341.out 6
          go_wp2
          go_roundg k1
          case measure => have := HK1.out; omega
          case rel => exact ⟨(wrap64 (x5_1 + a0_5)), (by first | rfl | (simp; done) | (simp [*]; done)), H', ⟨by have := HK1.out; omega⟩, ⟨by (with_reducible repeat (first | refine blk_drewN ?_ _ | refine blk_drew ?_ | refine blk_alloc ?_ _)); exact BK341.out⟩, ⟨by repeat (first | (with_reducible first | exact HB.out | apply below_alloc | apply pw_below_drewN | apply below_drew1 | refine below_set ?_ GE341.out) | exact HB.out)⟩⟩
      · rw [if_neg c5] at H
        have c5b0 : decide (x5_1 ≤ a0_4) = false := decide_eq_false c5
        clear c5
        obtain rfl := Option.some.inj H
        have hcz9_0 : wr.cell? ⟨gb341, 0, none⟩ = some (.int .i64 a0_0) := (blk_cell BK341.out 0).trans rfl
        have hcz9_1 : wr.cell? ⟨gb341, 1, none⟩ = some (.int .u16 a0_1) := (blk_cell BK341.out 1).trans rfl
        have hcz9_2 : wr.cell? ⟨gb341, 2, none⟩ = some (.string a0_2) := (blk_cell BK341.out 2).trans rfl
        have hcz9_3 : wr.cell? ⟨gb341, 3, none⟩ = some (.int .i64 a0_3) := (blk_cell BK341.out 3).trans rfl
        have hcz9_4 : wr.cell? ⟨gb341, 4, none⟩ = some (.int .i64 a0_4) := (blk_cell BK341.out 4).trans rfl
        have hcz9_5 : wr.cell? ⟨gb341, 5, none⟩ = some (.int .i64 a0_5) := (blk_cell BK341.out 5).trans rfl
        have hcz9_6 : wr.cell? ⟨gb341, 6, none⟩ = some (.int .i64 a0_6) := (blk_cell BK341.out 6).trans rfl
        have hfz9_0 := blk_frozen BK341.out 0
        have hfz9_1 := blk_frozen BK341.out 1
        have hfz9_2 := blk_frozen BK341.out 2
        have hfz9_3 := blk_frozen BK341.out 3
        have hfz9_4 := blk_frozen BK341.out 4
        have hfz9_5 := blk_frozen BK341.out 5
        have hfz9_6 := blk_frozen BK341.out 6
        go_wp2
        go_ret
        exact ⟨by first | rfl | (simp [errW_none, errW_some] <;> rfl) | (simp [*, errW_none, errW_some] <;> rfl), by repeat (first | (with_reducible first | exact HB.out | apply below_alloc | apply pw_below_drewN | apply below_drew1 | refine below_set ?_ GE341.out) | exact HB.out)⟩
end Go.Proofs.YtpgfhbdnlojdfaaGreatDoor.P
namespace Go.Proofs.YtpgfhbdnlojdfaaGreatDoor.P
open Go.RowKit Go.Proofs.YtpgfhbdnlojdfaaGreatDoorW.PrintWords Go.Proofs.YtpgfhbdnlojdfaaGreatDoorW.PrintLast Go.Proofs.YtpgfhbdnlojdfaaGreatDoorW.PrintMore
attribute [local go_sem] max2_int min2_int max_two min_two max_three min_three max_four min_four
set_option linter.unusedVariables false
set_option linter.unusedSimpArgs false
def wharfref08_wanted.f (a0_0 : Int) (a0_1 : Int) (a0_2 : ByteArray) (a0_3 : Int) (a0_4 : Int) (a0_5 : Int) (a0_6 : Int) (l1 : List (S26)) : Option (Bool) := if a0_6 = 0 then (some ((l1.length : Int) == 0)) else (if a0_6 = 1 then (some ((l1.length : Int) == 1)) else (if a0_6 = 4 then (if (l1.length : Int) = 1 then (if 0 < (l1.length : Int) then (if ((rd_T26 l1 0).f0) = 5 then (some true) else (some (((rd_T26 l1 0).f0) == 6))) else (none)) else (some false)) else (if (l1.length : Int) ≥ 1 then (some (decide ((l1.length : Int) ≤ 16384))) else (some false))))
set_option maxHeartbeats 8000000 in
set_option maxRecDepth 100000 in
theorem wharfref08_wanted.calls (a0_0 : Int) (a0_1 : Int) (a0_2 : ByteArray) (a0_3 : Int) (a0_4 : Int) (a0_5 : Int) (a0_6 : Int) (A1 : Option Addr) (c1 : Nat) (l1 : List (S26)) (r : Bool) (w : World) (hr1 : Kd.C k26 w A1 l1.length l1) (hc1 : l1.length ≤ c1) (h : wharfref08_wanted.f a0_0 a0_1 a0_2 a0_3 a0_4 a0_5 a0_6 l1 = some r) :
    Calls Tryz.prog 74 #[.agg #[.int .i64 a0_0, .int .u16 a0_1, .string a0_2, .int .i64 a0_3, .int .i64 a0_4, .int .i64 a0_5, .int .i64 a0_6], .slice A1 l1.length c1] w fun e w' => e = .returned (.bool r) ∧ Below w.heap.size w w' := by
  have hu106 := Tryz.underlying106
  have HR1 := Aside0.mk hr1
  have HC1 := Aside0.mk hc1
  clear hr1 hc1
  have HB := Aside0.mk (Below.refl w.heap.size w)
  have H : (if a0_6 = 0 then (some ((l1.length : Int) == 0)) else (if a0_6 = 1 then (some ((l1.length : Int) == 1)) else (if a0_6 = 4 then (if (l1.length : Int) = 1 then (if 0 < (l1.length : Int) then (if ((rd_T26 l1 0).f0) = 5 then (some true) else (some (((rd_T26 l1 0).f0) == 6))) else (none)) else (some false)) else (if (l1.length : Int) ≥ 1 then (some (decide ((l1.length : Int) ≤ 16384))) else (some false))))) = some r := h
  clear h
  by_cases c3 : a0_6 = 0
  · rw [if_pos c3] at H
    have c3b0 : (a0_6 == 0) = true := beq_iff_eq.mpr c3
    have c3b1 : (a0_6 != 0) = false := bne_eq_false_iff_eq.mpr c3
    clear c3
    obtain rfl := Option.some.inj H
    go_enter Tryz.func74, Tryz.ntmps74
    go_wp2_with (first | ((with_reducible refine gate_dst (N := 2) rfl ?_); (try (refine gate_guard (by rfl) ?_; dsimp only)); refine box_event ?hg (N := 2) ?hd (cs := #[.int .i64 a0_0, .int .u16 a0_1, .string a0_2, .int .i64 a0_3, .int .i64 a0_4, .int .i64 a0_5, .int .i64 a0_6]) (t := 106) ?hr ?_; (case hd => rfl); (case hg => rfl); (case hr => first | (go_simp; done) | (go_simp; rfl)); intro gb342 hg w4 hbox hb; have n0_ := Aside0.mk (below_step (by repeat (first | (with_reducible first | exact HB.out | apply below_alloc | apply pw_below_drewN | apply below_drew1) | exact HB.out)) hb); have n1_ := Aside0.mk (hbox); have n2_ := Aside0.mk ((by rw [hg]; exact (below_size (by repeat (first | (with_reducible first | exact HB.out | apply below_alloc | apply pw_below_drewN | apply below_drew1) | exact HB.out))) : w.heap.size ≤ gb342)); have n3_ := Aside0.mk ((by rw [hg]; exact (below_size (by repeat (first | (with_reducible first | exact HB.out | apply below_alloc | apply pw_below_drewN | apply below_drew1) | exact HB.out))) : w.heap.size ≤ gb342)); clear HB; have HB := n0_; have BK342 := n1_; have GW342 := n2_; have GE342 := n3_; clear n0_ n1_ n2_ n3_; clear hb hbox hg; have hcz5_0 : w4.cell? ⟨gb342, 0, none⟩ = some (.int .i64 a0_0) := (blk_cell BK342.out 0).trans rfl; have hcz5_1 : w4.cell? ⟨gb342, 1, none⟩ = some (.int .u16 a0_1) := (blk_cell BK342.out 1).trans rfl; have hcz5_2 : w4.cell? ⟨gb342, 2, none⟩ = some (.string a0_2) := (blk_cell BK342.out 2).trans rfl; have hcz5_3 : w4.cell? ⟨gb342, 3, none⟩ = some (.int .i64 a0_3) := (blk_cell BK342.out 3).trans rfl; have hcz5_4 : w4.cell? ⟨gb342, 4, none⟩ = some (.int .i64 a0_4) := (blk_cell BK342.out 4).trans rfl; have hcz5_5 : w4.cell? ⟨gb342, 5, none⟩ = some (.int .i64 a0_5) := (blk_cell BK342.out 5).trans rfl; have hcz5_6 : w4.cell? ⟨gb342, 6, none⟩ = some (.int .i64 a0_6) := (blk_cell BK342.out 6).trans rfl; have hfz5_0 := blk_frozen BK342.out 0; have hfz5_1 := blk_frozen BK342.out 1; have hfz5_2 := blk_frozen BK342.out 2; have hfz5_3 := blk_frozen BK342.out 3; have hfz5_4 := blk_frozen BK342.out 4; have hfz5_5 := blk_frozen BK342.out 5; have hfz5_6 := blk_frozen BK342.out 6))
    go_ret
    exact ⟨by first | rfl | (simp [errW_none, errW_some] <;> rfl) | (simp [*, errW_none, errW_some] <;> rfl), by repeat (first | (with_reducible first | exact HB.out | apply below_alloc | apply pw_below_drewN | apply below_drew1 | refine below_set ?_ GE342.out) | exact HB.out)⟩
  · rw [if_neg c3] at H
    have c3b0 : (a0_6 == 0) = false := beq_eq_false_iff_ne.mpr c3
    have c3b1 : (a0_6 != 0) = true := bne_iff_ne.mpr c3
    by_cases c6 : a0_6 = 1
    · rw [if_pos c6] at H
      have c6b0 : (a0_6 == 1) = true := beq_iff_eq.mpr c6
      have c6b1 : (a0_6 != 1) = false := bne_eq_false_iff_eq.mpr c6
      clear c6
      obtain rfl := Option.some.inj H
      go_enter Tryz.func74, Tryz.ntmps74
      go_wp2_with (first | ((with_reducible refine gate_dst (N := 2) rfl ?_); (try (refine gate_guard (by rfl) ?_; dsimp only)); refine box_event ?hg (N := 2) ?hd (cs := #[.int .i64 a0_0, .int .u16 a0_1, .string a0_2, .int .i64 a0_3, .int .i64 a0_4, .int .i64 a0_5, .int .i64 a0_6]) (t := 106) ?hr ?_; (case hd => rfl); (case hg => rfl); (case hr => first | (go_simp; done) | (go_simp; rfl)); intro gb342 hg w7 hbox hb; have n0_ := Aside0.mk (below_step (by repeat (first | (with_reducible first | exact HB.out | apply below_alloc | apply pw_below_drewN | apply below_drew1) | exact HB.out)) hb); have n1_ := Aside0.mk (hbox); have n2_ := Aside0.mk ((by rw [hg]; exact (below_size (by repeat (first | (with_reducible first | exact HB.out | apply below_alloc | apply pw_below_drewN | apply below_drew1) | exact HB.out))) : w.heap.size ≤ gb342)); have n3_ := Aside0.mk ((by rw [hg]; exact (below_size (by repeat (first | (with_reducible first | exact HB.out | apply below_alloc | apply pw_below_drewN | apply below_drew1) | exact HB.out))) : w.heap.size ≤ gb342)); clear HB; have HB := n0_; have BK342 := n1_; have GW342 := n2_; have GE342 := n3_; clear n0_ n1_ n2_ n3_; clear hb hbox hg; have hcz8_0 : w7.cell? ⟨gb342, 0, none⟩ = some (.int .i64 a0_0) := (blk_cell BK342.out 0).trans rfl; have hcz8_1 : w7.cell? ⟨gb342, 1, none⟩ = some (.int .u16 a0_1) := (blk_cell BK342.out 1).trans rfl; have hcz8_2 : w7.cell? ⟨gb342, 2, none⟩ = some (.string a0_2) := (blk_cell BK342.out 2).trans rfl; have hcz8_3 : w7.cell? ⟨gb342, 3, none⟩ = some (.int .i64 a0_3) := (blk_cell BK342.out 3).trans rfl; have hcz8_4 : w7.cell? ⟨gb342, 4, none⟩ = some (.int .i64 a0_4) := (blk_cell BK342.out 4).trans rfl; have hcz8_5 : w7.cell? ⟨gb342, 5, none⟩ = some (.int .i64 a0_5) := (blk_cell BK342.out 5).trans rfl; have hcz8_6 : w7.cell? ⟨gb342, 6, none⟩ = some (.int .i64 a0_6) := (blk_cell BK342.out 6).trans rfl; have hfz8_0 := blk_frozen BK342.out 0; have hfz8_1 := blk_frozen BK342.out 1; have hfz8_2 := blk_frozen BK342.out 2; have hfz8_3 := blk_frozen BK342.out 3; have hfz8_4 := blk_frozen BK342.out 4; have hfz8_5 := blk_frozen BK342.out 5; have hfz8_6 := blk_frozen BK342.out 6))
      go_ret
      exact ⟨by first | rfl | (simp [errW_none, errW_some] <;> rfl) | (simp [*, errW_none, errW_some] <;> rfl), by repeat (first | (with_reducible first | exact HB.out | apply below_alloc | apply pw_below_drewN | apply below_drew1 | refine below_set ?_ GE342.out) | exact HB.out)⟩
    · rw [if_neg c6] at H
      have c6b0 : (a0_6 == 1) = false := beq_eq_false_iff_ne.mpr c6
      have c6b1 : (a0_6 != 1) = true := bne_iff_ne.mpr c6
      by_cases c9 : a0_6 = 4
      · rw [if_pos c9] at H
        have c9b0 : (a0_6 == 4) = true := beq_iff_eq.mpr c9
        have c9b1 : (a0_6 != 4) = false := bne_eq_false_iff_eq.mpr c9
        clear c9
        by_cases c10 : (l1.length : Int) = 1
        · rw [if_pos c10] at H
          have c10b0 : ((l1.length : Int) == 1) = true := beq_iff_eq.mpr c10
          have c10b1 : ((l1.length : Int) != 1) = false := bne_eq_false_iff_eq.mpr c10
          clear c10
          by_cases c11 : 0 < (l1.length : Int)
          · rw [if_pos c11] at H
            have c11b0 : decide (0 < (l1.length : Int)) = true := decide_eq_true c11
            have c11b1 : decide (0 < l1.length) = true := decide_eq_true (by omega)
            clear c11
            by_cases c12 : ((rd_T26 l1 0).f0) = 5
            · rw [if_pos c12] at H
              have c12b0 : (((rd_T26 l1 0).f0) == 5) = true := beq_iff_eq.mpr c12
              have c12b1 : (((rd_T26 l1 0).f0) != 5) = false := bne_eq_false_iff_eq.mpr c12
              clear c12
              obtain rfl := Option.some.inj H
              go_enter Tryz.func74, Tryz.ntmps74
              go_wp2_with (first | ((with_reducible refine gate_dst (N := 2) rfl ?_); (try (refine gate_guard (by rfl) ?_; dsimp only)); refine box_event ?hg (N := 2) ?hd (cs := #[.int .i64 a0_0, .int .u16 a0_1, .string a0_2, .int .i64 a0_3, .int .i64 a0_4, .int .i64 a0_5, .int .i64 a0_6]) (t := 106) ?hr ?_; (case hd => rfl); (case hg => rfl); (case hr => first | (go_simp; done) | (go_simp; rfl)); intro gb342 hg w13 hbox hb; have n0_ := Aside0.mk (below_step (by repeat (first | (with_reducible first | exact HB.out | apply below_alloc | apply pw_below_drewN | apply below_drew1) | exact HB.out)) hb); have n1_ := Aside0.mk (hbox); have n2_ := Aside0.mk ((by rw [hg]; exact (below_size (by repeat (first | (with_reducible first | exact HB.out | apply below_alloc | apply pw_below_drewN | apply below_drew1) | exact HB.out))) : w.heap.size ≤ gb342)); have n3_ := Aside0.mk ((by rw [hg]; exact (below_size (by repeat (first | (with_reducible first | exact HB.out | apply below_alloc | apply pw_below_drewN | apply below_drew1) | exact HB.out))) : w.heap.size ≤ gb342)); clear HB; have HB := n0_; have BK342 := n1_; have GW342 := n2_; have GE342 := n3_; clear n0_ n1_ n2_ n3_; clear hb hbox hg; have hcz14_0 : w13.cell? ⟨gb342, 0, none⟩ = some (.int .i64 a0_0) := (blk_cell BK342.out 0).trans rfl; have hcz14_1 : w13.cell? ⟨gb342, 1, none⟩ = some (.int .u16 a0_1) := (blk_cell BK342.out 1).trans rfl; have hcz14_2 : w13.cell? ⟨gb342, 2, none⟩ = some (.string a0_2) := (blk_cell BK342.out 2).trans rfl; have hcz14_3 : w13.cell? ⟨gb342, 3, none⟩ = some (.int .i64 a0_3) := (blk_cell BK342.out 3).trans rfl; have hcz14_4 : w13.cell? ⟨gb342, 4, none⟩ = some (.int .i64 a0_4) := (blk_cell BK342.out 4).trans rfl; have hcz14_5 : w13.cell? ⟨gb342, 5, none⟩ = some (.int .i64 a0_5) := (blk_cell BK342.out 5).trans rfl; have hcz14_6 : w13.cell? ⟨gb342, 6, none⟩ = some (.int .i64 a0_6) := (blk_cell BK342.out 6).trans rfl; have hfz14_0 := blk_frozen BK342.out 0; have hfz14_1 := blk_frozen BK342.out 1; have hfz14_2 := blk_frozen BK342.out 2; have hfz14_3 := blk_frozen BK342.out 3; have hfz14_4 := blk_frozen BK342.out 4; have hfz14_5 := blk_frozen BK342.out 5; have hfz14_6 := blk_frozen BK342.out 6; have p343 : 0 ≤ (0 : Int) := (by omega); have q343 : 0 < (l1.length : Int) := of_decide_eq_true (by first | (with_reducible assumption) | assumption); obtain ⟨ad343, A343_1, c343_1, A343_2, c343_2, e343, hx343_0, hx343_1, hx343_2, hl343_1, hi343_1, hl343_2, hi343_2⟩ := at_T26 HR1.out 0 p343 q343; cases e343; have qi343 : (0 < l1.length) = True := eq_true (by omega); (try rw [show ((0 : Int)).toNat = 0 from rfl] at hx343_0); (try rw [show 0 * 3 = 0 from rfl] at hx343_0); (try rw [Addr.add_zero'] at hx343_0); (try rw [show ((0 : Int)).toNat = 0 from rfl] at hx343_1); (try rw [show 0 * 3 = 0 from rfl] at hx343_1); (try rw [Addr.add_zero'] at hx343_1); (try rw [show ((0 : Int)).toNat = 0 from rfl] at hx343_2); (try rw [show 0 * 3 = 0 from rfl] at hx343_2); (try rw [Addr.add_zero'] at hx343_2); replace hx343_0 := (HB.out.cell (World.block_lt_of_cell? w _ hx343_0)).trans hx343_0; replace hx343_1 := (HB.out.cell (World.block_lt_of_cell? w _ hx343_1)).trans hx343_1; replace hx343_2 := (HB.out.cell (World.block_lt_of_cell? w _ hx343_2)).trans hx343_2; have HR343_1 := Aside0.mk hi343_1; have HC343_1 := Aside0.mk hl343_1; clear hi343_1 hl343_1; have HR343_2 := Aside0.mk hi343_2; have HC343_2 := Aside0.mk hl343_2; clear hi343_2 hl343_2; replace p343 := eq_true p343; replace q343 := eq_true q343))
              go_ret
              exact ⟨by first | rfl | (simp [errW_none, errW_some] <;> rfl) | (simp [*, errW_none, errW_some] <;> rfl), by repeat (first | (with_reducible first | exact HB.out | apply below_alloc | apply pw_below_drewN | apply below_drew1 | refine below_set ?_ GE342.out) | exact HB.out)⟩
            · rw [if_neg c12] at H
              have c12b0 : (((rd_T26 l1 0).f0) == 5) = false := beq_eq_false_iff_ne.mpr c12
              have c12b1 : (((rd_T26 l1 0).f0) != 5) = true := bne_iff_ne.mpr c12
              obtain rfl := Option.some.inj H
              go_enter Tryz.func74, Tryz.ntmps74
              go_wp2_with (first | ((with_reducible refine gate_dst (N := 2) rfl ?_); (try (refine gate_guard (by rfl) ?_; dsimp only)); refine box_event ?hg (N := 2) ?hd (cs := #[.int .i64 a0_0, .int .u16 a0_1, .string a0_2, .int .i64 a0_3, .int .i64 a0_4, .int .i64 a0_5, .int .i64 a0_6]) (t := 106) ?hr ?_; (case hd => rfl); (case hg => rfl); (case hr => first | (go_simp; done) | (go_simp; rfl)); intro gb342 hg w15 hbox hb; have n0_ := Aside0.mk (below_step (by repeat (first | (with_reducible first | exact HB.out | apply below_alloc | apply pw_below_drewN | apply below_drew1) | exact HB.out)) hb); have n1_ := Aside0.mk (hbox); have n2_ := Aside0.mk ((by rw [hg]; exact (below_size (by repeat (first | (with_reducible first | exact HB.out | apply below_alloc | apply pw_below_drewN | apply below_drew1) | exact HB.out))) : w.heap.size ≤ gb342)); have n3_ := Aside0.mk ((by rw [hg]; exact (below_size (by repeat (first | (with_reducible first | exact HB.out | apply below_alloc | apply pw_below_drewN | apply below_drew1) | exact HB.out))) : w.heap.size ≤ gb342)); clear HB; have HB := n0_; have BK342 := n1_; have GW342 := n2_; have GE342 := n3_; clear n0_ n1_ n2_ n3_; clear hb hbox hg; have hcz16_0 : w15.cell? ⟨gb342, 0, none⟩ = some (.int .i64 a0_0) := (blk_cell BK342.out 0).trans rfl; have hcz16_1 : w15.cell? ⟨gb342, 1, none⟩ = some (.int .u16 a0_1) := (blk_cell BK342.out 1).trans rfl; have hcz16_2 : w15.cell? ⟨gb342, 2, none⟩ = some (.string a0_2) := (blk_cell BK342.out 2).trans rfl; have hcz16_3 : w15.cell? ⟨gb342, 3, none⟩ = some (.int .i64 a0_3) := (blk_cell BK342.out 3).trans rfl; have hcz16_4 : w15.cell? ⟨gb342, 4, none⟩ = some (.int .i64 a0_4) := (blk_cell BK342.out 4).trans rfl; have hcz16_5 : w15.cell? ⟨gb342, 5, none⟩ = some (.int .i64 a0_5) := (blk_cell BK342.out 5).trans rfl; have hcz16_6 : w15.cell? ⟨gb342, 6, none⟩ = some (.int .i64 a0_6) := (blk_cell BK342.out 6).trans rfl; have hfz16_0 := blk_frozen BK342.out 0; have hfz16_1 := blk_frozen BK342.out 1; have hfz16_2 := blk_frozen BK342.out 2; have hfz16_3 := blk_frozen BK342.out 3; have hfz16_4 := blk_frozen BK342.out 4; have hfz16_5 := blk_frozen BK342.out 5; have hfz16_6 := blk_frozen BK342.out 6; have p343 : 0 ≤ (0 : Int) := (by omega); have q343 : 0 < (l1.length : Int) := of_decide_eq_true (by first | (with_reducible assumption) | assumption); obtain ⟨ad343, A343_1, c343_1, A343_2, c343_2, e343, hx343_0, hx343_1, hx343_2, hl343_1, hi343_1, hl343_2, hi343_2⟩ := at_T26 HR1.out 0 p343 q343; cases e343; have qi343 : (0 < l1.length) = True := eq_true (by omega); (try rw [show ((0 : Int)).toNat = 0 from rfl] at hx343_0); (try rw [show 0 * 3 = 0 from rfl] at hx343_0); (try rw [Addr.add_zero'] at hx343_0); (try rw [show ((0 : Int)).toNat = 0 from rfl] at hx343_1); (try rw [show 0 * 3 = 0 from rfl] at hx343_1); (try rw [Addr.add_zero'] at hx343_1); (try rw [show ((0 : Int)).toNat = 0 from rfl] at hx343_2); (try rw [show 0 * 3 = 0 from rfl] at hx343_2); (try rw [Addr.add_zero'] at hx343_2); replace hx343_0 := (HB.out.cell (World.block_lt_of_cell? w _ hx343_0)).trans hx343_0; replace hx343_1 := (HB.out.cell (World.block_lt_of_cell? w _ hx343_1)).trans hx343_1; replace hx343_2 := (HB.out.cell (World.block_lt_of_cell? w _ hx343_2)).trans hx343_2; have HR343_1 := Aside0.mk hi343_1; have HC343_1 := Aside0.mk hl343_1; clear hi343_1 hl343_1; have HR343_2 := Aside0.mk hi343_2; have HC343_2 := Aside0.mk hl343_2; clear hi343_2 hl343_2; replace p343 := eq_true p343; replace q343 := eq_true q343; have p344 : 0 ≤ (0 : Int) := (by omega); have q344 : 0 < (l1.length : Int) := of_decide_eq_true (by first | (with_reducible assumption) | assumption); obtain ⟨ad344, A344_1, c344_1, A344_2, c344_2, e344, hx344_0, hx344_1, hx344_2, hl344_1, hi344_1, hl344_2, hi344_2⟩ := at_T26 HR1.out 0 p344 q344; obtain rfl : ad343 = ad344 := (by injection e344); have qi344 : (0 < l1.length) = True := eq_true (by omega); (try rw [show ((0 : Int)).toNat = 0 from rfl] at hx344_0); (try rw [show 0 * 3 = 0 from rfl] at hx344_0); (try rw [Addr.add_zero'] at hx344_0); (try rw [show ((0 : Int)).toNat = 0 from rfl] at hx344_1); (try rw [show 0 * 3 = 0 from rfl] at hx344_1); (try rw [Addr.add_zero'] at hx344_1); (try rw [show ((0 : Int)).toNat = 0 from rfl] at hx344_2); (try rw [show 0 * 3 = 0 from rfl] at hx344_2); (try rw [Addr.add_zero'] at hx344_2); replace hx344_0 := (HB.out.cell (World.block_lt_of_cell? w _ hx344_0)).trans hx344_0; replace hx344_1 := (HB.out.cell (World.block_lt_of_cell? w _ hx344_1)).trans hx344_1; replace hx344_2 := (HB.out.cell (World.block_lt_of_cell? w _ hx344_2)).trans hx344_2; have HR344_1 := Aside0.mk hi344_1; have HC344_1 := Aside0.mk hl344_1; clear hi344_1 hl344_1; have HR344_2 := Aside0.mk hi344_2; have HC344_2 := Aside0.mk hl344_2; clear hi344_2 hl344_2; replace p344 := eq_true p344; replace q344 := eq_true q344; have ea_ := Option.some.inj (hx343_1.symm.trans hx344_1); injection ea_ with ea_ en_ ec_; subst ea_; subst ec_; clear en_; have ea_ := Option.some.inj (hx343_2.symm.trans hx344_2); injection ea_ with ea_ en_ ec_; subst ea_; subst ec_; clear en_))
              go_ret
              exact ⟨by first | rfl | (simp [errW_none, errW_some] <;> rfl) | (simp [*, errW_none, errW_some] <;> rfl), by repeat (first | (with_reducible first | exact HB.out | apply below_alloc | apply pw_below_drewN | apply below_drew1 | refine below_set ?_ GE342.out) | exact HB.out)⟩
          · rw [if_neg c11] at H
            exact absurd H (by simp)
        · rw [if_neg c10] at H
          have c10b0 : ((l1.length : Int) == 1) = false := beq_eq_false_iff_ne.mpr c10
          have c10b1 : ((l1.length : Int) != 1) = true := bne_iff_ne.mpr c10
          obtain rfl := Option.some.inj H
          go_enter Tryz.func74, Tryz.ntmps74
          go_wp2_with (first | ((with_reducible refine gate_dst (N := 2) rfl ?_); (try (refine gate_guard (by rfl) ?_; dsimp only)); refine box_event ?hg (N := 2) ?hd (cs := #[.int .i64 a0_0, .int .u16 a0_1, .string a0_2, .int .i64 a0_3, .int .i64 a0_4, .int .i64 a0_5, .int .i64 a0_6]) (t := 106) ?hr ?_; (case hd => rfl); (case hg => rfl); (case hr => first | (go_simp; done) | (go_simp; rfl)); intro gb342 hg w17 hbox hb; have n0_ := Aside0.mk (below_step (by repeat (first | (with_reducible first | exact HB.out | apply below_alloc | apply pw_below_drewN | apply below_drew1) | exact HB.out)) hb); have n1_ := Aside0.mk (hbox); have n2_ := Aside0.mk ((by rw [hg]; exact (below_size (by repeat (first | (with_reducible first | exact HB.out | apply below_alloc | apply pw_below_drewN | apply below_drew1) | exact HB.out))) : w.heap.size ≤ gb342)); have n3_ := Aside0.mk ((by rw [hg]; exact (below_size (by repeat (first | (with_reducible first | exact HB.out | apply below_alloc | apply pw_below_drewN | apply below_drew1) | exact HB.out))) : w.heap.size ≤ gb342)); clear HB; have HB := n0_; have BK342 := n1_; have GW342 := n2_; have GE342 := n3_; clear n0_ n1_ n2_ n3_; clear hb hbox hg; have hcz18_0 : w17.cell? ⟨gb342, 0, none⟩ = some (.int .i64 a0_0) := (blk_cell BK342.out 0).trans rfl; have hcz18_1 : w17.cell? ⟨gb342, 1, none⟩ = some (.int .u16 a0_1) := (blk_cell BK342.out 1).trans rfl; have hcz18_2 : w17.cell? ⟨gb342, 2, none⟩ = some (.string a0_2) := (blk_cell BK342.out 2).trans rfl; have hcz18_3 : w17.cell? ⟨gb342, 3, none⟩ = some (.int .i64 a0_3) := (blk_cell BK342.out 3).trans rfl; have hcz18_4 : w17.cell? ⟨gb342, 4, none⟩ = some (.int .i64 a0_4) := (blk_cell BK342.out 4).trans rfl; have hcz18_5 : w17.cell? ⟨gb342, 5, none⟩ = some (.int .i64 a0_5) := (blk_cell BK342.out 5).trans rfl; have hcz18_6 : w17.cell? ⟨gb342, 6, none⟩ = some (.int .i64 a0_6) := (blk_cell BK342.out 6).trans rfl; have hfz18_0 := blk_frozen BK342.out 0; have hfz18_1 := blk_frozen BK342.out 1; have hfz18_2 := blk_frozen BK342.out 2; have hfz18_3 := blk_frozen BK342.out 3; have hfz18_4 := blk_frozen BK342.out 4; have hfz18_5 := blk_frozen BK342.out 5; have hfz18_6 := blk_frozen BK342.out 6))
          go_ret
          exact ⟨by first | rfl | (simp [errW_none, errW_some] <;> rfl) | (simp [*, errW_none, errW_some] <;> rfl), by repeat (first | (with_reducible first | exact HB.out | apply below_alloc | apply pw_below_drewN | apply below_drew1 | refine below_set ?_ GE342.out) | exact HB.out)⟩
      · rw [if_neg c9] at H
        have c9b0 : (a0_6 == 4) = false := beq_eq_false_iff_ne.mpr c9
        have c9b1 : (a0_6 != 4) = true := bne_iff_ne.mpr c9
        by_cases c19 : (l1.length : Int) ≥ 1
        · rw [if_pos c19] at H
          have c19b0 : decide (1 ≤ (l1.length : Int)) = true := decide_eq_true c19
          have c19b1 : decide (1 ≤ l1.length) = true := decide_eq_true (by omega)
          clear c19
          obtain rfl := Option.some.inj H
          go_enter Tryz.func74, Tryz.ntmps74
          go_wp2_with (first | ((with_reducible refine gate_dst (N := 2) rfl ?_); (try (refine gate_guard (by rfl) ?_; dsimp only)); refine box_event ?hg (N := 2) ?hd (cs := #[.int .i64 a0_0, .int .u16 a0_1, .string a0_2, .int .i64 a0_3, .int .i64 a0_4, .int .i64 a0_5, .int .i64 a0_6]) (t := 106) ?hr ?_; (case hd => rfl); (case hg => rfl); (case hr => first | (go_simp; done) | (go_simp; rfl)); intro gb342 hg w20 hbox hb; have n0_ := Aside0.mk (below_step (by repeat (first | (with_reducible first | exact HB.out | apply below_alloc | apply pw_below_drewN | apply below_drew1) | exact HB.out)) hb); have n1_ := Aside0.mk (hbox); have n2_ := Aside0.mk ((by rw [hg]; exact (below_size (by repeat (first | (with_reducible first | exact HB.out | apply below_alloc | apply pw_below_drewN | apply below_drew1) | exact HB.out))) : w.heap.size ≤ gb342)); have n3_ := Aside0.mk ((by rw [hg]; exact (below_size (by repeat (first | (with_reducible first | exact HB.out | apply below_alloc | apply pw_below_drewN | apply below_drew1) | exact HB.out))) : w.heap.size ≤ gb342)); clear HB; have HB := n0_; have BK342 := n1_; have GW342 := n2_; have GE342 := n3_; clear n0_ n1_ n2_ n3_; clear hb hbox hg; have hcz21_0 : w20.cell? ⟨gb342, 0, none⟩ = some (.int .i64 a0_0) := (blk_cell BK342.out 0).trans rfl; have hcz21_1 : w20.cell? ⟨gb342, 1, none⟩ = some (.int .u16 a0_1) := (blk_cell BK342.out 1).trans rfl; have hcz21_2 : w20.cell? ⟨gb342, 2, none⟩ = some (.string a0_2) := (blk_cell BK342.out 2).trans rfl; have hcz21_3 : w20.cell? ⟨gb342, 3, none⟩ = some (.int .i64 a0_3) := (blk_cell BK342.out 3).trans rfl; have hcz21_4 : w20.cell? ⟨gb342, 4, none⟩ = some (.int .i64 a0_4) := (blk_cell BK342.out 4).trans rfl; have hcz21_5 : w20.cell? ⟨gb342, 5, none⟩ = some (.int .i64 a0_5) := (blk_cell BK342.out 5).trans rfl; have hcz21_6 : w20.cell? ⟨gb342, 6, none⟩ = some (.int .i64 a0_6) := (blk_cell BK342.out 6).trans rfl; have hfz21_0 := blk_frozen BK342.out 0; have hfz21_1 := blk_frozen BK342.out 1; have hfz21_2 := blk_frozen BK342.out 2; have hfz21_3 := blk_frozen BK342.out 3; have hfz21_4 := blk_frozen BK342.out 4; have hfz21_5 := blk_frozen BK342.out 5; have hfz21_6 := blk_frozen BK342.out 6))
          go_ret
          exact ⟨by first | rfl | (simp [errW_none, errW_some] <;> rfl) | (simp [*, errW_none, errW_some] <;> rfl), by repeat (first | (with_reducible first | exact HB.out | apply below_alloc | apply pw_below_drewN | apply below_drew1 | refine below_set ?_ GE342.out) | exact HB.out)⟩
        · rw [if_neg c19] at H
          have c19b0 : decide (1 ≤ (l1.length : Int)) = false := decide_eq_false c19
          have c19b1 : decide (1 ≤ l1.length) = false := decide_eq_false (by omega)
          clear c19
          obtain rfl := Option.some.inj H
          go_enter Tryz.func74, Tryz.ntmps74
          go_wp2_with (first | ((with_reducible refine gate_dst (N := 2) rfl ?_); (try (refine gate_guard (by rfl) ?_; dsimp only)); refine box_event ?hg (N := 2) ?hd (cs := #[.int .i64 a0_0, .int .u16 a0_1, .string a0_2, .int .i64 a0_3, .int .i64 a0_4, .int .i64 a0_5, .int .i64 a0_6]) (t := 106) ?hr ?_; (case hd => rfl); (case hg => rfl); (case hr => first | (go_simp; done) | (go_simp; rfl)); intro gb342 hg w22 hbox hb; have n0_ := Aside0.mk (below_step (by repeat (first | (with_reducible first | exact HB.out | apply below_alloc | apply pw_below_drewN | apply below_drew1) | exact HB.out)) hb); have n1_ := Aside0.mk (hbox); have n2_ := Aside0.mk ((by rw [hg]; exact (below_size (by repeat (first | (with_reducible first | exact HB.out | apply below_alloc | apply pw_below_drewN | apply below_drew1) | exact HB.out))) : w.heap.size ≤ gb342)); have n3_ := Aside0.mk ((by rw [hg]; exact (below_size (by repeat (first | (with_reducible first | exact HB.out | apply below_alloc | apply pw_below_drewN | apply below_drew1) | exact HB.out))) : w.heap.size ≤ gb342)); clear HB; have HB := n0_; have BK342 := n1_; have GW342 := n2_; have GE342 := n3_; clear n0_ n1_ n2_ n3_; clear hb hbox hg; have hcz23_0 : w22.cell? ⟨gb342, 0, none⟩ = some (.int .i64 a0_0) := (blk_cell BK342.out 0).trans rfl; have hcz23_1 : w22.cell? ⟨gb342, 1, none⟩ = some (.int .u16 a0_1) := (blk_cell BK342.out 1).trans rfl; have hcz23_2 : w22.cell? ⟨gb342, 2, none⟩ = some (.string a0_2) := (blk_cell BK342.out 2).trans rfl; have hcz23_3 : w22.cell? ⟨gb342, 3, none⟩ = some (.int .i64 a0_3) := (blk_cell BK342.out 3).trans rfl; have hcz23_4 : w22.cell? ⟨gb342, 4, none⟩ = some (.int .i64 a0_4) := (blk_cell BK342.out 4).trans rfl; have hcz23_5 : w22.cell? ⟨gb342, 5, none⟩ = some (.int .i64 a0_5) := (blk_cell BK342.out 5).trans rfl; have hcz23_6 : w22.cell? ⟨gb342, 6, none⟩ = some (.int .i64 a0_6) := (blk_cell BK342.out 6).trans rfl; have hfz23_0 := blk_frozen BK342.out 0; have hfz23_1 := blk_frozen BK342.out 1; have hfz23_2 := blk_frozen BK342.out 2; have hfz23_3 := blk_frozen BK342.out 3; have hfz23_4 := blk_frozen BK342.out 4; have hfz23_5 := blk_frozen BK342.out 5; have hfz23_6 := blk_frozen BK342.out 6))
          go_ret
          exact ⟨by first | rfl | (simp [errW_none, errW_some] <;> rfl) | (simp [*, errW_none, errW_some] <;> rfl), by repeat (first | (with_reducible first | exact HB.out | apply below_alloc | apply pw_below_drewN | apply below_drew1 | refine below_set ?_ GE342.out) | exact HB.out)⟩
end Go.Proofs.YtpgfhbdnlojdfaaGreatDoor.P
namespace Go.Proofs.YtpgfhbdnlojdfaaGreatDoor.P
open Go.RowKit Go.Proofs.YtpgfhbdnlojdfaaGreatDoorW.PrintWords Go.Proofs.YtpgfhbdnlojdfaaGreatDoorW.PrintLast Go.Proofs.YtpgfhbdnlojdfaaGreatDoorW.PrintMore
attribute [local go_sem] max2_int min2_int max_two min_two max_three min_three max_four min_four
set_option linter.unusedVariables false
set_option linter.unusedSimpArgs false
def wharfref08_Counted.f (k : Nat) (l0 : List Int) : Option (Bool) := (wharfref01_Number.f k l0 0 4).bind fun bt347 => (some ((wrap64 (2 * (wrap64 (bt347.1)))) == (wrap64 ((l0.length : Int) - 4))))
set_option maxHeartbeats 8000000 in
set_option maxRecDepth 100000 in
theorem wharfref08_Counted.calls (k : Nat) (A0 : Option Addr) (c0 : Nat) (l0 : List Int) (r : Bool) (w : World) (hr0 : Kd.C (Kd.int .u8) w A0 l0.length l0) (hc0 : l0.length ≤ c0) (h : wharfref08_Counted.f k l0 = some r) :
    Calls Tryz.prog 75 #[.slice A0 l0.length c0] w fun e w' => e = .returned (.bool r) ∧ Drawn0 w w' := by
  have HR0 := Aside0.mk hr0
  have HC0 := Aside0.mk hc0
  clear hr0 hc0
  have H : ((wharfref01_Number.f k l0 0 4).bind fun bt347 => (some ((wrap64 (2 * (wrap64 (bt347.1)))) == (wrap64 ((l0.length : Int) - 4))))) = some r := h
  clear h
  replace H := Option.bind_eq_some_iff.mp H
  obtain ⟨⟨t347, t348⟩, A20, H⟩ := H
  replace H : (some ((wrap64 (2 * (wrap64 (t347)))) == (wrap64 ((l0.length : Int) - 4)))) = some r := H
  have A2 := Aside0.mk A20
  clear A20
  obtain rfl := Option.some.inj H
  go_enter Tryz.func75, Tryz.ntmps75
  go_wp2_with (first | ((with_reducible refine gate_callee (f := 33) rfl ?_); refine goesL_ (some 7) rfl rfl Tryz.func33 (by kernel_rfl) rfl #[.slice A0 l0.length c0, .int .i64 0, .int .i64 4] rfl (by (try simp only [List.map_toArray, List.map_cons, List.map_nil]); first | done | rfl | (simp only [List.length_drop, List.length_take]; rfl)) ?_; (with_reducible refine (wharfref01_Number.calls k _ _ l0 0 4 t347 t348 _ ?side1 ?side2 A2.out).mono ?_); (case side1 => repeat (first | exact HR0.out | (with_reducible refine Kd.C_alloc ?_ _) | (with_reducible refine Kd.C_drewN ?_ _) | (with_reducible refine Kd.C_drew ?_))); (case side2 => exact HC0.out); rintro e w' ⟨rfl, ⟨nd, rfl⟩⟩; refine ⟨_, rfl, ?_⟩))
  go_ret
  exact ⟨by first | rfl | (simp; done) | (simp [*]; done), by repeat (first | exact Drawn0.refl _ | apply Drawn0.step)⟩
end Go.Proofs.YtpgfhbdnlojdfaaGreatDoor.P
namespace Go.Proofs.YtpgfhbdnlojdfaaGreatDoor.P
open Go.RowKit Go.Proofs.YtpgfhbdnlojdfaaGreatDoorW.PrintWords Go.Proofs.YtpgfhbdnlojdfaaGreatDoorW.PrintLast Go.Proofs.YtpgfhbdnlojdfaaGreatDoorW.PrintMore
attribute [local go_sem] max2_int min2_int max_two min_two max_three min_three max_four min_four
set_option linter.unusedVariables false
set_option linter.unusedSimpArgs false
def wharfref08_Inside.f (a0 : Int) : Option (Int) := if a0 = 3 then (some 2) else (if a0 = 0 then (some 0) else (some 1))
set_option maxHeartbeats 8000000 in
set_option maxRecDepth 100000 in
theorem wharfref08_Inside.calls (a0 : Int) (r : Int) (w : World) (h : wharfref08_Inside.f a0 = some r) :
    Calls Tryz.prog 76 #[.int .i64 a0] w fun e w' => e = .returned (.int .i64 r) ∧ Drawn0 w w' := by
  have H : (if a0 = 3 then (some 2) else (if a0 = 0 then (some 0) else (some 1))) = some r := h
  clear h
  by_cases c2 : a0 = 3
  · rw [if_pos c2] at H
    have c2b0 : (a0 == 3) = true := beq_iff_eq.mpr c2
    have c2b1 : (a0 != 3) = false := bne_eq_false_iff_eq.mpr c2
    clear c2
    obtain rfl := Option.some.inj H
    go_enter Tryz.func76, Tryz.ntmps76
    go_wp2
    go_ret
    exact ⟨by first | rfl | (simp; done) | (simp [*]; done), by repeat (first | exact Drawn0.refl _ | apply Drawn0.step)⟩
  · rw [if_neg c2] at H
    have c2b0 : (a0 == 3) = false := beq_eq_false_iff_ne.mpr c2
    have c2b1 : (a0 != 3) = true := bne_iff_ne.mpr c2
    by_cases c3 : a0 = 0
    · rw [if_pos c3] at H
      have c3b0 : (a0 == 0) = true := beq_iff_eq.mpr c3
      have c3b1 : (a0 != 0) = false := bne_eq_false_iff_eq.mpr c3
      clear c3
      obtain rfl := Option.some.inj H
      go_enter Tryz.func76, Tryz.ntmps76
      go_wp2
      go_ret
      exact ⟨by first | rfl | (simp; done) | (simp [*]; done), by repeat (first | exact Drawn0.refl _ | apply Drawn0.step)⟩
    · rw [if_neg c3] at H
      have c3b0 : (a0 == 0) = false := beq_eq_false_iff_ne.mpr c3
      have c3b1 : (a0 != 0) = true := bne_iff_ne.mpr c3
      obtain rfl := Option.some.inj H
      go_enter Tryz.func76, Tryz.ntmps76
      go_wp2
      go_ret
      exact ⟨by first | rfl | (simp; done) | (simp [*]; done), by repeat (first | exact Drawn0.refl _ | apply Drawn0.step)⟩
end Go.Proofs.YtpgfhbdnlojdfaaGreatDoor.P
