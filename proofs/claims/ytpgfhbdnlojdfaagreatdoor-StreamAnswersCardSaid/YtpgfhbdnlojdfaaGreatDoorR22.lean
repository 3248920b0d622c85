/- Packed by wip/tools/pack.py out of Fwharfref07Of. -/
import Derived.Test.YtpgfhbdnlojdfaaGreatDoorR07
import Derived.Test.YtpgfhbdnlojdfaaGreatDoorR10
namespace Go.Proofs.YtpgfhbdnlojdfaaGreatDoor.P
open Go.RowKit Go.Proofs.YtpgfhbdnlojdfaaGreatDoorW.PrintWords Go.Proofs.YtpgfhbdnlojdfaaGreatDoorW.PrintLast Go.Proofs.YtpgfhbdnlojdfaaGreatDoorW.PrintMore
attribute [local go_sem] max2_int min2_int max_two min_two max_three min_three max_four min_four
set_option linter.unusedVariables false
set_option linter.unusedSimpArgs false
def wharfref07_Of.l0 : Nat → Int → Int → List (S106) → Int → Option (Int × Int × ByteArray × Int × Int × Int × Int)
  | 0, _, _, _, _ => none
  | k + 1, x0, x1, x5, x6 => if x6 < (x5.length : Int) then (if 0 ≤ x6 then (if ((rd_T106 x5 x6).f0) = x0 then (if ((rd_T106 x5 x6).f1) = x1 then (some ((rd_T106 x5 x6).f0, (rd_T106 x5 x6).f1, (rd_T106 x5 x6).f2, (rd_T106 x5 x6).f3, (rd_T106 x5 x6).f4, (rd_T106 x5 x6).f5, (rd_T106 x5 x6).f6)) else (wharfref07_Of.l0 k x0 x1 x5 (wrap64 (x6 + 1)))) else (wharfref07_Of.l0 k x0 x1 x5 (wrap64 (x6 + 1)))) else (none)) else (some (0, 0, (⟨#[]⟩ : ByteArray), 0, 0, 0, 0))
def wharfref07_Of.f (k : Nat) (a0 : Int) (a1 : Int) : Option (Int × Int × ByteArray × Int × Int × Int × Int) := (wharfref07_Table.f).bind fun t335 => (wharfref07_Of.l0 k a0 a1 t335 0)
set_option maxHeartbeats 8000000 in
set_option maxRecDepth 100000 in
theorem wharfref07_Of.calls (k : Nat) (a0 : Int) (a1 : Int) (r1 : Int) (r2 : Int) (r3 : ByteArray) (r4 : Int) (r5 : Int) (r6 : Int) (r7 : Int) (w : World) (h : wharfref07_Of.f k a0 a1 = some (r1, r2, r3, r4, r5, r6, r7)) :
    Calls Tryz.prog 72 #[.int .i64 a0, .int .u16 a1] w fun e w' => e = .returned (.agg #[.int .i64 r1, .int .u16 r2, .string r3, .int .i64 r4, .int .i64 r5, .int .i64 r6, .int .i64 r7]) ∧ Below w.heap.size w w' := by
  have hu106 := Tryz.underlying106
  have HB := Aside0.mk (Below.refl w.heap.size w)
  have H : ((wharfref07_Table.f).bind fun t335 => (wharfref07_Of.l0 k a0 a1 t335 0)) = some (r1, r2, r3, r4, r5, r6, r7) := h
  clear h
  replace H := Option.bind_eq_some_iff.mp H
  obtain ⟨t335, A30, H⟩ := H
  replace H : (wharfref07_Of.l0 k a0 a1 t335 0) = some (r1, r2, r3, r4, r5, r6, r7) := H
  have A3 := Aside0.mk A30
  clear A30
  have H' := Aside0.mk H
  clear H
  go_enter Tryz.func72, Tryz.ntmps72
  go_wp2_with (first | ((with_reducible refine gate_dst (N := 4) rfl ?_); refine box_event ?hg (N := 4) ?hd (cs := #[.int .i64 0, .int .u16 0, .string (⟨#[]⟩ : ByteArray), .int .i64 0, .int .i64 0, .int .i64 0, .int .i64 0]) (t := 106) ?hr ?_; (case hd => rfl); (case hg => rfl); (case hr => first | (go_simp; done) | (go_simp; rfl)); intro gb334 hg w4 hbox hb; have n0_ := Aside0.mk (below_step (by repeat (first | (with_reducible first | exact HB.out | apply below_alloc | apply pw_below_drewN | apply below_drew1) | exact HB.out)) hb); have n1_ := Aside0.mk (hbox); have n2_ := Aside0.mk ((by rw [hg]; exact (below_size (by repeat (first | (with_reducible first | exact HB.out | apply below_alloc | apply pw_below_drewN | apply below_drew1) | exact HB.out))) : w.heap.size ≤ gb334)); have n3_ := Aside0.mk ((by rw [hg]; exact (below_size (by repeat (first | (with_reducible first | exact HB.out | apply below_alloc | apply pw_below_drewN | apply below_drew1) | exact HB.out))) : w.heap.size ≤ gb334)); clear HB; have HB := n0_; have BK334 := n1_; have GW334 := n2_; have GE334 := n3_; clear n0_ n1_ n2_ n3_; clear hb hbox hg) | ((with_reducible refine gate_callee (f := 95) rfl ?_); refine goesL_ (some 7) rfl rfl Tryz.func95 (by kernel_rfl) rfl #[] rfl (by (try simp only [List.map_toArray, List.map_cons, List.map_nil]); first | done | rfl | (simp only [List.length_drop, List.length_take]; rfl)) ?_; (with_reducible refine (wharfref07_Table.calls  t335 _ A3.out).mono ?_); rintro e w5 ⟨v336, rfl, ho0, hb⟩; refine ⟨_, rfl, ?_⟩; have n0_ := Aside0.mk (Kd.R_lower (Kd.R_newB ho0 (g := gb334) (o := .cells #[.int .i64 0, .int .u16 0, .string (⟨#[]⟩ : ByteArray), .int .i64 0, .int .i64 0, .int .i64 0, .int .i64 0] 106 (0, 0)) (by (with_reducible repeat (first | refine blk_drewN ?_ _ | refine blk_drew ?_ | refine blk_alloc ?_ _)); exact BK334.out)) (below_size (by repeat (first | (with_reducible first | exact HB.out | apply below_alloc | apply pw_below_drewN | apply below_drew1 | refine below_set ?_ GE334.out) | exact HB.out)))); have n1_ := Aside0.mk (blk_below (g := gb334) (o := .cells #[.int .i64 0, .int .u16 0, .string (⟨#[]⟩ : ByteArray), .int .i64 0, .int .i64 0, .int .i64 0, .int .i64 0] 106 (0, 0)) (by (with_reducible repeat (first | refine blk_drewN ?_ _ | refine blk_drew ?_ | refine blk_alloc ?_ _)); exact BK334.out) hb); have n2_ := Aside0.mk (below_step (by repeat (first | (with_reducible first | exact HB.out | apply below_alloc | apply pw_below_drewN | apply below_drew1 | refine below_set ?_ GE334.out) | exact HB.out)) hb); clear BK334; clear HB; have HO337 := n0_; have BK334 := n1_; have HB := n2_; clear n0_ n1_ n2_; (try clear hb); (try clear hb2); (try clear hk); (try clear hi); (try clear ho0)))
  go_loopg [6] k (fun kq v6 w' => ∃ (x6_1 : Int) (x335000_1 : Int) (x335001_1 : Int) (x335002_1 : ByteArray) (x335003_1 : Int) (x335004_1 : Int) (x335005_1 : Int) (x335006_1 : Int), v6 = .int .i64 x6_1 ∧ Aside0 (wharfref07_Of.l0 kq a0 a1 t335 x6_1 = some (r1, r2, r3, r4, r5, r6, r7)) ∧ Aside0 (kq ≤ k) ∧ Aside0 (Kd.R k106 106 w' w.heap.size (fun k_ => k_ ≠ gb334) v336 t335) ∧ Aside0 (w'.heap[gb334]? = some (.cells #[.int .i64 x335000_1, .int .u16 x335001_1, .string x335002_1, .int .i64 x335003_1, .int .i64 x335004_1, .int .i64 x335005_1, .int .i64 x335006_1] 106 (0, 0))) ∧ Aside0 (Below w.heap.size w w'))
  case atStart => exact ⟨(0), (0), (0), ((⟨#[]⟩ : ByteArray)), (0), (0), (0), (0), (by first | rfl | (simp; done) | (simp [*]; done)), H', ⟨Nat.le_refl _⟩, ⟨by (with_reducible repeat (first | apply Kd.R_alloc | apply Kd.R_drewN | apply Kd.R_drew)); exact Kd.R_mono HO337.out (fun _ hk => hk.2)⟩, ⟨by (with_reducible repeat (first | refine blk_drewN ?_ _ | refine blk_drew ?_ | refine blk_alloc ?_ _)); exact BK334.out⟩, ⟨by repeat (first | (with_reducible first | exact HB.out | apply below_alloc | apply pw_below_drewN | apply below_drew1 | refine below_set ?_ GE334.out) | exact HB.out)⟩⟩
  case round =>
    clear H'
    try clear p2
    obtain ⟨x6_1, x335000_1, x335001_1, x335002_1, x335003_1, x335004_1, x335005_1, x335006_1, rfl, HA, HK1, HO_5, BK334, HB⟩ := hrel
    cases gk with
    | zero => exact absurd HA.out (by simp [wharfref07_Of.l0])
    | succ k1 =>
      have H := HA.out
      clear HA
      simp only [wharfref07_Of.l0] at H
      by_cases c6 : x6_1 < (t335.length : Int)
      · rw [if_pos c6] at H
        have c6b0 : decide (x6_1 < (t335.length : Int)) = true := decide_eq_true c6
        clear c6
        by_cases c7 : 0 ≤ x6_1
        · rw [if_pos c7] at H
          have c7b0 : decide (0 ≤ x6_1) = true := decide_eq_true c7
          clear c7
          by_cases c8 : ((rd_T106 t335 x6_1).f0) = a0
          · rw [if_pos c8] at H
            have c8b0 : (((rd_T106 t335 x6_1).f0) == a0) = true := beq_iff_eq.mpr c8
            have c8b1 : (((rd_T106 t335 x6_1).f0) != a0) = false := bne_eq_false_iff_eq.mpr c8
            clear c8
            by_cases c9 : ((rd_T106 t335 x6_1).f1) = a1
            · rw [if_pos c9] at H
              have c9b0 : (((rd_T106 t335 x6_1).f1) == a1) = true := beq_iff_eq.mpr c9
              have c9b1 : (((rd_T106 t335 x6_1).f1) != a1) = false := bne_eq_false_iff_eq.mpr c9
              clear c9
              simp only [Option.some.injEq, Prod.mk.injEq] at H
              obtain ⟨rfl, rfl, rfl, rfl, rfl, rfl, rfl⟩ := H
              obtain ⟨Ao10, co10, eo10⟩ := Kd.R_slice HO_5.out
              subst eo10
              have p338 : 0 ≤ (x6_1 : Int) := of_decide_eq_true (by first | (with_reducible assumption) | assumption)
              have q338 : x6_1 < (t335.length : Int) := of_decide_eq_true (by first | (with_reducible assumption) | assumption)
              obtain ⟨ad338, e338, hx338_0, hx338_1, hx338_2, hx338_3, hx338_4, hx338_5, hx338_6⟩ := at_T106 (Kd.R_reads' HO_5.out).2.2 x6_1 p338 q338
              cases e338
              replace p338 := eq_true p338
              replace q338 := eq_true q338
              have p339 : 0 ≤ (x6_1 : Int) := of_decide_eq_true (by first | (with_reducible assumption) | assumption)
              have q339 : x6_1 < (t335.length : Int) := of_decide_eq_true (by first | (with_reducible assumption) | assumption)
              obtain ⟨ad339, e339, hx339_0, hx339_1, hx339_2, hx339_3, hx339_4, hx339_5, hx339_6⟩ := at_T106 (Kd.R_reads' HO_5.out).2.2 x6_1 p339 q339
              obtain rfl : ad338 = ad339 := (by injection e339)
              replace p339 := eq_true p339
              replace q339 := eq_true q339
              have p340 : 0 ≤ (x6_1 : Int) := of_decide_eq_true (by first | (with_reducible assumption) | assumption)
              have q340 : x6_1 < (t335.length : Int) := of_decide_eq_true (by first | (with_reducible assumption) | assumption)
              obtain ⟨ad340, e340, hx340_0, hx340_1, hx340_2, hx340_3, hx340_4, hx340_5, hx340_6⟩ := at_T106 (Kd.R_reads' HO_5.out).2.2 x6_1 p340 q340
              obtain rfl : ad338 = ad340 := (by injection e340)
              replace p340 := eq_true p340
              replace q340 := eq_true q340
              have hcz11_0 : wr.cell? ⟨gb334, 0, none⟩ = some (.int .i64 x335000_1) := (blk_cell BK334.out 0).trans rfl
              have hcz11_1 : wr.cell? ⟨gb334, 1, none⟩ = some (.int .u16 x335001_1) := (blk_cell BK334.out 1).trans rfl
              have hcz11_2 : wr.cell? ⟨gb334, 2, none⟩ = some (.string x335002_1) := (blk_cell BK334.out 2).trans rfl
              have hcz11_3 : wr.cell? ⟨gb334, 3, none⟩ = some (.int .i64 x335003_1) := (blk_cell BK334.out 3).trans rfl
              have hcz11_4 : wr.cell? ⟨gb334, 4, none⟩ = some (.int .i64 x335004_1) := (blk_cell BK334.out 4).trans rfl
              have hcz11_5 : wr.cell? ⟨gb334, 5, none⟩ = some (.int .i64 x335005_1) := (blk_cell BK334.out 5).trans rfl
              have hcz11_6 : wr.cell? ⟨gb334, 6, none⟩ = some (.int .i64 x335006_1) := (blk_cell BK334.out 6).trans rfl
              have hfz11_0 := blk_frozen BK334.out 0
              have hfz11_1 := blk_frozen BK334.out 1
              have hfz11_2 := blk_frozen BK334.out 2
              have hfz11_3 := blk_frozen BK334.out 3
              have hfz11_4 := blk_frozen BK334.out 4
              have hfz11_5 := blk_frozen BK334.out 5
              have hfz11_6 := blk_frozen BK334.out 6
              go_wp2
              refine bodyPost_ret (results_cell_row rfl _ _ gb334 106 #[.int .i64 ((rd_T106 t335 x6_1).f0), .int .u16 ((rd_T106 t335 x6_1).f1), .string ((rd_T106 t335 x6_1).f2), .int .i64 ((rd_T106 t335 x6_1).f3), .int .i64 ((rd_T106 t335 x6_1).f4), .int .i64 ((rd_T106 t335 x6_1).f5), .int .i64 ((rd_T106 t335 x6_1).f6)] (0, 0) _ rfl (by (with_reducible repeat (first | refine blk_drewN ?_ _ | refine blk_drew ?_ | refine blk_alloc ?_ _)); refine blk_put (cs := #[.int .i64 ((rd_T106 t335 x6_1).f0), .int .u16 ((rd_T106 t335 x6_1).f1), .string ((rd_T106 t335 x6_1).f2), .int .i64 ((rd_T106 t335 x6_1).f3), .int .i64 ((rd_T106 t335 x6_1).f4), .int .i64 ((rd_T106 t335 x6_1).f5), .int .i64 x335006_1]) ?_ 6 _ rfl; (with_reducible repeat (first | refine blk_drewN ?_ _ | refine blk_drew ?_ | refine blk_alloc ?_ _)); refine blk_put (cs := #[.int .i64 ((rd_T106 t335 x6_1).f0), .int .u16 ((rd_T106 t335 x6_1).f1), .string ((rd_T106 t335 x6_1).f2), .int .i64 ((rd_T106 t335 x6_1).f3), .int .i64 ((rd_T106 t335 x6_1).f4), .int .i64 x335005_1, .int .i64 x335006_1]) ?_ 5 _ rfl; (with_reducible repeat (first | refine blk_drewN ?_ _ | refine blk_drew ?_ | refine blk_alloc ?_ _)); refine blk_put (cs := #[.int .i64 ((rd_T106 t335 x6_1).f0), .int .u16 ((rd_T106 t335 x6_1).f1), .string ((rd_T106 t335 x6_1).f2), .int .i64 ((rd_T106 t335 x6_1).f3), .int .i64 x335004_1, .int .i64 x335005_1, .int .i64 x335006_1]) ?_ 4 _ rfl; (with_reducible repeat (first | refine blk_drewN ?_ _ | refine blk_drew ?_ | refine blk_alloc ?_ _)); refine blk_put (cs := #[.int .i64 ((rd_T106 t335 x6_1).f0), .int .u16 ((rd_T106 t335 x6_1).f1), .string ((rd_T106 t335 x6_1).f2), .int .i64 x335003_1, .int .i64 x335004_1, .int .i64 x335005_1, .int .i64 x335006_1]) ?_ 3 _ rfl; (with_reducible repeat (first | refine blk_drewN ?_ _ | refine blk_drew ?_ | refine blk_alloc ?_ _)); refine blk_put (cs := #[.int .i64 ((rd_T106 t335 x6_1).f0), .int .u16 ((rd_T106 t335 x6_1).f1), .string x335002_1, .int .i64 x335003_1, .int .i64 x335004_1, .int .i64 x335005_1, .int .i64 x335006_1]) ?_ 2 _ rfl; (with_reducible repeat (first | refine blk_drewN ?_ _ | refine blk_drew ?_ | refine blk_alloc ?_ _)); refine blk_put (cs := #[.int .i64 ((rd_T106 t335 x6_1).f0), .int .u16 x335001_1, .string x335002_1, .int .i64 x335003_1, .int .i64 x335004_1, .int .i64 x335005_1, .int .i64 x335006_1]) ?_ 1 _ rfl; (with_reducible repeat (first | refine blk_drewN ?_ _ | refine blk_drew ?_ | refine blk_alloc ?_ _)); refine blk_put (cs := #[.int .i64 x335000_1, .int .u16 x335001_1, .string x335002_1, .int .i64 x335003_1, .int .i64 x335004_1, .int .i64 x335005_1, .int .i64 x335006_1]) ?_ 0 _ rfl; (with_reducible repeat (first | refine blk_drewN ?_ _ | refine blk_drew ?_ | refine blk_alloc ?_ _)); exact BK334.out) Tryz.underlying106 rfl (by kernel_rfl)) rfl ?_
              exact ⟨by first | rfl | (simp [errW_none, errW_some] <;> rfl) | (simp [*, errW_none, errW_some] <;> rfl), by repeat (first | (with_reducible first | exact HB.out | apply below_alloc | apply pw_below_drewN | apply below_drew1 | refine below_set ?_ GE334.out) | exact HB.out)⟩
            · rw [if_neg c9] at H
              have c9b0 : (((rd_T106 t335 x6_1).f1) == a1) = false := beq_eq_false_iff_ne.mpr c9
              have c9b1 : (((rd_T106 t335 x6_1).f1) != a1) = true := bne_iff_ne.mpr c9
              have H' := Aside0.mk H
              clear H
              obtain ⟨Ao12, co12, eo12⟩ := Kd.R_slice HO_5.out
              subst eo12
              have p338 : 0 ≤ (x6_1 : Int) := of_decide_eq_true (by first | (with_reducible assumption) | assumption)
              have q338 : x6_1 < (t335.length : Int) := of_decide_eq_true (by first | (with_reducible assumption) | assumption)
              obtain ⟨ad338, e338, hx338_0, hx338_1, hx338_2, hx338_3, hx338_4, hx338_5, hx338_6⟩ := at_T106 (Kd.R_reads' HO_5.out).2.2 x6_1 p338 q338
              cases e338
              replace p338 := eq_true p338
              replace q338 := eq_true q338
              have p339 : 0 ≤ (x6_1 : Int) := of_decide_eq_true (by first | (with_reducible assumption) | assumption)
              have q339 : x6_1 < (t335.length : Int) := of_decide_eq_true (by first | (with_reducible assumption) | assumption)
              obtain ⟨ad339, e339, hx339_0, hx339_1, hx339_2, hx339_3, hx339_4, hx339_5, hx339_6⟩ := at_T106 (Kd.R_reads' HO_5.out).2.2 x6_1 p339 q339
              obtain rfl : ad338 = ad339 := (by injection e339)
              replace p339 := eq_true p339
              replace q339 := eq_true q339
              go_wp2
              go_roundg k1
              case measure => have := HK1.out; omega
              case rel => exact ⟨(wrap64 (x6_1 + 1)), (x335000_1), (x335001_1), (x335002_1), (x335003_1), (x335004_1), (x335005_1), (x335006_1), (by first | rfl | (simp; done) | (simp [*]; done)), H', ⟨by have := HK1.out; omega⟩, ⟨by (with_reducible repeat (first | apply Kd.R_alloc | apply Kd.R_drewN | apply Kd.R_drew)); exact HO_5.out⟩, ⟨by (with_reducible repeat (first | refine blk_drewN ?_ _ | refine blk_drew ?_ | refine blk_alloc ?_ _)); exact BK334.out⟩, ⟨by repeat (first | (with_reducible first | exact HB.out | apply below_alloc | apply pw_below_drewN | apply below_drew1 | refine below_set ?_ GE334.out) | exact HB.out)⟩⟩
          · rw [if_neg c8] at H
            have c8b0 : (((rd_T106 t335 x6_1).f0) == a0) = false := beq_eq_false_iff_ne.mpr c8
            have c8b1 : (((rd_T106 t335 x6_1).f0) != a0) = true := bne_iff_ne.mpr c8
            have H' := Aside0.mk H
            clear H
            obtain ⟨Ao13, co13, eo13⟩ := Kd.R_slice HO_5.out
            subst eo13
            have p338 : 0 ≤ (x6_1 : Int) := of_decide_eq_true (by first | (with_reducible assumption) | assumption)
            have q338 : x6_1 < (t335.length : Int) := of_decide_eq_true (by first | (with_reducible assumption) | assumption)
            obtain ⟨ad338, e338, hx338_0, hx338_1, hx338_2, hx338_3, hx338_4, hx338_5, hx338_6⟩ := at_T106 (Kd.R_reads' HO_5.out).2.2 x6_1 p338 q338
            cases e338
            replace p338 := eq_true p338
            replace q338 := eq_true q338
            go_wp2
            go_roundg k1
            case measure => have := HK1.out; omega
            case rel => exact ⟨(wrap64 (x6_1 + 1)), (x335000_1), (x335001_1), (x335002_1), (x335003_1), (x335004_1), (x335005_1), (x335006_1), (by first | rfl | (simp; done) | (simp [*]; done)), H', ⟨by have := HK1.out; omega⟩, ⟨by (with_reducible repeat (first | apply Kd.R_alloc | apply Kd.R_drewN | apply Kd.R_drew)); exact HO_5.out⟩, ⟨by (with_reducible repeat (first | refine blk_drewN ?_ _ | refine blk_drew ?_ | refine blk_alloc ?_ _)); exact BK334.out⟩, ⟨by repeat (first | (with_reducible first | exact HB.out | apply below_alloc | apply pw_below_drewN | apply below_drew1 | refine below_set ?_ GE334.out) | exact HB.out)⟩⟩
        · rw [if_neg c7] at H
          exact absurd H (by simp)
      · rw [if_neg c6] at H
        have c6b0 : decide (x6_1 < (t335.length : Int)) = false := decide_eq_false c6
        clear c6
        simp only [Option.some.injEq, Prod.mk.injEq] at H
        obtain ⟨rfl, rfl, rfl, rfl, rfl, rfl, rfl⟩ := H
        obtain ⟨Ao14, co14, eo14⟩ := Kd.R_slice HO_5.out
        subst eo14
        have hcz15_0 : wr.cell? ⟨gb334, 0, none⟩ = some (.int .i64 x335000_1) := (blk_cell BK334.out 0).trans rfl
        have hcz15_1 : wr.cell? ⟨gb334, 1, none⟩ = some (.int .u16 x335001_1) := (blk_cell BK334.out 1).trans rfl
        have hcz15_2 : wr.cell? ⟨gb334, 2, none⟩ = some (.string x335002_1) := (blk_cell BK334.out 2).trans rfl
        have hcz15_3 : wr.cell? ⟨gb334, 3, none⟩ = some (.int .i64 x335003_1) := (blk_cell BK334.out 3).trans rfl
        have hcz15_4 : wr.cell? ⟨gb334, 4, none⟩ = some (.int .i64 x335004_1) := (blk_cell BK334.out 4).trans rfl
        have hcz15_5 : wr.cell? ⟨gb334, 5, none⟩ = some (.int .i64 x335005_1) := (blk_cell BK334.out 5).trans rfl
        have hcz15_6 : wr.cell? ⟨gb334, 6, none⟩ = some (.int .i64 x335006_1) := (blk_cell BK334.out 6).trans rfl
        have hfz15_0 := blk_frozen BK334.out 0
        have hfz15_1 := blk_frozen BK334.out 1
        have hfz15_2 := blk_frozen BK334.out 2
        have hfz15_3 := blk_frozen BK334.out 3
        have hfz15_4 := blk_frozen BK334.out 4
        have hfz15_5 := blk_frozen BK334.out 5
        have hfz15_6 := blk_frozen BK334.out 6
        go_wp2
        refine bodyPost_ret (results_cell_row rfl _ _ gb334 106 #[.int .i64 0, .int .u16 0, .string (⟨#[]⟩ : ByteArray), .int .i64 0, .int .i64 0, .int .i64 0, .int .i64 0] (0, 0) _ rfl (by (with_reducible repeat (first | refine blk_drewN ?_ _ | refine blk_drew ?_ | refine blk_alloc ?_ _)); refine blk_put (cs := #[.int .i64 0, .int .u16 0, .string (⟨#[]⟩ : ByteArray), .int .i64 0, .int .i64 0, .int .i64 0, .int .i64 x335006_1]) ?_ 6 _ rfl; (with_reducible repeat (first | refine blk_drewN ?_ _ | refine blk_drew ?_ | refine blk_alloc ?_ _)); refine blk_put (cs := #[.int .i64 0, .int .u16 0, .string (⟨#[]⟩ : ByteArray), .int .i64 0, .int .i64 0, .int .i64 x335005_1, .int .i64 x335006_1]) ?_ 5 _ rfl; (with_reducible repeat (first | refine blk_drewN ?_ _ | refine blk_drew ?_ | refine blk_alloc ?_ _)); refine blk_put (cs := #[.int .i64 0, .int .u16 0, .string (⟨#[]⟩ : ByteArray), .int .i64 0, .int .i64 x335004_1, .int .i64 x335005_1, .int .i64 x335006_1]) ?_ 4 _ rfl; (with_reducible repeat (first | refine blk_drewN ?_ _ | refine blk_drew ?_ | refine blk_alloc ?_ _)); refine blk_put (cs := #[.int .i64 0, .int .u16 0, .string (⟨#[]⟩ : ByteArray), .int .i64 x335003_1, .int .i64 x335004_1, .int .i64 x335005_1, .int .i64 x335006_1]) ?_ 3 _ rfl; (with_reducible repeat (first | refine blk_drewN ?_ _ | refine blk_drew ?_ | refine blk_alloc ?_ _)); refine blk_put (cs := #[.int .i64 0, .int .u16 0, .string x335002_1, .int .i64 x335003_1, .int .i64 x335004_1, .int .i64 x335005_1, .int .i64 x335006_1]) ?_ 2 _ rfl; (with_reducible repeat (first | refine blk_drewN ?_ _ | refine blk_drew ?_ | refine blk_alloc ?_ _)); refine blk_put (cs := #[.int .i64 0, .int .u16 x335001_1, .string x335002_1, .int .i64 x335003_1, .int .i64 x335004_1, .int .i64 x335005_1, .int .i64 x335006_1]) ?_ 1 _ rfl; (with_reducible repeat (first | refine blk_drewN ?_ _ | refine blk_drew ?_ | refine blk_alloc ?_ _)); refine blk_put (cs := #[.int .i64 x335000_1, .int .u16 x335001_1, .string x335002_1, .int .i64 x335003_1, .int .i64 x335004_1, .int .i64 x335005_1, .int .i64 x335006_1]) ?_ 0 _ rfl; (with_reducible repeat (first | refine blk_drewN ?_ _ | refine blk_drew ?_ | refine blk_alloc ?_ _)); exact BK334.out) Tryz.underlying106 rfl (by kernel_rfl)) rfl ?_
        exact ⟨by first | rfl | (simp [errW_none, errW_some] <;> rfl) | (simp [*, errW_none, errW_some] <;> rfl), by repeat (first | (with_reducible first | exact HB.out | apply below_alloc | apply pw_below_drewN | apply below_drew1 | refine below_set ?_ GE334.out) | exact HB.out)⟩
end Go.Proofs.YtpgfhbdnlojdfaaGreatDoor.P
