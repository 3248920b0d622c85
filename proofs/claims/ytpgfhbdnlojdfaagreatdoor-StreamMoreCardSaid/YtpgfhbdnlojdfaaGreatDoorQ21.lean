/- Packed by wip/tools/pack.py out of MSizes, FtlvSize, FnodeSize, Fwharfref03Gap, Fwharfref08Size, MSpec. -/
import Derived.Test.YtpgfhbdnlojdfaaGreatDoorQ07
namespace Go.Proofs.YtpgfhbdnlojdfaaGreatDoor.P
open Go.RowKit Go.Proofs.YtpgfhbdnlojdfaaGreatDoorW.PrintWords Go.Proofs.YtpgfhbdnlojdfaaGreatDoorW.PrintLast Go.Proofs.YtpgfhbdnlojdfaaGreatDoorW.PrintMore
set_option linter.unusedVariables false
set_option linter.unusedSimpArgs false
def upN (n : Int) : Int := (n + 3) / 4 * 4
theorem upN_le (n : Int) (h : 0 ≤ n) : n ≤ upN n ∧ upN n ≤ n + 3 := by unfold upN; omega
theorem and3 (n : Int) (h0 : 0 ≤ n) (h1 : n ≤ 4611686018427387904) : Go.bits .and .i64 (-n) 3 = upN n - n := by
  have e : (BitVec.ofInt 64 (-n) &&& BitVec.ofInt 64 3).toNat = ((-n) % 18446744073709551616).toNat % 4 := by
    rw [BitVec.toNat_and, BitVec.toNat_ofInt, BitVec.toNat_ofInt]
    exact Nat.and_two_pow_sub_one_eq_mod _ 2
  show IntKind.i64.wrap ((BitVec.ofInt 64 (-n) &&& BitVec.ofInt 64 3).toNat : Int) = _
  rw [e, IntKind.wrap_i64]
  unfold upN
  omega
set_option maxHeartbeats 1000000 in
theorem pad_Gap.any (n : Int) (w : World) (h0 : 0 ≤ n) (h1 : n ≤ 4611686018427387904) :
    Calls Tryz.prog 119 #[.int .i64 n] w fun e w' => e = .returned (.int .i64 (upN n - n)) ∧ w' = w := by
  have e := and3 n h0 h1
  have H := Aside0.mk e
  clear e
  go_enter Tryz.func119, Tryz.ntmps119
  go_wp2
  go_ret
  exact ⟨congrArg (fun x => Ending.returned (.int .i64 x)) H.out, rfl⟩
set_option maxHeartbeats 1000000 in
theorem pad_Up.any (n : Int) (w : World) (h0 : 0 ≤ n) (h1 : n ≤ 4611686018427387904) :
    Calls Tryz.prog 118 #[.int .i64 n] w fun e w' => e = .returned (.int .i64 (upN n)) ∧ w' = w := by
  have u := upN_le n h0
  obtain ⟨g, hg⟩ : ∃ g, g = upN n - n := ⟨_, rfl⟩
  have g0 : 0 ≤ g := by omega
  have g1 : g ≤ 3 := by omega
  have HG := Aside0.mk hg
  have C := pad_Gap.any n w h0 h1
  rw [← hg] at C
  have HC := Aside0.mk C
  clear C hg u
  go_enter Tryz.func118, Tryz.ntmps118
  go_wp2_with (go_at_call 119; refine HC.out.mono ?_; rintro e w' ⟨rfl, rfl⟩)
  go_ret
  exact ⟨congrArg (fun x => Ending.returned (.int .i64 x)) (show n + g = upN n by rw [HG.out]; omega), rfl⟩
theorem sizesAdd (n s : Int) (b : Nat) (w : World) (h0 : 0 ≤ n) (h1 : n ≤ 1099511627776) (s0 : 0 ≤ s) (s1 : s ≤ 2305843009213693952) (hc : w.cell? ⟨b, 0, none⟩ = some (.int .i64 s)) (hf : w.frozen? ⟨b, 0, none⟩ = false) :
    Calls Tryz.prog 117 #[.int .i64 n, .pointer (some ⟨b, 0, none⟩)] w fun e w' => (∃ v, e = .returned v) ∧ w' = w.setCell ⟨b, 0, none⟩ (.int .i64 (upN s + n)) := by
  have u := upN_le s s0
  obtain ⟨g, hg⟩ : ∃ g, g = upN s := ⟨_, rfl⟩
  have HC := Aside0.mk (pad_Up.any s w s0 (by omega))
  rw [← hg] at u
  have g0 : 0 ≤ g := by omega
  have g1 : g ≤ 2305843009213693955 := by omega
  have HG := Aside0.mk hg
  rw [← hg] at HC
  clear hg u
  rw [← HG.out]
  go_enter Tryz.func117, Tryz.ntmps117
  go_wp2_with (go_at_call 118; refine HC.out.mono ?_; rintro e w' ⟨rfl, rfl⟩)
  go_end0
  exact ⟨⟨_, rfl⟩, rfl⟩
def sizesN (l : List Int) : Int := l.foldl (fun s n => upN s + n) 0
def okSizes (l : List Int) : Bool := decide (l.length ≤ 1048576) && l.all (fun n => decide (0 ≤ n) && decide (n ≤ 1099511627776))
def pad_Sizes.f (l : List Int) : Option Int := if okSizes l then some (sizesN l) else none
theorem sizesN_snoc (l : List Int) (n : Int) : sizesN (l ++ [n]) = upN (sizesN l) + n := by simp [sizesN]
theorem sizesFrom_bound : ∀ (l : List Int) (s : Int), (∀ n, n ∈ l → 0 ≤ n ∧ n ≤ 1099511627776) → 0 ≤ s → 0 ≤ l.foldl (fun s n => upN s + n) s ∧ l.foldl (fun s n => upN s + n) s ≤ s + (l.length : Int) * 1099511627779
  | [], s, _, h0 => by simp; exact h0
  | n :: l, s, h, h0 => by
    have h2 := h n (by simp)
    have u := upN_le s h0
    have h1 := sizesFrom_bound l (upN s + n) (fun n hn => h n (by simp [hn])) (by omega)
    simp only [List.foldl_cons, List.length_cons]
    push_cast
    omega
theorem sizesN_bound (l : List Int) (h : ∀ n, n ∈ l → 0 ≤ n ∧ n ≤ 1099511627776) : 0 ≤ sizesN l ∧ sizesN l ≤ (l.length : Int) * 1099511627779 := by
  have := sizesFrom_bound l 0 h (Int.le_refl _)
  unfold sizesN
  omega
theorem okSizes_iff {l : List Int} (h : okSizes l = true) : l.length ≤ 1048576 ∧ ∀ n, n ∈ l → 0 ≤ n ∧ n ≤ 1099511627776 := by
  unfold okSizes at h
  rw [Bool.and_eq_true] at h
  refine ⟨of_decide_eq_true h.1, fun n hn => ?_⟩
  have := List.all_eq_true.mp h.2 n hn
  rw [Bool.and_eq_true] at this
  exact ⟨of_decide_eq_true this.1, of_decide_eq_true this.2⟩
set_option maxHeartbeats 2000000 in
theorem pad_Sizes.calls (A0 : Option Addr) (c0 : Nat) (l0 : List Int) (r : Int) (w : World) (hr0 : Kd.C (Kd.int .i64) w A0 l0.length l0) (hc0 : l0.length ≤ c0) (h : pad_Sizes.f l0 = some r) :
    Calls Tryz.prog 115 #[.slice A0 l0.length c0] w fun e w' => e = .returned (.int .i64 r) ∧ Below w.heap.size w w' := by
  unfold pad_Sizes.f at h
  by_cases ho : okSizes l0 = true
  · rw [if_pos ho] at h
    obtain rfl := Option.some.inj h
    obtain ⟨hlen, hall⟩ := okSizes_iff ho
    clear h ho
    have HR := Aside0.mk hr0
    have HA := Aside0.mk hall
    have hpre : ∀ k, k ≤ l0.length → 0 ≤ sizesN (l0.take k) ∧ sizesN (l0.take k) ≤ 1152921504611041280 := by
      intro k hk
      have h1 := sizesN_bound (l0.take k) (fun n hn => hall n (List.mem_of_mem_take hn))
      have h2 : (l0.take k).length ≤ 1048576 := by rw [List.length_take]; omega
      refine ⟨h1.1, ?_⟩
      have h3 := h1.2
      omega
    have HP := Aside0.mk hpre
    clear hr0 hall hpre hc0
    go_enter Tryz.func115, Tryz.ntmps115
    go_wp2
    go_loopw [6, 10] (fun _ i W => ∃ k : Nat, k ≤ l0.length ∧ i = .int .i64 k ∧ Aside0 (W.heap[w.heap.size]? = some (.cells #[.int .i64 (sizesN (l0.take k))] 3 (0, 0))) ∧ Aside0 (Below w.heap.size w W)) (fun _ i _ => l0.length - (intOf i).toNat)
    case atStart => exact ⟨0, Nat.zero_le _, rfl, ⟨heap_alloc_new _ _⟩, ⟨by first | exact ((Below.refl _ _).alloc (Nat.le_refl _) _) | (exact ((Below.refl _ _).alloc (Nat.le_refl _) _).setCell (p := ⟨w.heap.size, 0, none⟩) (Nat.le_refl _) _)⟩⟩
    case round =>
      obtain ⟨k, hk, rfl, HX, HB⟩ := hrel
      by_cases hlt : k < l0.length
      · obtain ⟨ad, e, hx⟩ := Kd.at_int HR.out (k : Int) (by omega) (by omega)
        cases e
        have hp := HP.out k hk
        have hs := HA.out (rd l0 k) (rd_mem l0 k hlt)
        rw [Int.toNat_natCast] at hx
        replace hx := (HB.out.cell (World.block_lt_of_cell? w _ hx)).trans hx
        have hb := blk_cell HX.out 0
        have hf := blk_frozen HX.out 0
        have HS := Aside0.mk (sizesAdd (rd l0 k) (sizesN (l0.take k)) w.heap.size wr hs.1 hs.2 hp.1 (by omega) (by simpa using hb) hf)
        have HN := Aside0.mk (show sizesN (l0.take (k + 1)) = upN (sizesN (l0.take k)) + rd l0 k from by rw [List.take_succ_eq_append_getElem hlt, sizesN_snoc, rd_at l0 k hlt])
        clear hp hs hb hf
        go_wp2_with (go_at_call 117; refine HS.out.mono ?_; rintro e w' ⟨⟨v, rfl⟩, rfl⟩)
        go_roundw
        case rel => exact ⟨k + 1, by omega, by go_num, ⟨by rw [HN.out]; have := blk_set HX.out 0 (.int .i64 (upN (sizesN (l0.take k)) + rd l0 k)); simpa using this⟩, ⟨HB.out.setCell (p := ⟨w.heap.size, 0, none⟩) (Nat.le_refl _) _⟩⟩
        case measure => simp [intOf]; omega
      · have : k = l0.length := by omega
        subst this
        have hb := blk_cell HX.out 0
        rw [List.take_length] at hb
        replace hb : wr.cell? ⟨w.heap.size, 0, none⟩ = some (.int .i64 (sizesN l0)) := by simpa using hb
        go_wp2
        go_ret
        exact ⟨rfl, HB.out⟩
  · rw [if_neg ho] at h; cases h
end Go.Proofs.YtpgfhbdnlojdfaaGreatDoor.P
namespace Go.Proofs.YtpgfhbdnlojdfaaGreatDoor.P
open Go.RowKit Go.Proofs.YtpgfhbdnlojdfaaGreatDoorW.PrintWords Go.Proofs.YtpgfhbdnlojdfaaGreatDoorW.PrintLast Go.Proofs.YtpgfhbdnlojdfaaGreatDoorW.PrintMore
attribute [local go_sem] max2_int min2_int max_two min_two max_three min_three max_four min_four
set_option linter.unusedVariables false
set_option linter.unusedSimpArgs false
def tlv_Size.l0 : Nat → List Int → List (S166) → Int → Int → Option (Int)
  | 0, _, _, _, _ => none
  | k + 1, x3, x6, x7, x8 => if x8 < x7 then (if 0 ≤ x8 then (if x8 < (x6.length : Int) then (if x3.length < 17592186044416 then (tlv_Size.l0 k (x3 ++ [wrap64 (4 + (((rd_T166 x6 x8).f1).length : Int))]) x6 x7 (wrap64 (x8 + 1))) else (none)) else (none)) else (none)) else ((pad_Sizes.f x3).bind fun t106 => (some t106))
def tlv_Size.f (k : Nat) (l0 : List (S166)) : Option (Int) := tlv_Size.l0 k ([] : List Int) l0 (l0.length : Int) 0
set_option maxHeartbeats 8000000 in
set_option maxRecDepth 100000 in
theorem tlv_Size.calls (k : Nat) (A0 : Option Addr) (c0 : Nat) (l0 : List (S166)) (r : Int) (w : World) (hr0 : Kd.C k166 w A0 l0.length l0) (hc0 : l0.length ≤ c0) (h : tlv_Size.f k l0 = some r) :
    Calls Tryz.prog 109 #[.slice A0 l0.length c0] w fun e w' => e = .returned (.int .i64 r) ∧ Below w.heap.size w w' := by
  have hu166 := Tryz.underlying166
  have HR0 := Aside0.mk hr0
  have HC0 := Aside0.mk hc0
  clear hr0 hc0
  have HB := Aside0.mk (Below.refl w.heap.size w)
  have H : (tlv_Size.l0 k ([] : List Int) l0 (l0.length : Int) 0) = some r := h
  clear h
  have H' := Aside0.mk H
  clear H
  go_enter Tryz.func109, Tryz.ntmps109
  go_wp2
  go_loopg [3, 8] k (fun kq v3 v8 w' => ∃ (x3_1 : List Int) (x8_1 : Int), v8 = .int .i64 x8_1 ∧ Aside0 (tlv_Size.l0 kq x3_1 l0 (l0.length : Int) x8_1 = some r) ∧ Aside0 (kq ≤ k) ∧ Aside0 (Kd.R (Kd.int .i64) 3 w' w.heap.size (fun _ => True) v3 x3_1) ∧ Aside0 (Below w.heap.size w w'))
  case atStart => exact ⟨(([] : List Int)), (0), (by first | rfl | (simp; done) | (simp [*]; done)), H', ⟨Nat.le_refl _⟩, ⟨by first | exact Kd.R_nil _ _ _ _ _ | exact Kd.N_nil _ _ _ _ _ | exact Kd.V_nil _ _ _ _ _ | exact Kd.Q_nil _ _ _ _ _ | exact Kd.S_nil _ _ _ _ _⟩, ⟨by repeat (first | (with_reducible first | exact HB.out | apply below_alloc | apply pw_below_drewN | apply below_drew1) | exact HB.out)⟩⟩
  case round =>
    clear H'
    try clear c1
    obtain ⟨x3_1, x8_1, rfl, HA, HK1, HO_3, HB⟩ := hrel
    cases gk with
    | zero => exact absurd HA.out (by simp [tlv_Size.l0])
    | succ k1 =>
      have H := HA.out
      clear HA
      simp only [tlv_Size.l0] at H
      by_cases c2 : x8_1 < (l0.length : Int)
      · rw [if_pos c2] at H
        have c2b0 : decide (x8_1 < (l0.length : Int)) = true := decide_eq_true c2
        clear c2
        by_cases c3 : 0 ≤ x8_1
        · rw [if_pos c3] at H
          have c3b0 : decide (0 ≤ x8_1) = true := decide_eq_true c3
          clear c3
          by_cases c4 : x8_1 < (l0.length : Int)
          · rw [if_pos c4] at H
            have c4b0 : decide (x8_1 < (l0.length : Int)) = true := decide_eq_true c4
            clear c4
            by_cases c5 : x3_1.length < 17592186044416
            · rw [if_pos c5] at H
              have LMc5 := Aside0.mk c5
              clear c5
              obtain ⟨y103, hy103⟩ : ∃ y_ : List Int, y_ = (x3_1 ++ [wrap64 (4 + (((rd_T166 l0 x8_1).f1).length : Int))]) := ⟨_, rfl⟩
              replace H : (tlv_Size.l0 k1 y103 l0 (l0.length : Int) (wrap64 (x8_1 + 1))) = some r := by first | (rw [hy103]; with_reducible exact H) | (have H2_ := (Option.bind_some _ _).symm.trans H; rw [hy103]; with_reducible exact H2_) | (have H2_ := (Option.bind_some _ _).symm.trans H; with_reducible exact H2_) | with_reducible exact H | (rw [hy103]; exact H) | exact H
              have Ny103 := Aside0.mk hy103
              clear hy103
              have H' := Aside0.mk H
              clear H
              have p101 : 0 ≤ (x8_1 : Int) := of_decide_eq_true (by first | (with_reducible assumption) | assumption)
              have q101 : x8_1 < (l0.length : Int) := of_decide_eq_true (by first | (with_reducible assumption) | assumption)
              obtain ⟨ad101, A101_1, c101_1, e101, hx101_0, hx101_1, hl101_1, hi101_1⟩ := at_T166 HR0.out x8_1 p101 q101
              cases e101
              replace hx101_0 := (HB.out.cell (World.block_lt_of_cell? w _ hx101_0)).trans hx101_0
              replace hx101_1 := (HB.out.cell (World.block_lt_of_cell? w _ hx101_1)).trans hx101_1
              have HR101_1 := Aside0.mk hi101_1
              have HC101_1 := Aside0.mk hl101_1
              clear hi101_1 hl101_1
              replace p101 := eq_true p101
              replace q101 := eq_true q101
              go_wp2_with (first | ((with_reducible refine gate_dst (N := 5) rfl ?_); refine box_event ?hg (N := 5) ?hd (cs := #[.int .u16 0, .slice none 0 0]) (t := 166) ?hr ?_; (case hd => rfl); (case hg => rfl); (case hr => first | (go_simp; done) | (go_simp; rfl)); intro gb102 hg w6 hbox hb; have n0_ := Aside0.mk (Kd.R_below (by (with_reducible repeat (first | apply Kd.R_alloc | apply Kd.R_drewN | apply Kd.R_drew)); exact HO_3.out) hb); have n1_ := Aside0.mk (below_step (by repeat (first | (with_reducible first | exact HB.out | apply below_alloc | apply pw_below_drewN | apply below_drew1) | exact HB.out)) hb); have n2_ := Aside0.mk (hbox); have n3_ := Aside0.mk ((by rw [hg]; exact (below_size (by repeat (first | (with_reducible first | exact HB.out | apply below_alloc | apply pw_below_drewN | apply below_drew1) | exact HB.out))) : w.heap.size ≤ gb102)); have n4_ := Aside0.mk ((by rw [hg]; exact (below_size (by repeat (first | (with_reducible first | exact HB.out | apply below_alloc | apply pw_below_drewN | apply below_drew1) | exact HB.out))) : w.heap.size ≤ gb102)); clear HO_3; clear HB; have HO_3 := n0_; have HB := n1_; have BK102 := n2_; have GW102 := n3_; have GE102 := n4_; clear n0_ n1_ n2_ n3_ n4_; clear hb hbox hg; have hcz7_0 : w6.cell? ⟨gb102, 0, none⟩ = some (.int .u16 0) := (blk_cell BK102.out 0).trans rfl; have hcz7_1 : w6.cell? ⟨gb102, 1, none⟩ = some (.slice none 0 0) := (blk_cell BK102.out 1).trans rfl; have hfz7_0 := blk_frozen BK102.out 0; have hfz7_1 := blk_frozen BK102.out 1) | ((with_reducible refine gate_builtin (b := .append) (xs := #[.tmp 12, .tmp 17]) rfl ?_); at_builtin; refine Kd.R_append (Kd.int .i64) (w0 := w) w.heap.size rfl (.tmp 12) (.tmp 17) 185 3 (.int .i64 0) 8 rfl Tryz.underlying185 info3 rfl (by decide) (by omega) u3 x3_1 (wrap64 (4 + (((rd_T166 l0 x8_1).f1).length : Int))) [.int .i64 (wrap64 (4 + (((rd_T166 l0 x8_1).f1).length : Int)))] (fun _ => True) (fun _ => False) rfl (by first | (go_simp; done) | (go_simp; rfl)) ?aP (fun _ hk => hk.elim) ?aF ?aO ?aB ?aS ?aL ?_; (case aP => exact rfl); (case aB => exact (by repeat (first | (with_reducible first | exact HB.out | apply below_alloc | apply pw_below_drewN | apply below_drew1 | refine below_set ?_ GE102.out) | exact HB.out))); (case aF => exact (fun _ _ => trivial)); (case aO => exact (by (with_reducible repeat (first | apply Kd.R_alloc | apply Kd.R_drewN | apply Kd.R_drew)); exact Kd.R_mono (Kd.R_far (p := ⟨gb102, 1, none⟩) (Kd.R_far (p := ⟨gb102, 0, none⟩) (Kd.R_types HO_3.out BK102.out (by decide)) (fun _ hk => hk.2) (.int .u16 ((rd_T166 l0 x8_1).f0))) (fun _ hk => hk.2) (.slice A101_1 ((rd_T166 l0 x8_1).f1).length c101_1)) (fun _ hk => trivial))); (case aS => exact (below_size (by repeat (first | (with_reducible first | exact HB.out | apply below_alloc | apply pw_below_drewN | apply below_drew1 | refine below_set ?_ GE102.out) | exact HB.out)))); (case aL => have := LMc5.out; omega); intro v104 w8 ho hb hg hat; rw [← Ny103.out] at ho; have n0_ := Aside0.mk (blk_grown (g := gb102) (o := .cells #[.int .u16 ((rd_T166 l0 x8_1).f0), .slice A101_1 ((rd_T166 l0 x8_1).f1).length c101_1] 166 (0, 0)) (by (with_reducible repeat (first | refine blk_drewN ?_ _ | refine blk_drew ?_ | refine blk_alloc ?_ _)); refine blk_put (cs := #[.int .u16 ((rd_T166 l0 x8_1).f0), .slice none 0 0]) ?_ 1 _ rfl; (with_reducible repeat (first | refine blk_drewN ?_ _ | refine blk_drew ?_ | refine blk_alloc ?_ _)); refine blk_put (cs := #[.int .u16 0, .slice none 0 0]) ?_ 0 _ rfl; (with_reducible repeat (first | refine blk_drewN ?_ _ | refine blk_drew ?_ | refine blk_alloc ?_ _)); exact BK102.out) hg (Kd.R_ne HO_3.out BK102.out (by decide))); have n1_ := Aside0.mk (hb); have n2_ := Aside0.mk (ho); clear BK102; clear HB; clear HO_3; have BK102 := n0_; have HB := n1_; have HO105 := n2_; clear n0_ n1_ n2_; clear ho hb hg hat))
              go_roundg k1
              case measure => have := HK1.out; omega
              case rel => exact ⟨(y103), (wrap64 (x8_1 + 1)), (by first | rfl | (simp; done) | (simp [*]; done)), H', ⟨by have := HK1.out; omega⟩, ⟨by (with_reducible repeat (first | apply Kd.R_alloc | apply Kd.R_drewN | apply Kd.R_drew)); exact HO105.out⟩, ⟨by repeat (first | (with_reducible first | exact HB.out | apply below_alloc | apply pw_below_drewN | apply below_drew1 | refine below_set ?_ GE102.out) | exact HB.out)⟩⟩
            · rw [if_neg c5] at H
              exact absurd H (by simp)
          · rw [if_neg c4] at H
            exact absurd H (by simp)
        · rw [if_neg c3] at H
          exact absurd H (by simp)
      · rw [if_neg c2] at H
        have c2b0 : decide (x8_1 < (l0.length : Int)) = false := decide_eq_false c2
        clear c2
        replace H := Option.bind_eq_some_iff.mp H
        obtain ⟨t106, A90, H⟩ := H
        replace H : (some t106) = some r := H
        have A9 := Aside0.mk A90
        clear A90
        obtain rfl := Option.some.inj H
        obtain ⟨Ao10, co10, eo10⟩ := Kd.R_slice HO_3.out
        subst eo10
        go_wp2_with (first | ((with_reducible refine gate_callee (f := 115) rfl ?_); refine goesL_ (some 21) rfl rfl Tryz.func115 (by kernel_rfl) rfl #[.slice Ao10 x3_1.length co10] rfl (by (try simp only [List.map_toArray, List.map_cons, List.map_nil]); first | done | rfl | (simp only [List.length_drop, List.length_take]; rfl)) ?_; (with_reducible refine (pad_Sizes.calls _ _ x3_1 t106 _ ?side1 ?side2 A9.out).mono ?_); (case side1 => repeat (first | exact (Kd.R_reads' HO_3.out).2.2 | (with_reducible refine Kd.C_alloc ?_ _) | (with_reducible refine Kd.C_drewN ?_ _) | (with_reducible refine Kd.C_drew ?_))); (case side2 => exact (Kd.R_reads' HO_3.out).2.1); rintro e w11 ⟨rfl, hb⟩; refine ⟨_, rfl, ?_⟩; have n0_ := Aside0.mk (Kd.R_below (by (with_reducible repeat (first | apply Kd.R_alloc | apply Kd.R_drewN | apply Kd.R_drew)); exact HO_3.out) hb); have n1_ := Aside0.mk (below_step (by repeat (first | (with_reducible first | exact HB.out | apply below_alloc | apply pw_below_drewN | apply below_drew1) | exact HB.out)) hb); clear HO_3; clear HB; have HO_3 := n0_; have HB := n1_; clear n0_ n1_; (try clear hb); (try clear hb2); (try clear hk); (try clear hi)))
        go_ret
        exact ⟨by first | rfl | (simp [errW_none, errW_some] <;> rfl) | (simp [*, errW_none, errW_some] <;> rfl), by repeat (first | (with_reducible first | exact HB.out | apply below_alloc | apply pw_below_drewN | apply below_drew1) | exact HB.out)⟩
end Go.Proofs.YtpgfhbdnlojdfaaGreatDoor.P
namespace Go.Proofs.YtpgfhbdnlojdfaaGreatDoor.P
open Go.RowKit Go.Proofs.YtpgfhbdnlojdfaaGreatDoorW.PrintWords Go.Proofs.YtpgfhbdnlojdfaaGreatDoorW.PrintLast Go.Proofs.YtpgfhbdnlojdfaaGreatDoorW.PrintMore
attribute [local go_sem] max2_int min2_int max_two min_two max_three min_three max_four min_four
set_option linter.unusedVariables false
set_option linter.unusedSimpArgs false
mutual
def node_Size.l0 : Nat → List (S166) → List (S26) → Int → Int → Option (Int)
  | 0, _, _, _, _ => none
  | k + 1, x3, x6, x7, x8 => if x8 < x7 then (if 0 ≤ x8 then (if x8 < (x6.length : Int) then ((node_Size.f k ((rd_T26 x6 x8).f2)).bind fun t109 => (if 0 ≤ (wrap64 ((((rd_T26 x6 x8).f1).length : Int) + t109)) then (if (wrap64 ((((rd_T26 x6 x8).f1).length : Int) + t109) : Int).toNat ≤ 281474976710656 then (if x3.length < 4398046511104 then (node_Size.l0 k (x3 ++ [(⟨0, (List.replicate (wrap64 ((((rd_T26 x6 x8).f1).length : Int) + t109) : Int).toNat 0)⟩ : S166)]) x6 x7 (wrap64 (x8 + 1))) else (none)) else (none)) else (none))) else (none)) else (none)) else ((tlv_Size.f k x3).bind fun t116 => (some t116))
def node_Size.f : Nat → List (S26) → Option (Int)
  | 0, _ => none
  | k + 1, l0 => node_Size.l0 k ([] : List (S166)) l0 (l0.length : Int) 0
end
def node_Size.T5 : Bool × List (List Nat × List Nat) := (true, [([], []), ([], []), ([1], [1]), ([2], [2]), ([], []), ([4], [4]), ([5], [5]), ([3, 6], [3, 6]), ([7, 7], [7]), ([8], [8]), ([9], [9]), ([0, 10, 6], [0, 10]), ([11, 11, 0, 1, 2, 3, 4, 5, 6, 7, 8, 9, 10, 11], [0, 11])])
def node_Size.B5 : List Nat := [0, 0, 2, 6, 0, 16, 48, 126, 254, 510, 1022, 2047, 4095]
theorem node_Size.tab5 : rtab .any (opsOf Tryz.f94 5) = node_Size.T5 := by kernel_rfl
theorem node_Size.bits5 : waitsOk node_Size.T5.2 node_Size.B5 = true := by kernel_rfl
set_option maxHeartbeats 8000000 in
set_option maxRecDepth 100000 in
theorem node_Size.calls (k : Nat) : ∀ (A0 : Option Addr) (c0 : Nat) (l0 : List (S26)) (r : Int) (w : World) (hr0 : Kd.C k26 w A0 l0.length l0) (hc0 : l0.length ≤ c0) (h : node_Size.f k l0 = some r),
    Calls Tryz.prog 94 #[.slice A0 l0.length c0] w fun e w' => e = .returned (.int .i64 r) ∧ Below w.heap.size w w' := by
  induction k using Nat.strongRecOn with
  | _ k ih =>
  intro A0 c0 l0 r w hr0 hc0 h
  cases k with
  | zero => exact absurd h (by simp [node_Size.f])
  | succ k =>
  simp only [node_Size.f] at h
  have hu26 := Tryz.underlying26
  have hu166 := Tryz.underlying166
  have HR0 := Aside0.mk hr0
  have HC0 := Aside0.mk hc0
  clear hr0 hc0
  have HB := Aside0.mk (Below.refl w.heap.size w)
  have H : (node_Size.l0 k ([] : List (S166)) l0 (l0.length : Int) 0) = some r := h
  clear h
  have H' := Aside0.mk H
  clear H
  go_enter Tryz.func94, Tryz.ntmps94
  go_wp2
  go_loopg [3, 8] k (fun kq v3 v8 w' => ∃ (x3_1 : List (S166)) (x8_1 : Int), v8 = .int .i64 x8_1 ∧ Aside0 (node_Size.l0 kq x3_1 l0 (l0.length : Int) x8_1 = some r) ∧ Aside0 (kq ≤ k) ∧ Aside0 (Kd.S k166 166 w' w.heap.size (fun _ => True) v3 x3_1) ∧ Aside0 (Below w.heap.size w w'))
  case atStart => exact ⟨(([] : List (S166))), (0), (by first | rfl | (simp; done) | (simp [*]; done)), H', ⟨Nat.le_refl _⟩, ⟨by first | exact Kd.S_nil _ _ _ _ _ | exact Kd.N_nil _ _ _ _ _ | exact Kd.V_nil _ _ _ _ _ | exact Kd.Q_nil _ _ _ _ _ | exact Kd.R_nil _ _ _ _ _⟩, ⟨by repeat (first | (with_reducible first | exact HB.out | apply below_alloc | apply pw_below_drewN | apply below_drew1) | exact HB.out)⟩⟩
  case round =>
    clear H'
    obtain ⟨x3_1, x8_1, rfl, HA, HK1, HO_3, HB⟩ := hrel
    cases gk with
    | zero => exact absurd HA.out (by simp [node_Size.l0])
    | succ k1 =>
      have H := HA.out
      clear HA
      simp only [node_Size.l0] at H
      by_cases c2 : x8_1 < (l0.length : Int)
      · rw [if_pos c2] at H
        have c2b0 : decide (x8_1 < (l0.length : Int)) = true := decide_eq_true c2
        clear c2
        by_cases c3 : 0 ≤ x8_1
        · rw [if_pos c3] at H
          have c3b0 : decide (0 ≤ x8_1) = true := decide_eq_true c3
          clear c3
          by_cases c4 : x8_1 < (l0.length : Int)
          · rw [if_pos c4] at H
            have c4b0 : decide (x8_1 < (l0.length : Int)) = true := decide_eq_true c4
            clear c4
            replace H := Option.bind_eq_some_iff.mp H
            obtain ⟨t109, A50, H⟩ := H
            replace H : (if 0 ≤ (wrap64 ((((rd_T26 l0 x8_1).f1).length : Int) + t109)) then (if (wrap64 ((((rd_T26 l0 x8_1).f1).length : Int) + t109) : Int).toNat ≤ 281474976710656 then (if x3_1.length < 4398046511104 then (node_Size.l0 k1 (x3_1 ++ [(⟨0, (List.replicate (wrap64 ((((rd_T26 l0 x8_1).f1).length : Int) + t109) : Int).toNat 0)⟩ : S166)]) l0 (l0.length : Int) (wrap64 (x8_1 + 1))) else (none)) else (none)) else (none)) = some r := H
            have A5 := Aside0.mk A50
            clear A50
            obtain ⟨ji6, hji6⟩ : ∃ j_ : Int, (wrap64 ((((rd_T26 l0 x8_1).f1).length : Int) + t109)) = j_ := ⟨_, rfl⟩
            replace H : (if 0 ≤ (ji6) then (if (ji6 : Int).toNat ≤ 281474976710656 then (if x3_1.length < 4398046511104 then (node_Size.l0 k1 (x3_1 ++ [(⟨0, (List.replicate (ji6 : Int).toNat 0)⟩ : S166)]) l0 (l0.length : Int) (wrap64 (x8_1 + 1))) else (none)) else (none)) else (none)) = some r := by first | (rw [hji6] at H; exact H) | (simp only [hji6] at H ⊢; exact H)
            (try rw [hji6] at A5)
            have hji6w : (IntKind.i64.wrap ((((rd_T26 l0 x8_1).f1).length : Int) + t109)) = ji6 := (i64_w _).trans hji6
            by_cases c7 : 0 ≤ (ji6)
            · rw [if_pos c7] at H
              have c7b0 := eq_true c7
              have c7b1 : decide (0 ≤ (ji6)) = true := decide_eq_true c7
              clear c7
              by_cases c8 : (ji6 : Int).toNat ≤ 281474976710656
              · rw [if_pos c8] at H
                have c8b0 := eq_true c8
                have c8b1 : decide ((ji6 : Int).toNat ≤ 281474976710656) = true := decide_eq_true c8
                clear c8
                obtain ⟨y110, hy110⟩ : ∃ y_ : List Int, y_ = (List.replicate (ji6 : Int).toNat 0) := ⟨_, rfl⟩
                replace H : (if x3_1.length < 4398046511104 then (node_Size.l0 k1 (x3_1 ++ [(⟨0, y110⟩ : S166)]) l0 (l0.length : Int) (wrap64 (x8_1 + 1))) else (none)) = some r := by first | (rw [hy110]; with_reducible exact H) | (have H2_ := (Option.bind_some _ _).symm.trans H; rw [hy110]; with_reducible exact H2_) | (have H2_ := (Option.bind_some _ _).symm.trans H; with_reducible exact H2_) | with_reducible exact H | (rw [hy110]; exact H) | exact H
                have Ny110 := Aside0.mk hy110
                clear hy110
                by_cases c9 : x3_1.length < 4398046511104
                · rw [if_pos c9] at H
                  have LMc9 := Aside0.mk c9
                  clear c9
                  obtain ⟨y113, hy113⟩ : ∃ y_ : List (S166), y_ = (x3_1 ++ [(⟨0, y110⟩ : S166)]) := ⟨_, rfl⟩
                  replace H : (node_Size.l0 k1 y113 l0 (l0.length : Int) (wrap64 (x8_1 + 1))) = some r := by first | (rw [hy113]; with_reducible exact H) | (have H2_ := (Option.bind_some _ _).symm.trans H; rw [hy113]; with_reducible exact H2_) | (have H2_ := (Option.bind_some _ _).symm.trans H; with_reducible exact H2_) | with_reducible exact H | (rw [hy113]; exact H) | exact H
                  have Ny113 := Aside0.mk hy113
                  clear hy113
                  have H' := Aside0.mk H
                  clear H
                  have p107 : 0 ≤ (x8_1 : Int) := of_decide_eq_true (by first | (with_reducible assumption) | assumption)
                  have q107 : x8_1 < (l0.length : Int) := of_decide_eq_true (by first | (with_reducible assumption) | assumption)
                  obtain ⟨ad107, A107_1, c107_1, A107_2, c107_2, e107, hx107_0, hx107_1, hx107_2, hl107_1, hi107_1, hl107_2, hi107_2⟩ := at_T26 HR0.out x8_1 p107 q107
                  cases e107
                  replace hx107_0 := (HB.out.cell (World.block_lt_of_cell? w _ hx107_0)).trans hx107_0
                  replace hx107_1 := (HB.out.cell (World.block_lt_of_cell? w _ hx107_1)).trans hx107_1
                  replace hx107_2 := (HB.out.cell (World.block_lt_of_cell? w _ hx107_2)).trans hx107_2
                  have HR107_1 := Aside0.mk hi107_1
                  have HC107_1 := Aside0.mk hl107_1
                  clear hi107_1 hl107_1
                  have HR107_2 := Aside0.mk hi107_2
                  have HC107_2 := Aside0.mk hl107_2
                  clear hi107_2 hl107_2
                  replace p107 := eq_true p107
                  replace q107 := eq_true q107
                  try go_wp2_with (first | ((with_reducible refine gate_dst (N := 5) rfl ?_); refine box_event ?hg (N := 5) ?hd (cs := #[.int .u16 0, .slice none 0 0, .slice none 0 0]) (t := 26) ?hr ?_; (case hd => rfl); (case hg => rfl); (case hr => first | (go_simp; done) | (go_simp; rfl)); intro gb108 hg w10 hbox hb; have n0_ := Aside0.mk (Kd.S_below (by (with_reducible repeat (first | apply Kd.S_alloc | apply Kd.S_drewN | apply Kd.S_drew)); exact HO_3.out) hb); have n1_ := Aside0.mk (below_step (by repeat (first | (with_reducible first | exact HB.out | apply below_alloc | apply pw_below_drewN | apply below_drew1) | exact HB.out)) hb); have n2_ := Aside0.mk (hbox); have n3_ := Aside0.mk ((by rw [hg]; exact (below_size (by repeat (first | (with_reducible first | exact HB.out | apply below_alloc | apply pw_below_drewN | apply below_drew1) | exact HB.out))) : w.heap.size ≤ gb108)); have n4_ := Aside0.mk ((by rw [hg]; exact (below_size (by repeat (first | (with_reducible first | exact HB.out | apply below_alloc | apply pw_below_drewN | apply below_drew1) | exact HB.out))) : w.heap.size ≤ gb108)); clear HO_3; clear HB; have HO_3 := n0_; have HB := n1_; have BK108 := n2_; have GW108 := n3_; have GE108 := n4_; clear n0_ n1_ n2_ n3_ n4_; clear hb hbox hg; have hcz11_0 : w10.cell? ⟨gb108, 0, none⟩ = some (.int .u16 0) := (blk_cell BK108.out 0).trans rfl; have hcz11_1 : w10.cell? ⟨gb108, 1, none⟩ = some (.slice none 0 0) := (blk_cell BK108.out 1).trans rfl; have hcz11_2 : w10.cell? ⟨gb108, 2, none⟩ = some (.slice none 0 0) := (blk_cell BK108.out 2).trans rfl; have hfz11_0 := blk_frozen BK108.out 0; have hfz11_1 := blk_frozen BK108.out 1; have hfz11_2 := blk_frozen BK108.out 2))
                  have n0_ : Aside0 (Kd.S k166 166 (((w10.setCell ⟨gb108, 0, none⟩ (.int .u16 ((rd_T26 l0 x8_1).f0))).setCell ⟨gb108, 1, none⟩ (.slice A107_1 ((rd_T26 l0 x8_1).f1).length c107_1)).setCell ⟨gb108, 2, none⟩ (.slice A107_2 ((rd_T26 l0 x8_1).f2).length c107_2)) w.heap.size (fun _ => True) u3 x3_1) := ⟨by (with_reducible repeat (first | apply Kd.S_alloc | apply Kd.S_drewN | apply Kd.S_drew)); exact Kd.S_mono (Kd.S_far (p := ⟨gb108, 2, none⟩) (Kd.S_far (p := ⟨gb108, 1, none⟩) (Kd.S_far (p := ⟨gb108, 0, none⟩) (Kd.S_types HO_3.out BK108.out (by decide)) (fun _ hk => hk.2) (.int .u16 ((rd_T26 l0 x8_1).f0))) (fun _ hk => hk.2) (.slice A107_1 ((rd_T26 l0 x8_1).f1).length c107_1)) (fun _ hk => hk.2) (.slice A107_2 ((rd_T26 l0 x8_1).f2).length c107_2)) (fun _ hk => trivial)⟩
                  have n1_ : Aside0 ((((w10.setCell ⟨gb108, 0, none⟩ (.int .u16 ((rd_T26 l0 x8_1).f0))).setCell ⟨gb108, 1, none⟩ (.slice A107_1 ((rd_T26 l0 x8_1).f1).length c107_1)).setCell ⟨gb108, 2, none⟩ (.slice A107_2 ((rd_T26 l0 x8_1).f2).length c107_2)).heap[gb108]? = some (.cells #[.int .u16 ((rd_T26 l0 x8_1).f0), .slice A107_1 ((rd_T26 l0 x8_1).f1).length c107_1, .slice A107_2 ((rd_T26 l0 x8_1).f2).length c107_2] 26 (0, 0))) := ⟨by (with_reducible repeat (first | refine blk_drewN ?_ _ | refine blk_drew ?_ | refine blk_alloc ?_ _)); refine blk_put (cs := #[.int .u16 ((rd_T26 l0 x8_1).f0), .slice A107_1 ((rd_T26 l0 x8_1).f1).length c107_1, .slice none 0 0]) ?_ 2 _ rfl; (with_reducible repeat (first | refine blk_drewN ?_ _ | refine blk_drew ?_ | refine blk_alloc ?_ _)); refine blk_put (cs := #[.int .u16 ((rd_T26 l0 x8_1).f0), .slice none 0 0, .slice none 0 0]) ?_ 1 _ rfl; (with_reducible repeat (first | refine blk_drewN ?_ _ | refine blk_drew ?_ | refine blk_alloc ?_ _)); refine blk_put (cs := #[.int .u16 0, .slice none 0 0, .slice none 0 0]) ?_ 0 _ rfl; (with_reducible repeat (first | refine blk_drewN ?_ _ | refine blk_drew ?_ | refine blk_alloc ?_ _)); exact BK108.out⟩
                  have n2_ : Aside0 (Below w.heap.size w (((w10.setCell ⟨gb108, 0, none⟩ (.int .u16 ((rd_T26 l0 x8_1).f0))).setCell ⟨gb108, 1, none⟩ (.slice A107_1 ((rd_T26 l0 x8_1).f1).length c107_1)).setCell ⟨gb108, 2, none⟩ (.slice A107_2 ((rd_T26 l0 x8_1).f2).length c107_2))) := ⟨by repeat (first | (with_reducible first | exact HB.out | apply below_alloc | apply pw_below_drewN | apply below_drew1 | refine below_set ?_ GE108.out) | exact HB.out)⟩
                  (try clear HO_3)
                  (try clear BK108)
                  (try clear HB)
                  generalize (((w10.setCell ⟨gb108, 0, none⟩ (.int .u16 ((rd_T26 l0 x8_1).f0))).setCell ⟨gb108, 1, none⟩ (.slice A107_1 ((rd_T26 l0 x8_1).f1).length c107_1)).setCell ⟨gb108, 2, none⟩ (.slice A107_2 ((rd_T26 l0 x8_1).f2).length c107_2)) = w12 at n0_ n1_ n2_ ⊢
                  have HO_3 := n0_
                  have BK108 := n1_
                  have HB := n2_
                  clear n0_ n1_ n2_
                  have n0_ := Aside0.mk (Kd.S_drew HO_3.out)
                  have n1_ := Aside0.mk (blk_drew BK108.out)
                  have n2_ := Aside0.mk (below_drew1 HB.out)
                  clear HO_3
                  clear BK108
                  clear HB
                  have HO_3 := n0_
                  have BK108 := n1_
                  have HB := n2_
                  clear n0_ n1_ n2_
                  refine start_ (n := 13) (S := fun w' => w'.cell? ⟨gb108, 0, none⟩ = some (.int .u16 ((rd_T26 l0 x8_1).f0)) ∧ w'.cell? ⟨gb108, 1, none⟩ = some (.slice A107_1 ((rd_T26 l0 x8_1).f1).length c107_1) ∧ w'.cell? ⟨gb108, 2, none⟩ = some (.slice A107_2 ((rd_T26 l0 x8_1).f2).length c107_2)) (ds := []) #[false, false, false, false, false, false, false, false, false, false, false, false, false] (by kernel_rfl) rfl rfl ⟨(blk_cell BK108.out 0).trans rfl, (blk_cell BK108.out 1).trans rfl, (blk_cell BK108.out 2).trans rfl⟩ (fun hHeld => ?_); refine with_tabW node_Size.tab5 node_Size.bits5 (fun HT_ HW_ => ?_)
                  generalize w12.drew = w13 at HO_3 BK108 HB hHeld ⊢
                  refine pure_ (i := 0) (N := some 12) (v := ?_) (a' := ?_) #[true, false, false, false, false, false, false, false, false, false, false, false, false] rfl rfl (any_of HT_.out (by kernel_rfl)) (fun _ _ _ h => h) (Or.inl ⟨by rfl, ?_⟩) ?_ ?_
                  rotate_left
                  · intro w'
                    go_simp
                    with_reducible rfl
                  rotate_left
                  · simp only [Act.put, List.setIfInBounds_toArray, List.set_cons_zero, List.set_cons_succ, i64_w, i32_w]
                    rfl
                  refine pure_ (i := 1) (N := some 13) (v := ?_) (a' := ?_) #[true, true, false, false, false, false, false, false, false, false, false, false, false] rfl rfl (any_of HT_.out (by kernel_rfl)) (fun _ _ _ h => h) (Or.inl ⟨by rfl, ?_⟩) ?_ ?_
                  rotate_left
                  · intro w'
                    go_simp
                    with_reducible rfl
                  rotate_left
                  · simp only [Act.put, List.setIfInBounds_toArray, List.set_cons_zero, List.set_cons_succ, i64_w, i32_w]
                    rfl
                  refine pure_ (i := 4) (N := some 16) (v := ?_) (a' := ?_) #[true, true, false, false, true, false, false, false, false, false, false, false, false] rfl rfl (any_of HT_.out (by kernel_rfl)) (fun _ _ _ h => h) (Or.inl ⟨by rfl, ?_⟩) ?_ ?_
                  rotate_left
                  · intro w'
                    go_simp
                    with_reducible rfl
                  rotate_left
                  · simp only [Act.put, List.setIfInBounds_toArray, List.set_cons_zero, List.set_cons_succ, i64_w, i32_w]
                    rfl
                  refine take_ (i := 2) (N := some 14) (v := ?_) (a' := ?_) #[true, true, true, false, true, false, false, false, false, false, false, false, false] rfl rfl (take_ofW HT_.out HW_.out (by kernel_rfl)) (fun _ _ _ h => h) (Or.inl ⟨by rfl, ?_⟩) hHeld ?_ ?_
                  rotate_left
                  · rintro w' ⟨s0, s1, s2⟩
                    go_simp
                    with_reducible rfl
                  rotate_left
                  · simp only [Act.put, List.setIfInBounds_toArray, List.set_cons_zero, List.set_cons_succ, i64_w, i32_w]
                    rfl
                  refine pure_ (i := 3) (N := some 15) (v := ?_) (a' := ?_) #[true, true, true, true, true, false, false, false, false, false, false, false, false] rfl rfl (any_of HT_.out (by kernel_rfl)) (fun _ _ _ h => h) (Or.inl ⟨by rfl, ?_⟩) ?_ ?_
                  rotate_left
                  · intro w'
                    go_simp
                    with_reducible rfl
                  rotate_left
                  · simp only [Act.put, List.setIfInBounds_toArray, List.set_cons_zero, List.set_cons_succ, i64_w, i32_w]
                    rfl
                  refine take_ (i := 5) (N := some 17) (v := ?_) (a' := ?_) #[true, true, true, true, true, true, false, false, false, false, false, false, false] rfl rfl (take_ofW HT_.out HW_.out (by kernel_rfl)) (fun _ _ _ h => h) (Or.inl ⟨by rfl, ?_⟩) hHeld ?_ ?_
                  rotate_left
                  · rintro w' ⟨s0, s1, s2⟩
                    go_simp
                    with_reducible rfl
                  rotate_left
                  · simp only [Act.put, List.setIfInBounds_toArray, List.set_cons_zero, List.set_cons_succ, i64_w, i32_w]
                    rfl
                  refine one_ (i := 6) (N := some 18) #[true, true, true, true, true, true, true, false, false, false, false, false, false] rfl rfl (one_of HT_.out (by kernel_rfl)) (by decide) (fun K hK => ?_)
                  refine goes_ Tryz.func94 (by kernel_rfl) rfl #[.slice A107_2 ((rd_T26 l0 x8_1).f2).length c107_2] (by rfl) rfl rfl (by (try simp only [List.map_toArray, List.map_cons, List.map_nil]); first | done | rfl | (simp only [List.length_drop, List.length_take]; rfl)) ?_
                  with_reducible refine (ih k1 (by have := HK1.out; omega) _ _ ((rd_T26 l0 x8_1).f2) t109 _ ?side1 ?side2 A5.out).mono ?_
                  (case side1 => repeat (first | exact (Kd.C_below HR107_2.out HB.out) | (with_reducible refine Kd.C_alloc ?_ _) | (with_reducible refine Kd.C_drewN ?_ _) | (with_reducible refine Kd.C_drew ?_)))
                  (case side2 => exact HC107_2.out)
                  rintro e w14 ⟨rfl, hb⟩
                  refine ⟨_, rfl, ?_⟩
                  have n0_ := Aside0.mk (Kd.S_below (by (with_reducible repeat (first | apply Kd.S_alloc | apply Kd.S_drewN | apply Kd.S_drew)); exact HO_3.out) hb)
                  have n1_ := Aside0.mk (blk_below (g := gb108) (o := .cells #[.int .u16 ((rd_T26 l0 x8_1).f0), .slice A107_1 ((rd_T26 l0 x8_1).f1).length c107_1, .slice A107_2 ((rd_T26 l0 x8_1).f2).length c107_2] 26 (0, 0)) (by (with_reducible repeat (first | refine blk_drewN ?_ _ | refine blk_drew ?_ | refine blk_alloc ?_ _)); exact BK108.out) hb)
                  have n2_ := Aside0.mk (below_step (by repeat (first | (with_reducible first | exact HB.out | apply below_alloc | apply pw_below_drewN | apply below_drew1 | refine below_set ?_ GE108.out) | exact HB.out)) hb)
                  clear HO_3
                  clear BK108
                  clear HB
                  have HO_3 := n0_
                  have BK108 := n1_
                  have HB := n2_
                  clear n0_ n1_ n2_
                  (try clear hb)
                  (try clear hb2)
                  (try clear hk)
                  (try clear hi)
                  refine hK.out _ _ ⟨(blk_cell BK108.out 0).trans rfl, (blk_cell BK108.out 1).trans rfl, (blk_cell BK108.out 2).trans rfl⟩ (fun hHeld => ?_)
                  clear hK K
                  refine norm_ (a' := ?_) ?_ ?_
                  rotate_left
                  · show Act.put _ (some 18) _ = _
                    simp only [Act.put, List.setIfInBounds_toArray, List.set_cons_zero, List.set_cons_succ, i64_w, i32_w]
                    rfl
                  refine pure_ (i := 7) (N := some 19) (v := ?_) (a' := ?_) #[true, true, true, true, true, true, true, true, false, false, false, false, false] rfl rfl (any_of HT_.out (by kernel_rfl)) (fun _ _ _ h => h) (Or.inl ⟨by rfl, ?_⟩) ?_ ?_
                  rotate_left
                  · intro w'
                    go_simp
                    with_reducible rfl
                  rotate_left
                  · simp only [Act.put, List.setIfInBounds_toArray, List.set_cons_zero, List.set_cons_succ, i64_w, i32_w]
                    rfl
                  refine one_ (i := 8) (N := some 20) #[true, true, true, true, true, true, true, true, true, false, false, false, false] rfl rfl (one_of HT_.out (by kernel_rfl)) (by decide) (fun K hK => ?_)
                  refine Kd.R_make_step (Kd.int .u8) _ 5 (by rfl) (N := 20) rfl 23 _ _ rfl ji6 rfl rfl Tryz.underlying23 (.int .u8 0) 1 info5 rfl (by decide) (by omega) 0 (ok := fun _ => True) (okp := fun _ => True) rfl (fun _ hk => hk) trivial (of_decide_eq_true (by first | (with_reducible assumption) | assumption)) (Nat.le_trans (Nat.mul_le_mul_right _ (of_decide_eq_true (by first | (with_reducible assumption) | assumption) : ji6.toNat ≤ 281474976710656)) (by omega)) (Below.refl _ _) (Nat.le_refl _) ?_
                  intro v111 w15 ho16 hb hg_ hnew_
                  clear hg_ hnew_
                  (first | rw [← Ny110.out] at ho16 | (simp only [Int.reduceToNat] at ho16; rw [← Ny110.out] at ho16))
                  have n0_ := Aside0.mk (Kd.S_elder' (by (with_reducible repeat (first | apply Kd.S_alloc | apply Kd.S_drewN | apply Kd.S_drew)); exact HO_3.out) (Kd.R_base ho16) hb)
                  have n1_ := Aside0.mk (Kd.R_lower ho16 (below_size (by repeat (first | (with_reducible first | exact HB.out | apply below_alloc | apply pw_below_drewN | apply below_drew1 | refine below_set ?_ GE108.out) | exact HB.out))))
                  have n2_ := Aside0.mk (blk_below (g := gb108) (o := .cells #[.int .u16 ((rd_T26 l0 x8_1).f0), .slice A107_1 ((rd_T26 l0 x8_1).f1).length c107_1, .slice A107_2 ((rd_T26 l0 x8_1).f2).length c107_2] 26 (0, 0)) (by (with_reducible repeat (first | refine blk_drewN ?_ _ | refine blk_drew ?_ | refine blk_alloc ?_ _)); exact BK108.out) hb)
                  have n3_ := Aside0.mk (below_step (by repeat (first | (with_reducible first | exact HB.out | apply below_alloc | apply pw_below_drewN | apply below_drew1 | refine below_set ?_ GE108.out) | exact HB.out)) hb)
                  clear HO_3
                  clear BK108
                  clear HB
                  have HO_3 := n0_
                  have HO112 := n1_
                  have BK108 := n2_
                  have HB := n3_
                  clear n0_ n1_ n2_ n3_
                  clear hb ho16
                  obtain ⟨Ao17, co17, eo17⟩ := Kd.R_slice HO112.out
                  (first | subst eo17 | (injection eo17 with f1_ f2_ f3_; have f4_ := f1_.symm; have f5_ := f3_.symm; clear f1_ f2_ f3_; subst f4_; subst f5_))
                  refine hK.out _ _ ⟨(blk_cell BK108.out 0).trans rfl, (blk_cell BK108.out 1).trans rfl, (blk_cell BK108.out 2).trans rfl⟩ (fun hHeld => ?_)
                  clear hK K
                  refine norm_ (a' := ?_) ?_ ?_
                  rotate_left
                  · show Act.put _ (some 20) _ = _
                    simp only [Act.put, List.setIfInBounds_toArray, List.set_cons_zero, List.set_cons_succ, i64_w, i32_w]
                    rfl
                  refine pure_ (i := 9) (N := some 21) (v := ?_) (a' := ?_) #[true, true, true, true, true, true, true, true, true, true, false, false, false] rfl rfl (any_of HT_.out (by kernel_rfl)) (fun _ _ _ h => h) (Or.inl ⟨by rfl, ?_⟩) ?_ ?_
                  rotate_left
                  · intro w'
                    go_simp
                    with_reducible rfl
                  rotate_left
                  · simp only [Act.put, List.setIfInBounds_toArray, List.set_cons_zero, List.set_cons_succ, i64_w, i32_w]
                    rfl
                  refine one_ (i := 10) (N := some 22) #[true, true, true, true, true, true, true, true, true, true, true, false, false] rfl rfl (one_of HT_.out (by kernel_rfl)) (by decide) (fun K hK => ?_)
                  refine value_ (w1 := ?_) (v := ?_) (by rfl) rfl ?_ ?_
                  rotate_left 2
                  · go_simp
                    constructor
                    · rfl
                    · rfl
                  refine hK.out _ _ ⟨(blk_cell (blk_alloc BK108.out _) 0).trans rfl, (blk_cell (blk_alloc BK108.out _) 1).trans rfl, (blk_cell (blk_alloc BK108.out _) 2).trans rfl⟩ (fun hHeld => ?_)
                  clear hK K
                  refine norm_ (a' := ?_) ?_ ?_
                  rotate_left
                  · show Act.put _ (some 22) _ = _
                    simp only [Act.put, List.setIfInBounds_toArray, List.set_cons_zero, List.set_cons_succ, i64_w, i32_w]
                    rfl
                  refine one_ (i := 11) (N := some 23) #[true, true, true, true, true, true, true, true, true, true, true, true, false] rfl rfl (one_of HT_.out (by kernel_rfl)) (by decide) (fun K hK => ?_)
                  refine Kd.S_append_step k166 (w0 := w) w.heap.size (by rfl) (.tmp 12) (.tmp 22) 164 166 (.agg #[(.int .u16 0), (.slice none 0 0)]) 32 rfl Tryz.underlying164 info166 rfl (by decide) (by omega) u3 x3_1 (⟨0, y110⟩ : S166) [.int .u16 0, .slice Ao17 y110.length co17] (fun _ => True) (fun k_ => some k_ = (.slice Ao17 y110.length co17 : Value).ownBlock) rfl rfl ?aP (fun k_ hk_ => ((Kd.R_mono (ok' := fun k_ => ((fun _ => True)) k_ ∧ some k_ ≠ (u3 : Value).ownBlock) (Kd.R_apart' (HO112.out) (Kd.S_typed HO_3.out) (by decide)) (fun k_ hk => ⟨trivial, hk.2⟩))).1 k_ hk_.symm) ?aF ?aO ?aB ?aS ?aL ?_
                  (case aP => exact k166_mkM _ _ _ (⟨0, y110⟩ : S166) (Kd.R_mono (Kd.R_tight rfl (Kd.R_mono (ok' := fun k_ => ((fun _ => True)) k_ ∧ some k_ ≠ (u3 : Value).ownBlock) (Kd.R_apart' (HO112.out) (Kd.S_typed HO_3.out) (by decide)) (fun k_ hk => ⟨trivial, hk.2⟩))) (fun _ h_ => h_)))
                  (case aB => exact (by repeat (first | (with_reducible first | exact HB.out | apply below_alloc | apply pw_below_drewN | apply below_drew1 | refine below_set ?_ GE108.out) | exact HB.out)))
                  (case aF => exact (fun _ _ => trivial))
                  (case aO => exact (by (with_reducible repeat (first | apply Kd.S_alloc | apply Kd.S_drewN | apply Kd.S_drew)); exact Kd.S_mono HO_3.out (fun k_ hk => ⟨trivial, fun e_ => hk.2 e_⟩)))
                  (case aS => exact (below_size (by repeat (first | (with_reducible first | exact HB.out | apply below_alloc | apply pw_below_drewN | apply below_drew1 | refine below_set ?_ GE108.out) | exact HB.out))))
                  (case aL => have := LMc9.out; omega)
                  intro v114 w18 ho hb hg hat
                  rw [← Ny113.out] at ho
                  have n0_ := Aside0.mk (blk_grown (g := gb108) (o := .cells #[.int .u16 ((rd_T26 l0 x8_1).f0), .slice A107_1 ((rd_T26 l0 x8_1).f1).length c107_1, .slice A107_2 ((rd_T26 l0 x8_1).f2).length c107_2] 26 (0, 0)) (by (with_reducible repeat (first | refine blk_drewN ?_ _ | refine blk_drew ?_ | refine blk_alloc ?_ _)); exact BK108.out) hg (Kd.S_ne HO_3.out BK108.out (by decide)))
                  have n1_ := Aside0.mk (hb)
                  have n2_ := Aside0.mk (ho)
                  clear BK108
                  clear HB
                  clear HO_3
                  clear HO112
                  have BK108 := n0_
                  have HB := n1_
                  have HO115 := n2_
                  clear n0_ n1_ n2_
                  clear ho hb hg hat
                  refine hK.out _ _ ⟨(blk_cell BK108.out 0).trans rfl, (blk_cell BK108.out 1).trans rfl, (blk_cell BK108.out 2).trans rfl⟩ (fun hHeld => ?_)
                  clear hK K
                  refine norm_ (a' := ?_) ?_ ?_
                  rotate_left
                  · show Act.put _ (some 23) _ = _
                    simp only [Act.put, List.setIfInBounds_toArray, List.set_cons_zero, List.set_cons_succ, i64_w, i32_w]
                    rfl
                  refine pure_ (i := 12) (N := some 3) (v := ?_) (a' := ?_) #[true, true, true, true, true, true, true, true, true, true, true, true, true] rfl rfl (any_of HT_.out (by kernel_rfl)) (fun _ _ _ h => h) (Or.inl ⟨by rfl, ?_⟩) ?_ ?_
                  rotate_left
                  · intro w'
                    go_simp
                    with_reducible rfl
                  rotate_left
                  · simp only [Act.put, List.setIfInBounds_toArray, List.set_cons_zero, List.set_cons_succ, i64_w, i32_w]
                    rfl
                  refine done_ (done_of HT_.out (by kernel_rfl)) ?_
                  try go_wp2
                  go_roundg k1
                  case measure => have := HK1.out; omega
                  case rel => exact ⟨(y113), (wrap64 (x8_1 + 1)), (by first | rfl | (simp; done) | (simp [*]; done)), H', ⟨by have := HK1.out; omega⟩, ⟨by (with_reducible repeat (first | apply Kd.S_alloc | apply Kd.S_drewN | apply Kd.S_drew)); exact HO115.out⟩, ⟨by repeat (first | (with_reducible first | exact HB.out | apply below_alloc | apply pw_below_drewN | apply below_drew1 | refine below_set ?_ GE108.out) | exact HB.out)⟩⟩
                · rw [if_neg c9] at H
                  exact absurd H (by simp)
              · rw [if_neg c8] at H
                exact absurd H (by simp)
            · rw [if_neg c7] at H
              exact absurd H (by simp)
          · rw [if_neg c4] at H
            exact absurd H (by simp)
        · rw [if_neg c3] at H
          exact absurd H (by simp)
      · rw [if_neg c2] at H
        have c2b0 : decide (x8_1 < (l0.length : Int)) = false := decide_eq_false c2
        clear c2
        replace H := Option.bind_eq_some_iff.mp H
        obtain ⟨t116, A190, H⟩ := H
        replace H : (some t116) = some r := H
        have A19 := Aside0.mk A190
        clear A190
        obtain rfl := Option.some.inj H
        obtain ⟨Ao20, co20, eo20⟩ := Kd.S_slice HO_3.out
        subst eo20
        go_wp2_with (first | ((with_reducible refine gate_callee (f := 109) rfl ?_); refine goesL_ (some 26) rfl rfl Tryz.func109 (by kernel_rfl) rfl #[.slice Ao20 x3_1.length co20] rfl (by (try simp only [List.map_toArray, List.map_cons, List.map_nil]); first | done | rfl | (simp only [List.length_drop, List.length_take]; rfl)) ?_; (with_reducible refine (tlv_Size.calls k1 _ _ x3_1 t116 _ ?side1 ?side2 A19.out).mono ?_); (case side1 => repeat (first | exact (Kd.S_reads' HO_3.out).2.2 | (with_reducible refine Kd.C_alloc ?_ _) | (with_reducible refine Kd.C_drewN ?_ _) | (with_reducible refine Kd.C_drew ?_))); (case side2 => exact (Kd.S_reads' HO_3.out).2.1); rintro e w21 ⟨rfl, hb⟩; refine ⟨_, rfl, ?_⟩; have n0_ := Aside0.mk (Kd.S_below (by (with_reducible repeat (first | apply Kd.S_alloc | apply Kd.S_drewN | apply Kd.S_drew)); exact HO_3.out) hb); have n1_ := Aside0.mk (below_step (by repeat (first | (with_reducible first | exact HB.out | apply below_alloc | apply pw_below_drewN | apply below_drew1) | exact HB.out)) hb); clear HO_3; clear HB; have HO_3 := n0_; have HB := n1_; clear n0_ n1_; (try clear hb); (try clear hb2); (try clear hk); (try clear hi)))
        go_ret
        exact ⟨by first | rfl | (simp [errW_none, errW_some] <;> rfl) | (simp [*, errW_none, errW_some] <;> rfl), by repeat (first | (with_reducible first | exact HB.out | apply below_alloc | apply pw_below_drewN | apply below_drew1) | exact HB.out)⟩
end Go.Proofs.YtpgfhbdnlojdfaaGreatDoor.P
namespace Go.Proofs.YtpgfhbdnlojdfaaGreatDoor.P
open Go.RowKit Go.Proofs.YtpgfhbdnlojdfaaGreatDoorW.PrintWords Go.Proofs.YtpgfhbdnlojdfaaGreatDoorW.PrintLast Go.Proofs.YtpgfhbdnlojdfaaGreatDoorW.PrintMore
attribute [local go_sem] max2_int min2_int max_two min_two max_three min_three max_four min_four
set_option linter.unusedVariables false
set_option linter.unusedSimpArgs false
def wharfref03_Gap.l0 : Nat → Int → Int → Option (Int)
  | 0, _, _ => none
  | k + 1, x0, x3 => if (Int.tmod (wrap64 (x0 + x3)) 4) = 0 then (some x3) else (wharfref03_Gap.l0 k x0 (wrap64 (x3 + 1)))
def wharfref03_Gap.f (k : Nat) (a0 : Int) : Option (Int) := wharfref03_Gap.l0 k a0 0
end Go.Proofs.YtpgfhbdnlojdfaaGreatDoor.P
namespace Go.Proofs.YtpgfhbdnlojdfaaGreatDoor.P
open Go.RowKit Go.Proofs.YtpgfhbdnlojdfaaGreatDoorW.PrintWords Go.Proofs.YtpgfhbdnlojdfaaGreatDoorW.PrintLast Go.Proofs.YtpgfhbdnlojdfaaGreatDoorW.PrintMore
attribute [local go_sem] max2_int min2_int max_two min_two max_three min_three max_four min_four
set_option linter.unusedVariables false
set_option linter.unusedSimpArgs false
mutual
def wharfref08_Size.l0 : Nat → List (S26) → Int → Int → Option (Int)
  | 0, _, _, _ => none
  | k + 1, x0, x3, x4 => if x4 < (x0.length : Int) then (if 0 ≤ x4 then ((wharfref08_Size.f k ((rd_T26 x0 x4).f2)).bind fun t351 => (if x4 < (wrap64 ((x0.length : Int) - 1)) then ((wharfref03_Gap.f k (wrap64 ((wrap64 (4 + (((rd_T26 x0 x4).f1).length : Int))) + t351))).bind fun t352 => (wharfref08_Size.l0 k x0 (wrap64 ((wrap64 (x3 + (wrap64 ((wrap64 (4 + (((rd_T26 x0 x4).f1).length : Int))) + t351)))) + t352)) (wrap64 (x4 + 1)))) else (wharfref08_Size.l0 k x0 (wrap64 (x3 + (wrap64 ((wrap64 (4 + (((rd_T26 x0 x4).f1).length : Int))) + t351)))) (wrap64 (x4 + 1))))) else (none)) else (some x3)
def wharfref08_Size.f : Nat → List (S26) → Option (Int)
  | 0, _ => none
  | k + 1, l0 => wharfref08_Size.l0 k l0 0 0
end
end Go.Proofs.YtpgfhbdnlojdfaaGreatDoor.P
namespace Go.Proofs.YtpgfhbdnlojdfaaGreatDoor.P
open Go.RowKit Go.Proofs.YtpgfhbdnlojdfaaGreatDoorW.PrintWords Go.Proofs.YtpgfhbdnlojdfaaGreatDoorW.PrintLast Go.Proofs.YtpgfhbdnlojdfaaGreatDoorW.PrintMore
set_option linter.unusedVariables false
theorem w64 {n : Int} (h0 : -9223372036854775808 ≤ n) (h1 : n ≤ 9223372036854775807) : wrap64 n = n := by unfold wrap64; omega
theorem rdN_at (l : List S26) (k : Nat) (h : k < l.length) : rd_T26 l (k : Int) = l[k] := by
  unfold rd_T26
  rw [Int.toNat_natCast, List.getD_eq_getElem?_getD, List.getElem?_eq_getElem h]; rfl
mutual
def ctN : S26 → Nat
  | ⟨_, _, k⟩ => 1 + ctL k
def ctL : List S26 → Nat
  | [] => 0
  | x :: l => ctN x + ctL l
end
mutual
def szN : S26 → Nat
  | ⟨_, d, k⟩ => 4 + d.length + szL k
def szL : List S26 → Nat
  | [] => 0
  | x :: l => szN x + (if l.isEmpty then 0 else (4 - szN x % 4) % 4) + szL l
end
theorem ctN_eq (x : S26) : ctN x = 1 + ctL x.f2 := by cases x; rw [ctN]
theorem szN_eq (x : S26) : szN x = 4 + x.f1.length + szL x.f2 := by cases x; rw [szN]
theorem ctL_cons (x : S26) (l : List S26) : ctL (x :: l) = ctN x + ctL l := by rw [ctL]
theorem szL_cons (x : S26) (l : List S26) : szL (x :: l) = szN x + (if l.isEmpty then 0 else (4 - szN x % 4) % 4) + szL l := by rw [szL]
theorem szL_len (l : List S26) : 4 * l.length ≤ szL l := by
  induction l with
  | nil => simp [szL]
  | cons x l ih => rw [szL_cons, szN_eq]; simp; omega
theorem ct_mem {x : S26} {l : List S26} (h : x ∈ l) : ctN x ≤ ctL l := by
  induction l with
  | nil => cases h
  | cons y l ih =>
    rw [ctL_cons]
    rcases List.mem_cons.1 h with rfl | h
    · omega
    · have := ih h; omega
theorem sz_mem {x : S26} {l : List S26} (h : x ∈ l) : szN x ≤ szL l := by
  induction l with
  | nil => cases h
  | cons y l ih =>
    rw [szL_cons]
    rcases List.mem_cons.1 h with rfl | h
    · omega
    · have := ih h; omega
theorem sizes_szL : ∀ (l : List S26) (s : Int), 0 ≤ s → (l.map fun x => (szN x : Int)).foldl (fun s n => upN s + n) s = if l.isEmpty then s else upN s + (szL l : Int)
  | [], s, hs => by simp
  | [x], s, hs => by simp [szL]
  | x :: y :: l, s, hs => by
    have ih := sizes_szL (y :: l) (upN s + szN x) (by have := upN_le s hs; omega)
    rw [List.map_cons, List.foldl_cons, ih]
    rw [szL_cons x]
    simp only [List.isEmpty_cons, if_false, Bool.false_eq_true]
    unfold upN
    omega
theorem sizesN_szL (l : List S26) : sizesN (l.map fun x => (szN x : Int)) = (szL l : Int) := by
  unfold sizesN
  rw [sizes_szL l 0 (Int.le_refl _)]
  cases l with
  | nil => simp [szL]
  | cons x l => simp [upN]
def frameZ (x : S26) : S166 := ⟨0, List.replicate (x.f1.length + szL x.f2) 0⟩
theorem tlvSize_ev (l : List S26) (hs : szL l ≤ 4194304) : Ev (fun k => tlv_Size.f k (l.map frameZ)) (szL l : Int) := by
  have hll := szL_len l
  have hok : okSizes (l.map fun x => (szN x : Int)) = true := by
    unfold okSizes
    simp only [Bool.and_eq_true, decide_eq_true_eq, List.all_eq_true, List.length_map]
    refine ⟨by omega, fun n hn => ?_⟩
    obtain ⟨x, hx, rfl⟩ := List.mem_map.1 hn
    have := sz_mem hx
    omega
  have key : ∀ (m i : Nat), l.length - i = m → i ≤ l.length → Ev (fun k => tlv_Size.l0 k ((l.take i).map fun x => (szN x : Int)) (l.map frameZ) (l.length : Int) (i : Int)) (szL l : Int) := by
    intro m
    induction m with
    | zero =>
      intro i hm hi
      have e : ∀ k, tlv_Size.l0 (k + 1) ((l.take i).map fun x => (szN x : Int)) (l.map frameZ) (l.length : Int) (i : Int) = some (szL l : Int) := fun k => by
        rw [tlv_Size.l0, if_neg (by omega), List.take_of_length_le (by omega)]
        unfold pad_Sizes.f
        rw [if_pos hok, sizesN_szL]; rfl
      exact Ev.step (f := fun _ => some (szL l : Int)) e (Ev.now _)
    | succ m ihm =>
      intro i hm hi
      have hlt : i < l.length := by omega
      have hlt2 : i < (l.map frameZ).length := by rw [List.length_map]; exact hlt
      have hmem := sz_mem (List.getElem_mem hlt)
      have hx := szN_eq l[i]
      have hrd : rd_T166 (l.map frameZ) (i : Int) = frameZ l[i] := by
        unfold rd_T166
        rw [Int.toNat_natCast, List.getD_eq_getElem?_getD, List.getElem?_eq_getElem hlt2]; simp
      have e : ∀ k, tlv_Size.l0 (k + 1) ((l.take i).map fun x => (szN x : Int)) (l.map frameZ) (l.length : Int) (i : Int) = tlv_Size.l0 k ((l.take (i + 1)).map fun x => (szN x : Int)) (l.map frameZ) (l.length : Int) ((i + 1 : Nat) : Int) := fun k => by
        rw [tlv_Size.l0, if_pos (by omega), if_pos (by omega), if_pos (by rw [List.length_map]; omega), if_pos (by rw [List.length_map, List.length_take]; omega), hrd, List.take_succ_eq_append_getElem hlt, List.map_append]
        unfold frameZ
        rw [List.length_replicate, w64 (by omega) (by omega), w64 (by omega) (by omega)]
        rw [show (4 : Int) + ((l[i].f1.length + szL l[i].f2 : Nat) : Int) = (szN l[i] : Int) by omega]
        rfl
      exact Ev.step e (ihm (i + 1) (by omega) (by omega))
  have h0 := key l.length 0 rfl (Nat.zero_le _)
  refine Ev.congr (fun k => ?_) h0
  unfold tlv_Size.f
  rw [List.length_map]; rfl
theorem nodeSize_ev : ∀ (c : Nat) (l : List S26), ctL l ≤ c → szL l ≤ 4194304 → Ev (fun k => node_Size.f k l) (szL l : Int) := by
  intro c
  induction c with
  | zero =>
    intro l hc hs
    cases l with
    | cons x l => rw [ctL_cons, ctN_eq] at hc; omega
    | nil =>
      refine Ev.step (f := fun k => node_Size.l0 k [] [] 0 0) (fun k => rfl) ?_
      refine Ev.step (f := fun k => (tlv_Size.f k []).bind fun t => some t) (fun k => rfl) ?_
      exact Ev.bind (tlvSize_ev [] hs) (Ev.now _)
  | succ c ih =>
    intro l hc hs
    refine Ev.step (f := fun k => node_Size.l0 k [] l (l.length : Int) 0) (fun k => rfl) ?_
    have hll := szL_len l
    have key : ∀ (m i : Nat), l.length - i = m → i ≤ l.length → Ev (fun k => node_Size.l0 k ((l.take i).map frameZ) l (l.length : Int) (i : Int)) (szL l : Int) := by
      intro m
      induction m with
      | zero =>
        intro i hm hi
        have e : ∀ k, node_Size.l0 (k + 1) ((l.take i).map frameZ) l (l.length : Int) (i : Int) = (tlv_Size.f k (l.map frameZ)).bind fun t => some t := fun k => by
          rw [node_Size.l0, if_neg (by omega), List.take_of_length_le (by omega)]
        exact Ev.step e (Ev.bind (tlvSize_ev l hs) (Ev.now _))
      | succ m ihm =>
        intro i hm hi
        have hlt : i < l.length := by omega
        have hmem := sz_mem (List.getElem_mem hlt)
        have hx := szN_eq l[i]
        have hct := ct_mem (List.getElem_mem hlt)
        rw [ctN_eq] at hct
        have e : ∀ k, node_Size.l0 (k + 1) ((l.take i).map frameZ) l (l.length : Int) (i : Int) = (node_Size.f k l[i].f2).bind fun t => (if 0 ≤ (wrap64 (((l[i].f1).length : Int) + t)) then (if (wrap64 (((l[i].f1).length : Int) + t) : Int).toNat ≤ 281474976710656 then (if ((l.take i).map frameZ).length < 4398046511104 then (node_Size.l0 k ((l.take i).map frameZ ++ [(⟨0, (List.replicate (wrap64 (((l[i].f1).length : Int) + t) : Int).toNat 0)⟩ : S166)]) l (l.length : Int) (wrap64 ((i : Int) + 1))) else (none)) else (none)) else (none)) := fun k => by
          rw [node_Size.l0, if_pos (by omega), if_pos (by omega), if_pos (by omega), rdN_at l i hlt]
        refine Ev.step e (Ev.bind (ih l[i].f2 (by omega) (by omega)) ?_)
        rw [w64 (n := ((l[i].f1).length : Int) + (szL l[i].f2 : Int)) (by omega) (by omega), w64 (n := (i : Int) + 1) (by omega) (by omega)]
        refine Ev.congr (fun k => (if_pos (by omega)).trans ((if_pos (by omega)).trans (if_pos (by rw [List.length_map, List.length_take]; omega)))) ?_
        have := ihm (i + 1) (by omega) (by omega)
        rw [List.take_succ_eq_append_getElem hlt, List.map_append] at this
        rw [show (((l[i].f1).length : Int) + (szL l[i].f2 : Int)).toNat = l[i].f1.length + szL l[i].f2 by omega]
        exact this
    exact key l.length 0 rfl (Nat.zero_le _)
end Go.Proofs.YtpgfhbdnlojdfaaGreatDoor.P
