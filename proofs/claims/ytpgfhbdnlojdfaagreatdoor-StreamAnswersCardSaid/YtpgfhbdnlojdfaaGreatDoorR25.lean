/- Packed by wip/tools/pack.py out of MCheckR, MNodeR, Fwharfref17Is, Fwharfref17Seq. -/
import Derived.Deep.DeepMust
import Derived.Deep.RegionHeld3
import Derived.IntWalk
import Derived.Test.YtpgfhbdnlojdfaaGreatDoorR24
import Derived.Test.YtpgfhbdnlojdfaaGreatDoorR18
import Derived.Test.YtpgfhbdnlojdfaaGreatDoorR08
import Derived.Test.YtpgfhbdnlojdfaaGreatDoorR07
namespace Go.Proofs.YtpgfhbdnlojdfaaGreatDoor.P
open Go.RowKit Go.Proofs.YtpgfhbdnlojdfaaGreatDoorW.PrintWords Go.Proofs.YtpgfhbdnlojdfaaGreatDoorW.PrintLast Go.Proofs.YtpgfhbdnlojdfaaGreatDoorW.PrintMore
set_option linter.unusedVariables false
set_option linter.unusedSimpArgs false
theorem wp_below {P : Program} {c : Code} {Q : Exit → Act → World → Prop} {a A : Act} {w : World} (m : Nat) (W0 : World) (h1 : c.wp P (Norm (fun _ a' w' => a' = A ∧ Below m W0 w')) a w) (h2 : ∀ w', Below m W0 w' → Q .normal A w') : c.wp P Q a w :=
  wp_mono h1 (fun e a' w' hq => by cases e <;> first | (obtain ⟨rfl, hb⟩ := hq; exact h2 _ hb) | exact hq.elim)
def Both (c t : Int) : Prop := c = 2 ∧ t = 2
set_option maxRecDepth 100000 in
set_option maxHeartbeats 8000000 in
theorem checkR.deep (c : Int) (n : S26) (A1 A2 : Option Addr) (c1 c2 : Nat) (w : World) :
    Calls Tryz.prog 39 #[.int .i64 c, .agg #[.int .u16 n.f0, .slice A1 n.f1.length c1, .slice A2 n.f2.length c2], .int .i64 5] w fun e w' => e = .returned (.int .i64 9) ∧ Below w.heap.size w w' := by
  go_enter Tryz.func39, Tryz.ntmps39
  go_wp2
  go_ret
  exact ⟨rfl, (Below.refl _ w).alloc (Nat.le_refl _) _⟩
set_option maxRecDepth 100000 in
set_option maxHeartbeats 8000000 in
theorem checkR.form (dp : Int) (hdp : dp ≤ 4) (c : Int) (n : S26) (A1 A2 : Option Addr) (c1 c2 : Nat) (w : World) (r1 r2 : Int) (r3 : ByteArray) (r4 r5 r6 r7 : Int) (b1 b2 : Bool)
    (HOF : Aside0 (∀ W, Calls Tryz.prog 72 #[.int .i64 c, .int .u16 n.f0] W fun e w' => e = .returned (.agg #[.int .i64 r1, .int .u16 r2, .string r3, .int .i64 r4, .int .i64 r5, .int .i64 r6, .int .i64 r7]) ∧ Below W.heap.size W w'))
    (HFI : Aside0 (0 < r1 → ∀ W, Calls Tryz.prog 73 #[.agg #[.int .i64 r1, .int .u16 r2, .string r3, .int .i64 r4, .int .i64 r5, .int .i64 r6, .int .i64 r7], .int .i64 (n.f1.length : Int)] W fun e w' => e = .returned (.bool b1) ∧ Below W.heap.size W w'))
    (HR2 : Aside0 (Kd.C k26 w A2 n.f2.length n.f2)) (HR1 : Aside0 (Kd.C (Kd.int .u8) w A1 n.f1.length n.f1))
    (HKI : Aside0 (0 < r1 → ∀ W, Kd.C k26 W A2 n.f2.length n.f2 → Calls Tryz.prog 74 #[.agg #[.int .i64 r1, .int .u16 r2, .string r3, .int .i64 r4, .int .i64 r5, .int .i64 r6, .int .i64 r7], .slice A2 n.f2.length c2] W fun e w' => e = .returned (.bool b2) ∧ Below W.heap.size W w'))
    (hbad : (r1 = 0 ∧ n.f2.length ≠ 0) ∨ (0 < r1 ∧ (b1 = false ∨ b2 = false))) :
    Calls Tryz.prog 39 #[.int .i64 c, .agg #[.int .u16 n.f0, .slice A1 n.f1.length c1, .slice A2 n.f2.length c2], .int .i64 dp] w fun e w' => e = .returned (.int .i64 7) ∧ Below w.heap.size w w' := by
  have hl : n.f2.length ≠ 0 → 0 < n.f2.length := by omega
  rcases hbad with ⟨hr, h⟩ | ⟨hr, hbb⟩
  · have h2 := hl h
    have hr0 : (r1 == 0) = true := by simp [hr]
    have hr1 : decide (0 < r1) = false := by simp [hr]
    clear hl h hr
    go_enter Tryz.func39, Tryz.ntmps39
    go_wp2_with (first | (go_at_call 72; refine (HOF.out _).mono ?_; rintro e w1 ⟨rfl, hb⟩; have BK4 := Aside0.mk (blk_below (heap_alloc_new w (.cells #[.int .u16 n.f0, .slice A1 n.f1.length c1, .slice A2 n.f2.length c2] 26)) hb); have HB := Aside0.mk (((Below.refl _ w).alloc (Nat.le_refl _) _).trans (hb.mono (by simp))); have HW1 := Aside0.mk HB.out.size; have q40 := (blk_cell (blk_alloc BK4.out (.cells #[.int .i64 r1, .int .u16 r2, .string r3, .int .i64 r4, .int .i64 r5, .int .i64 r6, .int .i64 r7] 106)) 0).trans (show _ = some (Value.int .u16 n.f0) from rfl); have q41 := (blk_cell (blk_alloc BK4.out (.cells #[.int .i64 r1, .int .u16 r2, .string r3, .int .i64 r4, .int .i64 r5, .int .i64 r6, .int .i64 r7] 106)) 1).trans (show _ = some (Value.slice A1 n.f1.length c1) from rfl); have q42 := (blk_cell (blk_alloc BK4.out (.cells #[.int .i64 r1, .int .u16 r2, .string r3, .int .i64 r4, .int .i64 r5, .int .i64 r6, .int .i64 r7] 106)) 2).trans (show _ = some (Value.slice A2 n.f2.length c2) from rfl); clear hb) | (go_at_call 73; refine (HFI.out (by first | assumption | trivial) _).mono ?_; rintro e w2 ⟨rfl, hb⟩; (first | (have n4 := Aside0.mk (blk_below BK4.out hb); have n7 := Aside0.mk (blk_below BK7.out hb); have nb := Aside0.mk (HB.out.trans (hb.mono HB.out.size)); (try clear q40 q41 q42); (try clear q70 q71 q72 q73 q74 q75 q76); clear BK4 BK7 HB; have BK4 := n4; have BK7 := n7; have HB := nb; clear n4 n7 nb) | (have n4 := Aside0.mk (blk_below (blk_alloc BK4.out (.cells #[.int .i64 r1, .int .u16 r2, .string r3, .int .i64 r4, .int .i64 r5, .int .i64 r6, .int .i64 r7] 106)) hb); have n7 := Aside0.mk (blk_below (heap_alloc_new w1 (.cells #[.int .i64 r1, .int .u16 r2, .string r3, .int .i64 r4, .int .i64 r5, .int .i64 r6, .int .i64 r7] 106)) hb); have nb := Aside0.mk ((HB.out.alloc HB.out.size (.cells #[.int .i64 r1, .int .u16 r2, .string r3, .int .i64 r4, .int .i64 r5, .int .i64 r6, .int .i64 r7] 106)).trans (hb.mono (by have := HB.out.size; simp; omega))); (try clear q40 q41 q42); (try clear q70 q71 q72 q73 q74 q75 q76); clear BK4 HB; have BK4 := n4; have BK7 := n7; have HB := nb; clear n4 n7 nb)); have q40 := (blk_cell BK4.out 0).trans (show _ = some (Value.int .u16 n.f0) from rfl); have q41 := (blk_cell BK4.out 1).trans (show _ = some (Value.slice A1 n.f1.length c1) from rfl); have q42 := (blk_cell BK4.out 2).trans (show _ = some (Value.slice A2 n.f2.length c2) from rfl); have q70 := (blk_cell BK7.out 0).trans (show _ = some (Value.int .i64 r1) from rfl); have q71 := (blk_cell BK7.out 1).trans (show _ = some (Value.int .u16 r2) from rfl); have q72 := (blk_cell BK7.out 2).trans (show _ = some (Value.string r3) from rfl); have q73 := (blk_cell BK7.out 3).trans (show _ = some (Value.int .i64 r4) from rfl); have q74 := (blk_cell BK7.out 4).trans (show _ = some (Value.int .i64 r5) from rfl); have q75 := (blk_cell BK7.out 5).trans (show _ = some (Value.int .i64 r6) from rfl); have q76 := (blk_cell BK7.out 6).trans (show _ = some (Value.int .i64 r7) from rfl); clear hb) | (go_at_call 74; refine (HKI.out (by first | assumption | trivial) _ (Kd.C_below HR2.out HB.out)).mono ?_; rintro e w3 ⟨rfl, hb⟩; (first | (have n4 := Aside0.mk (blk_below BK4.out hb); have n7 := Aside0.mk (blk_below BK7.out hb); have nb := Aside0.mk (HB.out.trans (hb.mono HB.out.size)); (try clear q40 q41 q42); (try clear q70 q71 q72 q73 q74 q75 q76); clear BK4 BK7 HB; have BK4 := n4; have BK7 := n7; have HB := nb; clear n4 n7 nb) | (have n4 := Aside0.mk (blk_below (blk_alloc BK4.out (.cells #[.int .i64 r1, .int .u16 r2, .string r3, .int .i64 r4, .int .i64 r5, .int .i64 r6, .int .i64 r7] 106)) hb); have n7 := Aside0.mk (blk_below (heap_alloc_new w1 (.cells #[.int .i64 r1, .int .u16 r2, .string r3, .int .i64 r4, .int .i64 r5, .int .i64 r6, .int .i64 r7] 106)) hb); have nb := Aside0.mk ((HB.out.alloc HB.out.size (.cells #[.int .i64 r1, .int .u16 r2, .string r3, .int .i64 r4, .int .i64 r5, .int .i64 r6, .int .i64 r7] 106)).trans (hb.mono (by have := HB.out.size; simp; omega))); (try clear q40 q41 q42); (try clear q70 q71 q72 q73 q74 q75 q76); clear BK4 HB; have BK4 := n4; have BK7 := n7; have HB := nb; clear n4 n7 nb)); have q40 := (blk_cell BK4.out 0).trans (show _ = some (Value.int .u16 n.f0) from rfl); have q41 := (blk_cell BK4.out 1).trans (show _ = some (Value.slice A1 n.f1.length c1) from rfl); have q42 := (blk_cell BK4.out 2).trans (show _ = some (Value.slice A2 n.f2.length c2) from rfl); have q70 := (blk_cell BK7.out 0).trans (show _ = some (Value.int .i64 r1) from rfl); have q71 := (blk_cell BK7.out 1).trans (show _ = some (Value.int .u16 r2) from rfl); have q72 := (blk_cell BK7.out 2).trans (show _ = some (Value.string r3) from rfl); have q73 := (blk_cell BK7.out 3).trans (show _ = some (Value.int .i64 r4) from rfl); have q74 := (blk_cell BK7.out 4).trans (show _ = some (Value.int .i64 r5) from rfl); have q75 := (blk_cell BK7.out 5).trans (show _ = some (Value.int .i64 r6) from rfl); have q76 := (blk_cell BK7.out 6).trans (show _ = some (Value.int .i64 r7) from rfl); clear hb) | (go_at_call 75; refine (HCO.out HBo.out _ (Kd.C_below HR1.out (by first | exact HB.out | exact HB.out.alloc HB.out.size _))).mono ?_; rintro e w4 ⟨rfl, hb⟩; (first | (have n4 := Aside0.mk (blk_below BK4.out hb); have n7 := Aside0.mk (blk_below BK7.out hb); have nb := Aside0.mk (HB.out.trans (hb.mono HB.out.size)); (try clear q40 q41 q42); (try clear q70 q71 q72 q73 q74 q75 q76); clear BK4 BK7 HB; have BK4 := n4; have BK7 := n7; have HB := nb; clear n4 n7 nb) | (have n4 := Aside0.mk (blk_below (blk_alloc BK4.out (.cells #[.int .i64 r1, .int .u16 r2, .string r3, .int .i64 r4, .int .i64 r5, .int .i64 r6, .int .i64 r7] 106)) hb); have n7 := Aside0.mk (blk_below (heap_alloc_new w1 (.cells #[.int .i64 r1, .int .u16 r2, .string r3, .int .i64 r4, .int .i64 r5, .int .i64 r6, .int .i64 r7] 106)) hb); have nb := Aside0.mk ((HB.out.alloc HB.out.size (.cells #[.int .i64 r1, .int .u16 r2, .string r3, .int .i64 r4, .int .i64 r5, .int .i64 r6, .int .i64 r7] 106)).trans (hb.mono (by have := HB.out.size; simp; omega))); (try clear q40 q41 q42); (try clear q70 q71 q72 q73 q74 q75 q76); clear BK4 HB; have BK4 := n4; have BK7 := n7; have HB := nb; clear n4 n7 nb)); have q40 := (blk_cell BK4.out 0).trans (show _ = some (Value.int .u16 n.f0) from rfl); have q41 := (blk_cell BK4.out 1).trans (show _ = some (Value.slice A1 n.f1.length c1) from rfl); have q42 := (blk_cell BK4.out 2).trans (show _ = some (Value.slice A2 n.f2.length c2) from rfl); have q70 := (blk_cell BK7.out 0).trans (show _ = some (Value.int .i64 r1) from rfl); have q71 := (blk_cell BK7.out 1).trans (show _ = some (Value.int .u16 r2) from rfl); have q72 := (blk_cell BK7.out 2).trans (show _ = some (Value.string r3) from rfl); have q73 := (blk_cell BK7.out 3).trans (show _ = some (Value.int .i64 r4) from rfl); have q74 := (blk_cell BK7.out 4).trans (show _ = some (Value.int .i64 r5) from rfl); have q75 := (blk_cell BK7.out 5).trans (show _ = some (Value.int .i64 r6) from rfl); have q76 := (blk_cell BK7.out 6).trans (show _ = some (Value.int .i64 r7) from rfl); clear hb))
    go_ret
    exact ⟨rfl, by first | exact HB.out | exact HB.out.alloc HB.out.size _⟩
  · have hr0 : (r1 == 0) = false := by simp; omega
    clear hl
    rcases hbb with rfl | rfl
    · go_enter Tryz.func39, Tryz.ntmps39
      go_wp2_with (first | (go_at_call 72; refine (HOF.out _).mono ?_; rintro e w1 ⟨rfl, hb⟩; have BK4 := Aside0.mk (blk_below (heap_alloc_new w (.cells #[.int .u16 n.f0, .slice A1 n.f1.length c1, .slice A2 n.f2.length c2] 26)) hb); have HB := Aside0.mk (((Below.refl _ w).alloc (Nat.le_refl _) _).trans (hb.mono (by simp))); have HW1 := Aside0.mk HB.out.size; have q40 := (blk_cell (blk_alloc BK4.out (.cells #[.int .i64 r1, .int .u16 r2, .string r3, .int .i64 r4, .int .i64 r5, .int .i64 r6, .int .i64 r7] 106)) 0).trans (show _ = some (Value.int .u16 n.f0) from rfl); have q41 := (blk_cell (blk_alloc BK4.out (.cells #[.int .i64 r1, .int .u16 r2, .string r3, .int .i64 r4, .int .i64 r5, .int .i64 r6, .int .i64 r7] 106)) 1).trans (show _ = some (Value.slice A1 n.f1.length c1) from rfl); have q42 := (blk_cell (blk_alloc BK4.out (.cells #[.int .i64 r1, .int .u16 r2, .string r3, .int .i64 r4, .int .i64 r5, .int .i64 r6, .int .i64 r7] 106)) 2).trans (show _ = some (Value.slice A2 n.f2.length c2) from rfl); clear hb) | (go_at_call 73; refine (HFI.out (by first | assumption | trivial) _).mono ?_; rintro e w2 ⟨rfl, hb⟩; (first | (have n4 := Aside0.mk (blk_below BK4.out hb); have n7 := Aside0.mk (blk_below BK7.out hb); have nb := Aside0.mk (HB.out.trans (hb.mono HB.out.size)); (try clear q40 q41 q42); (try clear q70 q71 q72 q73 q74 q75 q76); clear BK4 BK7 HB; have BK4 := n4; have BK7 := n7; have HB := nb; clear n4 n7 nb) | (have n4 := Aside0.mk (blk_below (blk_alloc BK4.out (.cells #[.int .i64 r1, .int .u16 r2, .string r3, .int .i64 r4, .int .i64 r5, .int .i64 r6, .int .i64 r7] 106)) hb); have n7 := Aside0.mk (blk_below (heap_alloc_new w1 (.cells #[.int .i64 r1, .int .u16 r2, .string r3, .int .i64 r4, .int .i64 r5, .int .i64 r6, .int .i64 r7] 106)) hb); have nb := Aside0.mk ((HB.out.alloc HB.out.size (.cells #[.int .i64 r1, .int .u16 r2, .string r3, .int .i64 r4, .int .i64 r5, .int .i64 r6, .int .i64 r7] 106)).trans (hb.mono (by have := HB.out.size; simp; omega))); (try clear q40 q41 q42); (try clear q70 q71 q72 q73 q74 q75 q76); clear BK4 HB; have BK4 := n4; have BK7 := n7; have HB := nb; clear n4 n7 nb)); have q40 := (blk_cell BK4.out 0).trans (show _ = some (Value.int .u16 n.f0) from rfl); have q41 := (blk_cell BK4.out 1).trans (show _ = some (Value.slice A1 n.f1.length c1) from rfl); have q42 := (blk_cell BK4.out 2).trans (show _ = some (Value.slice A2 n.f2.length c2) from rfl); have q70 := (blk_cell BK7.out 0).trans (show _ = some (Value.int .i64 r1) from rfl); have q71 := (blk_cell BK7.out 1).trans (show _ = some (Value.int .u16 r2) from rfl); have q72 := (blk_cell BK7.out 2).trans (show _ = some (Value.string r3) from rfl); have q73 := (blk_cell BK7.out 3).trans (show _ = some (Value.int .i64 r4) from rfl); have q74 := (blk_cell BK7.out 4).trans (show _ = some (Value.int .i64 r5) from rfl); have q75 := (blk_cell BK7.out 5).trans (show _ = some (Value.int .i64 r6) from rfl); have q76 := (blk_cell BK7.out 6).trans (show _ = some (Value.int .i64 r7) from rfl); clear hb) | (go_at_call 74; refine (HKI.out (by first | assumption | trivial) _ (Kd.C_below HR2.out HB.out)).mono ?_; rintro e w3 ⟨rfl, hb⟩; (first | (have n4 := Aside0.mk (blk_below BK4.out hb); have n7 := Aside0.mk (blk_below BK7.out hb); have nb := Aside0.mk (HB.out.trans (hb.mono HB.out.size)); (try clear q40 q41 q42); (try clear q70 q71 q72 q73 q74 q75 q76); clear BK4 BK7 HB; have BK4 := n4; have BK7 := n7; have HB := nb; clear n4 n7 nb) | (have n4 := Aside0.mk (blk_below (blk_alloc BK4.out (.cells #[.int .i64 r1, .int .u16 r2, .string r3, .int .i64 r4, .int .i64 r5, .int .i64 r6, .int .i64 r7] 106)) hb); have n7 := Aside0.mk (blk_below (heap_alloc_new w1 (.cells #[.int .i64 r1, .int .u16 r2, .string r3, .int .i64 r4, .int .i64 r5, .int .i64 r6, .int .i64 r7] 106)) hb); have nb := Aside0.mk ((HB.out.alloc HB.out.size (.cells #[.int .i64 r1, .int .u16 r2, .string r3, .int .i64 r4, .int .i64 r5, .int .i64 r6, .int .i64 r7] 106)).trans (hb.mono (by have := HB.out.size; simp; omega))); (try clear q40 q41 q42); (try clear q70 q71 q72 q73 q74 q75 q76); clear BK4 HB; have BK4 := n4; have BK7 := n7; have HB := nb; clear n4 n7 nb)); have q40 := (blk_cell BK4.out 0).trans (show _ = some (Value.int .u16 n.f0) from rfl); have q41 := (blk_cell BK4.out 1).trans (show _ = some (Value.slice A1 n.f1.length c1) from rfl); have q42 := (blk_cell BK4.out 2).trans (show _ = some (Value.slice A2 n.f2.length c2) from rfl); have q70 := (blk_cell BK7.out 0).trans (show _ = some (Value.int .i64 r1) from rfl); have q71 := (blk_cell BK7.out 1).trans (show _ = some (Value.int .u16 r2) from rfl); have q72 := (blk_cell BK7.out 2).trans (show _ = some (Value.string r3) from rfl); have q73 := (blk_cell BK7.out 3).trans (show _ = some (Value.int .i64 r4) from rfl); have q74 := (blk_cell BK7.out 4).trans (show _ = some (Value.int .i64 r5) from rfl); have q75 := (blk_cell BK7.out 5).trans (show _ = some (Value.int .i64 r6) from rfl); have q76 := (blk_cell BK7.out 6).trans (show _ = some (Value.int .i64 r7) from rfl); clear hb) | (go_at_call 75; refine (HCO.out HBo.out _ (Kd.C_below HR1.out (by first | exact HB.out | exact HB.out.alloc HB.out.size _))).mono ?_; rintro e w4 ⟨rfl, hb⟩; (first | (have n4 := Aside0.mk (blk_below BK4.out hb); have n7 := Aside0.mk (blk_below BK7.out hb); have nb := Aside0.mk (HB.out.trans (hb.mono HB.out.size)); (try clear q40 q41 q42); (try clear q70 q71 q72 q73 q74 q75 q76); clear BK4 BK7 HB; have BK4 := n4; have BK7 := n7; have HB := nb; clear n4 n7 nb) | (have n4 := Aside0.mk (blk_below (blk_alloc BK4.out (.cells #[.int .i64 r1, .int .u16 r2, .string r3, .int .i64 r4, .int .i64 r5, .int .i64 r6, .int .i64 r7] 106)) hb); have n7 := Aside0.mk (blk_below (heap_alloc_new w1 (.cells #[.int .i64 r1, .int .u16 r2, .string r3, .int .i64 r4, .int .i64 r5, .int .i64 r6, .int .i64 r7] 106)) hb); have nb := Aside0.mk ((HB.out.alloc HB.out.size (.cells #[.int .i64 r1, .int .u16 r2, .string r3, .int .i64 r4, .int .i64 r5, .int .i64 r6, .int .i64 r7] 106)).trans (hb.mono (by have := HB.out.size; simp; omega))); (try clear q40 q41 q42); (try clear q70 q71 q72 q73 q74 q75 q76); clear BK4 HB; have BK4 := n4; have BK7 := n7; have HB := nb; clear n4 n7 nb)); have q40 := (blk_cell BK4.out 0).trans (show _ = some (Value.int .u16 n.f0) from rfl); have q41 := (blk_cell BK4.out 1).trans (show _ = some (Value.slice A1 n.f1.length c1) from rfl); have q42 := (blk_cell BK4.out 2).trans (show _ = some (Value.slice A2 n.f2.length c2) from rfl); have q70 := (blk_cell BK7.out 0).trans (show _ = some (Value.int .i64 r1) from rfl); have q71 := (blk_cell BK7.out 1).trans (show _ = some (Value.int .u16 r2) from rfl); have q72 := (blk_cell BK7.out 2).trans (show _ = some (Value.string r3) from rfl); have q73 := (blk_cell BK7.out 3).trans (show _ = some (Value.int .i64 r4) from rfl); have q74 := (blk_cell BK7.out 4).trans (show _ = some (Value.int .i64 r5) from rfl); have q75 := (blk_cell BK7.out 5).trans (show _ = some (Value.int .i64 r6) from rfl); have q76 := (blk_cell BK7.out 6).trans (show _ = some (Value.int .i64 r7) from rfl); clear hb))
      go_ret
      exact ⟨rfl, by first | exact HB.out | exact HB.out.alloc HB.out.size _⟩
    · cases b1
      all_goals
        go_enter Tryz.func39, Tryz.ntmps39
        go_wp2_with (first | (go_at_call 72; refine (HOF.out _).mono ?_; rintro e w1 ⟨rfl, hb⟩; have BK4 := Aside0.mk (blk_below (heap_alloc_new w (.cells #[.int .u16 n.f0, .slice A1 n.f1.length c1, .slice A2 n.f2.length c2] 26)) hb); have HB := Aside0.mk (((Below.refl _ w).alloc (Nat.le_refl _) _).trans (hb.mono (by simp))); have HW1 := Aside0.mk HB.out.size; have q40 := (blk_cell (blk_alloc BK4.out (.cells #[.int .i64 r1, .int .u16 r2, .string r3, .int .i64 r4, .int .i64 r5, .int .i64 r6, .int .i64 r7] 106)) 0).trans (show _ = some (Value.int .u16 n.f0) from rfl); have q41 := (blk_cell (blk_alloc BK4.out (.cells #[.int .i64 r1, .int .u16 r2, .string r3, .int .i64 r4, .int .i64 r5, .int .i64 r6, .int .i64 r7] 106)) 1).trans (show _ = some (Value.slice A1 n.f1.length c1) from rfl); have q42 := (blk_cell (blk_alloc BK4.out (.cells #[.int .i64 r1, .int .u16 r2, .string r3, .int .i64 r4, .int .i64 r5, .int .i64 r6, .int .i64 r7] 106)) 2).trans (show _ = some (Value.slice A2 n.f2.length c2) from rfl); clear hb) | (go_at_call 73; refine (HFI.out (by first | assumption | trivial) _).mono ?_; rintro e w2 ⟨rfl, hb⟩; (first | (have n4 := Aside0.mk (blk_below BK4.out hb); have n7 := Aside0.mk (blk_below BK7.out hb); have nb := Aside0.mk (HB.out.trans (hb.mono HB.out.size)); (try clear q40 q41 q42); (try clear q70 q71 q72 q73 q74 q75 q76); clear BK4 BK7 HB; have BK4 := n4; have BK7 := n7; have HB := nb; clear n4 n7 nb) | (have n4 := Aside0.mk (blk_below (blk_alloc BK4.out (.cells #[.int .i64 r1, .int .u16 r2, .string r3, .int .i64 r4, .int .i64 r5, .int .i64 r6, .int .i64 r7] 106)) hb); have n7 := Aside0.mk (blk_below (heap_alloc_new w1 (.cells #[.int .i64 r1, .int .u16 r2, .string r3, .int .i64 r4, .int .i64 r5, .int .i64 r6, .int .i64 r7] 106)) hb); have nb := Aside0.mk ((HB.out.alloc HB.out.size (.cells #[.int .i64 r1, .int .u16 r2, .string r3, .int .i64 r4, .int .i64 r5, .int .i64 r6, .int .i64 r7] 106)).trans (hb.mono (by have := HB.out.size; simp; omega))); (try clear q40 q41 q42); (try clear q70 q71 q72 q73 q74 q75 q76); clear BK4 HB; have BK4 := n4; have BK7 := n7; have HB := nb; clear n4 n7 nb)); have q40 := (blk_cell BK4.out 0).trans (show _ = some (Value.int .u16 n.f0) from rfl); have q41 := (blk_cell BK4.out 1).trans (show _ = some (Value.slice A1 n.f1.length c1) from rfl); have q42 := (blk_cell BK4.out 2).trans (show _ = some (Value.slice A2 n.f2.length c2) from rfl); have q70 := (blk_cell BK7.out 0).trans (show _ = some (Value.int .i64 r1) from rfl); have q71 := (blk_cell BK7.out 1).trans (show _ = some (Value.int .u16 r2) from rfl); have q72 := (blk_cell BK7.out 2).trans (show _ = some (Value.string r3) from rfl); have q73 := (blk_cell BK7.out 3).trans (show _ = some (Value.int .i64 r4) from rfl); have q74 := (blk_cell BK7.out 4).trans (show _ = some (Value.int .i64 r5) from rfl); have q75 := (blk_cell BK7.out 5).trans (show _ = some (Value.int .i64 r6) from rfl); have q76 := (blk_cell BK7.out 6).trans (show _ = some (Value.int .i64 r7) from rfl); clear hb) | (go_at_call 74; refine (HKI.out (by first | assumption | trivial) _ (Kd.C_below HR2.out HB.out)).mono ?_; rintro e w3 ⟨rfl, hb⟩; (first | (have n4 := Aside0.mk (blk_below BK4.out hb); have n7 := Aside0.mk (blk_below BK7.out hb); have nb := Aside0.mk (HB.out.trans (hb.mono HB.out.size)); (try clear q40 q41 q42); (try clear q70 q71 q72 q73 q74 q75 q76); clear BK4 BK7 HB; have BK4 := n4; have BK7 := n7; have HB := nb; clear n4 n7 nb) | (have n4 := Aside0.mk (blk_below (blk_alloc BK4.out (.cells #[.int .i64 r1, .int .u16 r2, .string r3, .int .i64 r4, .int .i64 r5, .int .i64 r6, .int .i64 r7] 106)) hb); have n7 := Aside0.mk (blk_below (heap_alloc_new w1 (.cells #[.int .i64 r1, .int .u16 r2, .string r3, .int .i64 r4, .int .i64 r5, .int .i64 r6, .int .i64 r7] 106)) hb); have nb := Aside0.mk ((HB.out.alloc HB.out.size (.cells #[.int .i64 r1, .int .u16 r2, .string r3, .int .i64 r4, .int .i64 r5, .int .i64 r6, .int .i64 r7] 106)).trans (hb.mono (by have := HB.out.size; simp; omega))); (try clear q40 q41 q42); (try clear q70 q71 q72 q73 q74 q75 q76); clear BK4 HB; have BK4 := n4; have BK7 := n7; have HB := nb; clear n4 n7 nb)); have q40 := (blk_cell BK4.out 0).trans (show _ = some (Value.int .u16 n.f0) from rfl); have q41 := (blk_cell BK4.out 1).trans (show _ = some (Value.slice A1 n.f1.length c1) from rfl); have q42 := (blk_cell BK4.out 2).trans (show _ = some (Value.slice A2 n.f2.length c2) from rfl); have q70 := (blk_cell BK7.out 0).trans (show _ = some (Value.int .i64 r1) from rfl); have q71 := (blk_cell BK7.out 1).trans (show _ = some (Value.int .u16 r2) from rfl); have q72 := (blk_cell BK7.out 2).trans (show _ = some (Value.string r3) from rfl); have q73 := (blk_cell BK7.out 3).trans (show _ = some (Value.int .i64 r4) from rfl); have q74 := (blk_cell BK7.out 4).trans (show _ = some (Value.int .i64 r5) from rfl); have q75 := (blk_cell BK7.out 5).trans (show _ = some (Value.int .i64 r6) from rfl); have q76 := (blk_cell BK7.out 6).trans (show _ = some (Value.int .i64 r7) from rfl); clear hb) | (go_at_call 75; refine (HCO.out HBo.out _ (Kd.C_below HR1.out (by first | exact HB.out | exact HB.out.alloc HB.out.size _))).mono ?_; rintro e w4 ⟨rfl, hb⟩; (first | (have n4 := Aside0.mk (blk_below BK4.out hb); have n7 := Aside0.mk (blk_below BK7.out hb); have nb := Aside0.mk (HB.out.trans (hb.mono HB.out.size)); (try clear q40 q41 q42); (try clear q70 q71 q72 q73 q74 q75 q76); clear BK4 BK7 HB; have BK4 := n4; have BK7 := n7; have HB := nb; clear n4 n7 nb) | (have n4 := Aside0.mk (blk_below (blk_alloc BK4.out (.cells #[.int .i64 r1, .int .u16 r2, .string r3, .int .i64 r4, .int .i64 r5, .int .i64 r6, .int .i64 r7] 106)) hb); have n7 := Aside0.mk (blk_below (heap_alloc_new w1 (.cells #[.int .i64 r1, .int .u16 r2, .string r3, .int .i64 r4, .int .i64 r5, .int .i64 r6, .int .i64 r7] 106)) hb); have nb := Aside0.mk ((HB.out.alloc HB.out.size (.cells #[.int .i64 r1, .int .u16 r2, .string r3, .int .i64 r4, .int .i64 r5, .int .i64 r6, .int .i64 r7] 106)).trans (hb.mono (by have := HB.out.size; simp; omega))); (try clear q40 q41 q42); (try clear q70 q71 q72 q73 q74 q75 q76); clear BK4 HB; have BK4 := n4; have BK7 := n7; have HB := nb; clear n4 n7 nb)); have q40 := (blk_cell BK4.out 0).trans (show _ = some (Value.int .u16 n.f0) from rfl); have q41 := (blk_cell BK4.out 1).trans (show _ = some (Value.slice A1 n.f1.length c1) from rfl); have q42 := (blk_cell BK4.out 2).trans (show _ = some (Value.slice A2 n.f2.length c2) from rfl); have q70 := (blk_cell BK7.out 0).trans (show _ = some (Value.int .i64 r1) from rfl); have q71 := (blk_cell BK7.out 1).trans (show _ = some (Value.int .u16 r2) from rfl); have q72 := (blk_cell BK7.out 2).trans (show _ = some (Value.string r3) from rfl); have q73 := (blk_cell BK7.out 3).trans (show _ = some (Value.int .i64 r4) from rfl); have q74 := (blk_cell BK7.out 4).trans (show _ = some (Value.int .i64 r5) from rfl); have q75 := (blk_cell BK7.out 5).trans (show _ = some (Value.int .i64 r6) from rfl); have q76 := (blk_cell BK7.out 6).trans (show _ = some (Value.int .i64 r7) from rfl); clear hb))
        go_ret
        exact ⟨rfl, by first | exact HB.out | exact HB.out.alloc HB.out.size _⟩
set_option maxRecDepth 100000 in
set_option maxHeartbeats 8000000 in
theorem checkR.count (dp : Int) (hdp : dp ≤ 4) (c : Int) (n : S26) (A1 A2 : Option Addr) (c1 c2 : Nat) (w : World) (r1 r2 : Int) (r3 : ByteArray) (r4 r5 r6 r7 : Int) (b1 b2 : Bool)
    (HOF : Aside0 (∀ W, Calls Tryz.prog 72 #[.int .i64 c, .int .u16 n.f0] W fun e w' => e = .returned (.agg #[.int .i64 r1, .int .u16 r2, .string r3, .int .i64 r4, .int .i64 r5, .int .i64 r6, .int .i64 r7]) ∧ Below W.heap.size W w'))
    (HFI : Aside0 (0 < r1 → ∀ W, Calls Tryz.prog 73 #[.agg #[.int .i64 r1, .int .u16 r2, .string r3, .int .i64 r4, .int .i64 r5, .int .i64 r6, .int .i64 r7], .int .i64 (n.f1.length : Int)] W fun e w' => e = .returned (.bool b1) ∧ Below W.heap.size W w'))
    (HR2 : Aside0 (Kd.C k26 w A2 n.f2.length n.f2)) (HR1 : Aside0 (Kd.C (Kd.int .u8) w A1 n.f1.length n.f1))
    (HKI : Aside0 (0 < r1 → ∀ W, Kd.C k26 W A2 n.f2.length n.f2 → Calls Tryz.prog 74 #[.agg #[.int .i64 r1, .int .u16 r2, .string r3, .int .i64 r4, .int .i64 r5, .int .i64 r6, .int .i64 r7], .slice A2 n.f2.length c2] W fun e w' => e = .returned (.bool b2) ∧ Below W.heap.size W w'))
    (HCO : Aside0 (Both c n.f0 → ∀ W, Kd.C (Kd.int .u8) W A1 n.f1.length n.f1 → Calls Tryz.prog 75 #[.slice A1 n.f1.length c1] W fun e w' => e = .returned (.bool false) ∧ Below W.heap.size W w'))
    (hc2 : (c == 2) = true) (ht2 : (n.f0 == 2) = true) (hgood : 0 < r1 ∧ b1 = true ∧ b2 = true) :
    Calls Tryz.prog 39 #[.int .i64 c, .agg #[.int .u16 n.f0, .slice A1 n.f1.length c1, .slice A2 n.f2.length c2], .int .i64 dp] w fun e w' => e = .returned (.int .i64 8) ∧ Below w.heap.size w w' := by
  obtain ⟨hr, rfl, rfl⟩ := hgood
  have HBo : Aside0 (Both c n.f0) := ⟨by simpa using hc2, by simpa using ht2⟩
  have hr0 : (r1 == 0) = false := by simp; omega
  go_enter Tryz.func39, Tryz.ntmps39
  go_wp2_with (first | (go_at_call 72; refine (HOF.out _).mono ?_; rintro e w1 ⟨rfl, hb⟩; have BK4 := Aside0.mk (blk_below (heap_alloc_new w (.cells #[.int .u16 n.f0, .slice A1 n.f1.length c1, .slice A2 n.f2.length c2] 26)) hb); have HB := Aside0.mk (((Below.refl _ w).alloc (Nat.le_refl _) _).trans (hb.mono (by simp))); have HW1 := Aside0.mk HB.out.size; have q40 := (blk_cell (blk_alloc BK4.out (.cells #[.int .i64 r1, .int .u16 r2, .string r3, .int .i64 r4, .int .i64 r5, .int .i64 r6, .int .i64 r7] 106)) 0).trans (show _ = some (Value.int .u16 n.f0) from rfl); have q41 := (blk_cell (blk_alloc BK4.out (.cells #[.int .i64 r1, .int .u16 r2, .string r3, .int .i64 r4, .int .i64 r5, .int .i64 r6, .int .i64 r7] 106)) 1).trans (show _ = some (Value.slice A1 n.f1.length c1) from rfl); have q42 := (blk_cell (blk_alloc BK4.out (.cells #[.int .i64 r1, .int .u16 r2, .string r3, .int .i64 r4, .int .i64 r5, .int .i64 r6, .int .i64 r7] 106)) 2).trans (show _ = some (Value.slice A2 n.f2.length c2) from rfl); clear hb) | (go_at_call 73; refine (HFI.out (by first | assumption | trivial) _).mono ?_; rintro e w2 ⟨rfl, hb⟩; (first | (have n4 := Aside0.mk (blk_below BK4.out hb); have n7 := Aside0.mk (blk_below BK7.out hb); have nb := Aside0.mk (HB.out.trans (hb.mono HB.out.size)); (try clear q40 q41 q42); (try clear q70 q71 q72 q73 q74 q75 q76); clear BK4 BK7 HB; have BK4 := n4; have BK7 := n7; have HB := nb; clear n4 n7 nb) | (have n4 := Aside0.mk (blk_below (blk_alloc BK4.out (.cells #[.int .i64 r1, .int .u16 r2, .string r3, .int .i64 r4, .int .i64 r5, .int .i64 r6, .int .i64 r7] 106)) hb); have n7 := Aside0.mk (blk_below (heap_alloc_new w1 (.cells #[.int .i64 r1, .int .u16 r2, .string r3, .int .i64 r4, .int .i64 r5, .int .i64 r6, .int .i64 r7] 106)) hb); have nb := Aside0.mk ((HB.out.alloc HB.out.size (.cells #[.int .i64 r1, .int .u16 r2, .string r3, .int .i64 r4, .int .i64 r5, .int .i64 r6, .int .i64 r7] 106)).trans (hb.mono (by have := HB.out.size; simp; omega))); (try clear q40 q41 q42); (try clear q70 q71 q72 q73 q74 q75 q76); clear BK4 HB; have BK4 := n4; have BK7 := n7; have HB := nb; clear n4 n7 nb)); have q40 := (blk_cell BK4.out 0).trans (show _ = some (Value.int .u16 n.f0) from rfl); have q41 := (blk_cell BK4.out 1).trans (show _ = some (Value.slice A1 n.f1.length c1) from rfl); have q42 := (blk_cell BK4.out 2).trans (show _ = some (Value.slice A2 n.f2.length c2) from rfl); have q70 := (blk_cell BK7.out 0).trans (show _ = some (Value.int .i64 r1) from rfl); have q71 := (blk_cell BK7.out 1).trans (show _ = some (Value.int .u16 r2) from rfl); have q72 := (blk_cell BK7.out 2).trans (show _ = some (Value.string r3) from rfl); have q73 := (blk_cell BK7.out 3).trans (show _ = some (Value.int .i64 r4) from rfl); have q74 := (blk_cell BK7.out 4).trans (show _ = some (Value.int .i64 r5) from rfl); have q75 := (blk_cell BK7.out 5).trans (show _ = some (Value.int .i64 r6) from rfl); have q76 := (blk_cell BK7.out 6).trans (show _ = some (Value.int .i64 r7) from rfl); clear hb) | (go_at_call 74; refine (HKI.out (by first | assumption | trivial) _ (Kd.C_below HR2.out HB.out)).mono ?_; rintro e w3 ⟨rfl, hb⟩; (first | (have n4 := Aside0.mk (blk_below BK4.out hb); have n7 := Aside0.mk (blk_below BK7.out hb); have nb := Aside0.mk (HB.out.trans (hb.mono HB.out.size)); (try clear q40 q41 q42); (try clear q70 q71 q72 q73 q74 q75 q76); clear BK4 BK7 HB; have BK4 := n4; have BK7 := n7; have HB := nb; clear n4 n7 nb) | (have n4 := Aside0.mk (blk_below (blk_alloc BK4.out (.cells #[.int .i64 r1, .int .u16 r2, .string r3, .int .i64 r4, .int .i64 r5, .int .i64 r6, .int .i64 r7] 106)) hb); have n7 := Aside0.mk (blk_below (heap_alloc_new w1 (.cells #[.int .i64 r1, .int .u16 r2, .string r3, .int .i64 r4, .int .i64 r5, .int .i64 r6, .int .i64 r7] 106)) hb); have nb := Aside0.mk ((HB.out.alloc HB.out.size (.cells #[.int .i64 r1, .int .u16 r2, .string r3, .int .i64 r4, .int .i64 r5, .int .i64 r6, .int .i64 r7] 106)).trans (hb.mono (by have := HB.out.size; simp; omega))); (try clear q40 q41 q42); (try clear q70 q71 q72 q73 q74 q75 q76); clear BK4 HB; have BK4 := n4; have BK7 := n7; have HB := nb; clear n4 n7 nb)); have q40 := (blk_cell BK4.out 0).trans (show _ = some (Value.int .u16 n.f0) from rfl); have q41 := (blk_cell BK4.out 1).trans (show _ = some (Value.slice A1 n.f1.length c1) from rfl); have q42 := (blk_cell BK4.out 2).trans (show _ = some (Value.slice A2 n.f2.length c2) from rfl); have q70 := (blk_cell BK7.out 0).trans (show _ = some (Value.int .i64 r1) from rfl); have q71 := (blk_cell BK7.out 1).trans (show _ = some (Value.int .u16 r2) from rfl); have q72 := (blk_cell BK7.out 2).trans (show _ = some (Value.string r3) from rfl); have q73 := (blk_cell BK7.out 3).trans (show _ = some (Value.int .i64 r4) from rfl); have q74 := (blk_cell BK7.out 4).trans (show _ = some (Value.int .i64 r5) from rfl); have q75 := (blk_cell BK7.out 5).trans (show _ = some (Value.int .i64 r6) from rfl); have q76 := (blk_cell BK7.out 6).trans (show _ = some (Value.int .i64 r7) from rfl); clear hb) | (go_at_call 75; refine (HCO.out HBo.out _ (Kd.C_below HR1.out (by first | exact HB.out | exact HB.out.alloc HB.out.size _))).mono ?_; rintro e w4 ⟨rfl, hb⟩; (first | (have n4 := Aside0.mk (blk_below BK4.out hb); have n7 := Aside0.mk (blk_below BK7.out hb); have nb := Aside0.mk (HB.out.trans (hb.mono HB.out.size)); (try clear q40 q41 q42); (try clear q70 q71 q72 q73 q74 q75 q76); clear BK4 BK7 HB; have BK4 := n4; have BK7 := n7; have HB := nb; clear n4 n7 nb) | (have n4 := Aside0.mk (blk_below (blk_alloc BK4.out (.cells #[.int .i64 r1, .int .u16 r2, .string r3, .int .i64 r4, .int .i64 r5, .int .i64 r6, .int .i64 r7] 106)) hb); have n7 := Aside0.mk (blk_below (heap_alloc_new w1 (.cells #[.int .i64 r1, .int .u16 r2, .string r3, .int .i64 r4, .int .i64 r5, .int .i64 r6, .int .i64 r7] 106)) hb); have nb := Aside0.mk ((HB.out.alloc HB.out.size (.cells #[.int .i64 r1, .int .u16 r2, .string r3, .int .i64 r4, .int .i64 r5, .int .i64 r6, .int .i64 r7] 106)).trans (hb.mono (by have := HB.out.size; simp; omega))); (try clear q40 q41 q42); (try clear q70 q71 q72 q73 q74 q75 q76); clear BK4 HB; have BK4 := n4; have BK7 := n7; have HB := nb; clear n4 n7 nb)); have q40 := (blk_cell BK4.out 0).trans (show _ = some (Value.int .u16 n.f0) from rfl); have q41 := (blk_cell BK4.out 1).trans (show _ = some (Value.slice A1 n.f1.length c1) from rfl); have q42 := (blk_cell BK4.out 2).trans (show _ = some (Value.slice A2 n.f2.length c2) from rfl); have q70 := (blk_cell BK7.out 0).trans (show _ = some (Value.int .i64 r1) from rfl); have q71 := (blk_cell BK7.out 1).trans (show _ = some (Value.int .u16 r2) from rfl); have q72 := (blk_cell BK7.out 2).trans (show _ = some (Value.string r3) from rfl); have q73 := (blk_cell BK7.out 3).trans (show _ = some (Value.int .i64 r4) from rfl); have q74 := (blk_cell BK7.out 4).trans (show _ = some (Value.int .i64 r5) from rfl); have q75 := (blk_cell BK7.out 5).trans (show _ = some (Value.int .i64 r6) from rfl); have q76 := (blk_cell BK7.out 6).trans (show _ = some (Value.int .i64 r7) from rfl); clear hb))
  go_ret
  exact ⟨rfl, by first | exact HB.out | exact HB.out.alloc HB.out.size _⟩
theorem blk_oneR {W : World} {g : Nat} {n : S26} {A1 A2 : Option Addr} {c1 c2 : Nat} (h : W.heap[g]? = some (.cells #[.int .u16 n.f0, .slice A1 n.f1.length c1, .slice A2 n.f2.length c2] 26 (0, 0))) (l1 : n.f1.length ≤ c1) (g1 : (Kd.int .u8).C W A1 n.f1.length n.f1) (l2 : n.f2.length ≤ c2) (g2 : Kd.C k26 W A2 n.f2.length n.f2) :
    Kd.C k26 W (some ⟨g, 0, none⟩) 1 [n] := blk_one h l1 g1 l2 g2
set_option maxRecDepth 100000 in
set_option maxHeartbeats 8000000 in
theorem checkR.loop (dp ci : Int) (hdp0 : 0 ≤ dp) (hdp : dp ≤ 4) (c : Int) (n : S26) (A1 A2 : Option Addr) (c1 c2 : Nat) (w : World) (r1 r2 : Int) (r3 : ByteArray) (r4 r5 r6 r7 : Int) (b1 b2 : Bool) (ck : S26 → Int) (E : Int) (HEQ : Aside0 (E = (if firstE (n.f2.map ck) = 0 then (if 65535 < szN n then 4 else 0) else firstE (n.f2.map ck))))
    (HC1 : Aside0 (n.f1.length ≤ c1)) (HC2 : Aside0 (n.f2.length ≤ c2)) (hlen : n.f2.length ≤ 1048576)
    (HOF : Aside0 (∀ W, Calls Tryz.prog 72 #[.int .i64 c, .int .u16 n.f0] W fun e w' => e = .returned (.agg #[.int .i64 r1, .int .u16 r2, .string r3, .int .i64 r4, .int .i64 r5, .int .i64 r6, .int .i64 r7]) ∧ Below W.heap.size W w'))
    (HFI : Aside0 (0 < r1 → ∀ W, Calls Tryz.prog 73 #[.agg #[.int .i64 r1, .int .u16 r2, .string r3, .int .i64 r4, .int .i64 r5, .int .i64 r6, .int .i64 r7], .int .i64 (n.f1.length : Int)] W fun e w' => e = .returned (.bool b1) ∧ Below W.heap.size W w'))
    (HR2 : Aside0 (Kd.C k26 w A2 n.f2.length n.f2)) (HR1 : Aside0 (Kd.C (Kd.int .u8) w A1 n.f1.length n.f1))
    (HKI : Aside0 (0 < r1 → ∀ W, Kd.C k26 W A2 n.f2.length n.f2 → Calls Tryz.prog 74 #[.agg #[.int .i64 r1, .int .u16 r2, .string r3, .int .i64 r4, .int .i64 r5, .int .i64 r6, .int .i64 r7], .slice A2 n.f2.length c2] W fun e w' => e = .returned (.bool b2) ∧ Below W.heap.size W w'))
    (HCO : Aside0 (Both c n.f0 → ∀ W, Kd.C (Kd.int .u8) W A1 n.f1.length n.f1 → Calls Tryz.prog 75 #[.slice A1 n.f1.length c1] W fun e w' => e = .returned (.bool true) ∧ Below W.heap.size W w'))
    (HIN : Aside0 (∀ W, Calls Tryz.prog 76 #[.int .i64 r7] W fun e w' => e = .returned (.int .i64 ci) ∧ Drawn0 W w'))
    (HKD : Aside0 (∀ x ∈ n.f2, ∀ (B1 B2 : Option Addr) (d1 d2 : Nat) (W : World), x.f1.length ≤ d1 → (Kd.int .u8).C W B1 x.f1.length x.f1 → x.f2.length ≤ d2 → Kd.C k26 W B2 x.f2.length x.f2 →
      Calls Tryz.prog 39 #[.int .i64 ci, .agg #[.int .u16 x.f0, .slice B1 x.f1.length d1, .slice B2 x.f2.length d2], .int .i64 (dp + 1)] W fun e w' => e = .returned (.int .i64 (ck x)) ∧ Below W.heap.size W w'))
    (HSZ : Aside0 (∀ (g : Nat) (W : World), Kd.C k26 W (some ⟨g, 0, none⟩) 1 [n] → Calls Tryz.prog 77 #[.slice (some ⟨g, 0, none⟩) 1 1] W fun e w' => e = .returned (.int .i64 (szN n : Int)) ∧ Below W.heap.size W w'))
    (hgood : (r1 = 0 ∧ n.f2.length = 0) ∨ (0 < r1 ∧ b1 = true ∧ b2 = true)) :
    Calls Tryz.prog 39 #[.int .i64 c, .agg #[.int .u16 n.f0, .slice A1 n.f1.length c1, .slice A2 n.f2.length c2], .int .i64 dp] w fun e w' => e = .returned (.int .i64 E) ∧ Below w.heap.size w w' := by
  have HLE := Aside0.mk hlen
  have hlen2 : (n.f2.length : Int) ≤ 1048576 := by omega
  clear hlen
  have hz : n.f2.length = 0 → decide (0 < (n.f2.length : Int)) = false ∧ decide (0 < n.f2.length) = false := fun h => by simp [h]
  have hgb : ((r1 == 0) = true ∧ decide (0 < r1) = false ∧ decide (0 < (n.f2.length : Int)) = false ∧ decide (0 < n.f2.length) = false) ∨ ((r1 == 0) = false ∧ 0 < r1 ∧ b1 = true ∧ b2 = true) := by
    rcases hgood with ⟨h1, h2⟩ | ⟨h1, h2, h3⟩
    · exact .inl ⟨by simp [h1], by simp [h1], (hz h2).1, (hz h2).2⟩
    · exact .inr ⟨by simp; omega, h1, h2, h3⟩
  clear hgood hz
  rcases hgb with ⟨k1, k2, k3, k4⟩ | ⟨hr0, hr, rfl, rfl⟩
  all_goals
    have hbo : (c == 2) = true → (n.f0 == 2) = true → Aside0 (Both c n.f0) := fun h1 h2 => ⟨by simpa using h1, by simpa using h2⟩
    cases e1 : (c == 2) <;> cases e2 : (n.f0 == 2)
    all_goals
      (try have HBo := hbo e1 e2)
      clear hbo
      go_enter Tryz.func39, Tryz.ntmps39
      go_wp2_with (first | (go_at_call 72; refine (HOF.out _).mono ?_; rintro e w1 ⟨rfl, hb⟩; have BK4 := Aside0.mk (blk_below (heap_alloc_new w (.cells #[.int .u16 n.f0, .slice A1 n.f1.length c1, .slice A2 n.f2.length c2] 26)) hb); have HB := Aside0.mk (((Below.refl _ w).alloc (Nat.le_refl _) _).trans (hb.mono (by simp))); have HW1 := Aside0.mk HB.out.size; have q40 := (blk_cell (blk_alloc BK4.out (.cells #[.int .i64 r1, .int .u16 r2, .string r3, .int .i64 r4, .int .i64 r5, .int .i64 r6, .int .i64 r7] 106)) 0).trans (show _ = some (Value.int .u16 n.f0) from rfl); have q41 := (blk_cell (blk_alloc BK4.out (.cells #[.int .i64 r1, .int .u16 r2, .string r3, .int .i64 r4, .int .i64 r5, .int .i64 r6, .int .i64 r7] 106)) 1).trans (show _ = some (Value.slice A1 n.f1.length c1) from rfl); have q42 := (blk_cell (blk_alloc BK4.out (.cells #[.int .i64 r1, .int .u16 r2, .string r3, .int .i64 r4, .int .i64 r5, .int .i64 r6, .int .i64 r7] 106)) 2).trans (show _ = some (Value.slice A2 n.f2.length c2) from rfl); clear hb) | (go_at_call 73; refine (HFI.out (by first | assumption | trivial) _).mono ?_; rintro e w2 ⟨rfl, hb⟩; (first | (have n4 := Aside0.mk (blk_below BK4.out hb); have n7 := Aside0.mk (blk_below BK7.out hb); have nb := Aside0.mk (HB.out.trans (hb.mono HB.out.size)); (try clear q40 q41 q42); (try clear q70 q71 q72 q73 q74 q75 q76); clear BK4 BK7 HB; have BK4 := n4; have BK7 := n7; have HB := nb; clear n4 n7 nb) | (have n4 := Aside0.mk (blk_below (blk_alloc BK4.out (.cells #[.int .i64 r1, .int .u16 r2, .string r3, .int .i64 r4, .int .i64 r5, .int .i64 r6, .int .i64 r7] 106)) hb); have n7 := Aside0.mk (blk_below (heap_alloc_new w1 (.cells #[.int .i64 r1, .int .u16 r2, .string r3, .int .i64 r4, .int .i64 r5, .int .i64 r6, .int .i64 r7] 106)) hb); have nb := Aside0.mk ((HB.out.alloc HB.out.size (.cells #[.int .i64 r1, .int .u16 r2, .string r3, .int .i64 r4, .int .i64 r5, .int .i64 r6, .int .i64 r7] 106)).trans (hb.mono (by have := HB.out.size; simp; omega))); (try clear q40 q41 q42); (try clear q70 q71 q72 q73 q74 q75 q76); clear BK4 HB; have BK4 := n4; have BK7 := n7; have HB := nb; clear n4 n7 nb)); have q40 := (blk_cell BK4.out 0).trans (show _ = some (Value.int .u16 n.f0) from rfl); have q41 := (blk_cell BK4.out 1).trans (show _ = some (Value.slice A1 n.f1.length c1) from rfl); have q42 := (blk_cell BK4.out 2).trans (show _ = some (Value.slice A2 n.f2.length c2) from rfl); have q70 := (blk_cell BK7.out 0).trans (show _ = some (Value.int .i64 r1) from rfl); have q71 := (blk_cell BK7.out 1).trans (show _ = some (Value.int .u16 r2) from rfl); have q72 := (blk_cell BK7.out 2).trans (show _ = some (Value.string r3) from rfl); have q73 := (blk_cell BK7.out 3).trans (show _ = some (Value.int .i64 r4) from rfl); have q74 := (blk_cell BK7.out 4).trans (show _ = some (Value.int .i64 r5) from rfl); have q75 := (blk_cell BK7.out 5).trans (show _ = some (Value.int .i64 r6) from rfl); have q76 := (blk_cell BK7.out 6).trans (show _ = some (Value.int .i64 r7) from rfl); clear hb) | (go_at_call 74; refine (HKI.out (by first | assumption | trivial) _ (Kd.C_below HR2.out HB.out)).mono ?_; rintro e w3 ⟨rfl, hb⟩; (first | (have n4 := Aside0.mk (blk_below BK4.out hb); have n7 := Aside0.mk (blk_below BK7.out hb); have nb := Aside0.mk (HB.out.trans (hb.mono HB.out.size)); (try clear q40 q41 q42); (try clear q70 q71 q72 q73 q74 q75 q76); clear BK4 BK7 HB; have BK4 := n4; have BK7 := n7; have HB := nb; clear n4 n7 nb) | (have n4 := Aside0.mk (blk_below (blk_alloc BK4.out (.cells #[.int .i64 r1, .int .u16 r2, .string r3, .int .i64 r4, .int .i64 r5, .int .i64 r6, .int .i64 r7] 106)) hb); have n7 := Aside0.mk (blk_below (heap_alloc_new w1 (.cells #[.int .i64 r1, .int .u16 r2, .string r3, .int .i64 r4, .int .i64 r5, .int .i64 r6, .int .i64 r7] 106)) hb); have nb := Aside0.mk ((HB.out.alloc HB.out.size (.cells #[.int .i64 r1, .int .u16 r2, .string r3, .int .i64 r4, .int .i64 r5, .int .i64 r6, .int .i64 r7] 106)).trans (hb.mono (by have := HB.out.size; simp; omega))); (try clear q40 q41 q42); (try clear q70 q71 q72 q73 q74 q75 q76); clear BK4 HB; have BK4 := n4; have BK7 := n7; have HB := nb; clear n4 n7 nb)); have q40 := (blk_cell BK4.out 0).trans (show _ = some (Value.int .u16 n.f0) from rfl); have q41 := (blk_cell BK4.out 1).trans (show _ = some (Value.slice A1 n.f1.length c1) from rfl); have q42 := (blk_cell BK4.out 2).trans (show _ = some (Value.slice A2 n.f2.length c2) from rfl); have q70 := (blk_cell BK7.out 0).trans (show _ = some (Value.int .i64 r1) from rfl); have q71 := (blk_cell BK7.out 1).trans (show _ = some (Value.int .u16 r2) from rfl); have q72 := (blk_cell BK7.out 2).trans (show _ = some (Value.string r3) from rfl); have q73 := (blk_cell BK7.out 3).trans (show _ = some (Value.int .i64 r4) from rfl); have q74 := (blk_cell BK7.out 4).trans (show _ = some (Value.int .i64 r5) from rfl); have q75 := (blk_cell BK7.out 5).trans (show _ = some (Value.int .i64 r6) from rfl); have q76 := (blk_cell BK7.out 6).trans (show _ = some (Value.int .i64 r7) from rfl); clear hb) | (go_at_call 75; refine (HCO.out HBo.out _ (Kd.C_below HR1.out (by first | exact HB.out | exact HB.out.alloc HB.out.size _))).mono ?_; rintro e w4 ⟨rfl, hb⟩; (first | (have n4 := Aside0.mk (blk_below BK4.out hb); have n7 := Aside0.mk (blk_below BK7.out hb); have nb := Aside0.mk (HB.out.trans (hb.mono HB.out.size)); (try clear q40 q41 q42); (try clear q70 q71 q72 q73 q74 q75 q76); clear BK4 BK7 HB; have BK4 := n4; have BK7 := n7; have HB := nb; clear n4 n7 nb) | (have n4 := Aside0.mk (blk_below (blk_alloc BK4.out (.cells #[.int .i64 r1, .int .u16 r2, .string r3, .int .i64 r4, .int .i64 r5, .int .i64 r6, .int .i64 r7] 106)) hb); have n7 := Aside0.mk (blk_below (heap_alloc_new w1 (.cells #[.int .i64 r1, .int .u16 r2, .string r3, .int .i64 r4, .int .i64 r5, .int .i64 r6, .int .i64 r7] 106)) hb); have nb := Aside0.mk ((HB.out.alloc HB.out.size (.cells #[.int .i64 r1, .int .u16 r2, .string r3, .int .i64 r4, .int .i64 r5, .int .i64 r6, .int .i64 r7] 106)).trans (hb.mono (by have := HB.out.size; simp; omega))); (try clear q40 q41 q42); (try clear q70 q71 q72 q73 q74 q75 q76); clear BK4 HB; have BK4 := n4; have BK7 := n7; have HB := nb; clear n4 n7 nb)); have q40 := (blk_cell BK4.out 0).trans (show _ = some (Value.int .u16 n.f0) from rfl); have q41 := (blk_cell BK4.out 1).trans (show _ = some (Value.slice A1 n.f1.length c1) from rfl); have q42 := (blk_cell BK4.out 2).trans (show _ = some (Value.slice A2 n.f2.length c2) from rfl); have q70 := (blk_cell BK7.out 0).trans (show _ = some (Value.int .i64 r1) from rfl); have q71 := (blk_cell BK7.out 1).trans (show _ = some (Value.int .u16 r2) from rfl); have q72 := (blk_cell BK7.out 2).trans (show _ = some (Value.string r3) from rfl); have q73 := (blk_cell BK7.out 3).trans (show _ = some (Value.int .i64 r4) from rfl); have q74 := (blk_cell BK7.out 4).trans (show _ = some (Value.int .i64 r5) from rfl); have q75 := (blk_cell BK7.out 5).trans (show _ = some (Value.int .i64 r6) from rfl); have q76 := (blk_cell BK7.out 6).trans (show _ = some (Value.int .i64 r7) from rfl); clear hb))
      (try clear q40 q41 q42)
      (try clear q70 q71 q72 q73 q74 q75 q76)
      go_loopw [8] (fun i W => ∃ j : Nat, j ≤ n.f2.length ∧ i = .int .i64 j ∧ Aside0 (firstE ((n.f2.take j).map ck) = 0) ∧ Aside0 (W.heap[w.heap.size]? = some (.cells #[.int .u16 n.f0, .slice A1 n.f1.length c1, .slice A2 n.f2.length c2] 26 (0, 0))) ∧ Aside0 (W.heap[w1.heap.size]? = some (.cells #[.int .i64 r1, .int .u16 r2, .string r3, .int .i64 r4, .int .i64 r5, .int .i64 r6, .int .i64 r7] 106 (0, 0))) ∧ Aside0 (w.heap.size ≤ w1.heap.size ∧ Below w.heap.size w W)) (fun i _ => n.f2.length - (intOf i).toNat)
      case atStart => first | exact ⟨0, Nat.zero_le _, rfl, ⟨rfl⟩, ⟨BK4.out⟩, ⟨BK7.out⟩, ⟨HW1.out, HB.out⟩⟩ | exact ⟨0, Nat.zero_le _, rfl, ⟨rfl⟩, ⟨blk_alloc BK4.out _⟩, ⟨heap_alloc_new w1 _⟩, ⟨HW1.out, HB.out.alloc HB.out.size _⟩⟩
      case round =>
        clear HOF HFI HKI HCO
        (try clear BK4)
        (try clear BK7)
        (try clear HB)
        obtain ⟨j, hj, rfl, HF, BK4, BK7, HB⟩ := hrel
        have q40 := (blk_cell BK4.out 0).trans (show _ = some (Value.int .u16 n.f0) from rfl); have q41 := (blk_cell BK4.out 1).trans (show _ = some (Value.slice A1 n.f1.length c1) from rfl); have q42 := (blk_cell BK4.out 2).trans (show _ = some (Value.slice A2 n.f2.length c2) from rfl)
        have q70 := (blk_cell BK7.out 0).trans (show _ = some (Value.int .i64 r1) from rfl); have q71 := (blk_cell BK7.out 1).trans (show _ = some (Value.int .u16 r2) from rfl); have q72 := (blk_cell BK7.out 2).trans (show _ = some (Value.string r3) from rfl); have q73 := (blk_cell BK7.out 3).trans (show _ = some (Value.int .i64 r4) from rfl); have q74 := (blk_cell BK7.out 4).trans (show _ = some (Value.int .i64 r5) from rfl); have q75 := (blk_cell BK7.out 5).trans (show _ = some (Value.int .i64 r6) from rfl); have q76 := (blk_cell BK7.out 6).trans (show _ = some (Value.int .i64 r7) from rfl)
        have HRW := Aside0.mk (Kd.C_below HR2.out HB.out.2)
        by_cases hlt : j < n.f2.length
        · obtain ⟨ad, B1, d1, B2, d2, e, hx0, hx1, hx2, l1, g1, l2, g2⟩ := at_T26 HRW.out (j : Int) (by omega) (by omega)
          rw [rdN_at n.f2 j hlt] at hx0 hx1 hx2 l1 g1 l2 g2
          rw [Int.toNat_natCast] at hx0 hx1 hx2
          subst e
          have HFT := Aside0.mk (firstE_take ck n.f2 j hlt HF.out)
          have HK := Aside0.mk (HKD.out n.f2[j] (List.getElem_mem hlt) B1 B2 d1 d2)
          obtain ⟨x, hx⟩ : ∃ x, x = n.f2[j] := ⟨_, rfl⟩
          rw [← hx] at hx0 hx1 hx2 l1 g1 l2 g2 HFT HK
          have HL1 := Aside0.mk l1
          have HL2 := Aside0.mk l2
          have HG1 := Aside0.mk g1
          have HG2 := Aside0.mk g2
          clear hx l1 l2 g1 g2
          have hlt2 : (j : Int) < n.f2.length := by omega
          obtain ⟨v, hv⟩ : ∃ v, v = ck x := ⟨_, rfl⟩
          rw [← hv] at HK HFT
          have HFV := Aside0.mk (show v ≠ 0 → E = v from fun h => by rw [HEQ.out, HFT.out.2 h, if_neg h])
          clear hv
          have hw1 : IntKind.i64.wrap (dp + 1) = dp + 1 := IntWalk.i64_in _ (by omega)
          go_wp2
          apply wp_below wr.heap.size wr
          case h1 =>
            go_region_held3 (fun X' => X'.cell? ⟨w1.heap.size, 6, none⟩ = some (.int .i64 r7) ∧ X'.cell? ⟨w.heap.size, 2, none⟩ = some (.slice (some ad) n.f2.length c2) ∧ X'.cell? (ad.add (j * 3)) = some (.int .u16 x.f0) ∧ X'.cell? ⟨(ad.add (j * 3)).block, (ad.add (j * 3)).off + 1, none⟩ = some (.slice B1 x.f1.length d1) ∧ X'.cell? ⟨(ad.add (j * 3)).block, (ad.add (j * 3)).off + 2, none⟩ = some (.slice B2 x.f2.length d2)) (go_keep) (first | (go_at_call 76; refine (HIN.out _).mono ?_; rintro e w5 ⟨rfl, nd, rfl⟩) | (go_at_call 39; refine (HK.out _ HL1.out (Kd.C_below HG1.out (by repeat (first | exact Below.refl _ _ | apply pw_below_drewN | apply below_drew1))) HL2.out (Kd.C_below HG2.out (by repeat (first | exact Below.refl _ _ | apply pw_below_drewN | apply below_drew1)))).mono ?_; rintro e w9 ⟨rfl, hb⟩; have k0 := (cell_up hb (show _ = some _ from by first | exact q76 | (rw [World.cell?_drewN]; exact q76))); have k1 := (cell_up hb (show _ = some _ from by first | exact q42 | (rw [World.cell?_drewN]; exact q42))); have k2 := (cell_up hb (show _ = some _ from by first | exact hx0 | (rw [World.cell?_drewN]; exact hx0))); have k3 := (cell_up hb (show _ = some _ from by first | exact hx1 | (rw [World.cell?_drewN]; exact hx1))); have k4 := (cell_up hb (show _ = some _ from by first | exact hx2 | (rw [World.cell?_drewN]; exact hx2))); have HB9 := Aside0.mk hb; clear hb))
            exact ⟨rfl, (pw_below_drewN (Below.refl _ wr) _).trans (HB9.out.mono (by simp))⟩
          intro w9 hb9
          clear hw1
          have hn := Aside0.mk (blk_below BK4.out hb9)
          have hm := Aside0.mk (blk_below BK7.out hb9)
          have hB := Aside0.mk (HB.out.2.trans (hb9.mono HB.out.2.size))
          clear hb9
          by_cases hc : v = 0
          · have e1 : (v == 0) = true := by simp [hc]
            have e2 : (v != 0) = false := by simp [hc]
            have HFT1 := Aside0.mk (HFT.out.1 hc)
            clear hc HFT HFV
            go_wp2
            refine ⟨⟨j + 1, by omega, by go_num, ⟨HFT1.out⟩, ⟨hn.out⟩, ⟨hm.out⟩, ⟨HB.out.1, hB.out⟩⟩, by simp [intOf]; omega⟩
          · have e1 : (v == 0) = false := by simp [hc]
            have e2 : (v != 0) = true := by simp [hc]
            have HE := Aside0.mk (HFV.out hc)
            clear hc HFT HFV
            go_wp2
            go_ret
            exact ⟨by rw [HE.out]; rfl, hB.out⟩
        · obtain rfl : j = n.f2.length := by omega
          have hF := HF.out
          rw [List.take_length] at hF
          have HF0 := Aside0.mk (show ∀ e, e = (if 65535 < szN n then 4 else 0) → E = e from fun e he => by rw [HEQ.out, if_pos hF, he])
          have HS1 := Aside0.mk (HSZ.out wr.heap.size (wr.alloc (.cells #[.int .u16 n.f0, .slice A1 n.f1.length c1, .slice A2 n.f2.length c2] 26)) (blk_oneR (heap_alloc_new wr _) HC1.out (Kd.C_alloc (Kd.C_below HR1.out HB.out.2) _) HC2.out (Kd.C_alloc HRW.out _)))
          clear hF HF hlt
          obtain ⟨sz, hsz⟩ : ∃ sz, sz = szN n := ⟨_, rfl⟩
          rw [← hsz] at HS1 HF0
          clear hsz
          have hlf : ¬ ((n.f2.length : Int) < (n.f2.length : Int)) := by omega
          by_cases hs : 65535 < sz
          · have HF1 := Aside0.mk (HF0.out 4 (by rw [if_pos hs]))
            have hs2 : (65535 : Int) < (sz : Int) := by omega
            clear HF0
            go_wp2_with (first | (go_at_call 77; refine HS1.out.mono ?_; rintro e w9 ⟨rfl, hb⟩; have HB9 := Aside0.mk hb; clear hb))
            go_ret
            exact ⟨by rw [HF1.out]; rfl, (HB.out.2.alloc HB.out.2.size _).trans (HB9.out.mono (by have := HB.out.2.size; simp; omega))⟩
          · have HF1 := Aside0.mk (HF0.out 0 (by rw [if_neg hs]))
            have hs2 : ¬ (65535 : Int) < (sz : Int) := by omega
            clear HF0
            go_wp2_with (first | (go_at_call 77; refine HS1.out.mono ?_; rintro e w9 ⟨rfl, hb⟩; have HB9 := Aside0.mk hb; clear hb))
            go_ret
            exact ⟨by rw [HF1.out]; rfl, (HB.out.2.alloc HB.out.2.size _).trans (HB9.out.mono (by have := HB.out.2.size; simp; omega))⟩
end Go.Proofs.YtpgfhbdnlojdfaaGreatDoor.P
namespace Go.Proofs.YtpgfhbdnlojdfaaGreatDoor.P
open Go.RowKit Go.Proofs.YtpgfhbdnlojdfaaGreatDoorW.PrintWords Go.Proofs.YtpgfhbdnlojdfaaGreatDoorW.PrintLast Go.Proofs.YtpgfhbdnlojdfaaGreatDoorW.PrintMore
set_option linter.unusedVariables false
theorem size_oneR (n : S26) (hs : szN n ≤ 4194304) (g : Nat) (W : World) (h : Kd.C k26 W (some ⟨g, 0, none⟩) 1 [n]) :
    Calls Tryz.prog 77 #[.slice (some ⟨g, 0, none⟩) 1 1] W fun e w' => e = .returned (.int .i64 (szN n : Int)) ∧ Below W.heap.size W w' := by
  have hev := refSize_ev (ctL [n]) [n] (Nat.le_refl _) (by rw [szL_one]; exact hs)
  rw [szL_one] at hev
  obtain ⟨k, hk⟩ := hev.rounds
  exact wharfref08_Size.calls k (some ⟨g, 0, none⟩) 1 [n] _ W h (Nat.le_refl _) hk
theorem countedR (c : Int) (n : S26) (hs : szN n ≤ 4194304) (hby : ∀ b ∈ n.f1, 0 ≤ b ∧ b < 256) (x : S143) (hx : lastF n.f0 (formsOf c) = some x) (hf : fitsF x n.f1.length = true) (A1 : Option Addr) (c1 : Nat) (hc1 : n.f1.length ≤ c1) (b : Bool) (hb : bad8 c n.f0 n.f1 = b) (hB : Both c n.f0) (W : World) (h : Kd.C (Kd.int .u8) W A1 n.f1.length n.f1) :
    Calls Tryz.prog 75 #[.slice A1 n.f1.length c1] W fun e w' => e = .returned (.bool (!b)) ∧ Below W.heap.size W w' := by
  obtain ⟨h1, h2⟩ := hB
  rw [h1, h2] at hx
  obtain ⟨h4, hm⟩ := row22 x _ hx hf
  have hev := refCounted_ev n.f1 hby h4 hm (rows_len hs).1
  obtain ⟨k, hk⟩ := hev.rounds
  have e : (decide (n.f1.length < 4) || numB (n.f1.take 4) != ((n.f1.length - 4) / 2 : Nat)) = b := by
    rw [← hb]
    unfold bad8
    rw [h1, h2]
    rfl
  rw [e] at hk
  refine (wharfref08_Counted.calls k A1 c1 n.f1 _ W h hc1 hk).mono ?_
  rintro e w' ⟨rfl, nd, rfl⟩
  exact ⟨rfl, pw_below_drewN (Below.refl _ W) _⟩
theorem insC_ref (kd : Int) : wharfref08_Inside.f kd = some (insC kd) := by
  unfold wharfref08_Inside.f insC
  by_cases h : kd = 3
  · rw [if_pos h, if_pos h]
  · rw [if_neg h, if_neg h]
    by_cases h0 : kd = 0
    · rw [if_pos h0, if_pos h0]
    · rw [if_neg h0, if_neg h0]
theorem class_pos (c t : Int) (x : S143) (h : lastF t (formsOf c) = some x) : 0 < c := by
  by_cases h1 : c = 1
  · omega
  · by_cases h2 : c = 2
    · omega
    · unfold formsOf at h
      rw [if_neg h1, if_neg h2] at h
      cases h
def unitRow (x : S143) : Bool := decide (x.f5 ≤ 100)
theorem form_unit (c t : Int) (x : S143) (h : lastF t (formsOf c) = some x) : x.f5 ≤ 100 := by
  have hm : x ∈ formsOf c := by
    rcases lastF_mem t _ none x h with h | h
    · exact h.1
    · cases h
  have hall : ∀ y ∈ formsOf c, unitRow y = true := by
    unfold formsOf
    split
    · exact List.all_eq_true.1 (by decide)
    · split
      · exact List.all_eq_true.1 (by decide)
      · intro y hy; cases hy
  simpa [unitRow] using hall x hm
theorem refCheck.any : ∀ (d : Nat), d ≤ 4 → ∀ (c : Int) (n : S26) (A1 A2 : Option Addr) (c1 c2 : Nat) (w : World), okN n = true → szN n ≤ 4194304 →
    n.f1.length ≤ c1 → (Kd.int .u8).C w A1 n.f1.length n.f1 → n.f2.length ≤ c2 → Kd.C k26 w A2 n.f2.length n.f2 →
    Calls Tryz.prog 39 #[.int .i64 c, .agg #[.int .u16 n.f0, .slice A1 n.f1.length c1, .slice A2 n.f2.length c2], .int .i64 (5 - (d : Int))] w fun e w' => e = .returned (.int .i64 (chk d c n)) ∧ Below w.heap.size w w' := by
  intro d
  induction d with
  | zero => intro _ c n A1 A2 c1 c2 w _ _ _ _ _ _; exact checkR.deep c n A1 A2 c1 c2 w
  | succ d ih =>
    intro hd c n A1 A2 c1 c2 w hok hs l1 g1 l2 g2
    obtain ⟨ht, hby, hk⟩ := okN_iff n hok
    obtain ⟨hl1, hl2, hsz⟩ := rows_len hs
    have hdp : (5 : Int) - ((d + 1 : Nat) : Int) = 4 - d := by omega
    rw [hdp]
    have HR2 := Aside0.mk g2
    have HR1 := Aside0.mk g1
    have HSZ := Aside0.mk (size_oneR n hs)
    have kid : ∀ ci, ∀ x ∈ n.f2, ∀ (B1 B2 : Option Addr) (d1 d2 : Nat) (W : World), x.f1.length ≤ d1 → (Kd.int .u8).C W B1 x.f1.length x.f1 → x.f2.length ≤ d2 → Kd.C k26 W B2 x.f2.length x.f2 →
        Calls Tryz.prog 39 #[.int .i64 ci, .agg #[.int .u16 x.f0, .slice B1 x.f1.length d1, .slice B2 x.f2.length d2], .int .i64 (4 - (d : Int) + 1)] W fun e w' => e = .returned (.int .i64 (chk d ci x)) ∧ Below W.heap.size W w' := by
      intro ci x hx B1 B2 d1 d2 W a1 a2 a3 a4
      have hz := sz_mem hx
      have := ih (by omega) ci x B1 B2 d1 d2 W (okL_mem hk x hx) (by omega) a1 a2 a3 a4
      rw [show (4 : Int) - (d : Int) + 1 = 5 - d by omega]
      exact this
    have hof := refOf_ev c n.f0
    rw [chk]
    cases hf : lastF n.f0 (formsOf c) with
    | none =>
      rw [hf] at hof
      obtain ⟨ko, hko⟩ := hof.rounds
      have HOF := Aside0.mk (fun W => wharfref07_Of.calls ko c n.f0 _ _ _ _ _ _ _ W hko)
      have hno : ∀ {p : Prop}, Both c n.f0 → p := fun hB => by
        obtain ⟨h1, h2⟩ := hB
        rw [h1, h2] at hf
        exact absurd hf none22
      dsimp only
      by_cases hk0 : n.f2.length = 0
      · rw [if_pos hk0]
        unfold chkRest
        have hb8 : bad8 c n.f0 n.f1 = false := by
          cases hb : bad8 c n.f0 n.f1 with
          | false => rfl
          | true =>
            unfold bad8 at hb
            rw [Bool.and_eq_true, Bool.and_eq_true, beq_iff_eq, beq_iff_eq] at hb
            exact hno ⟨hb.1, hb.2.1⟩
        rw [hb8]
        exact checkR.loop (4 - d) (insC 0) (by omega) (by omega) c n A1 A2 c1 c2 w 0 0 ⟨#[]⟩ 0 0 0 0 false false (chk d (insC 0)) _ ⟨rfl⟩ ⟨l1⟩ ⟨l2⟩ hl2 HOF ⟨fun h => absurd h (by omega)⟩ HR2 HR1 ⟨fun h => absurd h (by omega)⟩ ⟨fun hB => hno hB⟩
            ⟨fun W => wharfref08_Inside.calls 0 _ W (insC_ref 0)⟩ ⟨kid (insC 0)⟩ HSZ (.inl ⟨rfl, hk0⟩)
      · rw [if_neg hk0]
        exact checkR.form (4 - d) (by omega) c n A1 A2 c1 c2 w 0 0 ⟨#[]⟩ 0 0 0 0 false false HOF ⟨fun h => absurd h (by omega)⟩ HR2 HR1 ⟨fun h => absurd h (by omega)⟩ (.inl ⟨rfl, hk0⟩)
    | some x =>
      obtain ⟨hg3, hg5, hg6, hg4⟩ := form_good c n.f0 x hf
      have hcp := class_pos c n.f0 x hf
      rw [hf] at hof
      obtain ⟨ko, hko⟩ := hof.rounds
      have HOF := Aside0.mk (fun W => wharfref07_Of.calls ko c n.f0 _ _ _ _ _ _ _ W hko)
      have hu : x.f5 ≤ 100 := form_unit c n.f0 x hf
      have hfe := refFits_ev c x.f1 x.f2 x.f3 x.f4 x.f5 x.f6 n.f1.length hg3 hg5 hu hg4
      obtain ⟨kf, hkf⟩ := hfe.rounds
      have HFI : Aside0 (0 < c → ∀ W, _) := ⟨fun _ W => wharfref07_Fits.calls kf c x.f1 x.f2 x.f3 x.f4 x.f5 x.f6 (n.f1.length : Int) _ W hkf⟩
      have HKI : Aside0 (0 < c → ∀ W, Kd.C k26 W A2 n.f2.length n.f2 → _) := ⟨fun _ W hW => wharfref08_wanted.calls c x.f1 x.f2 x.f3 x.f4 x.f5 x.f6 A2 c2 n.f2 _ W hW l2 (wanted_row x c n.f2)⟩
      have efit : (decide (x.f3 ≤ n.f1.length) && (decide ((n.f1.length : Int) ≤ x.f4) && ((n.f1.length : Int) - x.f3) % x.f5 == 0)) = fitsF x n.f1.length := rfl
      rw [efit] at HFI
      dsimp only
      cases hfk : (fitsF x n.f1.length && kidsB x.f6 n.f2) with
      | true =>
        rw [if_pos rfl]
        rw [Bool.and_eq_true] at hfk
        unfold chkRest
        cases hb : bad8 c n.f0 n.f1 with
        | true =>
          have h22 := hb
          unfold bad8 at h22
          rw [Bool.and_eq_true, Bool.and_eq_true] at h22
          exact checkR.count (4 - d) (by omega) c n A1 A2 c1 c2 w _ _ _ _ _ _ _ _ _ HOF HFI HR2 HR1 HKI ⟨fun hB W hW => countedR c n hs hby x hf hfk.1 A1 c1 l1 true hb hB W hW⟩ h22.1 h22.2.1 ⟨hcp, hfk⟩
        | false =>
          exact checkR.loop (4 - d) (insC x.f6) (by omega) (by omega) c n A1 A2 c1 c2 w _ _ _ _ _ _ _ _ _ (chk d (insC x.f6)) _ ⟨rfl⟩ ⟨l1⟩ ⟨l2⟩ hl2 HOF HFI HR2 HR1 HKI ⟨fun hB W hW => countedR c n hs hby x hf hfk.1 A1 c1 l1 false hb hB W hW⟩
            ⟨fun W => wharfref08_Inside.calls x.f6 _ W (insC_ref x.f6)⟩ ⟨kid (insC x.f6)⟩ HSZ (.inr ⟨hcp, hfk⟩)
      | false =>
        rw [if_neg (by simp)]
        rw [Bool.and_eq_false_iff] at hfk
        exact checkR.form (4 - d) (by omega) c n A1 A2 c1 c2 w _ _ _ _ _ _ _ _ _ HOF HFI HR2 HR1 HKI (.inr ⟨hcp, hfk⟩)
def wharfref08_Check.f (a0 a1 : Int) (l1 : List Int) (l2 : List S26) (a2 : Int) : Option Int :=
  if tameN ⟨a1, l1, l2⟩ = true ∧ a2 = 1 then some (chk 4 a0 ⟨a1, l1, l2⟩) else none
theorem wharfref08_Check.calls (a0 a1_0 : Int) (A1_1 : Option Addr) (c1_1 : Nat) (l1_1 : List Int) (A1_2 : Option Addr) (c1_2 : Nat) (l1_2 : List S26) (a2 : Int) (r : Int) (w : World) (hr1_1 : Kd.C (Kd.int .u8) w A1_1 l1_1.length l1_1) (hc1_1 : l1_1.length ≤ c1_1) (hr1_2 : Kd.C k26 w A1_2 l1_2.length l1_2) (hc1_2 : l1_2.length ≤ c1_2) (h : wharfref08_Check.f a0 a1_0 l1_1 l1_2 a2 = some r) :
    Calls Tryz.prog 39 #[.int .i64 a0, .agg #[.int .u16 a1_0, .slice A1_1 l1_1.length c1_1, .slice A1_2 l1_2.length c1_2], .int .i64 a2] w fun e w' => e = .returned (.int .i64 r) ∧ Below w.heap.size w w' := by
  unfold wharfref08_Check.f at h
  by_cases ht : tameN ⟨a1_0, l1_1, l1_2⟩ = true ∧ a2 = 1
  · rw [if_pos ht] at h
    obtain rfl := Option.some.inj h
    obtain ⟨ht, rfl⟩ := ht
    unfold tameN at ht
    rw [Bool.and_eq_true, decide_eq_true_eq] at ht
    exact refCheck.any 4 (by omega) a0 ⟨a1_0, l1_1, l1_2⟩ A1_1 A1_2 c1_1 c1_2 w ht.1 ht.2 hc1_1 hr1_1 hc1_2 hr1_2
  · rw [if_neg ht] at h; cases h
end Go.Proofs.YtpgfhbdnlojdfaaGreatDoor.P
namespace Go.Proofs.YtpgfhbdnlojdfaaGreatDoor.P
open Go.RowKit Go.Proofs.YtpgfhbdnlojdfaaGreatDoorW.PrintWords Go.Proofs.YtpgfhbdnlojdfaaGreatDoorW.PrintLast Go.Proofs.YtpgfhbdnlojdfaaGreatDoorW.PrintMore
attribute [local go_sem] max2_int min2_int max_two min_two max_three min_three max_four min_four
set_option linter.unusedVariables false
set_option linter.unusedSimpArgs false
def wharfref17_Is.f (a0_0 : Int) (l0_1 : List Int) (l0_2 : List (S26)) : Option (Bool) := if a0_0 ≥ 13 then (if a0_0 ≤ 18 then ((wharfref08_Check.f 1 a0_0 l0_1 l0_2 1).bind fun t354 => (some (t354 == 0))) else (some false)) else (some false)
set_option maxHeartbeats 8000000 in
set_option maxRecDepth 100000 in
theorem wharfref17_Is.calls (a0_0 : Int) (A0_1 : Option Addr) (c0_1 : Nat) (l0_1 : List Int) (A0_2 : Option Addr) (c0_2 : Nat) (l0_2 : List (S26)) (r : Bool) (w : World) (hr0_1 : Kd.C (Kd.int .u8) w A0_1 l0_1.length l0_1) (hc0_1 : l0_1.length ≤ c0_1) (hr0_2 : Kd.C k26 w A0_2 l0_2.length l0_2) (hc0_2 : l0_2.length ≤ c0_2) (h : wharfref17_Is.f a0_0 l0_1 l0_2 = some r) :
    Calls Tryz.prog 16 #[.agg #[.int .u16 a0_0, .slice A0_1 l0_1.length c0_1, .slice A0_2 l0_2.length c0_2]] w fun e w' => e = .returned (.bool r) ∧ Below w.heap.size w w' := by
  have hu26 := Tryz.underlying26
  have HR0_1 := Aside0.mk hr0_1
  have HC0_1 := Aside0.mk hc0_1
  clear hr0_1 hc0_1
  have HR0_2 := Aside0.mk hr0_2
  have HC0_2 := Aside0.mk hc0_2
  clear hr0_2 hc0_2
  have HB := Aside0.mk (Below.refl w.heap.size w)
  have H : (if a0_0 ≥ 13 then (if a0_0 ≤ 18 then ((wharfref08_Check.f 1 a0_0 l0_1 l0_2 1).bind fun t354 => (some (t354 == 0))) else (some false)) else (some false)) = some r := h
  clear h
  by_cases c2 : a0_0 ≥ 13
  · rw [if_pos c2] at H
    have c2b0 : decide (13 ≤ a0_0) = true := decide_eq_true c2
    clear c2
    by_cases c3 : a0_0 ≤ 18
    · rw [if_pos c3] at H
      have c3b0 : decide (a0_0 ≤ 18) = true := decide_eq_true c3
      clear c3
      replace H := Option.bind_eq_some_iff.mp H
      obtain ⟨t354, A40, H⟩ := H
      replace H : (some (t354 == 0)) = some r := H
      have A4 := Aside0.mk A40
      clear A40
      obtain rfl := Option.some.inj H
      go_enter Tryz.func16, Tryz.ntmps16
      go_wp2_with (first | ((with_reducible refine gate_dst (N := 1) rfl ?_); refine box_event ?hg (N := 1) ?hd (cs := #[.int .u16 a0_0, .slice A0_1 l0_1.length c0_1, .slice A0_2 l0_2.length c0_2]) (t := 26) ?hr ?_; (case hd => rfl); (case hg => rfl); (case hr => first | (go_simp; done) | (go_simp; rfl)); intro gb353 hg w5 hbox hb; have n0_ := Aside0.mk (below_step (by repeat (first | (with_reducible first | exact HB.out | apply below_alloc | apply pw_below_drewN | apply below_drew1) | exact HB.out)) hb); have n1_ := Aside0.mk (hbox); have n2_ := Aside0.mk ((by rw [hg]; exact (below_size (by repeat (first | (with_reducible first | exact HB.out | apply below_alloc | apply pw_below_drewN | apply below_drew1) | exact HB.out))) : w.heap.size ≤ gb353)); have n3_ := Aside0.mk ((by rw [hg]; exact (below_size (by repeat (first | (with_reducible first | exact HB.out | apply below_alloc | apply pw_below_drewN | apply below_drew1) | exact HB.out))) : w.heap.size ≤ gb353)); clear HB; have HB := n0_; have BK353 := n1_; have GW353 := n2_; have GE353 := n3_; clear n0_ n1_ n2_ n3_; clear hb hbox hg; have hcz6_0 : w5.cell? ⟨gb353, 0, none⟩ = some (.int .u16 a0_0) := (blk_cell BK353.out 0).trans rfl; have hcz6_1 : w5.cell? ⟨gb353, 1, none⟩ = some (.slice A0_1 l0_1.length c0_1) := (blk_cell BK353.out 1).trans rfl; have hcz6_2 : w5.cell? ⟨gb353, 2, none⟩ = some (.slice A0_2 l0_2.length c0_2) := (blk_cell BK353.out 2).trans rfl; have hfz6_0 := blk_frozen BK353.out 0; have hfz6_1 := blk_frozen BK353.out 1; have hfz6_2 := blk_frozen BK353.out 2) | (go_at_call 39; (with_reducible refine (wharfref08_Check.calls 1 a0_0 _ _ l0_1 _ _ l0_2 1 t354 _ ?side1 ?side2 ?side3 ?side4 A4.out).mono ?_); (case side1 => repeat (first | exact (Kd.C_below HR0_1.out HB.out) | (with_reducible refine Kd.C_alloc ?_ _) | (with_reducible refine Kd.C_drewN ?_ _) | (with_reducible refine Kd.C_drew ?_))); (case side2 => exact HC0_1.out); (case side3 => repeat (first | exact (Kd.C_below HR0_2.out HB.out) | (with_reducible refine Kd.C_alloc ?_ _) | (with_reducible refine Kd.C_drewN ?_ _) | (with_reducible refine Kd.C_drew ?_))); (case side4 => exact HC0_2.out); rintro e w7 ⟨rfl, hb⟩; have n0_ := Aside0.mk (blk_below (g := gb353) (o := .cells #[.int .u16 a0_0, .slice A0_1 l0_1.length c0_1, .slice A0_2 l0_2.length c0_2] 26 (0, 0)) (by (with_reducible repeat (first | refine blk_drewN ?_ _ | refine blk_drew ?_ | refine blk_alloc ?_ _)); exact BK353.out) hb); have n1_ := Aside0.mk (below_step (by repeat (first | (with_reducible first | exact HB.out | apply below_alloc | apply pw_below_drewN | apply below_drew1 | refine below_set ?_ GE353.out) | exact HB.out)) hb); clear BK353; clear HB; have BK353 := n0_; have HB := n1_; clear n0_ n1_; (try clear hb); (try clear hb2); (try clear hk); (try clear hi)))
      go_ret
      exact ⟨by first | rfl | (simp [errW_none, errW_some] <;> rfl) | (simp [*, errW_none, errW_some] <;> rfl), by repeat (first | (with_reducible first | exact HB.out | apply below_alloc | apply pw_below_drewN | apply below_drew1 | refine below_set ?_ GE353.out) | exact HB.out)⟩
    · rw [if_neg c3] at H
      have c3b0 : decide (a0_0 ≤ 18) = false := decide_eq_false c3
      clear c3
      obtain rfl := Option.some.inj H
      go_enter Tryz.func16, Tryz.ntmps16
      go_wp2_with (first | ((with_reducible refine gate_dst (N := 1) rfl ?_); refine box_event ?hg (N := 1) ?hd (cs := #[.int .u16 a0_0, .slice A0_1 l0_1.length c0_1, .slice A0_2 l0_2.length c0_2]) (t := 26) ?hr ?_; (case hd => rfl); (case hg => rfl); (case hr => first | (go_simp; done) | (go_simp; rfl)); intro gb353 hg w8 hbox hb; have n0_ := Aside0.mk (below_step (by repeat (first | (with_reducible first | exact HB.out | apply below_alloc | apply pw_below_drewN | apply below_drew1) | exact HB.out)) hb); have n1_ := Aside0.mk (hbox); have n2_ := Aside0.mk ((by rw [hg]; exact (below_size (by repeat (first | (with_reducible first | exact HB.out | apply below_alloc | apply pw_below_drewN | apply below_drew1) | exact HB.out))) : w.heap.size ≤ gb353)); have n3_ := Aside0.mk ((by rw [hg]; exact (below_size (by repeat (first | (with_reducible first | exact HB.out | apply below_alloc | apply pw_below_drewN | apply below_drew1) | exact HB.out))) : w.heap.size ≤ gb353)); clear HB; have HB := n0_; have BK353 := n1_; have GW353 := n2_; have GE353 := n3_; clear n0_ n1_ n2_ n3_; clear hb hbox hg; have hcz9_0 : w8.cell? ⟨gb353, 0, none⟩ = some (.int .u16 a0_0) := (blk_cell BK353.out 0).trans rfl; have hcz9_1 : w8.cell? ⟨gb353, 1, none⟩ = some (.slice A0_1 l0_1.length c0_1) := (blk_cell BK353.out 1).trans rfl; have hcz9_2 : w8.cell? ⟨gb353, 2, none⟩ = some (.slice A0_2 l0_2.length c0_2) := (blk_cell BK353.out 2).trans rfl; have hfz9_0 := blk_frozen BK353.out 0; have hfz9_1 := blk_frozen BK353.out 1; have hfz9_2 := blk_frozen BK353.out 2))
      go_ret
      exact ⟨by first | rfl | (simp [errW_none, errW_some] <;> rfl) | (simp [*, errW_none, errW_some] <;> rfl), by repeat (first | (with_reducible first | exact HB.out | apply below_alloc | apply pw_below_drewN | apply below_drew1 | refine below_set ?_ GE353.out) | exact HB.out)⟩
  · rw [if_neg c2] at H
    have c2b0 : decide (13 ≤ a0_0) = false := decide_eq_false c2
    clear c2
    obtain rfl := Option.some.inj H
    go_enter Tryz.func16, Tryz.ntmps16
    go_wp2_with (first | ((with_reducible refine gate_dst (N := 1) rfl ?_); refine box_event ?hg (N := 1) ?hd (cs := #[.int .u16 a0_0, .slice A0_1 l0_1.length c0_1, .slice A0_2 l0_2.length c0_2]) (t := 26) ?hr ?_; (case hd => rfl); (case hg => rfl); (case hr => first | (go_simp; done) | (go_simp; rfl)); intro gb353 hg w10 hbox hb; have n0_ := Aside0.mk (below_step (by repeat (first | (with_reducible first | exact HB.out | apply below_alloc | apply pw_below_drewN | apply below_drew1) | exact HB.out)) hb); have n1_ := Aside0.mk (hbox); have n2_ := Aside0.mk ((by rw [hg]; exact (below_size (by repeat (first | (with_reducible first | exact HB.out | apply below_alloc | apply pw_below_drewN | apply below_drew1) | exact HB.out))) : w.heap.size ≤ gb353)); have n3_ := Aside0.mk ((by rw [hg]; exact (below_size (by repeat (first | (with_reducible first | exact HB.out | apply below_alloc | apply pw_below_drewN | apply below_drew1) | exact HB.out))) : w.heap.size ≤ gb353)); clear HB; have HB := n0_; have BK353 := n1_; have GW353 := n2_; have GE353 := n3_; clear n0_ n1_ n2_ n3_; clear hb hbox hg; have hcz11_0 : w10.cell? ⟨gb353, 0, none⟩ = some (.int .u16 a0_0) := (blk_cell BK353.out 0).trans rfl; have hcz11_1 : w10.cell? ⟨gb353, 1, none⟩ = some (.slice A0_1 l0_1.length c0_1) := (blk_cell BK353.out 1).trans rfl; have hcz11_2 : w10.cell? ⟨gb353, 2, none⟩ = some (.slice A0_2 l0_2.length c0_2) := (blk_cell BK353.out 2).trans rfl; have hfz11_0 := blk_frozen BK353.out 0; have hfz11_1 := blk_frozen BK353.out 1; have hfz11_2 := blk_frozen BK353.out 2))
    go_ret
    exact ⟨by first | rfl | (simp [errW_none, errW_some] <;> rfl) | (simp [*, errW_none, errW_some] <;> rfl), by repeat (first | (with_reducible first | exact HB.out | apply below_alloc | apply pw_below_drewN | apply below_drew1 | refine below_set ?_ GE353.out) | exact HB.out)⟩
end Go.Proofs.YtpgfhbdnlojdfaaGreatDoor.P
namespace Go.Proofs.YtpgfhbdnlojdfaaGreatDoor.P
open Go.RowKit Go.Proofs.YtpgfhbdnlojdfaaGreatDoorW.PrintWords Go.Proofs.YtpgfhbdnlojdfaaGreatDoorW.PrintLast Go.Proofs.YtpgfhbdnlojdfaaGreatDoorW.PrintMore
attribute [local go_sem] max2_int min2_int max_two min_two max_three min_three max_four min_four
set_option linter.unusedVariables false
set_option linter.unusedSimpArgs false
def wharfref17_Seq.f (k : Nat) (a0_0 : Int) (l0_1 : List Int) (l0_2 : List (S26)) : Option (Int × Bool) := (wharfref17_Is.f a0_0 l0_1 l0_2).bind fun t356 => (if t356 = true then ((wharfref01_Number.f k l0_1 0 4).bind fun bt357 => (some (bt357.1, bt357.2))) else (some (0, false)))
set_option maxHeartbeats 8000000 in
set_option maxRecDepth 100000 in
theorem wharfref17_Seq.calls (k : Nat) (a0_0 : Int) (A0_1 : Option Addr) (c0_1 : Nat) (l0_1 : List Int) (A0_2 : Option Addr) (c0_2 : Nat) (l0_2 : List (S26)) (r1 : Int) (r2 : Bool) (w : World) (hr0_1 : Kd.C (Kd.int .u8) w A0_1 l0_1.length l0_1) (hc0_1 : l0_1.length ≤ c0_1) (hr0_2 : Kd.C k26 w A0_2 l0_2.length l0_2) (hc0_2 : l0_2.length ≤ c0_2) (h : wharfref17_Seq.f k a0_0 l0_1 l0_2 = some (r1, r2)) :
    Calls Tryz.prog 11 #[.agg #[.int .u16 a0_0, .slice A0_1 l0_1.length c0_1, .slice A0_2 l0_2.length c0_2]] w fun e w' => e = .returned (.tuple #[.int .u32 r1, .bool r2]) ∧ Below w.heap.size w w' := by
  have hu26 := Tryz.underlying26
  have HR0_1 := Aside0.mk hr0_1
  have HC0_1 := Aside0.mk hc0_1
  clear hr0_1 hc0_1
  have HR0_2 := Aside0.mk hr0_2
  have HC0_2 := Aside0.mk hc0_2
  clear hr0_2 hc0_2
  have HB := Aside0.mk (Below.refl w.heap.size w)
  have H : ((wharfref17_Is.f a0_0 l0_1 l0_2).bind fun t356 => (if t356 = true then ((wharfref01_Number.f k l0_1 0 4).bind fun bt357 => (some (bt357.1, bt357.2))) else (some (0, false)))) = some (r1, r2) := h
  clear h
  replace H := Option.bind_eq_some_iff.mp H
  obtain ⟨t356, A20, H⟩ := H
  replace H : (if t356 = true then ((wharfref01_Number.f k l0_1 0 4).bind fun bt357 => (some (bt357.1, bt357.2))) else (some (0, false))) = some (r1, r2) := H
  have A2 := Aside0.mk A20
  clear A20
  by_cases c3 : t356 = true
  · subst c3
    have H1 : ((wharfref01_Number.f k l0_1 0 4).bind fun bt357 => (some (bt357.1, bt357.2))) = some (r1, r2) := by rw [if_pos rfl] at H; exact H
    clear H
    have H := H1
    clear H1
    replace H := Option.bind_eq_some_iff.mp H
    obtain ⟨⟨t357, t358⟩, A40, H⟩ := H
    replace H : (some (t357, t358)) = some (r1, r2) := H
    have A4 := Aside0.mk A40
    clear A40
    simp only [Option.some.injEq, Prod.mk.injEq] at H
    obtain ⟨rfl, rfl⟩ := H
    go_enter Tryz.func11, Tryz.ntmps11
    go_wp2_with (first | ((with_reducible refine gate_dst (N := 1) rfl ?_); refine box_event ?hg (N := 1) ?hd (cs := #[.int .u16 a0_0, .slice A0_1 l0_1.length c0_1, .slice A0_2 l0_2.length c0_2]) (t := 26) ?hr ?_; (case hd => rfl); (case hg => rfl); (case hr => first | (go_simp; done) | (go_simp; rfl)); intro gb355 hg w5 hbox hb; have n0_ := Aside0.mk (below_step (by repeat (first | (with_reducible first | exact HB.out | apply below_alloc | apply pw_below_drewN | apply below_drew1) | exact HB.out)) hb); have n1_ := Aside0.mk (hbox); have n2_ := Aside0.mk ((by rw [hg]; exact (below_size (by repeat (first | (with_reducible first | exact HB.out | apply below_alloc | apply pw_below_drewN | apply below_drew1) | exact HB.out))) : w.heap.size ≤ gb355)); have n3_ := Aside0.mk ((by rw [hg]; exact (below_size (by repeat (first | (with_reducible first | exact HB.out | apply below_alloc | apply pw_below_drewN | apply below_drew1) | exact HB.out))) : w.heap.size ≤ gb355)); clear HB; have HB := n0_; have BK355 := n1_; have GW355 := n2_; have GE355 := n3_; clear n0_ n1_ n2_ n3_; clear hb hbox hg; have hcz6_0 : w5.cell? ⟨gb355, 0, none⟩ = some (.int .u16 a0_0) := (blk_cell BK355.out 0).trans rfl; have hcz6_1 : w5.cell? ⟨gb355, 1, none⟩ = some (.slice A0_1 l0_1.length c0_1) := (blk_cell BK355.out 1).trans rfl; have hcz6_2 : w5.cell? ⟨gb355, 2, none⟩ = some (.slice A0_2 l0_2.length c0_2) := (blk_cell BK355.out 2).trans rfl; have hfz6_0 := blk_frozen BK355.out 0; have hfz6_1 := blk_frozen BK355.out 1; have hfz6_2 := blk_frozen BK355.out 2) | ((with_reducible refine gate_callee (f := 16) rfl ?_); refine goesL_ (some 5) rfl rfl Tryz.func16 (by kernel_rfl) rfl #[.agg #[.int .u16 a0_0, .slice A0_1 l0_1.length c0_1, .slice A0_2 l0_2.length c0_2]] rfl (by (try simp only [List.map_toArray, List.map_cons, List.map_nil]); first | done | rfl | (simp only [List.length_drop, List.length_take]; rfl)) ?_; (with_reducible refine (wharfref17_Is.calls a0_0 _ _ l0_1 _ _ l0_2 true _ ?side1 ?side2 ?side3 ?side4 A2.out).mono ?_); (case side1 => repeat (first | exact (Kd.C_below HR0_1.out HB.out) | (with_reducible refine Kd.C_alloc ?_ _) | (with_reducible refine Kd.C_drewN ?_ _) | (with_reducible refine Kd.C_drew ?_))); (case side2 => exact HC0_1.out); (case side3 => repeat (first | exact (Kd.C_below HR0_2.out HB.out) | (with_reducible refine Kd.C_alloc ?_ _) | (with_reducible refine Kd.C_drewN ?_ _) | (with_reducible refine Kd.C_drew ?_))); (case side4 => exact HC0_2.out); rintro e w7 ⟨rfl, hb⟩; refine ⟨_, rfl, ?_⟩; have n0_ := Aside0.mk (blk_below (g := gb355) (o := .cells #[.int .u16 a0_0, .slice A0_1 l0_1.length c0_1, .slice A0_2 l0_2.length c0_2] 26 (0, 0)) (by (with_reducible repeat (first | refine blk_drewN ?_ _ | refine blk_drew ?_ | refine blk_alloc ?_ _)); exact BK355.out) hb); have n1_ := Aside0.mk (below_step (by repeat (first | (with_reducible first | exact HB.out | apply below_alloc | apply pw_below_drewN | apply below_drew1 | refine below_set ?_ GE355.out) | exact HB.out)) hb); clear BK355; clear HB; have BK355 := n0_; have HB := n1_; clear n0_ n1_; (try clear hb); (try clear hb2); (try clear hk); (try clear hi); have hcz8_0 : w7.cell? ⟨gb355, 0, none⟩ = some (.int .u16 a0_0) := (blk_cell BK355.out 0).trans rfl; have hcz8_1 : w7.cell? ⟨gb355, 1, none⟩ = some (.slice A0_1 l0_1.length c0_1) := (blk_cell BK355.out 1).trans rfl; have hcz8_2 : w7.cell? ⟨gb355, 2, none⟩ = some (.slice A0_2 l0_2.length c0_2) := (blk_cell BK355.out 2).trans rfl; have hfz8_0 := blk_frozen BK355.out 0; have hfz8_1 := blk_frozen BK355.out 1; have hfz8_2 := blk_frozen BK355.out 2) | ((with_reducible refine gate_callee (f := 33) rfl ?_); refine goesL_ (some 9) rfl rfl Tryz.func33 (by kernel_rfl) rfl #[.slice A0_1 l0_1.length c0_1, .int .i64 0, .int .i64 4] rfl (by (try simp only [List.map_toArray, List.map_cons, List.map_nil]); first | done | rfl | (simp only [List.length_drop, List.length_take]; rfl)) ?_; (with_reducible refine (wharfref01_Number.calls k _ _ l0_1 0 4 t357 t358 _ ?side1 ?side2 A4.out).mono ?_); (case side1 => repeat (first | exact (Kd.C_below HR0_1.out HB.out) | (with_reducible refine Kd.C_alloc ?_ _) | (with_reducible refine Kd.C_drewN ?_ _) | (with_reducible refine Kd.C_drew ?_))); (case side2 => exact HC0_1.out); rintro e w' ⟨rfl, ⟨nd, rfl⟩⟩; refine ⟨_, rfl, ?_⟩))
    go_ret2
    exact ⟨by first | rfl | (simp [errW_none, errW_some] <;> rfl) | (simp [*, errW_none, errW_some] <;> rfl), by repeat (first | (with_reducible first | exact HB.out | apply below_alloc | apply pw_below_drewN | apply below_drew1 | refine below_set ?_ GE355.out) | exact HB.out)⟩
  · replace c3 := Bool.eq_false_iff.mpr c3
    subst c3
    have H1 : (some (0, false)) = some (r1, r2) := by rw [if_neg (show ¬ (false = true) by decide)] at H; exact H
    clear H
    have H := H1
    clear H1
    simp only [Option.some.injEq, Prod.mk.injEq] at H
    obtain ⟨rfl, rfl⟩ := H
    go_enter Tryz.func11, Tryz.ntmps11
    go_wp2_with (first | ((with_reducible refine gate_dst (N := 1) rfl ?_); refine box_event ?hg (N := 1) ?hd (cs := #[.int .u16 a0_0, .slice A0_1 l0_1.length c0_1, .slice A0_2 l0_2.length c0_2]) (t := 26) ?hr ?_; (case hd => rfl); (case hg => rfl); (case hr => first | (go_simp; done) | (go_simp; rfl)); intro gb355 hg w9 hbox hb; have n0_ := Aside0.mk (below_step (by repeat (first | (with_reducible first | exact HB.out | apply below_alloc | apply pw_below_drewN | apply below_drew1) | exact HB.out)) hb); have n1_ := Aside0.mk (hbox); have n2_ := Aside0.mk ((by rw [hg]; exact (below_size (by repeat (first | (with_reducible first | exact HB.out | apply below_alloc | apply pw_below_drewN | apply below_drew1) | exact HB.out))) : w.heap.size ≤ gb355)); have n3_ := Aside0.mk ((by rw [hg]; exact (below_size (by repeat (first | (with_reducible first | exact HB.out | apply below_alloc | apply pw_below_drewN | apply below_drew1) | exact HB.out))) : w.heap.size ≤ gb355)); clear HB; have HB := n0_; have BK355 := n1_; have GW355 := n2_; have GE355 := n3_; clear n0_ n1_ n2_ n3_; clear hb hbox hg; have hcz10_0 : w9.cell? ⟨gb355, 0, none⟩ = some (.int .u16 a0_0) := (blk_cell BK355.out 0).trans rfl; have hcz10_1 : w9.cell? ⟨gb355, 1, none⟩ = some (.slice A0_1 l0_1.length c0_1) := (blk_cell BK355.out 1).trans rfl; have hcz10_2 : w9.cell? ⟨gb355, 2, none⟩ = some (.slice A0_2 l0_2.length c0_2) := (blk_cell BK355.out 2).trans rfl; have hfz10_0 := blk_frozen BK355.out 0; have hfz10_1 := blk_frozen BK355.out 1; have hfz10_2 := blk_frozen BK355.out 2) | ((with_reducible refine gate_callee (f := 16) rfl ?_); refine goesL_ (some 5) rfl rfl Tryz.func16 (by kernel_rfl) rfl #[.agg #[.int .u16 a0_0, .slice A0_1 l0_1.length c0_1, .slice A0_2 l0_2.length c0_2]] rfl (by (try simp only [List.map_toArray, List.map_cons, List.map_nil]); first | done | rfl | (simp only [List.length_drop, List.length_take]; rfl)) ?_; (with_reducible refine (wharfref17_Is.calls a0_0 _ _ l0_1 _ _ l0_2 false _ ?side1 ?side2 ?side3 ?side4 A2.out).mono ?_); (case side1 => repeat (first | exact (Kd.C_below HR0_1.out HB.out) | (with_reducible refine Kd.C_alloc ?_ _) | (with_reducible refine Kd.C_drewN ?_ _) | (with_reducible refine Kd.C_drew ?_))); (case side2 => exact HC0_1.out); (case side3 => repeat (first | exact (Kd.C_below HR0_2.out HB.out) | (with_reducible refine Kd.C_alloc ?_ _) | (with_reducible refine Kd.C_drewN ?_ _) | (with_reducible refine Kd.C_drew ?_))); (case side4 => exact HC0_2.out); rintro e w11 ⟨rfl, hb⟩; refine ⟨_, rfl, ?_⟩; have n0_ := Aside0.mk (blk_below (g := gb355) (o := .cells #[.int .u16 a0_0, .slice A0_1 l0_1.length c0_1, .slice A0_2 l0_2.length c0_2] 26 (0, 0)) (by (with_reducible repeat (first | refine blk_drewN ?_ _ | refine blk_drew ?_ | refine blk_alloc ?_ _)); exact BK355.out) hb); have n1_ := Aside0.mk (below_step (by repeat (first | (with_reducible first | exact HB.out | apply below_alloc | apply pw_below_drewN | apply below_drew1 | refine below_set ?_ GE355.out) | exact HB.out)) hb); clear BK355; clear HB; have BK355 := n0_; have HB := n1_; clear n0_ n1_; (try clear hb); (try clear hb2); (try clear hk); (try clear hi)))
    go_ret2
    exact ⟨by first | rfl | (simp [errW_none, errW_some] <;> rfl) | (simp [*, errW_none, errW_some] <;> rfl), by repeat (first | (with_reducible first | exact HB.out | apply below_alloc | apply pw_below_drewN | apply below_drew1 | refine below_set ?_ GE355.out) | exact HB.out)⟩
end Go.Proofs.YtpgfhbdnlojdfaaGreatDoor.P
