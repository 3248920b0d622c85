/- Packed by wip/tools/pack.py out of MCode. -/
import Derived.Test.YtpgfhbdnlojdfaaGreatDoorR40
namespace Go.Proofs.YtpgfhbdnlojdfaaGreatDoor.P
open Go.RowKit Go.Proofs.YtpgfhbdnlojdfaaGreatDoorW.PrintWords Go.Proofs.YtpgfhbdnlojdfaaGreatDoorW.PrintLast Go.Proofs.YtpgfhbdnlojdfaaGreatDoorW.PrintMore
set_option linter.unusedVariables false
set_option linter.unusedSimpArgs false
theorem as_code' (c : Int) (t : Addr) (old : Value) (w : World) (hL : Laid w) (ht0 : w.cell? t = some old) (hf0 : w.frozen? t = false) :
    Calls Tryz.prog 93 #[.iface 101 (.int .i64 c), .iface 139 (.pointer (some t))] w fun ev w' => ev = .returned (.bool true) ∧ w'.cell? t = some (.int .i64 c) ∧ ∀ m, m ≤ t.block → m ≤ w.heap.size → Below m w w' := by
  have htl : t.block < w.heap.size := World.block_lt_of_cell? w _ ht0
  refine (as_code c t old w hL.err ht0 hf0).mono ?_
  rintro e w' ⟨rfl, rfl⟩
  refine ⟨rfl, ?_, fun m hm hm2 => ?_⟩
  · refine World.cell?_setCell_same (u := old) _ _ _ ?_
    rw [World.cell?_alloc_lt _ _ t (by simp; omega), World.cell?_alloc_lt _ _ t (by simp; omega), World.cell?_alloc_lt _ _ t (by simp; omega), World.cell?_alloc_lt _ _ t htl]
    exact ht0
  · exact (((((Below.refl _ w).alloc (by first | exact hm2 | (simp; omega)) _).alloc (by first | exact hm2 | (simp; omega)) _).alloc (by first | exact hm2 | (simp; omega)) _).alloc (by first | exact hm2 | (simp; omega)) _).setCell hm _
theorem as_fault' (c at_ : Int) (t : Addr) (old : Value) (w : World) (hL : Laid w) (ht0 : w.cell? t = some old) (hf0 : w.frozen? t = false) :
    Calls Tryz.prog 93 #[.iface 150 (.agg #[.int .i64 c, .int .i64 at_]), .iface 139 (.pointer (some t))] w fun ev w' => ev = .returned (.bool true) ∧ w'.cell? t = some (.int .i64 c) ∧ ∀ m, m ≤ t.block → m ≤ w.heap.size → Below m w w' := by
  have htl : t.block < w.heap.size := World.block_lt_of_cell? w _ ht0
  refine (as_fault c at_ t old w hL.err ht0 hf0).mono ?_
  rintro e w' ⟨rfl, rfl⟩
  refine ⟨rfl, ?_, fun m hm hm2 => ?_⟩
  · refine World.cell?_setCell_same (u := old) _ _ _ ?_
    rw [World.cell?_alloc_lt _ _ t (by simp; omega), World.cell?_alloc_lt _ _ t (by simp; omega), World.cell?_alloc_lt _ _ t (by simp; omega), World.cell?_alloc_lt _ _ t (by simp; omega), World.cell?_alloc_lt _ _ t htl]
    exact ht0
  · exact ((((((Below.refl _ w).alloc (by first | exact hm2 | (simp; omega)) _).alloc (by first | exact hm2 | (simp; omega)) _).alloc (by first | exact hm2 | (simp; omega)) _).alloc (by first | exact hm2 | (simp; omega)) _).alloc (by first | exact hm2 | (simp; omega)) _).setCell hm _
theorem fault_Code.nil (w : World) : Calls Tryz.prog 69 #[.nilIface] w fun e w' => e = .returned (.tuple #[.int .i64 0, .bool false]) ∧ Below w.heap.size w w' := by
  go_enter Tryz.func69, Tryz.ntmps69
  go_wp2_with (first | (go_at_call 93; refine (as_nil _ _).mono ?_; rintro e w1 ⟨rfl, rfl⟩))
  go_ret2
  exact ⟨rfl, (Below.refl _ w).alloc (Nat.le_refl _) _⟩
set_option maxHeartbeats 1000000 in
theorem fault_Code.code (c : Int) (w : World) (hL : Laid w) : Calls Tryz.prog 69 #[.iface 101 (.int .i64 c)] w fun e w' => e = .returned (.tuple #[.int .i64 c, .bool true]) ∧ Below w.heap.size w w' := by
  have HL := Aside0.mk (hL.below ((Below.refl _ w).alloc (Nat.le_refl _) (.cells #[.int .i64 0] 101)))
  clear hL
  go_enter Tryz.func69, Tryz.ntmps69
  go_wp2_with (first | (go_at_call 93; refine (as_code' c ⟨w.heap.size, 0, none⟩ (.int .i64 0) _ HL.out (by simp) (by simp)).mono ?_; rintro e w1 ⟨rfl, hx, hb⟩; have HB := Aside0.mk (hb w.heap.size (Nat.le_refl _) (by simp)); clear hb))
  go_ret2
  exact ⟨rfl, ((Below.refl _ w).alloc (Nat.le_refl _) _).trans HB.out⟩
set_option maxHeartbeats 1000000 in
theorem fault_Code.fault (c at_ : Int) (w : World) (hL : Laid w) : Calls Tryz.prog 69 #[.iface 150 (.agg #[.int .i64 c, .int .i64 at_])] w fun e w' => e = .returned (.tuple #[.int .i64 c, .bool true]) ∧ Below w.heap.size w w' := by
  have HL := Aside0.mk (hL.below ((Below.refl _ w).alloc (Nat.le_refl _) (.cells #[.int .i64 0] 101)))
  clear hL
  go_enter Tryz.func69, Tryz.ntmps69
  go_wp2_with (first | (go_at_call 93; refine (as_fault' c at_ ⟨w.heap.size, 0, none⟩ (.int .i64 0) _ HL.out (by simp) (by simp)).mono ?_; rintro e w1 ⟨rfl, hx, hb⟩; have HB := Aside0.mk (hb w.heap.size (Nat.le_refl _) (by simp)); clear hb))
  go_ret2
  exact ⟨rfl, ((Below.refl _ w).alloc (Nat.le_refl _) _).trans HB.out⟩
end Go.Proofs.YtpgfhbdnlojdfaaGreatDoor.P
