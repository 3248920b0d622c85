/- Packed by wip/tools/pack.py out of MChunk. -/
import Derived.Test.YtpgfhbdnlojdfaaGreatDoorR43
import Derived.Test.YtpgfhbdnlojdfaaGreatDoorR44
namespace Go.Proofs.YtpgfhbdnlojdfaaGreatDoor.P
open Go.RowKit Go.Proofs.YtpgfhbdnlojdfaaGreatDoorW.PrintWords Go.Proofs.YtpgfhbdnlojdfaaGreatDoorW.PrintLast Go.Proofs.YtpgfhbdnlojdfaaGreatDoorW.PrintMore
set_option linter.unusedVariables false
set_option linter.unusedSimpArgs false
set_option maxRecDepth 100000 in
set_option maxHeartbeats 1000000 in
theorem chC.bare (t fl : Int) (d : List Int) (A1 : Option Addr) (c1 : Nat) (l : List S26) (A2 : Option Addr) (c2 : Nat) (k : S94) (ok : Bool) (ci lo hi : Int) (w : World) (hl : 0 < l.length) (hl2 : l.length ≤ 4194304)
    (HOF : Aside0 (∀ W, Below w.heap.size w W → Calls Tryz.prog 61 #[.int .u8 t] W fun e w' => e = .returned (.tuple #[kdV k, .bool false]) ∧ Below W.heap.size W w'))
    (HIN : Aside0 (∀ W, Below w.heap.size w W → Calls Tryz.prog 62 #[.int .i64 k.f6] W fun e w' => e = .returned (.tuple #[.int .i64 ci, .int .i64 lo, .int .i64 hi]) ∧ Below W.heap.size W w'))
    (HLD : Aside0 (Laid w)) :
    Calls Tryz.prog 37 #[chV t fl A1 d.length c1 A2 l.length c2] w fun e w' => e = .returned (.iface 101 (.int .i64 7)) ∧ Below w.heap.size w w' := by
  have hl3 : (0 : Int) < (l.length : Int) := by omega
  have hl4 : (l.length : Int) ≤ 4194304 := by omega
  have BC := Aside0.mk (heap_alloc_new w (.cells #[.int .u8 t, .int .u8 fl, .slice A1 d.length c1, .slice A2 l.length c2] 37))
  have HB := Aside0.mk ((Below.refl _ w).alloc (Nat.le_refl _) (.cells #[.int .u8 t, .int .u8 fl, .slice A1 d.length c1, .slice A2 l.length c2] 37))
  go_enter Tryz.func37, Tryz.ntmps37
  go_wp2_with fail
  refine (HOF.out _ HB.out).mono ?_
  rintro e w1 ⟨rfl, hb⟩
  replace BC := Aside0.mk (blk_alloc (blk_below BC.out hb) (.cells #[.int .u8 k.f0, .string k.f1, .int .u8 k.f2, .int .i64 k.f3, .int .i64 k.f4, .int .i64 k.f5, .int .i64 k.f6] 94))
  have BK := Aside0.mk (heap_alloc_new w1 (.cells #[.int .u8 k.f0, .string k.f1, .int .u8 k.f2, .int .i64 k.f3, .int .i64 k.f4, .int .i64 k.f5, .int .i64 k.f6] 94))
  replace HB := Aside0.mk (HB.out.trans (hb.mono HB.out.size))
  have HW1 := Aside0.mk HB.out.size
  replace HB := Aside0.mk (HB.out.alloc HB.out.size (.cells #[.int .u8 k.f0, .string k.f1, .int .u8 k.f2, .int .i64 k.f3, .int .i64 k.f4, .int .i64 k.f5, .int .i64 k.f6] 94))
  clear hb
  have qc0 := (blk_cell BC.out 0).trans (show _ = some (Value.int .u8 t) from rfl)
  have qc1 := (blk_cell BC.out 1).trans (show _ = some (Value.int .u8 fl) from rfl)
  have qc2 := (blk_cell BC.out 2).trans (show _ = some (Value.slice A1 d.length c1) from rfl)
  have qc3 := (blk_cell BC.out 3).trans (show _ = some (Value.slice A2 l.length c2) from rfl)
  go_wp2_with fail
  refine (HIN.out _ HB.out).mono ?_
  rintro e w2 ⟨rfl, hb⟩
  clear qc0 qc1 qc2 qc3
  replace BC := Aside0.mk (blk_below BC.out hb)
  replace BK := Aside0.mk (blk_below BK.out hb)
  replace HB := Aside0.mk (HB.out.trans (hb.mono HB.out.size))
  clear hb
  have qc0 := (blk_cell BC.out 0).trans (show _ = some (Value.int .u8 t) from rfl)
  have qc1 := (blk_cell BC.out 1).trans (show _ = some (Value.int .u8 fl) from rfl)
  have qc2 := (blk_cell BC.out 2).trans (show _ = some (Value.slice A1 d.length c1) from rfl)
  have qc3 := (blk_cell BC.out 3).trans (show _ = some (Value.slice A2 l.length c2) from rfl)
  have qk0 := (blk_cell BK.out 0).trans (show _ = some (Value.int .u8 k.f0) from rfl)
  have qk1 := (blk_cell BK.out 1).trans (show _ = some (Value.string k.f1) from rfl)
  have qk2 := (blk_cell BK.out 2).trans (show _ = some (Value.int .u8 k.f2) from rfl)
  have qk3 := (blk_cell BK.out 3).trans (show _ = some (Value.int .i64 k.f3) from rfl)
  have qk4 := (blk_cell BK.out 4).trans (show _ = some (Value.int .i64 k.f4) from rfl)
  have qk5 := (blk_cell BK.out 5).trans (show _ = some (Value.int .i64 k.f5) from rfl)
  have qk6 := (blk_cell BK.out 6).trans (show _ = some (Value.int .i64 k.f6) from rfl)
  go_wp2_with fail
  refine (fault_Code.code 7 _ (HLD.out.below HB.out)).mono ?_
  rintro e w4 ⟨rfl, hb⟩
  clear qc0 qc1 qc2 qc3
  replace BC := Aside0.mk (blk_below BC.out hb)
  replace HB := Aside0.mk (HB.out.trans (hb.mono HB.out.size))
  clear hb
  have qc0 := (blk_cell BC.out 0).trans (show _ = some (Value.int .u8 t) from rfl)
  have qc1 := (blk_cell BC.out 1).trans (show _ = some (Value.int .u8 fl) from rfl)
  have qc2 := (blk_cell BC.out 2).trans (show _ = some (Value.slice A1 d.length c1) from rfl)
  have qc3 := (blk_cell BC.out 3).trans (show _ = some (Value.slice A2 l.length c2) from rfl)
  go_wp2
  go_ret
  exact ⟨rfl, HB.out⟩
set_option maxRecDepth 100000 in
set_option maxHeartbeats 1000000 in
theorem chC.bad (c : Int) (t fl : Int) (d : List Int) (A1 : Option Addr) (c1 : Nat) (l : List S26) (A2 : Option Addr) (c2 : Nat) (k : S94) (ok : Bool) (ci lo hi : Int) (w : World)
    (HOF : Aside0 (∀ W, Below w.heap.size w W → Calls Tryz.prog 61 #[.int .u8 t] W fun e w' => e = .returned (.tuple #[kdV k, .bool true]) ∧ Below W.heap.size W w'))
    (HIN : Aside0 (∀ W, Below w.heap.size w W → Calls Tryz.prog 62 #[.int .i64 k.f6] W fun e w' => e = .returned (.tuple #[.int .i64 ci, .int .i64 lo, .int .i64 hi]) ∧ Below W.heap.size W w'))
    (HFI : Aside0 (∀ W g, Below w.heap.size w W → W.heap[g]? = some (.cells #[.func (.func 64) #[] #[], .func (.func 65) #[] #[], .func (.func 66) #[] #[], .func (.func 67) #[] #[], .func (.func 68) #[] #[]] 133 (0, 0)) → Calls Tryz.prog 63 #[chV t fl A1 d.length c1 A2 l.length c2, kdV k, .slice (some ⟨g, 0, none⟩) 5 5] W fun e w' => FltC c e ∧ Below W.heap.size W w'))
    (HLD : Aside0 (Laid w)) :
    Calls Tryz.prog 37 #[chV t fl A1 d.length c1 A2 l.length c2] w fun e w' => e = .returned (.iface 101 (.int .i64 c)) ∧ Below w.heap.size w w' := by
  have BC := Aside0.mk (heap_alloc_new w (.cells #[.int .u8 t, .int .u8 fl, .slice A1 d.length c1, .slice A2 l.length c2] 37))
  have HB := Aside0.mk ((Below.refl _ w).alloc (Nat.le_refl _) (.cells #[.int .u8 t, .int .u8 fl, .slice A1 d.length c1, .slice A2 l.length c2] 37))
  go_enter Tryz.func37, Tryz.ntmps37
  go_wp2_with fail
  refine (HOF.out _ HB.out).mono ?_
  rintro e w1 ⟨rfl, hb⟩
  replace BC := Aside0.mk (blk_alloc (blk_below BC.out hb) (.cells #[.int .u8 k.f0, .string k.f1, .int .u8 k.f2, .int .i64 k.f3, .int .i64 k.f4, .int .i64 k.f5, .int .i64 k.f6] 94))
  have BK := Aside0.mk (heap_alloc_new w1 (.cells #[.int .u8 k.f0, .string k.f1, .int .u8 k.f2, .int .i64 k.f3, .int .i64 k.f4, .int .i64 k.f5, .int .i64 k.f6] 94))
  replace HB := Aside0.mk (HB.out.trans (hb.mono HB.out.size))
  have HW1 := Aside0.mk HB.out.size
  replace HB := Aside0.mk (HB.out.alloc HB.out.size (.cells #[.int .u8 k.f0, .string k.f1, .int .u8 k.f2, .int .i64 k.f3, .int .i64 k.f4, .int .i64 k.f5, .int .i64 k.f6] 94))
  clear hb
  have qc0 := (blk_cell BC.out 0).trans (show _ = some (Value.int .u8 t) from rfl)
  have qc1 := (blk_cell BC.out 1).trans (show _ = some (Value.int .u8 fl) from rfl)
  have qc2 := (blk_cell BC.out 2).trans (show _ = some (Value.slice A1 d.length c1) from rfl)
  have qc3 := (blk_cell BC.out 3).trans (show _ = some (Value.slice A2 l.length c2) from rfl)
  go_wp2_with fail
  refine (HIN.out _ HB.out).mono ?_
  rintro e w2 ⟨rfl, hb⟩
  clear qc0 qc1 qc2 qc3
  replace BC := Aside0.mk (blk_below BC.out hb)
  replace BK := Aside0.mk (blk_below BK.out hb)
  replace HB := Aside0.mk (HB.out.trans (hb.mono HB.out.size))
  clear hb
  have qc0 := (blk_cell BC.out 0).trans (show _ = some (Value.int .u8 t) from rfl)
  have qc1 := (blk_cell BC.out 1).trans (show _ = some (Value.int .u8 fl) from rfl)
  have qc2 := (blk_cell BC.out 2).trans (show _ = some (Value.slice A1 d.length c1) from rfl)
  have qc3 := (blk_cell BC.out 3).trans (show _ = some (Value.slice A2 l.length c2) from rfl)
  have qk0 := (blk_cell BK.out 0).trans (show _ = some (Value.int .u8 k.f0) from rfl)
  have qk1 := (blk_cell BK.out 1).trans (show _ = some (Value.string k.f1) from rfl)
  have qk2 := (blk_cell BK.out 2).trans (show _ = some (Value.int .u8 k.f2) from rfl)
  have qk3 := (blk_cell BK.out 3).trans (show _ = some (Value.int .i64 k.f3) from rfl)
  have qk4 := (blk_cell BK.out 4).trans (show _ = some (Value.int .i64 k.f4) from rfl)
  have qk5 := (blk_cell BK.out 5).trans (show _ = some (Value.int .i64 k.f5) from rfl)
  have qk6 := (blk_cell BK.out 6).trans (show _ = some (Value.int .i64 k.f6) from rfl)
  go_wp2_with fail
  replace BC := Aside0.mk (blk_alloc BC.out (.cells #[.func (.func 64) #[] #[], .func (.func 65) #[] #[], .func (.func 66) #[] #[], .func (.func 67) #[] #[], .func (.func 68) #[] #[]] 133))
  have HB2 := Aside0.mk (HB.out.alloc HB.out.size (.cells #[.func (.func 64) #[] #[], .func (.func 65) #[] #[], .func (.func 66) #[] #[], .func (.func 67) #[] #[], .func (.func 68) #[] #[]] 133))
  have HF1 := Aside0.mk (HFI.out _ _ HB2.out (heap_alloc_new w2 (.cells #[.func (.func 64) #[] #[], .func (.func 65) #[] #[], .func (.func 66) #[] #[], .func (.func 67) #[] #[], .func (.func 68) #[] #[]] 133)))
  replace HB := HB2
  clear qk0 qk1 qk2 qk3 qk4 qk5 qk6
  refine (HF1.out).mono ?_
  rintro e w3 ⟨⟨a, rfl⟩, hb⟩
  clear qc0 qc1 qc2 qc3
  replace BC := Aside0.mk (blk_below BC.out hb)
  replace HB := Aside0.mk (HB.out.trans (hb.mono HB.out.size))
  clear hb
  have qc0 := (blk_cell BC.out 0).trans (show _ = some (Value.int .u8 t) from rfl)
  have qc1 := (blk_cell BC.out 1).trans (show _ = some (Value.int .u8 fl) from rfl)
  have qc2 := (blk_cell BC.out 2).trans (show _ = some (Value.slice A1 d.length c1) from rfl)
  have qc3 := (blk_cell BC.out 3).trans (show _ = some (Value.slice A2 l.length c2) from rfl)
  go_wp2_with fail
  refine (fault_Code.fault c a _ (HLD.out.below HB.out)).mono ?_
  rintro e w4 ⟨rfl, hb⟩
  clear qc0 qc1 qc2 qc3
  replace BC := Aside0.mk (blk_below BC.out hb)
  replace HB := Aside0.mk (HB.out.trans (hb.mono HB.out.size))
  clear hb
  have qc0 := (blk_cell BC.out 0).trans (show _ = some (Value.int .u8 t) from rfl)
  have qc1 := (blk_cell BC.out 1).trans (show _ = some (Value.int .u8 fl) from rfl)
  have qc2 := (blk_cell BC.out 2).trans (show _ = some (Value.slice A1 d.length c1) from rfl)
  have qc3 := (blk_cell BC.out 3).trans (show _ = some (Value.slice A2 l.length c2) from rfl)
  go_wp2
  go_ret
  exact ⟨rfl, HB.out⟩
set_option maxRecDepth 100000 in
set_option maxHeartbeats 1000000 in
theorem chC.loop_true (t fl : Int) (d : List Int) (A1 : Option Addr) (c1 : Nat) (l : List S26) (A2 : Option Addr) (c2 : Nat) (k : S94) (ok : Bool) (ci lo hi : Int) (w : World) (ck : S26 → Int) (E : Int) (sz : Nat) (HEQ : Aside0 (E = (if firstE (l.map ck) = 0 then (if 65535 < sz then 4 else 0) else firstE (l.map ck)))) (hlen : l.length ≤ 1048576)
    (HOF : Aside0 (∀ W, Below w.heap.size w W → Calls Tryz.prog 61 #[.int .u8 t] W fun e w' => e = .returned (.tuple #[kdV k, .bool true]) ∧ Below W.heap.size W w'))
    (HIN : Aside0 (∀ W, Below w.heap.size w W → Calls Tryz.prog 62 #[.int .i64 k.f6] W fun e w' => e = .returned (.tuple #[.int .i64 ci, .int .i64 lo, .int .i64 hi]) ∧ Below W.heap.size W w'))
    (HFI : Aside0 (∀ W g, Below w.heap.size w W → W.heap[g]? = some (.cells #[.func (.func 64) #[] #[], .func (.func 65) #[] #[], .func (.func 66) #[] #[], .func (.func 67) #[] #[], .func (.func 68) #[] #[]] 133 (0, 0)) → Calls Tryz.prog 63 #[chV t fl A1 d.length c1 A2 l.length c2, kdV k, .slice (some ⟨g, 0, none⟩) 5 5] W fun e w' => e = .returned .nilIface ∧ Below W.heap.size W w'))
    (HLD : Aside0 (Laid w))
    (HR2 : Aside0 (Kd.C k26 w A2 l.length l))
    (HKD : Aside0 (∀ x ∈ l, ∀ (B1 B2 : Option Addr) (d1 d2 : Nat) (W : World), x.f1.length ≤ d1 → (Kd.int .u8).C W B1 x.f1.length x.f1 → x.f2.length ≤ d2 → Kd.C k26 W B2 x.f2.length x.f2 →
      Calls Tryz.prog 53 #[.int .i64 ci, .agg #[.int .u16 x.f0, .slice B1 x.f1.length d1, .slice B2 x.f2.length d2]] W fun e w' => e = .returned (errI (ck x)) ∧ Below W.heap.size W w'))
    (HSZ : Aside0 (∀ W, Below w.heap.size w W → Calls Tryz.prog 70 #[chV t fl A1 d.length c1 A2 l.length c2] W fun e w' => e = .returned (.int .i64 (sz : Int)) ∧ Below W.heap.size W w')) :
    Calls Tryz.prog 37 #[chV t fl A1 d.length c1 A2 l.length c2] w fun e w' => e = .returned (errI E) ∧ Below w.heap.size w w' := by
  have hlen2 : (l.length : Int) ≤ 1048576 := by omega
  have BC := Aside0.mk (heap_alloc_new w (.cells #[.int .u8 t, .int .u8 fl, .slice A1 d.length c1, .slice A2 l.length c2] 37))
  have HB := Aside0.mk ((Below.refl _ w).alloc (Nat.le_refl _) (.cells #[.int .u8 t, .int .u8 fl, .slice A1 d.length c1, .slice A2 l.length c2] 37))
  go_enter Tryz.func37, Tryz.ntmps37
  go_wp2_with fail
  refine (HOF.out _ HB.out).mono ?_
  rintro e w1 ⟨rfl, hb⟩
  replace BC := Aside0.mk (blk_alloc (blk_below BC.out hb) (.cells #[.int .u8 k.f0, .string k.f1, .int .u8 k.f2, .int .i64 k.f3, .int .i64 k.f4, .int .i64 k.f5, .int .i64 k.f6] 94))
  have BK := Aside0.mk (heap_alloc_new w1 (.cells #[.int .u8 k.f0, .string k.f1, .int .u8 k.f2, .int .i64 k.f3, .int .i64 k.f4, .int .i64 k.f5, .int .i64 k.f6] 94))
  replace HB := Aside0.mk (HB.out.trans (hb.mono HB.out.size))
  have HW1 := Aside0.mk HB.out.size
  replace HB := Aside0.mk (HB.out.alloc HB.out.size (.cells #[.int .u8 k.f0, .string k.f1, .int .u8 k.f2, .int .i64 k.f3, .int .i64 k.f4, .int .i64 k.f5, .int .i64 k.f6] 94))
  clear hb
  have qc0 := (blk_cell BC.out 0).trans (show _ = some (Value.int .u8 t) from rfl)
  have qc1 := (blk_cell BC.out 1).trans (show _ = some (Value.int .u8 fl) from rfl)
  have qc2 := (blk_cell BC.out 2).trans (show _ = some (Value.slice A1 d.length c1) from rfl)
  have qc3 := (blk_cell BC.out 3).trans (show _ = some (Value.slice A2 l.length c2) from rfl)
  go_wp2_with fail
  refine (HIN.out _ HB.out).mono ?_
  rintro e w2 ⟨rfl, hb⟩
  clear qc0 qc1 qc2 qc3
  replace BC := Aside0.mk (blk_below BC.out hb)
  replace BK := Aside0.mk (blk_below BK.out hb)
  replace HB := Aside0.mk (HB.out.trans (hb.mono HB.out.size))
  clear hb
  have qc0 := (blk_cell BC.out 0).trans (show _ = some (Value.int .u8 t) from rfl)
  have qc1 := (blk_cell BC.out 1).trans (show _ = some (Value.int .u8 fl) from rfl)
  have qc2 := (blk_cell BC.out 2).trans (show _ = some (Value.slice A1 d.length c1) from rfl)
  have qc3 := (blk_cell BC.out 3).trans (show _ = some (Value.slice A2 l.length c2) from rfl)
  have qk0 := (blk_cell BK.out 0).trans (show _ = some (Value.int .u8 k.f0) from rfl)
  have qk1 := (blk_cell BK.out 1).trans (show _ = some (Value.string k.f1) from rfl)
  have qk2 := (blk_cell BK.out 2).trans (show _ = some (Value.int .u8 k.f2) from rfl)
  have qk3 := (blk_cell BK.out 3).trans (show _ = some (Value.int .i64 k.f3) from rfl)
  have qk4 := (blk_cell BK.out 4).trans (show _ = some (Value.int .i64 k.f4) from rfl)
  have qk5 := (blk_cell BK.out 5).trans (show _ = some (Value.int .i64 k.f5) from rfl)
  have qk6 := (blk_cell BK.out 6).trans (show _ = some (Value.int .i64 k.f6) from rfl)
  go_wp2_with fail
  replace BC := Aside0.mk (blk_alloc BC.out (.cells #[.func (.func 64) #[] #[], .func (.func 65) #[] #[], .func (.func 66) #[] #[], .func (.func 67) #[] #[], .func (.func 68) #[] #[]] 133))
  have HB2 := Aside0.mk (HB.out.alloc HB.out.size (.cells #[.func (.func 64) #[] #[], .func (.func 65) #[] #[], .func (.func 66) #[] #[], .func (.func 67) #[] #[], .func (.func 68) #[] #[]] 133))
  have HF1 := Aside0.mk (HFI.out _ _ HB2.out (heap_alloc_new w2 (.cells #[.func (.func 64) #[] #[], .func (.func 65) #[] #[], .func (.func 66) #[] #[], .func (.func 67) #[] #[], .func (.func 68) #[] #[]] 133)))
  replace HB := HB2
  clear qk0 qk1 qk2 qk3 qk4 qk5 qk6
  refine (HF1.out).mono ?_
  rintro e w3 ⟨rfl, hb⟩
  clear qc0 qc1 qc2 qc3
  replace BC := Aside0.mk (blk_below BC.out hb)
  replace HB := Aside0.mk (HB.out.trans (hb.mono HB.out.size))
  clear hb
  have qc0 := (blk_cell BC.out 0).trans (show _ = some (Value.int .u8 t) from rfl)
  have qc1 := (blk_cell BC.out 1).trans (show _ = some (Value.int .u8 fl) from rfl)
  have qc2 := (blk_cell BC.out 2).trans (show _ = some (Value.slice A1 d.length c1) from rfl)
  have qc3 := (blk_cell BC.out 3).trans (show _ = some (Value.slice A2 l.length c2) from rfl)
  go_wp2_with fail
  refine (fault_Code.nil _).mono ?_
  rintro e w4 ⟨rfl, hb⟩
  clear qc0 qc1 qc2 qc3
  replace BC := Aside0.mk (blk_below BC.out hb)
  replace HB := Aside0.mk (HB.out.trans (hb.mono HB.out.size))
  clear hb
  have qc0 := (blk_cell BC.out 0).trans (show _ = some (Value.int .u8 t) from rfl)
  have qc1 := (blk_cell BC.out 1).trans (show _ = some (Value.int .u8 fl) from rfl)
  have qc2 := (blk_cell BC.out 2).trans (show _ = some (Value.slice A1 d.length c1) from rfl)
  have qc3 := (blk_cell BC.out 3).trans (show _ = some (Value.slice A2 l.length c2) from rfl)
  go_wp2
  clear HOF HIN HFI HF1 HLD
  clear qc0 qc1 qc2 qc3
  go_loopw [50] (fun i W => ∃ j : Nat, j ≤ l.length ∧ i = .int .i64 j ∧ Aside0 (firstE ((l.take j).map ck) = 0) ∧ Aside0 (Below w4.heap.size w4 W)) (fun i _ => l.length - (intOf i).toNat)
  case atStart => exact ⟨0, Nat.zero_le _, rfl, ⟨rfl⟩, ⟨Below.refl _ w4⟩⟩
  case round =>
    obtain ⟨j, hj, rfl, HF, HW⟩ := hrel
    have HWW := Aside0.mk (HB.out.trans (HW.out.mono HB.out.size))
    have HRW := Aside0.mk (Kd.C_below HR2.out HWW.out)
    by_cases hlt : j < l.length
    · obtain ⟨ad, B1, d1, B2, d2, e, hx0, hx1, hx2, l1, g1, l2, g2⟩ := at_T26 HRW.out (j : Int) (by omega) (by omega)
      rw [rdN_at l j hlt] at hx0 hx1 hx2 l1 g1 l2 g2
      rw [Int.toNat_natCast] at hx0 hx1 hx2
      subst e
      have HFT := Aside0.mk (firstE_take ck l j hlt HF.out)
      have HK := Aside0.mk (HKD.out l[j] (List.getElem_mem hlt) B1 B2 d1 d2)
      obtain ⟨x, hx⟩ : ∃ x, x = l[j] := ⟨_, rfl⟩
      rw [← hx] at hx0 hx1 hx2 l1 g1 l2 g2 HFT HK
      have HL1 := Aside0.mk l1
      have HL2 := Aside0.mk l2
      have HG1 := Aside0.mk g1
      have HG2 := Aside0.mk g2
      clear hx l1 l2 g1 g2
      have hlt2 : (j : Int) < l.length := by omega
      by_cases hc : ck x = 0
      · have HE := Aside0.mk (show errI (ck x) = .nilIface from by rw [hc]; rfl)
        rw [HE.out] at HK
        have HFT1 := Aside0.mk (HFT.out.1 hc)
        clear hc
        go_wp2_with (first | (go_at_call 53; refine (HK.out _ HL1.out (Kd.C_alloc HG1.out _) HL2.out (Kd.C_alloc HG2.out _)).mono ?_; rintro e w9 ⟨rfl, hb⟩; have HB9 := Aside0.mk hb; clear hb))
        refine ⟨⟨j + 1, by omega, by go_num, ⟨HFT1.out⟩, ⟨(HW.out.alloc HW.out.size _).trans (HB9.out.mono (by have := HW.out.size; simp; omega))⟩⟩, by simp [intOf]; omega⟩
      · have HE := Aside0.mk (show errI (ck x) = .iface 101 (.int .i64 (ck x)) from by unfold errI; rw [if_neg hc]; rfl)
        have HFT1 := Aside0.mk (show errI E = errI (ck x) from by rw [HEQ.out, HFT.out.2 hc, if_neg hc])
        rw [HE.out] at HK
        clear hc HFT
        generalize ck x = v at HK HE HFT1
        go_wp2_with (first | (go_at_call 53; refine (HK.out _ HL1.out (Kd.C_alloc HG1.out _) HL2.out (Kd.C_alloc HG2.out _)).mono ?_; rintro e w9 ⟨rfl, hb⟩; have HB9 := Aside0.mk hb; clear hb))
        go_ret
        exact ⟨congrArg Ending.returned (HE.out.symm.trans HFT1.out.symm), (HWW.out.alloc HWW.out.size _).trans (HB9.out.mono (by have := HWW.out.size; simp; omega))⟩
    · obtain rfl : j = l.length := by omega
      have hF := HF.out
      rw [List.take_length] at hF
      have HF0 := Aside0.mk (show ∀ e, e = (if 65535 < sz then 4 else 0) → errI E = errI e from fun e he => by rw [HEQ.out, if_pos hF, he])
      have BCW := Aside0.mk (blk_below BC.out HW.out)
      have qc0 := (blk_cell BCW.out 0).trans (show _ = some (Value.int .u8 t) from rfl)
      have qc1 := (blk_cell BCW.out 1).trans (show _ = some (Value.int .u8 fl) from rfl)
      have qc2 := (blk_cell BCW.out 2).trans (show _ = some (Value.slice A1 d.length c1) from rfl)
      have qc3 := (blk_cell BCW.out 3).trans (show _ = some (Value.slice A2 l.length c2) from rfl)
      have HS1 := Aside0.mk (HSZ.out wr HWW.out)
      clear hF HF hlt
      by_cases hs : 65535 < sz
      · have HF1 := Aside0.mk (HF0.out 4 (by rw [if_pos hs]))
        have hs2 : (65535 : Int) < (sz : Int) := by omega
        clear HF0
        go_wp2_with (first | (go_at_call 70; refine HS1.out.mono ?_; rintro e w9 ⟨rfl, hb⟩; have HB9 := Aside0.mk hb; clear hb))
        go_ret
        exact ⟨congrArg Ending.returned HF1.out.symm, HWW.out.trans (HB9.out.mono HWW.out.size)⟩
      · have HF1 := Aside0.mk (HF0.out 0 (by rw [if_neg hs]))
        have hs2 : ¬ (65535 : Int) < (sz : Int) := by omega
        clear HF0
        go_wp2_with (first | (go_at_call 70; refine HS1.out.mono ?_; rintro e w9 ⟨rfl, hb⟩; have HB9 := Aside0.mk hb; clear hb))
        go_ret
        exact ⟨congrArg Ending.returned HF1.out.symm, HWW.out.trans (HB9.out.mono HWW.out.size)⟩
set_option maxRecDepth 100000 in
set_option maxHeartbeats 1000000 in
theorem chC.loop_false (t fl : Int) (d : List Int) (A1 : Option Addr) (c1 : Nat) (l : List S26) (A2 : Option Addr) (c2 : Nat) (k : S94) (ok : Bool) (ci lo hi : Int) (w : World) (ck : S26 → Int) (E : Int) (sz : Nat) (HEQ : Aside0 (E = (if firstE (l.map ck) = 0 then (if 65535 < sz then 4 else 0) else firstE (l.map ck)))) (hlen : l.length ≤ 1048576) (hl0 : l.length = 0)
    (HOF : Aside0 (∀ W, Below w.heap.size w W → Calls Tryz.prog 61 #[.int .u8 t] W fun e w' => e = .returned (.tuple #[kdV k, .bool false]) ∧ Below W.heap.size W w'))
    (HIN : Aside0 (∀ W, Below w.heap.size w W → Calls Tryz.prog 62 #[.int .i64 k.f6] W fun e w' => e = .returned (.tuple #[.int .i64 ci, .int .i64 lo, .int .i64 hi]) ∧ Below W.heap.size W w'))
    (HLD : Aside0 (Laid w))
    (HR2 : Aside0 (Kd.C k26 w A2 l.length l))
    (HKD : Aside0 (∀ x ∈ l, ∀ (B1 B2 : Option Addr) (d1 d2 : Nat) (W : World), x.f1.length ≤ d1 → (Kd.int .u8).C W B1 x.f1.length x.f1 → x.f2.length ≤ d2 → Kd.C k26 W B2 x.f2.length x.f2 →
      Calls Tryz.prog 53 #[.int .i64 ci, .agg #[.int .u16 x.f0, .slice B1 x.f1.length d1, .slice B2 x.f2.length d2]] W fun e w' => e = .returned (errI (ck x)) ∧ Below W.heap.size W w'))
    (HSZ : Aside0 (∀ W, Below w.heap.size w W → Calls Tryz.prog 70 #[chV t fl A1 d.length c1 A2 l.length c2] W fun e w' => e = .returned (.int .i64 (sz : Int)) ∧ Below W.heap.size W w')) :
    Calls Tryz.prog 37 #[chV t fl A1 d.length c1 A2 l.length c2] w fun e w' => e = .returned (errI E) ∧ Below w.heap.size w w' := by
  have hlen2 : (l.length : Int) ≤ 1048576 := by omega
  have hlz : decide (0 < (l.length : Int)) = false := by simp [hl0]
  have hlz2 : decide (0 < l.length) = false := by simp [hl0]
  clear hl0
  have BC := Aside0.mk (heap_alloc_new w (.cells #[.int .u8 t, .int .u8 fl, .slice A1 d.length c1, .slice A2 l.length c2] 37))
  have HB := Aside0.mk ((Below.refl _ w).alloc (Nat.le_refl _) (.cells #[.int .u8 t, .int .u8 fl, .slice A1 d.length c1, .slice A2 l.length c2] 37))
  go_enter Tryz.func37, Tryz.ntmps37
  go_wp2_with fail
  refine (HOF.out _ HB.out).mono ?_
  rintro e w1 ⟨rfl, hb⟩
  replace BC := Aside0.mk (blk_alloc (blk_below BC.out hb) (.cells #[.int .u8 k.f0, .string k.f1, .int .u8 k.f2, .int .i64 k.f3, .int .i64 k.f4, .int .i64 k.f5, .int .i64 k.f6] 94))
  have BK := Aside0.mk (heap_alloc_new w1 (.cells #[.int .u8 k.f0, .string k.f1, .int .u8 k.f2, .int .i64 k.f3, .int .i64 k.f4, .int .i64 k.f5, .int .i64 k.f6] 94))
  replace HB := Aside0.mk (HB.out.trans (hb.mono HB.out.size))
  have HW1 := Aside0.mk HB.out.size
  replace HB := Aside0.mk (HB.out.alloc HB.out.size (.cells #[.int .u8 k.f0, .string k.f1, .int .u8 k.f2, .int .i64 k.f3, .int .i64 k.f4, .int .i64 k.f5, .int .i64 k.f6] 94))
  clear hb
  have qc0 := (blk_cell BC.out 0).trans (show _ = some (Value.int .u8 t) from rfl)
  have qc1 := (blk_cell BC.out 1).trans (show _ = some (Value.int .u8 fl) from rfl)
  have qc2 := (blk_cell BC.out 2).trans (show _ = some (Value.slice A1 d.length c1) from rfl)
  have qc3 := (blk_cell BC.out 3).trans (show _ = some (Value.slice A2 l.length c2) from rfl)
  go_wp2_with fail
  refine (HIN.out _ HB.out).mono ?_
  rintro e w2 ⟨rfl, hb⟩
  clear qc0 qc1 qc2 qc3
  replace BC := Aside0.mk (blk_below BC.out hb)
  replace BK := Aside0.mk (blk_below BK.out hb)
  replace HB := Aside0.mk (HB.out.trans (hb.mono HB.out.size))
  clear hb
  have qc0 := (blk_cell BC.out 0).trans (show _ = some (Value.int .u8 t) from rfl)
  have qc1 := (blk_cell BC.out 1).trans (show _ = some (Value.int .u8 fl) from rfl)
  have qc2 := (blk_cell BC.out 2).trans (show _ = some (Value.slice A1 d.length c1) from rfl)
  have qc3 := (blk_cell BC.out 3).trans (show _ = some (Value.slice A2 l.length c2) from rfl)
  have qk0 := (blk_cell BK.out 0).trans (show _ = some (Value.int .u8 k.f0) from rfl)
  have qk1 := (blk_cell BK.out 1).trans (show _ = some (Value.string k.f1) from rfl)
  have qk2 := (blk_cell BK.out 2).trans (show _ = some (Value.int .u8 k.f2) from rfl)
  have qk3 := (blk_cell BK.out 3).trans (show _ = some (Value.int .i64 k.f3) from rfl)
  have qk4 := (blk_cell BK.out 4).trans (show _ = some (Value.int .i64 k.f4) from rfl)
  have qk5 := (blk_cell BK.out 5).trans (show _ = some (Value.int .i64 k.f5) from rfl)
  have qk6 := (blk_cell BK.out 6).trans (show _ = some (Value.int .i64 k.f6) from rfl)
  go_wp2_with fail
  refine (fault_Code.nil _).mono ?_
  rintro e w4 ⟨rfl, hb⟩
  clear qc0 qc1 qc2 qc3
  replace BC := Aside0.mk (blk_below BC.out hb)
  replace HB := Aside0.mk (HB.out.trans (hb.mono HB.out.size))
  clear hb
  have qc0 := (blk_cell BC.out 0).trans (show _ = some (Value.int .u8 t) from rfl)
  have qc1 := (blk_cell BC.out 1).trans (show _ = some (Value.int .u8 fl) from rfl)
  have qc2 := (blk_cell BC.out 2).trans (show _ = some (Value.slice A1 d.length c1) from rfl)
  have qc3 := (blk_cell BC.out 3).trans (show _ = some (Value.slice A2 l.length c2) from rfl)
  go_wp2
  clear HOF HIN hlz hlz2 HLD
  clear qc0 qc1 qc2 qc3
  go_loopw [50] (fun i W => ∃ j : Nat, j ≤ l.length ∧ i = .int .i64 j ∧ Aside0 (firstE ((l.take j).map ck) = 0) ∧ Aside0 (Below w4.heap.size w4 W)) (fun i _ => l.length - (intOf i).toNat)
  case atStart => exact ⟨0, Nat.zero_le _, rfl, ⟨rfl⟩, ⟨Below.refl _ w4⟩⟩
  case round =>
    obtain ⟨j, hj, rfl, HF, HW⟩ := hrel
    have HWW := Aside0.mk (HB.out.trans (HW.out.mono HB.out.size))
    have HRW := Aside0.mk (Kd.C_below HR2.out HWW.out)
    by_cases hlt : j < l.length
    · obtain ⟨ad, B1, d1, B2, d2, e, hx0, hx1, hx2, l1, g1, l2, g2⟩ := at_T26 HRW.out (j : Int) (by omega) (by omega)
      rw [rdN_at l j hlt] at hx0 hx1 hx2 l1 g1 l2 g2
      rw [Int.toNat_natCast] at hx0 hx1 hx2
      subst e
      have HFT := Aside0.mk (firstE_take ck l j hlt HF.out)
      have HK := Aside0.mk (HKD.out l[j] (List.getElem_mem hlt) B1 B2 d1 d2)
      obtain ⟨x, hx⟩ : ∃ x, x = l[j] := ⟨_, rfl⟩
      rw [← hx] at hx0 hx1 hx2 l1 g1 l2 g2 HFT HK
      have HL1 := Aside0.mk l1
      have HL2 := Aside0.mk l2
      have HG1 := Aside0.mk g1
      have HG2 := Aside0.mk g2
      clear hx l1 l2 g1 g2
      have hlt2 : (j : Int) < l.length := by omega
      by_cases hc : ck x = 0
      · have HE := Aside0.mk (show errI (ck x) = .nilIface from by rw [hc]; rfl)
        rw [HE.out] at HK
        have HFT1 := Aside0.mk (HFT.out.1 hc)
        clear hc
        go_wp2_with (first | (go_at_call 53; refine (HK.out _ HL1.out (Kd.C_alloc HG1.out _) HL2.out (Kd.C_alloc HG2.out _)).mono ?_; rintro e w9 ⟨rfl, hb⟩; have HB9 := Aside0.mk hb; clear hb))
        refine ⟨⟨j + 1, by omega, by go_num, ⟨HFT1.out⟩, ⟨(HW.out.alloc HW.out.size _).trans (HB9.out.mono (by have := HW.out.size; simp; omega))⟩⟩, by simp [intOf]; omega⟩
      · have HE := Aside0.mk (show errI (ck x) = .iface 101 (.int .i64 (ck x)) from by unfold errI; rw [if_neg hc]; rfl)
        have HFT1 := Aside0.mk (show errI E = errI (ck x) from by rw [HEQ.out, HFT.out.2 hc, if_neg hc])
        rw [HE.out] at HK
        clear hc HFT
        generalize ck x = v at HK HE HFT1
        go_wp2_with (first | (go_at_call 53; refine (HK.out _ HL1.out (Kd.C_alloc HG1.out _) HL2.out (Kd.C_alloc HG2.out _)).mono ?_; rintro e w9 ⟨rfl, hb⟩; have HB9 := Aside0.mk hb; clear hb))
        go_ret
        exact ⟨congrArg Ending.returned (HE.out.symm.trans HFT1.out.symm), (HWW.out.alloc HWW.out.size _).trans (HB9.out.mono (by have := HWW.out.size; simp; omega))⟩
    · obtain rfl : j = l.length := by omega
      have hF := HF.out
      rw [List.take_length] at hF
      have HF0 := Aside0.mk (show ∀ e, e = (if 65535 < sz then 4 else 0) → errI E = errI e from fun e he => by rw [HEQ.out, if_pos hF, he])
      have BCW := Aside0.mk (blk_below BC.out HW.out)
      have qc0 := (blk_cell BCW.out 0).trans (show _ = some (Value.int .u8 t) from rfl)
      have qc1 := (blk_cell BCW.out 1).trans (show _ = some (Value.int .u8 fl) from rfl)
      have qc2 := (blk_cell BCW.out 2).trans (show _ = some (Value.slice A1 d.length c1) from rfl)
      have qc3 := (blk_cell BCW.out 3).trans (show _ = some (Value.slice A2 l.length c2) from rfl)
      have HS1 := Aside0.mk (HSZ.out wr HWW.out)
      clear hF HF hlt
      by_cases hs : 65535 < sz
      · have HF1 := Aside0.mk (HF0.out 4 (by rw [if_pos hs]))
        have hs2 : (65535 : Int) < (sz : Int) := by omega
        clear HF0
        go_wp2_with (first | (go_at_call 70; refine HS1.out.mono ?_; rintro e w9 ⟨rfl, hb⟩; have HB9 := Aside0.mk hb; clear hb))
        go_ret
        exact ⟨congrArg Ending.returned HF1.out.symm, HWW.out.trans (HB9.out.mono HWW.out.size)⟩
      · have HF1 := Aside0.mk (HF0.out 0 (by rw [if_neg hs]))
        have hs2 : ¬ (65535 : Int) < (sz : Int) := by omega
        clear HF0
        go_wp2_with (first | (go_at_call 70; refine HS1.out.mono ?_; rintro e w9 ⟨rfl, hb⟩; have HB9 := Aside0.mk hb; clear hb))
        go_ret
        exact ⟨congrArg Ending.returned HF1.out.symm, HWW.out.trans (HB9.out.mono HWW.out.size)⟩
end Go.Proofs.YtpgfhbdnlojdfaaGreatDoor.P
