/- Packed by wip/tools/pack.py out of MKind, MKindOf. -/
import Derived.Deep.DeepMust
import Derived.Test.YtpgfhbdnlojdfaaGreatDoorR39
import Derived.Test.YtpgfhbdnlojdfaaGreatDoorR13
namespace Go.Proofs.YtpgfhbdnlojdfaaGreatDoor.P
open Go.RowKit Go.Proofs.YtpgfhbdnlojdfaaGreatDoorW.PrintWords Go.Proofs.YtpgfhbdnlojdfaaGreatDoorW.PrintLast Go.Proofs.YtpgfhbdnlojdfaaGreatDoorW.PrintMore
set_option linter.unusedVariables false
set_option linter.unusedSimpArgs false
set_option maxHeartbeats 2000000 in
theorem Of1.any (x : S94) (a : Int) (h1 : 0 ≤ x.f0) (h2 : x.f0 < 256) (h3 : 0 ≤ a) (h4 : a < 256) (w : World) :
    Calls Tryz.prog 88 #[.agg #[.int .u8 x.f0, .string x.f1, .int .u8 x.f2, .int .i64 x.f3, .int .i64 x.f4, .int .i64 x.f5, .int .i64 x.f6], .int .u8 a] w fun e w' => e = .returned (.int .i64 (x.f0 - a)) ∧ Below w.heap.size w w' := by
  go_enter Tryz.func88, Tryz.ntmps88
  go_wp2
  go_ret
  exact ⟨rfl, (Below.refl _ w).alloc (Nat.le_refl _) _⟩
def ky (k : Nat) : Int := (rd_T94 kTab (k : Int)).f0
theorem ky_bd : ∀ k, k < kTab.length → 0 ≤ ky k ∧ ky k < 256 := by decide
theorem ky_up : ∀ i, i < kTab.length → ∀ j, j < kTab.length → i < j → ky i < ky j := by decide
set_option maxRecDepth 100000 in
set_option maxHeartbeats 4000000 in
theorem Search.any (a : Int) (h3 : 0 ≤ a) (h4 : a < 256) (w : World) (hw : Laid w) :
    Calls Tryz.prog 87 #[.slice (some ⟨0, 0, none⟩) kTab.length kTab.length, .int .u8 a, .func (.func 88) #[] #[]] w
      fun e w' => ∃ i : Nat, i ≤ kTab.length ∧ (∀ k, k < i → ky k < a) ∧ (∀ k, i ≤ k → k < kTab.length → a ≤ ky k) ∧ e = .returned (.tuple #[.int .i64 i, .bool (decide (i < kTab.length ∧ ky i = a))]) ∧ Below w.heap.size w w' := by
  have HW := Aside0.mk hw
  have HF := Aside0.mk (fun x h1 h2 W => Of1.any x a h1 h2 h3 h4 W)
  obtain ⟨ad, had⟩ : ∃ ad : Addr, ad = ⟨0, 0, none⟩ := ⟨_, rfl⟩
  have hT := hw.tab
  rw [← had] at hT ⊢
  have HT := Aside0.mk hT
  obtain ⟨n, hn⟩ : ∃ n, n = kTab.length := ⟨_, rfl⟩
  have hn2 : n ≤ 100 := by rw [hn]; decide
  have HN := Aside0.mk hn
  rw [← hn] at HT ⊢
  clear hw had hT hn
  go_enter Tryz.func87, Tryz.ntmps87
  go_wp2
  go_loopw [9, 10] (fun i j W => ∃ p q : Nat, p ≤ q ∧ q ≤ n ∧ i = .int .i64 p ∧ j = .int .i64 q ∧ Aside0 (∀ k, k < p → ky k < a) ∧ Aside0 (∀ k, q ≤ k → k < n → a ≤ ky k) ∧ Aside0 (Below w.heap.size w W)) (fun i j _ => (intOf j).toNat - (intOf i).toNat)
  case atStart => exact ⟨0, n, Nat.zero_le _, Nat.le_refl _, rfl, rfl, ⟨fun k h => by omega⟩, ⟨fun k h1 h2 => by omega⟩, ⟨Below.refl _ w⟩⟩
  case round =>
    obtain ⟨p, q, hpq, hq, rfl, rfl, HL, HG, HB⟩ := hrel
    by_cases hlt : p < q
    · have hm1 : (p + q) / 2 < n := by omega
      have hm2 : p ≤ (p + q) / 2 := by omega
      have hm3 : (p + q) / 2 < q := by omega
      have hTW := Kd.C_below HT.out HB.out
      rw [HN.out] at hTW
      obtain ⟨ad', e, hx0, hx1, hx2, hx3, hx4, hx5, hx6⟩ := at_T94 hTW (((p + q) / 2 : Nat) : Int) (by omega) (by rw [← HN.out]; omega)
      injection e with e
      subst e
      rw [Int.toNat_natCast] at hx0 hx1 hx2 hx3 hx4 hx5 hx6
      have hky := ky_bd ((p + q) / 2) (by rw [← HN.out]; exact hm1)
      unfold ky at hky
      obtain ⟨x, hx⟩ : ∃ x, x = rd_T94 kTab (((p + q) / 2 : Nat) : Int) := ⟨_, rfl⟩
      rw [← hx] at hx0 hx1 hx2 hx3 hx4 hx5 hx6 hky
      have HX := Aside0.mk hx
      obtain ⟨hk1, hk2⟩ := hky
      have HC := Aside0.mk (HF.out x hk1 hk2)
      clear hx hTW
      by_cases hc : x.f0 < a
      · have hc2 : x.f0 - a < 0 := by omega
        go_wp2_with (first | (go_at_call 88; refine (HC.out _).mono ?_; rintro e w2 ⟨rfl, hb⟩; have HB2 := Aside0.mk hb; clear hb))
        have HKM : Aside0 (ky ((p + q) / 2) = x.f0) := ⟨by unfold ky; rw [← HX.out]⟩
        refine ⟨⟨(p + q) / 2 + 1, q, by omega, hq, by go_num, rfl, ⟨fun k hk => ?_⟩, HG, ⟨HB.out.trans (HB2.out.mono HB.out.size)⟩⟩, by simp [intOf]; omega⟩
        by_cases he : k = (p + q) / 2
        · rw [he, HKM.out]; exact hc
        · have := ky_up k (by rw [← HN.out]; omega) ((p + q) / 2) (by rw [← HN.out]; omega) (by omega)
          rw [HKM.out] at this
          omega
      · have hc2 : ¬ x.f0 - a < 0 := by omega
        go_wp2_with (first | (go_at_call 88; refine (HC.out _).mono ?_; rintro e w2 ⟨rfl, hb⟩; have HB2 := Aside0.mk hb; clear hb))
        have HKM : Aside0 (ky ((p + q) / 2) = x.f0) := ⟨by unfold ky; rw [← HX.out]⟩
        refine ⟨⟨p, (p + q) / 2, by omega, by omega, rfl, by go_num, HL, ⟨fun k hk1 hk2 => ?_⟩, ⟨HB.out.trans (HB2.out.mono HB.out.size)⟩⟩, by simp [intOf]; omega⟩
        by_cases he : k = (p + q) / 2
        · rw [he, HKM.out]; omega
        · have := ky_up ((p + q) / 2) (by rw [← HN.out]; omega) k (by rw [← HN.out]; omega) (by omega)
          rw [HKM.out] at this
          omega
    · obtain rfl : p = q := by omega
      by_cases hpn : p < n
      · have hTW := Kd.C_below HT.out HB.out
        rw [HN.out] at hTW
        obtain ⟨ad', e, hx0, hx1, hx2, hx3, hx4, hx5, hx6⟩ := at_T94 hTW (p : Int) (by omega) (by rw [← HN.out]; omega)
        injection e with e
        subst e
        rw [Int.toNat_natCast] at hx0 hx1 hx2 hx3 hx4 hx5 hx6
        have hky := ky_bd p (by rw [← HN.out]; exact hpn)
        unfold ky at hky
        obtain ⟨x, hx⟩ : ∃ x, x = rd_T94 kTab (p : Int) := ⟨_, rfl⟩
        rw [← hx] at hx0 hx1 hx2 hx3 hx4 hx5 hx6 hky
        have HX := Aside0.mk hx
        obtain ⟨hk1, hk2⟩ := hky
        have HC := Aside0.mk (HF.out x hk1 hk2)
        have HKM : Aside0 (ky p = x.f0) := ⟨by unfold ky; rw [← hx]⟩
        clear hx hTW
        have hlt2 : (p : Int) < n := by omega
        obtain ⟨d, hd⟩ : ∃ d, d = x.f0 - a := ⟨_, rfl⟩
        rw [← hd] at HC
        have HD : Aside0 ((d == 0) = decide (x.f0 = a)) := ⟨by rw [hd]; by_cases h : x.f0 = a <;> simp [h] <;> omega⟩
        clear hd hlt hpq hk1 hk2
        cases hd0 : (d == 0)
        all_goals
          go_wp2_with (first | (go_at_call 88; refine (HC.out _).mono ?_; rintro e w2 ⟨rfl, hb⟩; have HB2 := Aside0.mk hb; clear hb))
          go_ret2
          exact ⟨p, hq, HL.out, HG.out, by rw [HKM.out, Bool.decide_and, ← HD.out, hd0]; simp [hpn], HB.out.trans (HB2.out.mono HB.out.size)⟩
      · obtain rfl : p = n := by omega
        go_wp2
        go_ret2
        exact ⟨p, hq, HL.out, HG.out, by simp, HB.out⟩
end Go.Proofs.YtpgfhbdnlojdfaaGreatDoor.P
namespace Go.Proofs.YtpgfhbdnlojdfaaGreatDoor.P
open Go.RowKit Go.Proofs.YtpgfhbdnlojdfaaGreatDoorW.PrintWords Go.Proofs.YtpgfhbdnlojdfaaGreatDoorW.PrintLast Go.Proofs.YtpgfhbdnlojdfaaGreatDoorW.PrintMore
set_option linter.unusedVariables false
set_option linter.unusedSimpArgs false
theorem add0 (b m : Nat) : (⟨b, 0, none⟩ : Addr).add m = ⟨b, m, none⟩ := by unfold Addr.add; split <;> simp_all
def kind_Of.f (a0 : Int) : Option (Int × ByteArray × Int × Int × Int × Int × Int × Bool) :=
  if 0 ≤ a0 ∧ a0 < 256 then
    some (match kTab.find? (fun x => x.f0 == a0) with
    | some x => (x.f0, x.f1, x.f2, x.f3, x.f4, x.f5, x.f6, true)
    | none => (0, ⟨#[]⟩, 0, 0, 0, 0, 0, false))
  else none
theorem sizeKind : (Tryz.prog.info? 94).map (·.size) = some 7 := by kernel_rfl
theorem oneK (r1 : Int) (r2 : ByteArray) (r3 r4 r5 r6 r7 : Int) : (#[.int .u8 r1, .string r2, .int .u8 r3, .int .i64 r4, .int .i64 r5, .int .i64 r6, .int .i64 r7] : Array Value).all (·.oneCell') = true := by simp [Value.oneCell']
theorem found (a : Int) (i : Nat) (hi : i ≤ kTab.length) (h1 : ∀ k, k < i → ky k < a) (h2 : ∀ k, i ≤ k → k < kTab.length → a ≤ ky k) :
    (i < kTab.length ∧ ky i = a → kTab.find? (fun x => x.f0 == a) = some (rd_T94 kTab (i : Int))) ∧ (¬ (i < kTab.length ∧ ky i = a) → kTab.find? (fun x => x.f0 == a) = none) := by
  have key : ∀ k (h : k < kTab.length), kTab[k].f0 = ky k := fun k h => by
    unfold ky rd_T94
    rw [Int.toNat_natCast, List.getD_eq_getElem?_getD, List.getElem?_eq_getElem h]; rfl
  refine ⟨fun h => ?_, fun h => ?_⟩
  · rw [List.find?_eq_some_iff_getElem]
    have e : rd_T94 kTab (i : Int) = kTab[i]'h.1 := by
      unfold rd_T94
      rw [Int.toNat_natCast, List.getD_eq_getElem?_getD, List.getElem?_eq_getElem h.1]; rfl
    refine ⟨?_, i, h.1, e.symm, fun j hj => ?_⟩
    · rw [e, key i h.1]; simp [h.2]
    · have hjl : j < kTab.length := by omega
      rw [key j hjl]
      have := h1 j hj
      simp; omega
  · rw [List.find?_eq_none]
    intro x hx
    obtain ⟨k, hk, rfl⟩ := List.mem_iff_getElem.1 hx
    rw [key k hk]
    simp only [beq_iff_eq]
    intro hka
    rcases Nat.lt_or_ge k i with hki | hki
    · have := h1 k hki; omega
    · apply h
      refine ⟨by omega, ?_⟩
      rcases Nat.lt_or_ge i k with h3 | h3
      · have h4 := ky_up i (by omega) k hk h3
        have h5 := h2 i (Nat.le_refl _) (by omega)
        omega
      · have : k = i := by omega
        rw [← this]; exact hka
set_option maxRecDepth 100000 in
set_option maxHeartbeats 4000000 in
theorem kind_Of.calls (a0 : Int) (r1 : Int) (r2 : ByteArray) (r3 r4 r5 r6 r7 : Int) (r8 : Bool) (w : World) (hL_ : Laid w) (h : kind_Of.f a0 = some (r1, r2, r3, r4, r5, r6, r7, r8)) :
    Calls Tryz.prog 61 #[.int .u8 a0] w fun e w' => e = .returned (.tuple #[.agg #[.int .u8 r1, .string r2, .int .u8 r3, .int .i64 r4, .int .i64 r5, .int .i64 r6, .int .i64 r7], .bool r8]) ∧ Below w.heap.size w w' := by
  unfold kind_Of.f at h
  by_cases hd : 0 ≤ a0 ∧ a0 < 256
  · rw [if_pos hd] at h
    have hS := fun W hW => Search.any a0 hd.1 hd.2 W hW
    rw [show kTab.length = 23 from rfl] at hS
    have HS := Aside0.mk hS
    have HW := Aside0.mk (hL_.below ((Below.refl _ w).alloc (Nat.le_refl _) (.cells #[.int .u8 0, .string ⟨#[]⟩, .int .u8 0, .int .i64 0, .int .i64 0, .int .i64 0, .int .i64 0] 94)))
    have H := Option.some.inj h
    cases hf : kTab.find? (fun x => x.f0 == a0) with
    | none =>
      rw [hf] at H
      simp only [Prod.mk.injEq] at H
      obtain ⟨rfl, rfl, rfl, rfl, rfl, rfl, rfl, rfl⟩ := H
      have HF := Aside0.mk hf
      clear h hd hL_ hS hf
      go_enter Tryz.func61, Tryz.ntmps61
      go_wp2_with (first | (go_at_call 87; refine (HS.out _ HW.out).mono ?_; rintro e w1 ⟨i, hi, hlo, hhi, rfl, hb⟩; have HL1 := Aside0.mk (HW.out.below hb); have HK := Aside0.mk (blk_below (heap_alloc_new w (.cells #[.int .u8 0, .string ⟨#[]⟩, .int .u8 0, .int .i64 0, .int .i64 0, .int .i64 0, .int .i64 0] 94)) hb); have HB := Aside0.mk (((Below.refl _ w).alloc (Nat.le_refl _) _).trans (hb.mono (by simp))); have hno : ¬ (i < 23 ∧ ky i = a0) := (fun h => (by have h2 := (found a0 i hi hlo hhi).1 h; rw [HF.out] at h2; cases h2)); rw [decide_eq_false hno]; clear hno; clear hb hi hlo hhi) | (refine wpList_store_row rfl 94 _ _ rfl w.heap.size #[.int .u8 0, .string ⟨#[]⟩, .int .u8 0, .int .i64 0, .int .i64 0, .int .i64 0, .int .i64 0] rfl rfl 94 _ HK.out sizeKind rfl (oneK _ _ _ _ _ _ _) ?_; have HK2 := Aside0.mk (setRow_heap _ _ _ #[.int .u8 0, .string ⟨#[]⟩, .int .u8 0, .int .i64 0, .int .i64 0, .int .i64 0, .int .i64 0] _ _ HK.out)))
      exact ⟨rfl, _, results_ct rfl _ _ w.heap.size _ _ (0, 0) _ rfl HK2.out Tryz.underlying94 rfl sizeKind, rfl, HB.out.grown (grown_setRow _ w.heap.size _) HB.out.size (fun k e => by cases e; exact Nat.le_refl _)⟩
    | some x =>
      rw [hf] at H
      simp only [Prod.mk.injEq] at H
      obtain ⟨rfl, rfl, rfl, rfl, rfl, rfl, rfl, rfl⟩ := H
      have HF := Aside0.mk hf
      clear h hd hL_ hS hf
      go_enter Tryz.func61, Tryz.ntmps61
      go_wp2_with (first | (go_at_call 87; refine (HS.out _ HW.out).mono ?_; rintro e w1 ⟨i, hi, hlo, hhi, rfl, hb⟩; have HL1 := Aside0.mk (HW.out.below hb); have HK := Aside0.mk (blk_below (heap_alloc_new w (.cells #[.int .u8 0, .string ⟨#[]⟩, .int .u8 0, .int .i64 0, .int .i64 0, .int .i64 0, .int .i64 0] 94)) hb); have HB := Aside0.mk (((Below.refl _ w).alloc (Nat.le_refl _) _).trans (hb.mono (by simp))); have hyes : (i < 23 ∧ ky i = a0) := (Classical.byContradiction fun h => (by have h2 := (found a0 i hi hlo hhi).2 h; rw [HF.out] at h2; cases h2)); have hx := (found a0 i hi hlo hhi).1 hyes; rw [HF.out] at hx; have hxe := Option.some.inj hx; obtain ⟨ad', e, hx0, hx1, hx2, hx3, hx4, hx5, hx6⟩ := at_T94 HL1.out.tab (i : Int) (by omega) (by have := hyes.1; show (i : Int) < ((23 : Nat) : Int); omega); injection e with e; subst e; rw [Int.toNat_natCast, ← hxe] at hx0 hx1 hx2 hx3 hx4 hx5 hx6; have hA : (⟨0, 0, none⟩ : Addr).add (i * 7) = ⟨0, i * 7, none⟩ := add0 _ _; rw [hA] at hx0 hx1 hx2 hx3 hx4 hx5 hx6; dsimp only at hx1 hx2 hx3 hx4 hx5 hx6; rw [decide_eq_true hyes]; have hi23 : i < 23 := hyes.1; clear hyes hx hxe; clear hb hi hlo hhi) | (refine wpList_store_row rfl 94 _ _ rfl w.heap.size #[.int .u8 x.f0, .string x.f1, .int .u8 x.f2, .int .i64 x.f3, .int .i64 x.f4, .int .i64 x.f5, .int .i64 x.f6] rfl rfl 94 _ HK.out sizeKind rfl (oneK _ _ _ _ _ _ _) ?_; have HK2 := Aside0.mk (setRow_heap _ _ _ #[.int .u8 x.f0, .string x.f1, .int .u8 x.f2, .int .i64 x.f3, .int .i64 x.f4, .int .i64 x.f5, .int .i64 x.f6] _ _ HK.out)))
      exact ⟨rfl, _, results_ct rfl _ _ w.heap.size _ _ (0, 0) _ rfl HK2.out Tryz.underlying94 rfl sizeKind, rfl, HB.out.grown (grown_setRow _ w.heap.size _) HB.out.size (fun k e => by cases e; exact Nat.le_refl _)⟩
  · rw [if_neg hd] at h; cases h
def kind_Inside.f (a0 : Int) : Option (Int × Int × Int) :=
  if a0 < 0 ∨ 7 ≤ a0 then some (0, 0, 0) else some (rd kIns (a0 * 3), rd kIns (a0 * 3 + 1), rd kIns (a0 * 3 + 2))
set_option maxHeartbeats 4000000 in
theorem Inside.row (k : Nat) (hk : k < 7) (w : World) (hL_ : Laid w) :
    Calls Tryz.prog 62 #[.int .i64 (k : Int)] w fun e w' => e = .returned (.tuple #[.int .i64 (rd kIns ((k * 3 : Nat) : Int)), .int .i64 (rd kIns ((k * 3 + 1 : Nat) : Int)), .int .i64 (rd kIns ((k * 3 + 2 : Nat) : Int))]) ∧ Below w.heap.size w w' := by
  have hl : kIns.length = 21 := rfl
  obtain ⟨ad, e, h0⟩ := int_at hL_.ins (k * 3) (by omega)
  obtain ⟨ad1, e1, h1⟩ := int_at hL_.ins (k * 3 + 1) (by omega)
  obtain ⟨ad2, e2, h2⟩ := int_at hL_.ins (k * 3 + 2) (by omega)
  injection e with e; injection e1 with e1; injection e2 with e2
  subst e; subst e1; subst e2
  rw [← rd_at kIns _ (by omega)] at h0 h1 h2
  rw [add0] at h0 h1 h2
  have hk0 : ¬ (k : Int) < 0 := by omega
  have hk7 : ¬ (7 : Int) ≤ (k : Int) := by omega
  clear hL_ hl
  generalize rd kIns ((k * 3 : Nat) : Int) = v0 at *
  generalize rd kIns ((k * 3 + 1 : Nat) : Int) = v1 at *
  generalize rd kIns ((k * 3 + 2 : Nat) : Int) = v2 at *
  go_enter Tryz.func62, Tryz.ntmps62
  go_wp2
  go_quiet (fail)
  go_wp2
  go_ret3
  exact ⟨rfl, pw_below_drewN (Below.refl _ w) _⟩
theorem kind_Inside.calls (a0 r1 r2 r3 : Int) (w : World) (hL_ : Laid w) (h : kind_Inside.f a0 = some (r1, r2, r3)) :
    Calls Tryz.prog 62 #[.int .i64 a0] w fun e w' => e = .returned (.tuple #[.int .i64 r1, .int .i64 r2, .int .i64 r3]) ∧ Below w.heap.size w w' := by
  unfold kind_Inside.f at h
  by_cases hc : a0 < 0 ∨ 7 ≤ a0
  · rw [if_pos hc] at h
    have h := Option.some.inj h
    simp only [Prod.mk.injEq] at h
    obtain ⟨rfl, rfl, rfl⟩ := h
    rcases hc with hc | hc
    · go_enter Tryz.func62, Tryz.ntmps62
      go_wp2
      go_ret3
      exact ⟨rfl, Below.refl _ w⟩
    · have hc2 : ¬ a0 < 0 := by omega
      go_enter Tryz.func62, Tryz.ntmps62
      go_wp2
      go_ret3
      exact ⟨rfl, Below.refl _ w⟩
  · rw [if_neg hc] at h
    have h := Option.some.inj h
    simp only [Prod.mk.injEq] at h
    obtain ⟨rfl, rfl, rfl⟩ := h
    obtain ⟨k, rfl⟩ : ∃ k : Nat, a0 = (k : Int) := ⟨a0.toNat, by omega⟩
    exact Inside.row k (by omega) w hL_
end Go.Proofs.YtpgfhbdnlojdfaaGreatDoor.P
