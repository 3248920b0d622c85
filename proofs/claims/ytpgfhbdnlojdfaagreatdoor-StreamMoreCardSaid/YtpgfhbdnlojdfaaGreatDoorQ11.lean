/- Packed by wip/tools/pack.py out of MKind. -/
import Derived.Deep.DeepMust
import Derived.Test.YtpgfhbdnlojdfaaGreatDoorQ09
namespace Go.Proofs.YtpgfhbdnlojdfaaGreatDoor.P
open Go.RowKit Go.Proofs.YtpgfhbdnlojdfaaGreatDoorW.PrintWords Go.Proofs.YtpgfhbdnlojdfaaGreatDoorW.PrintLast Go.Proofs.YtpgfhbdnlojdfaaGreatDoorW.PrintMore
set_option linter.unusedVariables false
set_option linter.unusedSimpArgs false
set_option maxHeartbeats 2000000 in
theorem Of1.any (x : S94) (a : Int) (h1 : 0 ≤ x.f0) (h2 : x.f0 < 256) (h3 : 0 ≤ a) (h4 : a < 256) (w : World) :
    Calls Tryz.prog 88 #[.agg #[.int .u8 x.f0, .string x.f1, .int .u8 x.f2, .int .i64 x.f3, .int .i64 x.f4, .int .i64 x.f5, .int .i64 x.f6], .int .u8 a] w fun e w' => e = .returned (.int .i64 (x.f0 - a)) ∧ Below w.heap.size w w' := by
  go_enter Tryz.func88, Tryz.ntmps88
  go_wp2
  go_ret
  exact ⟨rfl, (Below.refl _ w).alloc (Nat.le_refl _) _⟩
def ky (k : Nat) : Int := (rd_T94 kTab (k : Int)).f0
theorem ky_bd : ∀ k, k < kTab.length → 0 ≤ ky k ∧ ky k < 256 := by decide
theorem ky_up : ∀ i, i < kTab.length → ∀ j, j < kTab.length → i < j → ky i < ky j := by decide
set_option maxRecDepth 100000 in
set_option maxHeartbeats 4000000 in
theorem Search.any (a : Int) (h3 : 0 ≤ a) (h4 : a < 256) (w : World) (hw : Laid w) :
    Calls Tryz.prog 87 #[.slice (some ⟨0, 0, none⟩) kTab.length kTab.length, .int .u8 a, .func (.func 88) #[] #[]] w
      fun e w' => ∃ i : Nat, i ≤ kTab.length ∧ (∀ k, k < i → ky k < a) ∧ (∀ k, i ≤ k → k < kTab.length → a ≤ ky k) ∧ e = .returned (.tuple #[.int .i64 i, .bool (decide (i < kTab.length ∧ ky i = a))]) ∧ Below w.heap.size w w' := by
  have HW := Aside0.mk hw
  have HF := Aside0.mk (fun x h1 h2 W => Of1.any x a h1 h2 h3 h4 W)
  obtain ⟨ad, had⟩ : ∃ ad : Addr, ad = ⟨0, 0, none⟩ := ⟨_, rfl⟩
  have hT := hw.tab
  rw [← had] at hT ⊢
  have HT := Aside0.mk hT
  obtain ⟨n, hn⟩ : ∃ n, n = kTab.length := ⟨_, rfl⟩
  have hn2 : n ≤ 100 := by rw [hn]; decide
  have HN := Aside0.mk hn
  rw [← hn] at HT ⊢
  clear hw had hT hn
  go_enter Tryz.func87, Tryz.ntmps87
  go_wp2
  go_loopw [9, 10] (fun i j W => ∃ p q : Nat, p ≤ q ∧ q ≤ n ∧ i = .int .i64 p ∧ j = .int .i64 q ∧ Aside0 (∀ k, k < p → ky k < a) ∧ Aside0 (∀ k, q ≤ k → k < n → a ≤ ky k) ∧ Aside0 (Below w.heap.size w W)) (fun i j _ => (intOf j).toNat - (intOf i).toNat)
  case atStart => exact ⟨0, n, Nat.zero_le _, Nat.le_refl _, rfl, rfl, ⟨fun k h => by omega⟩, ⟨fun k h1 h2 => by omega⟩, ⟨Below.refl _ w⟩⟩
  case round =>
    obtain ⟨p, q, hpq, hq, rfl, rfl, HL, HG, HB⟩ := hrel
    by_cases hlt : p < q
    · have hm1 : (p + q) / 2 < n := by omega
      have hm2 : p ≤ (p + q) / 2 := by omega
      have hm3 : (p + q) / 2 < q := by omega
      have hTW := Kd.C_below HT.out HB.out
      rw [HN.out] at hTW
      obtain ⟨ad', e, hx0, hx1, hx2, hx3, hx4, hx5, hx6⟩ := at_T94 hTW (((p + q) / 2 : Nat) : Int) (by omega) (by rw [← HN.out]; omega)
      injection e with e
      subst e
      rw [Int.toNat_natCast] at hx0 hx1 hx2 hx3 hx4 hx5 hx6
      have hky := ky_bd ((p + q) / 2) (by rw [← HN.out]; exact hm1)
      unfold ky at hky
      obtain ⟨x, hx⟩ : ∃ x, x = rd_T94 kTab (((p + q) / 2 : Nat) : Int) := ⟨_, rfl⟩
      rw [← hx] at hx0 hx1 hx2 hx3 hx4 hx5 hx6 hky
      have HX := Aside0.mk hx
      obtain ⟨hk1, hk2⟩ := hky
      have HC := Aside0.mk (HF.out x hk1 hk2)
      clear hx hTW
      by_cases hc : x.f0 < a
      · have hc2 : x.f0 - a < 0 := by omega
        go_wp2_with (first | (go_at_call 88; refine (HC.out _).mono ?_; rintro e w2 ⟨rfl, hb⟩; have HB2 := Aside0.mk hb; clear hb))
        have HKM : Aside0 (ky ((p + q) / 2) = x.f0) := ⟨by unfold ky; rw [← HX.out]⟩
        refine ⟨⟨(p + q) / 2 + 1, q, by omega, hq, by go_num, rfl, ⟨fun k hk => ?_⟩, HG, ⟨HB.out.trans (HB2.out.mono HB.out.size)⟩⟩, by simp [intOf]; omega⟩
        by_cases he : k = (p + q) / 2
        · rw [he, HKM.out]; exact hc
        · have := ky_up k (by rw [← HN.out]; omega) ((p + q) / 2) (by rw [← HN.out]; omega) (by omega)
          rw [HKM.out] at this
          omega
      · have hc2 : ¬ x.f0 - a < 0 := by omega
        go_wp2_with (first | (go_at_call 88; refine (HC.out _).mono ?_; rintro e w2 ⟨rfl, hb⟩; have HB2 := Aside0.mk hb; clear hb))
        have HKM : Aside0 (ky ((p + q) / 2) = x.f0) := ⟨by unfold ky; rw [← HX.out]⟩
        refine ⟨⟨p, (p + q) / 2, by omega, by omega, rfl, by go_num, HL, ⟨fun k hk1 hk2 => ?_⟩, ⟨HB.out.trans (HB2.out.mono HB.out.size)⟩⟩, by simp [intOf]; omega⟩
        by_cases he : k = (p + q) / 2
        · rw [he, HKM.out]; omega
        · have := ky_up ((p + q) / 2) (by rw [← HN.out]; omega) k (by rw [← HN.out]; omega) (by omega)
          rw [HKM.out] at this
          omega
    · obtain rfl : p = q := by omega
      by_cases hpn : p < n
      · have hTW := Kd.C_below HT.out HB.out
        rw [HN.out] at hTW
        obtain ⟨ad', e, hx0, hx1, hx2, hx3, hx4, hx5, hx6⟩ := at_T94 hTW (p : Int) (by omega) (by rw [← HN.out]; omega)
        injection e with e
        subst e
        rw [Int.toNat_natCast] at hx0 hx1 hx2 hx3 hx4 hx5 hx6
        have hky := ky_bd p (by rw [← HN.out]; exact hpn)
        unfold ky at hky
        obtain ⟨x, hx⟩ : ∃ x, x = rd_T94 kTab (p : Int) := ⟨_, rfl⟩
        rw [← hx] at hx0 hx1 hx2 hx3 hx4 hx5 hx6 hky
        have HX := Aside0.mk hx
        obtain ⟨hk1, hk2⟩ := hky
        have HC := Aside0.mk (HF.out x hk1 hk2)
        have HKM : Aside0 (ky p = x.f0) := ⟨by unfold ky; rw [← hx]⟩
        clear hx hTW
        have hlt2 : (p : Int) < n := by omega
        obtain ⟨d, hd⟩ : ∃ d, d = x.f0 - a := ⟨_, rfl⟩
        rw [← hd] at HC
        have HD : Aside0 ((d == 0) = decide (x.f0 = a)) := ⟨by rw [hd]; by_cases h : x.f0 = a <;> simp [h] <;> omega⟩
        clear hd hlt hpq hk1 hk2
        cases hd0 : (d == 0)
        all_goals
          go_wp2_with (first | (go_at_call 88; refine (HC.out _).mono ?_; rintro e w2 ⟨rfl, hb⟩; have HB2 := Aside0.mk hb; clear hb))
          go_ret2
          exact ⟨p, hq, HL.out, HG.out, by rw [HKM.out, Bool.decide_and, ← HD.out, hd0]; simp [hpn], HB.out.trans (HB2.out.mono HB.out.size)⟩
      · obtain rfl : p = n := by omega
        go_wp2
        go_ret2
        exact ⟨p, hq, HL.out, HG.out, by simp, HB.out⟩
end Go.Proofs.YtpgfhbdnlojdfaaGreatDoor.P
