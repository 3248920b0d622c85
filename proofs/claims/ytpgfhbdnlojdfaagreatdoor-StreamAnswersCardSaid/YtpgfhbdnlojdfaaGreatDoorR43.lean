/- Packed by wip/tools/pack.py out of MParts, MKids, MFirst. -/
import Derived.IntWalk
import Derived.Outline
import Derived.Test.YtpgfhbdnlojdfaaGreatDoorR40
import Derived.Test.YtpgfhbdnlojdfaaGreatDoorR41
import Derived.Test.YtpgfhbdnlojdfaaGreatDoorR16
import Derived.Test.YtpgfhbdnlojdfaaGreatDoorR21
import Derived.Test.YtpgfhbdnlojdfaaGreatDoorR42
namespace Go.Proofs.YtpgfhbdnlojdfaaGreatDoor.P
open Go.RowKit Go.Proofs.YtpgfhbdnlojdfaaGreatDoorW.PrintWords Go.Proofs.YtpgfhbdnlojdfaaGreatDoorW.PrintLast Go.Proofs.YtpgfhbdnlojdfaaGreatDoorW.PrintMore
set_option linter.unusedVariables false
set_option linter.unusedSimpArgs false
abbrev chV (t fl : Int) (A1 : Option Addr) (n1 c1 : Nat) (A2 : Option Addr) (n2 c2 : Nat) : Value := .agg #[.int .u8 t, .int .u8 fl, .slice A1 n1 c1, .slice A2 n2 c2]
abbrev kdV (k : S94) : Value := .agg #[.int .u8 k.f0, .string k.f1, .int .u8 k.f2, .int .i64 k.f3, .int .i64 k.f4, .int .i64 k.f5, .int .i64 k.f6]
abbrev fltV (c a : Int) : Value := .iface 150 (.agg #[.int .i64 c, .int .i64 a])
def fbad (fl m : Int) : Bool := Go.bits .andNot .u8 fl m != 0
set_option maxHeartbeats 1000000 in
theorem flags.any (t fl : Int) (A1 : Option Addr) (n1 c1 : Nat) (A2 : Option Addr) (n2 c2 : Nat) (k : S94) (b : Bool) (hb : fbad fl k.f2 = b) (w : World) :
    Calls Tryz.prog 64 #[chV t fl A1 n1 c1 A2 n2 c2, kdV k] w fun e w' => e = .returned (if b then fltV 6 1 else .nilIface) ∧ Below w.heap.size w w' := by
  have h : (Go.bits .andNot .u8 fl k.f2 != 0) = b := hb
  have h2 : (Go.bits .andNot .u8 fl k.f2 == 0) = !b := by rw [← h, bne, Bool.not_not]
  clear hb
  cases b
  all_goals
    simp only [Bool.not_true, Bool.not_false] at h2
    go_enter Tryz.func64, Tryz.ntmps64
    go_wp2_with (first | (go_at_call 89; refine (fault_New.calls _ _ _).mono ?_; rintro e w2 ⟨rfl, rfl⟩))
    go_ret
    exact ⟨rfl, ((Below.refl _ w).alloc (Nat.le_refl _) _).alloc (by simp) _⟩
set_option maxHeartbeats 1000000 in
theorem count.no (t fl : Int) (A1 : Option Addr) (n1 c1 : Nat) (A2 : Option Addr) (n2 c2 : Nat) (k : S94) (w : World) (h : (t == 3) = false) :
    Calls Tryz.prog 67 #[chV t fl A1 n1 c1 A2 n2 c2, kdV k] w fun e w' => e = .returned .nilIface ∧ Below w.heap.size w w' := by
  go_enter Tryz.func67, Tryz.ntmps67
  go_wp2
  go_ret
  exact ⟨rfl, ((Below.refl _ w).alloc (Nat.le_refl _) _).alloc (by simp) _⟩
set_option maxHeartbeats 1000000 in
theorem value.no (t fl : Int) (A1 : Option Addr) (n1 c1 : Nat) (A2 : Option Addr) (n2 c2 : Nat) (k : S94) (w : World) (h : (t == 64) = false) (h2 : (t == 194) = false) :
    Calls Tryz.prog 68 #[chV t fl A1 n1 c1 A2 n2 c2, kdV k] w fun e w' => e = .returned .nilIface ∧ Below w.heap.size w w' := by
  go_enter Tryz.func68, Tryz.ntmps68
  go_wp2
  go_ret
  exact ⟨rfl, ((Below.refl _ w).alloc (Nat.le_refl _) _).alloc (by simp) _⟩
def fitsK (x : S94) (n : Nat) : Bool := decide (x.f3 ≤ n) && (decide ((n : Int) ≤ x.f4) && ((n : Int) - x.f3) % x.f5 == 0)
theorem kindFits_row (x : S94) (n : Nat) (hg : 0 ≤ x.f3 ∧ 0 < x.f5) (hn : n ≤ 4194304) : kind_Fits.f x.f0 x.f1 x.f2 x.f3 x.f4 x.f5 x.f6 (n : Int) = some (fitsK x n) := by
  unfold kind_Fits.f fitsK
  by_cases h1 : (n : Int) ≥ x.f3
  · rw [if_pos h1]
    by_cases h2 : (n : Int) ≤ x.f4
    · rw [if_pos h2, if_neg (by omega), w64 (by omega) (by omega), Int.tmod_eq_emod_of_nonneg (by omega)]
      simp [h1, h2]
    · rw [if_neg h2]; simp [h2]
  · rw [if_neg h1]; simp; intro h; omega
set_option maxHeartbeats 1000000 in
theorem data.any (t fl : Int) (A1 : Option Addr) (n1 c1 : Nat) (A2 : Option Addr) (n2 c2 : Nat) (k : S94) (b : Bool) (hb : fitsK k n1 = b) (hg : 0 ≤ k.f3 ∧ 0 < k.f5) (hn : n1 ≤ 4194304) (w : World) :
    Calls Tryz.prog 65 #[chV t fl A1 n1 c1 A2 n2 c2, kdV k] w fun e w' => e = .returned (if b then .nilIface else fltV 7 0) ∧ Below w.heap.size w w' := by
  have HF := Aside0.mk (fun W => kind_Fits.calls k.f0 k.f1 k.f2 k.f3 k.f4 k.f5 k.f6 (n1 : Int) b W ((kindFits_row k n1 hg hn).trans (congrArg some hb)))
  clear hb hg hn
  cases b
  all_goals
    go_enter Tryz.func65, Tryz.ntmps65
    go_wp2_with (first | (go_at_call 90; refine (HF.out _).mono ?_; rintro e w1 ⟨rfl, hb⟩; have HB := Aside0.mk hb; clear hb) | (go_at_call 89; refine (fault_New.calls _ _ _).mono ?_; rintro e w2 ⟨rfl, rfl⟩))
    go_ret
    exact ⟨rfl, (((Below.refl _ w).alloc (Nat.le_refl _) _).alloc (by simp) _).trans (HB.out.mono (by simp; omega))⟩
theorem numbers2 (l : List Int) (m : Nat) (hm : l.length = 2 * m) (h0 : 0 < m) (hs : m ≤ 4194304) (A : Option Addr) (c : Nat) (w : World) (hc : l.length ≤ c) (h : Kd.C (Kd.int .u8) w A l.length l) :
    Calls Tryz.prog 34 #[.int .i64 2, .slice A l.length c] w fun e w' => ∃ ad c', e = .returned (.slice (some ad) m c') ∧ m ≤ c' ∧ (∀ j, j < m → w'.cell? (ad.add j) = some (.int .u32 (numB (chunkB l 2 j)))) ∧ Below w.heap.size w w' := by
  refine (wire_Numbers.calls 2 A c l (numsB 2 l) w h hc ?_).mono ?_
  · unfold wire_Numbers.f
    rw [if_pos (by omega), if_pos ⟨.inr (.inl rfl), by omega⟩]; rfl
  · rintro e w' ⟨v, rfl, hr, hb⟩
    have hlen : (numsB 2 l).length = m := by rw [numsB_length, hm]; omega
    obtain ⟨B, c', rfl, hle, hC⟩ := Kd.R_reads hr
    obtain ⟨ad, e, _⟩ := int_at hC 0 (by omega)
    subst e
    refine ⟨ad, c', by rw [hlen], by omega, fun j hj => ?_, hb⟩
    obtain ⟨ad2, e, hx⟩ := int_at hC j (by omega)
    injection e with e; subst e
    rw [hx]
    simp [numsB]
def cntB (d : List Int) : Bool := numB ((d.drop 8).take 2) + numB ((d.drop 10).take 2) != ((d.length - 12) / 4 : Nat)
set_option maxHeartbeats 2000000 in
theorem count.yes (fl : Int) (d : List Int) (A1 : Option Addr) (c1 : Nat) (A2 : Option Addr) (n2 c2 : Nat) (k : S94) (b : Bool) (hb : cntB d = b) (hd : 12 ≤ d.length) (hd2 : d.length ≤ 4194304) (w : World) (hc : d.length ≤ c1) (hC : Kd.C (Kd.int .u8) w A1 d.length d) :
    Calls Tryz.prog 67 #[chV 3 fl A1 d.length c1 A2 n2 c2, kdV k] w fun e w' => e = .returned (if b then fltV 8 12 else .nilIface) ∧ Below w.heap.size w w' := by
  obtain ⟨ad, e, hx⟩ := int_at hC 0 (by omega)
  clear hx
  subst e
  have hc8 := Kd.C_drop (c := c1) (m := 8) hC (by omega) hc
  rw [if_neg (by omega)] at hc8
  have hc4 := Kd.C_take (m := 4) hc8 (by rw [List.length_drop]; omega)
  have h4 : ((d.drop 8).take 4).length = 4 := by rw [List.length_take, List.length_drop]; omega
  have HN := Aside0.mk (fun W hb => numbers2 ((d.drop 8).take 4) 2 (by rw [h4]) (by omega) (by omega) _ (c1 - 8) W (by omega) (Kd.C_below hc4 hb))
  have e0 : chunkB ((d.drop 8).take 4) 2 0 = (d.drop 8).take 2 := by unfold chunkB; simp [List.take_take]
  have e1 : chunkB ((d.drop 8).take 4) 2 1 = (d.drop 10).take 2 := by unfold chunkB; rw [List.drop_take, List.take_take, List.drop_drop]; rfl
  rw [h4] at HN
  obtain ⟨p, hp⟩ : ∃ p, p = numB ((d.drop 8).take 2) := ⟨_, rfl⟩
  obtain ⟨q, hq⟩ : ∃ q, q = numB ((d.drop 10).take 2) := ⟨_, rfl⟩
  have hp1 : 0 ≤ p := by rw [hp]; exact (numB_bd _).1
  have hp2 : p < 4294967296 := by rw [hp]; exact (numB_bd _).2
  have hq1 : 0 ≤ q := by rw [hq]; exact (numB_bd _).1
  have hq2 : q < 4294967296 := by rw [hq]; exact (numB_bd _).2
  have E : (p + q != ((d.length - 12) / 4 : Nat)) = b := by rw [← hb, hp, hq]; rfl
  obtain ⟨z, hz⟩ : ∃ z : Int, z = ((d.length - 12) / 4 : Nat) := ⟨_, rfl⟩
  rw [← hz] at E
  have hq3 : (((d.length : Int) - 12).tdiv 4) = z := by rw [Int.tdiv_eq_ediv_of_nonneg (by omega)]; omega
  have hz1 : 0 ≤ z := by omega
  have hz2 : z ≤ 4194304 := by omega
  have HE := Aside0.mk E
  have E2 : (p + q == z) = !b := by rw [← E, bne, Bool.not_not]
  have h12 : (12 : Int) ≤ (d.length : Int) := by omega
  have h13 : (d.length : Int) ≤ 4194304 := by omega
  have hcc : (d.length : Int) ≤ (c1 : Int) := by omega
  have hce : (12 : Int) ≤ (c1 : Int) := by omega
  have HN2 : Aside0 (∀ W, Below w.heap.size w W → Calls Tryz.prog 34 #[.int .i64 2, .slice (some (ad.add 8)) 4 (c1 - 8)] W fun e w' => ∃ ad c', e = .returned (.slice (some ad) 2 c') ∧ 2 ≤ c' ∧ (w'.cell? ad = some (.int .u32 p) ∧ w'.cell? ⟨ad.block, ad.off + 1, none⟩ = some (.int .u32 q)) ∧ Below W.heap.size W w') := ⟨fun W hb => (HN.out W hb).mono (by
    rintro e w' ⟨ad, c', rfl, h1, h2, h3⟩
    refine ⟨ad, c', rfl, h1, ⟨?_, ?_⟩, h3⟩
    · show w'.cell? (ad.add 0) = _
      rw [h2 0 (by omega), e0, hp]
    · show w'.cell? (ad.add 1) = _
      rw [h2 1 (by omega), e1, hq])⟩
  clear hc8 hc4 HN hb hC h4 e0 e1 hp hq hz hd hd2 hc
  cases b
  all_goals
    simp only [Bool.not_true, Bool.not_false] at E2
    go_enter Tryz.func67, Tryz.ntmps67
    go_wp2_with (first | (go_at_call 34; refine (HN2.out _ (((Below.refl _ w).alloc (Nat.le_refl _) _).alloc (by simp) _)).mono ?_; rintro e w1 ⟨ad1, c', rfl, hc', ⟨hx0, hx1⟩, hb⟩; have HB := Aside0.mk hb; have BKC := Aside0.mk (blk_below (blk_alloc (heap_alloc_new w (.cells #[.int .u8 3, .int .u8 fl, .slice (some ad) d.length c1, .slice A2 n2 c2] 37)) _) hb); clear hb) | (go_at_call 89; refine (fault_New.calls _ _ _).mono ?_; rintro e w2 ⟨rfl, rfl⟩))
    have q2 := (blk_cell BKC.out 2).trans (show _ = some (Value.slice (some ad) d.length c1) from rfl)
    have v0 : IntKind.i64.wrap p = p := IntWalk.i64_in _ (by omega)
    have v1 : IntKind.i64.wrap q = q := IntWalk.i64_in _ (by omega)
    have v2 : IntKind.i64.wrap (p + q) = p + q := IntWalk.i64_in _ (by omega)
    have v3 : IntKind.i64.wrap ((d.length : Int) - 12) = (d.length : Int) - 12 := IntWalk.i64_in _ (by omega)
    have v4 : IntKind.i64.wrap z = z := IntWalk.i64_in _ (by omega)
    clear hp1 hp2 hq1 hq2 h12 h13 hcc hce hc' hz1 hz2
    go_quiet (fail)
    clear v0 v1 v2 v3 v4 hq3 hx0 hx1 q2
    go_wp2_with (first | (go_at_call 89; refine (fault_New.calls _ _ _).mono ?_; rintro e w2 ⟨rfl, rfl⟩))
    go_ret
    exact ⟨rfl, pw_below_drewN ((((Below.refl _ w).alloc (Nat.le_refl _) _).alloc (by simp) _).trans (HB.out.mono (by simp; omega))) _⟩
def oddI (d : List Int) : Bool := Go.bits .or .u8 (rd d 6) (rd d 7) != 0
set_option maxHeartbeats 2000000 in
theorem value.idata (fl : Int) (d : List Int) (A1 : Option Addr) (c1 : Nat) (A2 : Option Addr) (n2 c2 : Nat) (k : S94) (b : Bool) (hb : oddI d = b) (hd : 17 ≤ d.length) (w : World) (hC : Kd.C (Kd.int .u8) w A1 d.length d) :
    Calls Tryz.prog 68 #[chV 64 fl A1 d.length c1 A2 n2 c2, kdV k] w fun e w' => e = .returned (if b then fltV 11 10 else .nilIface) ∧ Below w.heap.size w w' := by
  obtain ⟨ad, e, hx⟩ := Kd.at_int hC 6 (by omega) (by omega)
  obtain ⟨ad2, e2, hy⟩ := Kd.at_int hC 7 (by omega) (by omega)
  rw [e] at e2
  injection e2 with e2
  subst e2 e
  have hx6 : w.cell? ⟨ad.block, ad.off + 6, none⟩ = some (.int .u8 (rd d 6)) := hx
  have hx7 : w.cell? ⟨ad.block, ad.off + 7, none⟩ = some (.int .u8 (rd d 7)) := hy
  clear hx hy hC
  have h17 : (17 : Int) ≤ (d.length : Int) := by omega
  have h6 : (6 : Int) < (d.length : Int) := by omega
  have h7 : (7 : Int) < (d.length : Int) := by omega
  have h : (Go.bits .or .u8 (rd d 6) (rd d 7) != 0) = b := hb
  have h2 : (Go.bits .or .u8 (rd d 6) (rd d 7) == 0) = !b := by rw [← h, bne, Bool.not_not]
  generalize rd d 6 = p at *
  generalize rd d 7 = q at *
  clear hb hd
  obtain ⟨W0, hW0⟩ : ∃ W0, W0 = ((w.alloc (.cells #[.int .u8 64, .int .u8 fl, .slice (some ad) d.length c1, .slice A2 n2 c2] 37)).alloc (.cells #[.int .u8 k.f0, .string k.f1, .int .u8 k.f2, .int .i64 k.f3, .int .i64 k.f4, .int .i64 k.f5, .int .i64 k.f6] 94)) := ⟨_, rfl⟩
  have hB0 : Below w.heap.size w W0 := by rw [hW0]; exact ((Below.refl _ w).alloc (Nat.le_refl _) _).alloc (by simp) _
  have y6 := cell_up hB0 hx6
  have y7 := cell_up hB0 hx7
  rw [hW0] at y6 y7
  have HB := Aside0.mk hB0
  rw [hW0] at HB
  clear hB0 hW0 hx6 hx7
  cases b
  all_goals
    simp only [Bool.not_true, Bool.not_false] at h2
    go_enter Tryz.func68, Tryz.ntmps68
    go_wp2
    go_quiet (fail)
    clear y6 y7
    go_wp2_with (first | (go_at_call 89; refine (fault_New.calls _ _ _).mono ?_; rintro e w2 ⟨rfl, rfl⟩))
    go_ret
    exact ⟨rfl, pw_below_drewN HB.out _⟩
def oddF (d : List Int) (m : Nat) : Bool := (List.range m).any fun j => decide (1 < numB ((d.drop (6 + 8 * j)).take 2))
set_option maxHeartbeats 2000000 in
theorem value.iforward (fl : Int) (d : List Int) (m : Nat) (hm : d.length = 4 + 8 * m) (A1 : Option Addr) (c1 : Nat) (A2 : Option Addr) (n2 c2 : Nat) (k : S94) (b : Bool) (hb : oddF d m = b) (hd2 : d.length ≤ 4194304) (w : World) (hc : d.length ≤ c1) (hC : Kd.C (Kd.int .u8) w A1 d.length d) :
    Calls Tryz.prog 68 #[chV 194 fl A1 d.length c1 A2 n2 c2, kdV k] w fun e w' => (∃ at_, e = .returned (if b then fltV 11 at_ else .nilIface)) ∧ Below w.heap.size w w' := by
  obtain ⟨ad, e, hx⟩ := int_at hC 0 (by omega)
  clear hx
  subst e
  have HN : Aside0 (∀ j, j < m → ∀ W, Below w.heap.size w W → Calls Tryz.prog 34 #[.int .i64 2, .slice (some ⟨ad.block, ad.off + (4 + 8 * j + 1 + 1), none⟩) 2 (c1 - (4 + 8 * j + 2))] W fun e w' => ∃ ad' c', e = .returned (.slice (some ad') 1 c') ∧ 1 ≤ c' ∧ w'.cell? ad' = some (.int .u32 (numB ((d.drop (6 + 8 * j)).take 2))) ∧ Below W.heap.size W w') := by
    refine ⟨fun j hj W hb => ?_⟩
    have hc8 := Kd.C_drop (c := c1) (m := 6 + 8 * j) hC (by omega) hc
    rw [if_neg (by omega)] at hc8
    have hc4 := Kd.C_take (m := 2) hc8 (by rw [List.length_drop]; omega)
    have h4 : ((d.drop (6 + 8 * j)).take 2).length = 2 := by rw [List.length_take, List.length_drop]; omega
    have hn := numbers2 ((d.drop (6 + 8 * j)).take 2) 1 (by rw [h4]) (by omega) (by omega) _ (c1 - (6 + 8 * j)) W (by omega) (Kd.C_below hc4 hb)
    rw [h4] at hn
    have e0 : chunkB ((d.drop (6 + 8 * j)).take 2) 2 0 = (d.drop (6 + 8 * j)).take 2 := by unfold chunkB; simp [List.take_take]
    have ha : (some ⟨ad.block, ad.off + (4 + 8 * j + 1 + 1), none⟩ : Option Addr) = Option.map (fun x => x.add ((6 + 8 * j) * (Kd.int IntKind.u8).sz)) (some ad) := by
      show _ = some (ad.add ((6 + 8 * j) * 1))
      unfold Addr.add
      rw [if_neg (by omega)]
      congr 2; omega
    rw [ha, show c1 - (4 + 8 * j + 2) = c1 - (6 + 8 * j) by omega]
    refine hn.mono ?_
    rintro e w' ⟨ad', c', rfl, h1, h2, h3⟩
    refine ⟨ad', c', rfl, h1, ?_, h3⟩
    show w'.cell? (ad'.add 0) = _
    rw [h2 0 (by omega), e0]
  have hml : (d.length : Int) = 4 + 8 * (m : Int) := by omega
  have hm2 : (m : Int) ≤ 524288 := by omega
  have hcc : 4 + 8 * (m : Int) ≤ (c1 : Int) := by omega
  obtain ⟨L, hL⟩ : ∃ L, L = d.length := ⟨_, rfl⟩
  rw [← hL] at hml ⊢
  have HL := Aside0.mk hml
  have HBO := Aside0.mk hb
  clear hml hL hb hC hd2 hc hm
  go_enter Tryz.func68, Tryz.ntmps68
  go_wp2
  go_step3
  go_wp2
  go_step3
  go_wp2
  go_loopw [5, 6] (fun s i W => ∃ j : Nat, j ≤ m ∧ s = .int .i64 (-1) ∧ i = .int .i64 (4 + 8 * (j : Int)) ∧ Aside0 (oddF d j = false) ∧ Aside0 (W.heap[w.heap.size]? = some (.cells #[.int .u8 194, .int .u8 fl, .slice (some ad) L c1, .slice A2 n2 c2] 37 (0, 0))) ∧ Aside0 (Below w.heap.size w W)) (fun _ i _ => L - (intOf i).toNat)
  case atStart => exact ⟨0, Nat.zero_le _, rfl, rfl, ⟨rfl⟩, ⟨blk_alloc (heap_alloc_new w _) _⟩, ⟨((Below.refl _ w).alloc (Nat.le_refl _) _).alloc (by simp) _⟩⟩
  case round =>
    obtain ⟨j, hj, rfl, rfl, HO, BK, HB⟩ := hrel
    have q2 := (blk_cell BK.out 2).trans (show _ = some (Value.slice (some ad) L c1) from rfl)
    by_cases hlt : j < m
    · have hl2 : 4 + 8 * (j : Int) < (L : Int) := by have := HL.out; omega
      have hl3 : 4 + 8 * (j : Int) + 4 ≤ (L : Int) := by have := HL.out; omega
      have hl4 : 4 + 8 * (j : Int) + 4 ≤ (c1 : Int) := by have := HL.out; omega
      have H1 := Aside0.mk (HN.out j hlt)
      obtain ⟨v, hv⟩ : ∃ v, v = numB ((d.drop (6 + 8 * j)).take 2) := ⟨_, rfl⟩
      rw [← hv] at H1
      have HS := Aside0.mk (show oddF d (j + 1) = decide (1 < v) from by
        have h0 := HO.out
        unfold oddF at h0 ⊢
        rw [List.range_succ, List.any_append, h0, hv]; simp)
      have HT := Aside0.mk (show decide (1 < v) = true → oddF d m = true from fun h => by
        rw [hv] at h
        unfold oddF
        rw [List.any_eq_true]
        exact ⟨j, List.mem_range.2 hlt, h⟩)
      clear hv
      by_cases hb1 : 1 < v
      · obtain rfl : b = true := HBO.out.symm.trans (HT.out (decide_eq_true hb1))
        clear HT HS HO
        go_wp2_with (first | (go_at_call 34; refine (H1.out _ HB.out).mono ?_; rintro e w1 ⟨ad1, c', rfl, hc', hx0, hb⟩; have HB1 := Aside0.mk (HB.out.trans (hb.mono HB.out.size)); clear hb) | (go_at_call 89; refine (fault_New.calls _ _ _).mono ?_; rintro e w2 ⟨rfl, rfl⟩))
        show Exit.inBlock 0 _ Exit.normal _ _
        go_wp2_with (first | (go_at_call 89; refine (fault_New.calls _ _ _).mono ?_; rintro e w2 ⟨rfl, rfl⟩))
        go_ret
        exact ⟨⟨_, rfl⟩, HB1.out⟩
      · have HR := Aside0.mk (HS.out.trans (decide_eq_false hb1))
        clear HT HS HO
        go_wp2_with (first | (go_at_call 34; refine (H1.out _ HB.out).mono ?_; rintro e w1 ⟨ad1, c', rfl, hc', hx0, hb⟩; have HBK := Aside0.mk (blk_below BK.out hb); have HB1 := Aside0.mk (HB.out.trans (hb.mono HB.out.size)); clear hb))
        refine ⟨⟨j + 1, by omega, rfl, by rw [show (4 : Int) + 8 * ((j + 1 : Nat) : Int) = 4 + 8 * (j : Int) + 8 by omega], ⟨HR.out⟩, ⟨HBK.out⟩, ⟨HB1.out⟩⟩, by simp [intOf]; omega⟩
    · obtain rfl : j = m := by omega
      have hl2 : ¬ 4 + 8 * (j : Int) < (L : Int) := by have := HL.out; omega
      obtain rfl : b = false := HBO.out.symm.trans HO.out
      clear HO
      go_wp2
      go_ret
      exact ⟨rfl, HB.out⟩
end Go.Proofs.YtpgfhbdnlojdfaaGreatDoor.P
namespace Go.Proofs.YtpgfhbdnlojdfaaGreatDoor.P
open Go.RowKit Go.Proofs.YtpgfhbdnlojdfaaGreatDoorW.PrintWords Go.Proofs.YtpgfhbdnlojdfaaGreatDoorW.PrintLast Go.Proofs.YtpgfhbdnlojdfaaGreatDoorW.PrintMore
set_option linter.unusedVariables false
set_option linter.unusedSimpArgs false
def Cont (xs : List Int) (v r : Int) : Prop := decide (0 ≤ r) = xs.contains v
set_option maxHeartbeats 1000000 in
theorem index16 (xs : List Int) (v : Int) (A : Option Addr) (c : Nat) (w : World) (hs : xs.length ≤ 1000) (h : Kd.C (Kd.int .u16) w A xs.length xs) :
    Calls Tryz.prog 104 #[.slice A xs.length c, .int .u16 v] w fun e w' => (∃ r : Int, e = .returned (.int .i64 r) ∧ Cont xs v r) ∧ w' = w := by
  have HC := Aside0.mk h
  have hs2 : (xs.length : Int) ≤ 1000 := by omega
  clear h hs
  go_enter Tryz.func104, Tryz.ntmps104
  go_wp2
  go_loop [8] (fun i => ∃ j : Nat, j ≤ xs.length ∧ i = .int .i64 j ∧ Aside0 ((xs.take j).contains v = false)) (fun i => xs.length - (intOf i).toNat)
  case atStart => exact ⟨0, Nat.zero_le _, rfl, ⟨rfl⟩⟩
  case round =>
    obtain ⟨j, hj, rfl, HF⟩ := hrel
    by_cases hlt : j < xs.length
    · obtain ⟨ad, e, hx⟩ := int_at HC.out j hlt
      subst e
      have hlt2 : (j : Int) < (xs.length : Int) := by omega
      have HT := Aside0.mk (show (xs.take (j + 1)).contains v = (v == xs[j]) from by
        rw [List.take_succ_eq_append_getElem hlt, List.contains_eq_any_beq, List.any_append, ← List.contains_eq_any_beq, HF.out]; simp)
      have HM := Aside0.mk (show xs[j] ∈ xs from List.getElem_mem hlt)
      obtain ⟨u, hu⟩ : ∃ u, u = xs[j] := ⟨_, rfl⟩
      rw [← hu] at hx HT HM
      clear hu
      by_cases hv : v = u
      · have e1 : (v == u) = true := by simp [hv]
        have HR := Aside0.mk (show xs.contains v = true from by rw [List.contains_iff_mem, hv]; exact HM.out)
        clear hv HT HF
        go_wp2
        go_ret
        exact ⟨⟨_, rfl, by unfold Cont; rw [HR.out]; simp⟩, rfl⟩
      · have e1 : (v == u) = false := by simp [hv]
        have HR := Aside0.mk (HT.out.trans e1)
        clear hv HT HF
        go_wp2
        go_round
        case rel => exact ⟨j + 1, by omega, by go_num, ⟨HR.out⟩⟩
        case measure => simp [intOf]; omega
    · obtain rfl : j = xs.length := by omega
      have HR := Aside0.mk (show xs.contains v = false from by have := HF.out; rwa [List.take_length] at this)
      clear HF
      go_wp2
      go_ret
      exact ⟨⟨_, rfl, by unfold Cont; rw [HR.out]; rfl⟩, rfl⟩
set_option maxHeartbeats 1000000 in
theorem contains16 (xs : List Int) (v : Int) (A : Option Addr) (c : Nat) (b : Bool) (hb : xs.contains v = b) (w : World) (hs : xs.length ≤ 1000) (h : Kd.C (Kd.int .u16) w A xs.length xs) :
    Calls Tryz.prog 92 #[.slice A xs.length c, .int .u16 v] w fun e w' => e = .returned (.bool b) ∧ w' = w := by
  have HI := Aside0.mk (index16 xs v A c w hs h)
  have HB := Aside0.mk hb
  clear hb h
  go_enter Tryz.func92, Tryz.ntmps92
  go_wp2_with (first | (go_at_call 104; refine HI.out.mono ?_; rintro e w1 ⟨⟨r, rfl, hr⟩, rfl⟩; have HR := Aside0.mk (show decide (0 ≤ r) = b from hr.trans HB.out); clear hr))
  go_ret
  exact ⟨by rw [← HR.out]; rfl, rfl⟩
theorem C16 (W : World) (g : Nat) (xs : List Int) (h0 : 0 < xs.length) (hs : xs.length ≤ 1000) (h : W.heap[g]? = some (.cells (xs.map (Value.int .u16)).toArray 22 (0, 0))) : Kd.C (Kd.int .u16) W (some ⟨g, 0, none⟩) xs.length xs := by
  have hcell : ∀ j (hj : j < xs.length), W.cell? ((⟨g, 0, none⟩ : Addr).add j) = some (.int .u16 xs[j]) := fun j hj => by
    rw [add0, blk_cell h j]
    simp [hj]
  refine ⟨rfl, by omega, fun _ => ⟨⟨g, 0, none⟩, rfl, fun j p hp => ?_⟩⟩
  obtain ⟨hj, rfl⟩ := List.getElem?_eq_some_iff.1 hp
  refine ⟨[.int .u16 xs[j]], rfl, rfl, fun i u hu => ?_⟩
  match i, hu with
  | 0, hu =>
    have hu : Value.int .u16 xs[j] = u := Option.some.inj hu
    subst hu
    have := hcell j hj
    have e1 : j * (Kd.int IntKind.u16).sz + 0 = j := by show j * 1 + 0 = j; omega
    rw [e1]
    exact this
  | i + 1, hu => simp at hu
set_option maxHeartbeats 1000000 in
theorem kids1 (xs : List Int) (b : Bool) (A : Option Addr) (c : Nat) (g1 g2 : Nat) (t fl : Int) (A1 : Option Addr) (n1 c1 : Nat) (A2 : Option Addr) (c2 : Nat) (l : List S26) (hl : 0 < l.length) (hl2 : l.length ≤ 4194304) (hb : xs.contains (rd_T26 l 0).f0 = b) (w : World) (hs : xs.length ≤ 1000) (h : Kd.C (Kd.int .u16) w A xs.length xs)
    (hg1 : w.heap[g1]? = some (.cells #[.int .i64 l.length] 3 (0, 0))) (hg2 : w.heap[g2]? = some (.cells #[.int .u8 t, .int .u8 fl, .slice A1 n1 c1, .slice A2 l.length c2] 37 (0, 0))) (hC : Kd.C k26 w A2 l.length l) :
    Calls Tryz.prog 91 #[.slice A xs.length c, .pointer (some ⟨g1, 0, none⟩), .pointer (some ⟨g2, 0, none⟩)] w fun e w' => e = .returned (.bool b) ∧ w' = w := by
  obtain ⟨ad, B1, d1, B2, d2, e, hx0, hx1, hx2, l1, gg1, l2, gg2⟩ := at_T26 hC 0 (by omega) (by omega)
  subst e
  have hx0' : w.cell? ad = some (.int .u16 (rd_T26 l 0).f0) := by
    have h0 := hx0
    rw [show (0 : Int).toNat * 3 = 0 from rfl, Addr.add_zero'] at h0
    exact h0
  have q1 := (blk_cell hg1 0).trans (show _ = some (Value.int .i64 l.length) from rfl)
  have q2 := (blk_cell hg2 3).trans (show _ = some (Value.slice (some ad) l.length c2) from rfl)
  have HCn := Aside0.mk (contains16 xs _ A c b hb w hs h)
  have e0 : ((l.length : Int) == 0) = false := by simp; intro h; rw [h] at hl; exact absurd hl (by simp)
  have e0' : (l.length == 0) = false := by simp; intro h; rw [h] at hl; exact absurd hl (by simp)
  have h0l : (0 : Int) < (l.length : Int) := by omega
  have h0m : (l.length : Int) ≤ 4194304 := by omega
  generalize (rd_T26 l 0).f0 = v at *
  clear hx0 hx1 hx2 l1 gg1 l2 gg2 hb h hg1 hg2 hC hl hl2 hs
  go_enter Tryz.func91, Tryz.ntmps91
  go_wp2_with (first | (go_at_call 92; refine HCn.out.mono ?_; rintro e w1 ⟨rfl, rfl⟩))
  go_ret
  exact ⟨rfl, rfl⟩
def kOK (k6 : Int) (l : List S26) : Bool :=
  decide (rd kIns (k6 * 3 + 1) ≤ l.length) && (decide ((l.length : Int) ≤ rd kIns (k6 * 3 + 2)) && (if k6 = 1 then (rd_T26 l 0).f0 == 1 else if k6 = 6 then ((rd_T26 l 0).f0 == 5 || (rd_T26 l 0).f0 == 6) else true))
theorem c1_eq (v : Int) : [(1 : Int)].contains v = (v == 1) := by rw [Bool.eq_iff_iff]; simp
theorem c56_eq (v : Int) : [(5 : Int), 6].contains v = (v == 5 || v == 6) := by rw [Bool.eq_iff_iff]; simp
theorem kidsW (w1 : World) (n : Nat) (xs : List Int) (h0 : 0 < xs.length) (hs : xs.length ≤ 1000) :
    Kd.C (Kd.int .u16) ((w1.alloc (.cells #[.int .i64 n] 3)).alloc (.cells (xs.map (Value.int .u16)).toArray 22)) (some ⟨w1.heap.size + 1, 0, none⟩) xs.length xs ∧ ((w1.alloc (.cells #[.int .i64 n] 3)).alloc (.cells (xs.map (Value.int .u16)).toArray 22)).heap[w1.heap.size]? = some (.cells #[.int .i64 n] 3 (0, 0)) := by
  have h := heap_alloc_new (w1.alloc (.cells #[.int .i64 n] 3)) (.cells (xs.map (Value.int .u16)).toArray 22)
  rw [show (w1.alloc (.cells #[.int .i64 n] 3)).heap.size = w1.heap.size + 1 from by simp] at h
  exact ⟨C16 _ _ xs h0 hs h, blk_alloc (heap_alloc_new w1 _) _⟩
set_option maxRecDepth 100000 in
set_option maxHeartbeats 4000000 in
theorem kids.any (t fl : Int) (A1 : Option Addr) (n1 c1 : Nat) (A2 : Option Addr) (c2 : Nat) (l : List S26) (k : S94) (b : Bool) (hb : kOK k.f6 l = b) (hk0 : 0 ≤ k.f6) (hk6 : k.f6 ≤ 6) (hl2 : l.length ≤ 4194304) (w : World) (hL_ : Laid w) (hC : Kd.C k26 w A2 l.length l) :
    Calls Tryz.prog 66 #[chV t fl A1 n1 c1 A2 l.length c2, kdV k] w fun e w' => e = .returned (if b then .nilIface else fltV 7 0) ∧ Below w.heap.size w w' := by
  have HI := Aside0.mk (fun W hb => kind_Inside.calls k.f6 _ _ _ W (hL_.below hb) (show kind_Inside.f k.f6 = some (rd kIns (k.f6 * 3), rd kIns (k.f6 * 3 + 1), rd kIns (k.f6 * 3 + 2)) from by unfold kind_Inside.f; rw [if_neg (by omega)]))
  have hlo1 : k.f6 = 1 → rd kIns (k.f6 * 3 + 1) = 1 := fun h => by rw [h]; rfl
  have hlo6 : k.f6 = 6 → rd kIns (k.f6 * 3 + 1) = 2 := fun h => by rw [h]; rfl
  unfold kOK at hb
  generalize rd kIns (k.f6 * 3) = r1 at *
  generalize rd kIns (k.f6 * 3 + 1) = lo at *
  generalize rd kIns (k.f6 * 3 + 2) = hi at *
  have HK := Aside0.mk (fun (xs : List Int) (bb : Bool) (A : Option Addr) (c g1 g2 : Nat) (hl : 0 < l.length) (hbb : xs.contains (rd_T26 l 0).f0 = bb) (W : World) (hs : xs.length ≤ 1000) (h : Kd.C (Kd.int .u16) W A xs.length xs) hg1 hg2 (hB : Below w.heap.size w W) => kids1 xs bb A c g1 g2 t fl A1 n1 c1 A2 c2 l hl hl2 hbb W hs h hg1 hg2 (Kd.C_below hC hB))
  have h0m : (l.length : Int) ≤ 4194304 := by omega
  clear hL_ hC hk0 hk6 hl2
  have HB0 := Aside0.mk (((Below.refl _ w).alloc (Nat.le_refl _) (.cells #[.int .u8 t, .int .u8 fl, .slice A1 n1 c1, .slice A2 l.length c2] 37)).alloc (by simp) (.cells #[.int .u8 k.f0, .string k.f1, .int .u8 k.f2, .int .i64 k.f3, .int .i64 k.f4, .int .i64 k.f5, .int .i64 k.f6] 94))
  have BK0 := Aside0.mk (blk_alloc (heap_alloc_new w (.cells #[.int .u8 t, .int .u8 fl, .slice A1 n1 c1, .slice A2 l.length c2] 37)) (.cells #[.int .u8 k.f0, .string k.f1, .int .u8 k.f2, .int .i64 k.f3, .int .i64 k.f4, .int .i64 k.f5, .int .i64 k.f6] 94))
  have BK1 := heap_alloc_new (w.alloc (.cells #[.int .u8 t, .int .u8 fl, .slice A1 n1 c1, .slice A2 l.length c2] 37)) (.cells #[.int .u8 k.f0, .string k.f1, .int .u8 k.f2, .int .i64 k.f3, .int .i64 k.f4, .int .i64 k.f5, .int .i64 k.f6] 94)
  rw [show (w.alloc (.cells #[.int .u8 t, .int .u8 fl, .slice A1 n1 c1, .slice A2 l.length c2] 37)).heap.size = w.heap.size + 1 from by simp] at BK1
  replace BK1 := Aside0.mk BK1
  by_cases h1 : (l.length : Int) < lo
  · obtain rfl : b = false := by rw [← hb, decide_eq_false (by omega)]; rfl
    clear HK hb hlo1 hlo6
    go_enter Tryz.func66, Tryz.ntmps66
    go_wp2_with (first | (go_at_call 62; refine (HI.out _ HB0.out).mono ?_; rintro e w1 ⟨rfl, hbi⟩; have hz := (show w.heap.size + 1 < w1.heap.size from by have := hbi.size; simp at this; omega); have hz0 : w.heap.size < w1.heap.size := (by omega); have HB := Aside0.mk (HB0.out.trans (hbi.mono HB0.out.size)); have BKC := Aside0.mk (blk_below BK0.out hbi); have BKK := Aside0.mk (blk_below BK1.out hbi); have q3 := (blk_cell BKC.out 3).trans (show _ = some (Value.slice A2 l.length c2) from rfl); have q6 := (blk_cell BKK.out 6).trans (show _ = some (Value.int .i64 k.f6) from rfl); clear hbi) | (go_at_call 89; refine (fault_New.calls _ _ _).mono ?_; rintro e w2 ⟨rfl, rfl⟩))
    go_ret
    exact ⟨rfl, by first | exact HB.out | exact HB.out.alloc HB.out.size _ | exact (HB.out.alloc HB.out.size _).alloc (by have := HB.out.size; simp; omega) _⟩
  · by_cases h2 : hi < (l.length : Int)
    · obtain rfl : b = false := by rw [← hb, decide_eq_false (show ¬ ((l.length : Int) ≤ hi) by omega)]; simp
      clear HK hb hlo1 hlo6
      go_enter Tryz.func66, Tryz.ntmps66
      go_wp2_with (first | (go_at_call 62; refine (HI.out _ HB0.out).mono ?_; rintro e w1 ⟨rfl, hbi⟩; have hz := (show w.heap.size + 1 < w1.heap.size from by have := hbi.size; simp at this; omega); have hz0 : w.heap.size < w1.heap.size := (by omega); have HB := Aside0.mk (HB0.out.trans (hbi.mono HB0.out.size)); have BKC := Aside0.mk (blk_below BK0.out hbi); have BKK := Aside0.mk (blk_below BK1.out hbi); have q3 := (blk_cell BKC.out 3).trans (show _ = some (Value.slice A2 l.length c2) from rfl); have q6 := (blk_cell BKK.out 6).trans (show _ = some (Value.int .i64 k.f6) from rfl); clear hbi) | (go_at_call 89; refine (fault_New.calls _ _ _).mono ?_; rintro e w2 ⟨rfl, rfl⟩))
      go_ret
      exact ⟨rfl, by first | exact HB.out | exact HB.out.alloc HB.out.size _ | exact (HB.out.alloc HB.out.size _).alloc (by have := HB.out.size; simp; omega) _⟩
    · rw [decide_eq_true (show lo ≤ (l.length : Int) by omega), decide_eq_true (show (l.length : Int) ≤ hi by omega), Bool.true_and, Bool.true_and] at hb
      by_cases e1 : k.f6 = 1
      · rw [if_pos e1, ← c1_eq] at hb
        have hl0 : 0 < l.length := by have := hlo1 e1; omega
        have HK1 := Aside0.mk (fun A c g1 g2 => HK.out [1] b A c g1 g2 hl0 hb)
        have d1 : (k.f6 == 1) = true := by simp [e1]
        have d6 : (k.f6 == 6) = false := by simp [e1]
        clear HK hb hlo1 hlo6 e1
        cases b
        all_goals
          go_enter Tryz.func66, Tryz.ntmps66
          go_wp2_with (first | (go_at_call 62; refine (HI.out _ HB0.out).mono ?_; rintro e w1 ⟨rfl, hbi⟩; have hz := (show w.heap.size + 1 < w1.heap.size from by have := hbi.size; simp at this; omega); have hz0 : w.heap.size < w1.heap.size := (by omega); have HB := Aside0.mk (HB0.out.trans (hbi.mono HB0.out.size)); have BKC := Aside0.mk (blk_below BK0.out hbi); have BKK := Aside0.mk (blk_below BK1.out hbi); have q3 := (blk_cell BKC.out 3).trans (show _ = some (Value.slice A2 l.length c2) from rfl); have q6 := (blk_cell BKK.out 6).trans (show _ = some (Value.int .i64 k.f6) from rfl); clear hbi) | (go_at_call 89; refine (fault_New.calls _ _ _).mono ?_; rintro e w2 ⟨rfl, rfl⟩) | (go_at_call 91; refine (HK1.out _ 1 _ _ _ (by simp) (kidsW w1 l.length [1] (by simp) (by simp)).1 (kidsW w1 l.length [1] (by simp) (by simp)).2 (blk_alloc (blk_alloc BKC.out _) _) ((HB.out.alloc HB.out.size _).alloc (by have := HB.out.size; simp; omega) _)).mono ?_; rintro e w3 ⟨rfl, rfl⟩))
          go_ret
          exact ⟨rfl, by first | exact HB.out | exact HB.out.alloc HB.out.size _ | exact (HB.out.alloc HB.out.size _).alloc (by have := HB.out.size; simp; omega) _⟩
      · rw [if_neg e1] at hb
        have d1 : (k.f6 == 1) = false := by simp [e1]
        by_cases e6 : k.f6 = 6
        · rw [if_pos e6, ← c56_eq] at hb
          have hl0 : 0 < l.length := by have := hlo6 e6; omega
          have HK1 := Aside0.mk (fun A c g1 g2 => HK.out [5, 6] b A c g1 g2 hl0 hb)
          have d6 : (k.f6 == 6) = true := by simp [e6]
          clear HK hb hlo1 hlo6 e1 e6
          cases b
          all_goals
            go_enter Tryz.func66, Tryz.ntmps66
            go_wp2_with (first | (go_at_call 62; refine (HI.out _ HB0.out).mono ?_; rintro e w1 ⟨rfl, hbi⟩; have hz := (show w.heap.size + 1 < w1.heap.size from by have := hbi.size; simp at this; omega); have hz0 : w.heap.size < w1.heap.size := (by omega); have HB := Aside0.mk (HB0.out.trans (hbi.mono HB0.out.size)); have BKC := Aside0.mk (blk_below BK0.out hbi); have BKK := Aside0.mk (blk_below BK1.out hbi); have q3 := (blk_cell BKC.out 3).trans (show _ = some (Value.slice A2 l.length c2) from rfl); have q6 := (blk_cell BKK.out 6).trans (show _ = some (Value.int .i64 k.f6) from rfl); clear hbi) | (go_at_call 89; refine (fault_New.calls _ _ _).mono ?_; rintro e w2 ⟨rfl, rfl⟩) | (go_at_call 91; refine (HK1.out _ 2 _ _ _ (by simp) (kidsW w1 l.length [5, 6] (by simp) (by simp)).1 (kidsW w1 l.length [5, 6] (by simp) (by simp)).2 (blk_alloc (blk_alloc BKC.out _) _) ((HB.out.alloc HB.out.size _).alloc (by have := HB.out.size; simp; omega) _)).mono ?_; rintro e w3 ⟨rfl, rfl⟩))
            go_ret
            exact ⟨rfl, by first | exact HB.out | exact HB.out.alloc HB.out.size _ | exact (HB.out.alloc HB.out.size _).alloc (by have := HB.out.size; simp; omega) _⟩
        · rw [if_neg e6] at hb
          have d6 : (k.f6 == 6) = false := by simp [e6]
          subst hb
          clear HK hlo1 hlo6 e1 e6
          go_enter Tryz.func66, Tryz.ntmps66
          go_wp2_with (first | (go_at_call 62; refine (HI.out _ HB0.out).mono ?_; rintro e w1 ⟨rfl, hbi⟩; have hz := (show w.heap.size + 1 < w1.heap.size from by have := hbi.size; simp at this; omega); have hz0 : w.heap.size < w1.heap.size := (by omega); have HB := Aside0.mk (HB0.out.trans (hbi.mono HB0.out.size)); have BKC := Aside0.mk (blk_below BK0.out hbi); have BKK := Aside0.mk (blk_below BK1.out hbi); have q3 := (blk_cell BKC.out 3).trans (show _ = some (Value.slice A2 l.length c2) from rfl); have q6 := (blk_cell BKK.out 6).trans (show _ = some (Value.int .i64 k.f6) from rfl); clear hbi) | (go_at_call 89; refine (fault_New.calls _ _ _).mono ?_; rintro e w2 ⟨rfl, rfl⟩))
          go_ret
          exact ⟨rfl, by first | exact HB.out | exact HB.out.alloc HB.out.size _ | exact (HB.out.alloc HB.out.size _).alloc (by have := HB.out.size; simp; omega) _⟩
end Go.Proofs.YtpgfhbdnlojdfaaGreatDoor.P
namespace Go.Proofs.YtpgfhbdnlojdfaaGreatDoor.P
open Go.RowKit Go.Proofs.YtpgfhbdnlojdfaaGreatDoorW.PrintWords Go.Proofs.YtpgfhbdnlojdfaaGreatDoorW.PrintLast Go.Proofs.YtpgfhbdnlojdfaaGreatDoorW.PrintMore
set_option linter.unusedVariables false
set_option linter.unusedSimpArgs false
def FltC (c : Int) (e : Ending) : Prop := ∃ a, e = .returned (fltV c a)
set_option maxRecDepth 100000 in
set_option maxHeartbeats 4000000 in
theorem first.at0 (c : Int) (t fl : Int) (A1 : Option Addr) (n1 c1 : Nat) (A2 : Option Addr) (n2 c2 : Nat) (k : S94) (g : Nat) (w : World) (hG : w.heap[g]? = some (.cells #[.func (.func 64) #[] #[], .func (.func 65) #[] #[], .func (.func 66) #[] #[], .func (.func 67) #[] #[], .func (.func 68) #[] #[]] 133 (0, 0)))
    (H0 : Aside0 (∀ W, Below w.heap.size w W → Calls Tryz.prog 64 #[chV t fl A1 n1 c1 A2 n2 c2, kdV k] W fun e w' => FltC c e ∧ Below W.heap.size W w')) :
    Calls Tryz.prog 63 #[chV t fl A1 n1 c1 A2 n2 c2, kdV k, .slice (some ⟨g, 0, none⟩) 5 5] w fun e w' => FltC c e ∧ Below w.heap.size w w' := by
  have hgw : g < w.heap.size := by
    rcases Nat.lt_or_ge g w.heap.size with h | h
    · exact h
    · rw [Array.getElem?_eq_none h] at hG; cases hG
  have BG := Aside0.mk (blk_alloc (blk_alloc hG (.cells #[.int .u8 t, .int .u8 fl, .slice A1 n1 c1, .slice A2 n2 c2] 37)) (.cells #[.int .u8 k.f0, .string k.f1, .int .u8 k.f2, .int .i64 k.f3, .int .i64 k.f4, .int .i64 k.f5, .int .i64 k.f6] 94))
  have BC := Aside0.mk (blk_alloc (heap_alloc_new w (.cells #[.int .u8 t, .int .u8 fl, .slice A1 n1 c1, .slice A2 n2 c2] 37)) (.cells #[.int .u8 k.f0, .string k.f1, .int .u8 k.f2, .int .i64 k.f3, .int .i64 k.f4, .int .i64 k.f5, .int .i64 k.f6] 94))
  have BKd := heap_alloc_new (w.alloc (.cells #[.int .u8 t, .int .u8 fl, .slice A1 n1 c1, .slice A2 n2 c2] 37)) (.cells #[.int .u8 k.f0, .string k.f1, .int .u8 k.f2, .int .i64 k.f3, .int .i64 k.f4, .int .i64 k.f5, .int .i64 k.f6] 94)
  rw [show (w.alloc (.cells #[.int .u8 t, .int .u8 fl, .slice A1 n1 c1, .slice A2 n2 c2] 37)).heap.size = w.heap.size + 1 from by simp] at BKd
  replace BKd := Aside0.mk BKd
  have HB := Aside0.mk (((Below.refl _ w).alloc (Nat.le_refl _) (.cells #[.int .u8 t, .int .u8 fl, .slice A1 n1 c1, .slice A2 n2 c2] 37)).alloc (by simp) (.cells #[.int .u8 k.f0, .string k.f1, .int .u8 k.f2, .int .i64 k.f3, .int .i64 k.f4, .int .i64 k.f5, .int .i64 k.f6] 94))
  have qc0 := (blk_cell BC.out 0).trans (show _ = some (Value.int .u8 t) from rfl)
  have qc1 := (blk_cell BC.out 1).trans (show _ = some (Value.int .u8 fl) from rfl)
  have qc2 := (blk_cell BC.out 2).trans (show _ = some (Value.slice A1 n1 c1) from rfl)
  have qc3 := (blk_cell BC.out 3).trans (show _ = some (Value.slice A2 n2 c2) from rfl)
  have qk0 := (blk_cell BKd.out 0).trans (show _ = some (Value.int .u8 k.f0) from rfl)
  have qk1 := (blk_cell BKd.out 1).trans (show _ = some (Value.string k.f1) from rfl)
  have qk2 := (blk_cell BKd.out 2).trans (show _ = some (Value.int .u8 k.f2) from rfl)
  have qk3 := (blk_cell BKd.out 3).trans (show _ = some (Value.int .i64 k.f3) from rfl)
  have qk4 := (blk_cell BKd.out 4).trans (show _ = some (Value.int .i64 k.f4) from rfl)
  have qk5 := (blk_cell BKd.out 5).trans (show _ = some (Value.int .i64 k.f5) from rfl)
  have qk6 := (blk_cell BKd.out 6).trans (show _ = some (Value.int .i64 k.f6) from rfl)
  have qg0 := (blk_cell BG.out 0).trans (show _ = some (Value.func (.func 64) #[] #[]) from rfl)
  have qg1 := (blk_cell BG.out 1).trans (show _ = some (Value.func (.func 65) #[] #[]) from rfl)
  have qg2 := (blk_cell BG.out 2).trans (show _ = some (Value.func (.func 66) #[] #[]) from rfl)
  have qg3 := (blk_cell BG.out 3).trans (show _ = some (Value.func (.func 67) #[] #[]) from rfl)
  have qg4 := (blk_cell BG.out 4).trans (show _ = some (Value.func (.func 68) #[] #[]) from rfl)
  clear hG
  go_enter Tryz.func63, Tryz.ntmps63
  go_wp2
  refine wp_loop_rounds 1 ?_
  rw [rounds_succ]
  go_wp2_with fail
  refine (H0.out _ HB.out).mono ?_
  rintro e w0 ⟨⟨a, rfl⟩, hb⟩
  clear qc0 qc1 qc2 qc3 qk0 qk1 qk2 qk3 qk4 qk5 qk6 qg0 qg1 qg2 qg3 qg4
  replace BG := Aside0.mk (blk_below BG.out hb)
  replace BC := Aside0.mk (blk_below BC.out hb)
  replace BKd := Aside0.mk (blk_below BKd.out hb)
  replace HB := Aside0.mk (HB.out.trans (hb.mono HB.out.size))
  clear hb
  go_wp2
  go_ret
  exact ⟨⟨_, rfl⟩, HB.out⟩
set_option maxRecDepth 100000 in
set_option maxHeartbeats 4000000 in
theorem first.at1 (c : Int) (t fl : Int) (A1 : Option Addr) (n1 c1 : Nat) (A2 : Option Addr) (n2 c2 : Nat) (k : S94) (g : Nat) (w : World) (hG : w.heap[g]? = some (.cells #[.func (.func 64) #[] #[], .func (.func 65) #[] #[], .func (.func 66) #[] #[], .func (.func 67) #[] #[], .func (.func 68) #[] #[]] 133 (0, 0)))
    (H0 : Aside0 (∀ W, Below w.heap.size w W → Calls Tryz.prog 64 #[chV t fl A1 n1 c1 A2 n2 c2, kdV k] W fun e w' => e = .returned .nilIface ∧ Below W.heap.size W w'))
    (H1 : Aside0 (∀ W, Below w.heap.size w W → Calls Tryz.prog 65 #[chV t fl A1 n1 c1 A2 n2 c2, kdV k] W fun e w' => FltC c e ∧ Below W.heap.size W w')) :
    Calls Tryz.prog 63 #[chV t fl A1 n1 c1 A2 n2 c2, kdV k, .slice (some ⟨g, 0, none⟩) 5 5] w fun e w' => FltC c e ∧ Below w.heap.size w w' := by
  have hgw : g < w.heap.size := by
    rcases Nat.lt_or_ge g w.heap.size with h | h
    · exact h
    · rw [Array.getElem?_eq_none h] at hG; cases hG
  have BG := Aside0.mk (blk_alloc (blk_alloc hG (.cells #[.int .u8 t, .int .u8 fl, .slice A1 n1 c1, .slice A2 n2 c2] 37)) (.cells #[.int .u8 k.f0, .string k.f1, .int .u8 k.f2, .int .i64 k.f3, .int .i64 k.f4, .int .i64 k.f5, .int .i64 k.f6] 94))
  have BC := Aside0.mk (blk_alloc (heap_alloc_new w (.cells #[.int .u8 t, .int .u8 fl, .slice A1 n1 c1, .slice A2 n2 c2] 37)) (.cells #[.int .u8 k.f0, .string k.f1, .int .u8 k.f2, .int .i64 k.f3, .int .i64 k.f4, .int .i64 k.f5, .int .i64 k.f6] 94))
  have BKd := heap_alloc_new (w.alloc (.cells #[.int .u8 t, .int .u8 fl, .slice A1 n1 c1, .slice A2 n2 c2] 37)) (.cells #[.int .u8 k.f0, .string k.f1, .int .u8 k.f2, .int .i64 k.f3, .int .i64 k.f4, .int .i64 k.f5, .int .i64 k.f6] 94)
  rw [show (w.alloc (.cells #[.int .u8 t, .int .u8 fl, .slice A1 n1 c1, .slice A2 n2 c2] 37)).heap.size = w.heap.size + 1 from by simp] at BKd
  replace BKd := Aside0.mk BKd
  have HB := Aside0.mk (((Below.refl _ w).alloc (Nat.le_refl _) (.cells #[.int .u8 t, .int .u8 fl, .slice A1 n1 c1, .slice A2 n2 c2] 37)).alloc (by simp) (.cells #[.int .u8 k.f0, .string k.f1, .int .u8 k.f2, .int .i64 k.f3, .int .i64 k.f4, .int .i64 k.f5, .int .i64 k.f6] 94))
  have qc0 := (blk_cell BC.out 0).trans (show _ = some (Value.int .u8 t) from rfl)
  have qc1 := (blk_cell BC.out 1).trans (show _ = some (Value.int .u8 fl) from rfl)
  have qc2 := (blk_cell BC.out 2).trans (show _ = some (Value.slice A1 n1 c1) from rfl)
  have qc3 := (blk_cell BC.out 3).trans (show _ = some (Value.slice A2 n2 c2) from rfl)
  have qk0 := (blk_cell BKd.out 0).trans (show _ = some (Value.int .u8 k.f0) from rfl)
  have qk1 := (blk_cell BKd.out 1).trans (show _ = some (Value.string k.f1) from rfl)
  have qk2 := (blk_cell BKd.out 2).trans (show _ = some (Value.int .u8 k.f2) from rfl)
  have qk3 := (blk_cell BKd.out 3).trans (show _ = some (Value.int .i64 k.f3) from rfl)
  have qk4 := (blk_cell BKd.out 4).trans (show _ = some (Value.int .i64 k.f4) from rfl)
  have qk5 := (blk_cell BKd.out 5).trans (show _ = some (Value.int .i64 k.f5) from rfl)
  have qk6 := (blk_cell BKd.out 6).trans (show _ = some (Value.int .i64 k.f6) from rfl)
  have qg0 := (blk_cell BG.out 0).trans (show _ = some (Value.func (.func 64) #[] #[]) from rfl)
  have qg1 := (blk_cell BG.out 1).trans (show _ = some (Value.func (.func 65) #[] #[]) from rfl)
  have qg2 := (blk_cell BG.out 2).trans (show _ = some (Value.func (.func 66) #[] #[]) from rfl)
  have qg3 := (blk_cell BG.out 3).trans (show _ = some (Value.func (.func 67) #[] #[]) from rfl)
  have qg4 := (blk_cell BG.out 4).trans (show _ = some (Value.func (.func 68) #[] #[]) from rfl)
  clear hG
  go_enter Tryz.func63, Tryz.ntmps63
  go_wp2
  refine wp_loop_rounds 2 ?_
  rw [rounds_succ]
  go_wp2_with fail
  refine (H0.out _ HB.out).mono ?_
  rintro e w0 ⟨rfl, hb⟩
  clear qc0 qc1 qc2 qc3 qk0 qk1 qk2 qk3 qk4 qk5 qk6 qg0 qg1 qg2 qg3 qg4
  replace BG := Aside0.mk (blk_below BG.out hb)
  replace BC := Aside0.mk (blk_below BC.out hb)
  replace BKd := Aside0.mk (blk_below BKd.out hb)
  replace HB := Aside0.mk (HB.out.trans (hb.mono HB.out.size))
  clear hb
  have qc0 := (blk_cell BC.out 0).trans (show _ = some (Value.int .u8 t) from rfl)
  have qc1 := (blk_cell BC.out 1).trans (show _ = some (Value.int .u8 fl) from rfl)
  have qc2 := (blk_cell BC.out 2).trans (show _ = some (Value.slice A1 n1 c1) from rfl)
  have qc3 := (blk_cell BC.out 3).trans (show _ = some (Value.slice A2 n2 c2) from rfl)
  have qk0 := (blk_cell BKd.out 0).trans (show _ = some (Value.int .u8 k.f0) from rfl)
  have qk1 := (blk_cell BKd.out 1).trans (show _ = some (Value.string k.f1) from rfl)
  have qk2 := (blk_cell BKd.out 2).trans (show _ = some (Value.int .u8 k.f2) from rfl)
  have qk3 := (blk_cell BKd.out 3).trans (show _ = some (Value.int .i64 k.f3) from rfl)
  have qk4 := (blk_cell BKd.out 4).trans (show _ = some (Value.int .i64 k.f4) from rfl)
  have qk5 := (blk_cell BKd.out 5).trans (show _ = some (Value.int .i64 k.f5) from rfl)
  have qk6 := (blk_cell BKd.out 6).trans (show _ = some (Value.int .i64 k.f6) from rfl)
  have qg0 := (blk_cell BG.out 0).trans (show _ = some (Value.func (.func 64) #[] #[]) from rfl)
  have qg1 := (blk_cell BG.out 1).trans (show _ = some (Value.func (.func 65) #[] #[]) from rfl)
  have qg2 := (blk_cell BG.out 2).trans (show _ = some (Value.func (.func 66) #[] #[]) from rfl)
  have qg3 := (blk_cell BG.out 3).trans (show _ = some (Value.func (.func 67) #[] #[]) from rfl)
  have qg4 := (blk_cell BG.out 4).trans (show _ = some (Value.func (.func 68) #[] #[]) from rfl)
  go_wp2_with fail
  rw [rounds_succ]
  go_wp2_with fail
  refine (H1.out _ HB.out).mono ?_
  rintro e w1 ⟨⟨a, rfl⟩, hb⟩
  clear qc0 qc1 qc2 qc3 qk0 qk1 qk2 qk3 qk4 qk5 qk6 qg0 qg1 qg2 qg3 qg4
  replace BG := Aside0.mk (blk_below BG.out hb)
  replace BC := Aside0.mk (blk_below BC.out hb)
  replace BKd := Aside0.mk (blk_below BKd.out hb)
  replace HB := Aside0.mk (HB.out.trans (hb.mono HB.out.size))
  clear hb
  go_wp2
  go_ret
  exact ⟨⟨_, rfl⟩, HB.out⟩
set_option maxRecDepth 100000 in
set_option maxHeartbeats 4000000 in
theorem first.at2 (c : Int) (t fl : Int) (A1 : Option Addr) (n1 c1 : Nat) (A2 : Option Addr) (n2 c2 : Nat) (k : S94) (g : Nat) (w : World) (hG : w.heap[g]? = some (.cells #[.func (.func 64) #[] #[], .func (.func 65) #[] #[], .func (.func 66) #[] #[], .func (.func 67) #[] #[], .func (.func 68) #[] #[]] 133 (0, 0)))
    (H0 : Aside0 (∀ W, Below w.heap.size w W → Calls Tryz.prog 64 #[chV t fl A1 n1 c1 A2 n2 c2, kdV k] W fun e w' => e = .returned .nilIface ∧ Below W.heap.size W w'))
    (H1 : Aside0 (∀ W, Below w.heap.size w W → Calls Tryz.prog 65 #[chV t fl A1 n1 c1 A2 n2 c2, kdV k] W fun e w' => e = .returned .nilIface ∧ Below W.heap.size W w'))
    (H2 : Aside0 (∀ W, Below w.heap.size w W → Calls Tryz.prog 66 #[chV t fl A1 n1 c1 A2 n2 c2, kdV k] W fun e w' => FltC c e ∧ Below W.heap.size W w')) :
    Calls Tryz.prog 63 #[chV t fl A1 n1 c1 A2 n2 c2, kdV k, .slice (some ⟨g, 0, none⟩) 5 5] w fun e w' => FltC c e ∧ Below w.heap.size w w' := by
  have hgw : g < w.heap.size := by
    rcases Nat.lt_or_ge g w.heap.size with h | h
    · exact h
    · rw [Array.getElem?_eq_none h] at hG; cases hG
  have BG := Aside0.mk (blk_alloc (blk_alloc hG (.cells #[.int .u8 t, .int .u8 fl, .slice A1 n1 c1, .slice A2 n2 c2] 37)) (.cells #[.int .u8 k.f0, .string k.f1, .int .u8 k.f2, .int .i64 k.f3, .int .i64 k.f4, .int .i64 k.f5, .int .i64 k.f6] 94))
  have BC := Aside0.mk (blk_alloc (heap_alloc_new w (.cells #[.int .u8 t, .int .u8 fl, .slice A1 n1 c1, .slice A2 n2 c2] 37)) (.cells #[.int .u8 k.f0, .string k.f1, .int .u8 k.f2, .int .i64 k.f3, .int .i64 k.f4, .int .i64 k.f5, .int .i64 k.f6] 94))
  have BKd := heap_alloc_new (w.alloc (.cells #[.int .u8 t, .int .u8 fl, .slice A1 n1 c1, .slice A2 n2 c2] 37)) (.cells #[.int .u8 k.f0, .string k.f1, .int .u8 k.f2, .int .i64 k.f3, .int .i64 k.f4, .int .i64 k.f5, .int .i64 k.f6] 94)
  rw [show (w.alloc (.cells #[.int .u8 t, .int .u8 fl, .slice A1 n1 c1, .slice A2 n2 c2] 37)).heap.size = w.heap.size + 1 from by simp] at BKd
  replace BKd := Aside0.mk BKd
  have HB := Aside0.mk (((Below.refl _ w).alloc (Nat.le_refl _) (.cells #[.int .u8 t, .int .u8 fl, .slice A1 n1 c1, .slice A2 n2 c2] 37)).alloc (by simp) (.cells #[.int .u8 k.f0, .string k.f1, .int .u8 k.f2, .int .i64 k.f3, .int .i64 k.f4, .int .i64 k.f5, .int .i64 k.f6] 94))
  have qc0 := (blk_cell BC.out 0).trans (show _ = some (Value.int .u8 t) from rfl)
  have qc1 := (blk_cell BC.out 1).trans (show _ = some (Value.int .u8 fl) from rfl)
  have qc2 := (blk_cell BC.out 2).trans (show _ = some (Value.slice A1 n1 c1) from rfl)
  have qc3 := (blk_cell BC.out 3).trans (show _ = some (Value.slice A2 n2 c2) from rfl)
  have qk0 := (blk_cell BKd.out 0).trans (show _ = some (Value.int .u8 k.f0) from rfl)
  have qk1 := (blk_cell BKd.out 1).trans (show _ = some (Value.string k.f1) from rfl)
  have qk2 := (blk_cell BKd.out 2).trans (show _ = some (Value.int .u8 k.f2) from rfl)
  have qk3 := (blk_cell BKd.out 3).trans (show _ = some (Value.int .i64 k.f3) from rfl)
  have qk4 := (blk_cell BKd.out 4).trans (show _ = some (Value.int .i64 k.f4) from rfl)
  have qk5 := (blk_cell BKd.out 5).trans (show _ = some (Value.int .i64 k.f5) from rfl)
  have qk6 := (blk_cell BKd.out 6).trans (show _ = some (Value.int .i64 k.f6) from rfl)
  have qg0 := (blk_cell BG.out 0).trans (show _ = some (Value.func (.func 64) #[] #[]) from rfl)
  have qg1 := (blk_cell BG.out 1).trans (show _ = some (Value.func (.func 65) #[] #[]) from rfl)
  have qg2 := (blk_cell BG.out 2).trans (show _ = some (Value.func (.func 66) #[] #[]) from rfl)
  have qg3 := (blk_cell BG.out 3).trans (show _ = some (Value.func (.func 67) #[] #[]) from rfl)
  have qg4 := (blk_cell BG.out 4).trans (show _ = some (Value.func (.func 68) #[] #[]) from rfl)
  clear hG
  go_enter Tryz.func63, Tryz.ntmps63
  go_wp2
  refine wp_loop_rounds 3 ?_
  rw [rounds_succ]
  go_wp2_with fail
  refine (H0.out _ HB.out).mono ?_
  rintro e w0 ⟨rfl, hb⟩
  clear qc0 qc1 qc2 qc3 qk0 qk1 qk2 qk3 qk4 qk5 qk6 qg0 qg1 qg2 qg3 qg4
  replace BG := Aside0.mk (blk_below BG.out hb)
  replace BC := Aside0.mk (blk_below BC.out hb)
  replace BKd := Aside0.mk (blk_below BKd.out hb)
  replace HB := Aside0.mk (HB.out.trans (hb.mono HB.out.size))
  clear hb
  have qc0 := (blk_cell BC.out 0).trans (show _ = some (Value.int .u8 t) from rfl)
  have qc1 := (blk_cell BC.out 1).trans (show _ = some (Value.int .u8 fl) from rfl)
  have qc2 := (blk_cell BC.out 2).trans (show _ = some (Value.slice A1 n1 c1) from rfl)
  have qc3 := (blk_cell BC.out 3).trans (show _ = some (Value.slice A2 n2 c2) from rfl)
  have qk0 := (blk_cell BKd.out 0).trans (show _ = some (Value.int .u8 k.f0) from rfl)
  have qk1 := (blk_cell BKd.out 1).trans (show _ = some (Value.string k.f1) from rfl)
  have qk2 := (blk_cell BKd.out 2).trans (show _ = some (Value.int .u8 k.f2) from rfl)
  have qk3 := (blk_cell BKd.out 3).trans (show _ = some (Value.int .i64 k.f3) from rfl)
  have qk4 := (blk_cell BKd.out 4).trans (show _ = some (Value.int .i64 k.f4) from rfl)
  have qk5 := (blk_cell BKd.out 5).trans (show _ = some (Value.int .i64 k.f5) from rfl)
  have qk6 := (blk_cell BKd.out 6).trans (show _ = some (Value.int .i64 k.f6) from rfl)
  have qg0 := (blk_cell BG.out 0).trans (show _ = some (Value.func (.func 64) #[] #[]) from rfl)
  have qg1 := (blk_cell BG.out 1).trans (show _ = some (Value.func (.func 65) #[] #[]) from rfl)
  have qg2 := (blk_cell BG.out 2).trans (show _ = some (Value.func (.func 66) #[] #[]) from rfl)
  have qg3 := (blk_cell BG.out 3).trans (show _ = some (Value.func (.func 67) #[] #[]) from rfl)
  have qg4 := (blk_cell BG.out 4).trans (show _ = some (Value.func (.func 68) #[] #[]) from rfl)
  go_wp2_with fail
  rw [rounds_succ]
  go_wp2_with fail
  refine (H1.out _ HB.out).mono ?_
  rintro e w1 ⟨rfl, hb⟩
  clear qc0 qc1 qc2 qc3 qk0 qk1 qk2 qk3 qk4 qk5 qk6 qg0 qg1 qg2 qg3 qg4
  replace BG := Aside0.mk (blk_below BG.out hb)
  replace BC := Aside0.mk (blk_below BC.out hb)
  replace BKd := Aside0.mk (blk_below BKd.out hb)
  replace HB := Aside0.mk (HB.out.trans (hb.mono HB.out.size))
  clear hb
  have qc0 := (blk_cell BC.out 0).trans (show _ = some (Value.int .u8 t) from rfl)
  have qc1 := (blk_cell BC.out 1).trans (show _ = some (Value.int .u8 fl) from rfl)
  have qc2 := (blk_cell BC.out 2).trans (show _ = some (Value.slice A1 n1 c1) from rfl)
  have qc3 := (blk_cell BC.out 3).trans (show _ = some (Value.slice A2 n2 c2) from rfl)
  have qk0 := (blk_cell BKd.out 0).trans (show _ = some (Value.int .u8 k.f0) from rfl)
  have qk1 := (blk_cell BKd.out 1).trans (show _ = some (Value.string k.f1) from rfl)
  have qk2 := (blk_cell BKd.out 2).trans (show _ = some (Value.int .u8 k.f2) from rfl)
  have qk3 := (blk_cell BKd.out 3).trans (show _ = some (Value.int .i64 k.f3) from rfl)
  have qk4 := (blk_cell BKd.out 4).trans (show _ = some (Value.int .i64 k.f4) from rfl)
  have qk5 := (blk_cell BKd.out 5).trans (show _ = some (Value.int .i64 k.f5) from rfl)
  have qk6 := (blk_cell BKd.out 6).trans (show _ = some (Value.int .i64 k.f6) from rfl)
  have qg0 := (blk_cell BG.out 0).trans (show _ = some (Value.func (.func 64) #[] #[]) from rfl)
  have qg1 := (blk_cell BG.out 1).trans (show _ = some (Value.func (.func 65) #[] #[]) from rfl)
  have qg2 := (blk_cell BG.out 2).trans (show _ = some (Value.func (.func 66) #[] #[]) from rfl)
  have qg3 := (blk_cell BG.out 3).trans (show _ = some (Value.func (.func 67) #[] #[]) from rfl)
  have qg4 := (blk_cell BG.out 4).trans (show _ = some (Value.func (.func 68) #[] #[]) from rfl)
  go_wp2_with fail
  rw [rounds_succ]
  go_wp2_with fail
  refine (H2.out _ HB.out).mono ?_
  rintro e w2 ⟨⟨a, rfl⟩, hb⟩
  clear qc0 qc1 qc2 qc3 qk0 qk1 qk2 qk3 qk4 qk5 qk6 qg0 qg1 qg2 qg3 qg4
  replace BG := Aside0.mk (blk_below BG.out hb)
  replace BC := Aside0.mk (blk_below BC.out hb)
  replace BKd := Aside0.mk (blk_below BKd.out hb)
  replace HB := Aside0.mk (HB.out.trans (hb.mono HB.out.size))
  clear hb
  go_wp2
  go_ret
  exact ⟨⟨_, rfl⟩, HB.out⟩
set_option maxRecDepth 100000 in
set_option maxHeartbeats 4000000 in
theorem first.at3 (c : Int) (t fl : Int) (A1 : Option Addr) (n1 c1 : Nat) (A2 : Option Addr) (n2 c2 : Nat) (k : S94) (g : Nat) (w : World) (hG : w.heap[g]? = some (.cells #[.func (.func 64) #[] #[], .func (.func 65) #[] #[], .func (.func 66) #[] #[], .func (.func 67) #[] #[], .func (.func 68) #[] #[]] 133 (0, 0)))
    (H0 : Aside0 (∀ W, Below w.heap.size w W → Calls Tryz.prog 64 #[chV t fl A1 n1 c1 A2 n2 c2, kdV k] W fun e w' => e = .returned .nilIface ∧ Below W.heap.size W w'))
    (H1 : Aside0 (∀ W, Below w.heap.size w W → Calls Tryz.prog 65 #[chV t fl A1 n1 c1 A2 n2 c2, kdV k] W fun e w' => e = .returned .nilIface ∧ Below W.heap.size W w'))
    (H2 : Aside0 (∀ W, Below w.heap.size w W → Calls Tryz.prog 66 #[chV t fl A1 n1 c1 A2 n2 c2, kdV k] W fun e w' => e = .returned .nilIface ∧ Below W.heap.size W w'))
    (H3 : Aside0 (∀ W, Below w.heap.size w W → Calls Tryz.prog 67 #[chV t fl A1 n1 c1 A2 n2 c2, kdV k] W fun e w' => FltC c e ∧ Below W.heap.size W w')) :
    Calls Tryz.prog 63 #[chV t fl A1 n1 c1 A2 n2 c2, kdV k, .slice (some ⟨g, 0, none⟩) 5 5] w fun e w' => FltC c e ∧ Below w.heap.size w w' := by
  have hgw : g < w.heap.size := by
    rcases Nat.lt_or_ge g w.heap.size with h | h
    · exact h
    · rw [Array.getElem?_eq_none h] at hG; cases hG
  have BG := Aside0.mk (blk_alloc (blk_alloc hG (.cells #[.int .u8 t, .int .u8 fl, .slice A1 n1 c1, .slice A2 n2 c2] 37)) (.cells #[.int .u8 k.f0, .string k.f1, .int .u8 k.f2, .int .i64 k.f3, .int .i64 k.f4, .int .i64 k.f5, .int .i64 k.f6] 94))
  have BC := Aside0.mk (blk_alloc (heap_alloc_new w (.cells #[.int .u8 t, .int .u8 fl, .slice A1 n1 c1, .slice A2 n2 c2] 37)) (.cells #[.int .u8 k.f0, .string k.f1, .int .u8 k.f2, .int .i64 k.f3, .int .i64 k.f4, .int .i64 k.f5, .int .i64 k.f6] 94))
  have BKd := heap_alloc_new (w.alloc (.cells #[.int .u8 t, .int .u8 fl, .slice A1 n1 c1, .slice A2 n2 c2] 37)) (.cells #[.int .u8 k.f0, .string k.f1, .int .u8 k.f2, .int .i64 k.f3, .int .i64 k.f4, .int .i64 k.f5, .int .i64 k.f6] 94)
  rw [show (w.alloc (.cells #[.int .u8 t, .int .u8 fl, .slice A1 n1 c1, .slice A2 n2 c2] 37)).heap.size = w.heap.size + 1 from by simp] at BKd
  replace BKd := Aside0.mk BKd
  have HB := Aside0.mk (((Below.refl _ w).alloc (Nat.le_refl _) (.cells #[.int .u8 t, .int .u8 fl, .slice A1 n1 c1, .slice A2 n2 c2] 37)).alloc (by simp) (.cells #[.int .u8 k.f0, .string k.f1, .int .u8 k.f2, .int .i64 k.f3, .int .i64 k.f4, .int .i64 k.f5, .int .i64 k.f6] 94))
  have qc0 := (blk_cell BC.out 0).trans (show _ = some (Value.int .u8 t) from rfl)
  have qc1 := (blk_cell BC.out 1).trans (show _ = some (Value.int .u8 fl) from rfl)
  have qc2 := (blk_cell BC.out 2).trans (show _ = some (Value.slice A1 n1 c1) from rfl)
  have qc3 := (blk_cell BC.out 3).trans (show _ = some (Value.slice A2 n2 c2) from rfl)
  have qk0 := (blk_cell BKd.out 0).trans (show _ = some (Value.int .u8 k.f0) from rfl)
  have qk1 := (blk_cell BKd.out 1).trans (show _ = some (Value.string k.f1) from rfl)
  have qk2 := (blk_cell BKd.out 2).trans (show _ = some (Value.int .u8 k.f2) from rfl)
  have qk3 := (blk_cell BKd.out 3).trans (show _ = some (Value.int .i64 k.f3) from rfl)
  have qk4 := (blk_cell BKd.out 4).trans (show _ = some (Value.int .i64 k.f4) from rfl)
  have qk5 := (blk_cell BKd.out 5).trans (show _ = some (Value.int .i64 k.f5) from rfl)
  have qk6 := (blk_cell BKd.out 6).trans (show _ = some (Value.int .i64 k.f6) from rfl)
  have qg0 := (blk_cell BG.out 0).trans (show _ = some (Value.func (.func 64) #[] #[]) from rfl)
  have qg1 := (blk_cell BG.out 1).trans (show _ = some (Value.func (.func 65) #[] #[]) from rfl)
  have qg2 := (blk_cell BG.out 2).trans (show _ = some (Value.func (.func 66) #[] #[]) from rfl)
  have qg3 := (blk_cell BG.out 3).trans (show _ = some (Value.func (.func 67) #[] #[]) from rfl)
  have qg4 := (blk_cell BG.out 4).trans (show _ = some (Value.func (.func 68) #[] #[]) from rfl)
  clear hG
  go_enter Tryz.func63, Tryz.ntmps63
  go_wp2
  refine wp_loop_rounds 4 ?_
  rw [rounds_succ]
  go_wp2_with fail
  refine (H0.out _ HB.out).mono ?_
  rintro e w0 ⟨rfl, hb⟩
  clear qc0 qc1 qc2 qc3 qk0 qk1 qk2 qk3 qk4 qk5 qk6 qg0 qg1 qg2 qg3 qg4
  replace BG := Aside0.mk (blk_below BG.out hb)
  replace BC := Aside0.mk (blk_below BC.out hb)
  replace BKd := Aside0.mk (blk_below BKd.out hb)
  replace HB := Aside0.mk (HB.out.trans (hb.mono HB.out.size))
  clear hb
  have qc0 := (blk_cell BC.out 0).trans (show _ = some (Value.int .u8 t) from rfl)
  have qc1 := (blk_cell BC.out 1).trans (show _ = some (Value.int .u8 fl) from rfl)
  have qc2 := (blk_cell BC.out 2).trans (show _ = some (Value.slice A1 n1 c1) from rfl)
  have qc3 := (blk_cell BC.out 3).trans (show _ = some (Value.slice A2 n2 c2) from rfl)
  have qk0 := (blk_cell BKd.out 0).trans (show _ = some (Value.int .u8 k.f0) from rfl)
  have qk1 := (blk_cell BKd.out 1).trans (show _ = some (Value.string k.f1) from rfl)
  have qk2 := (blk_cell BKd.out 2).trans (show _ = some (Value.int .u8 k.f2) from rfl)
  have qk3 := (blk_cell BKd.out 3).trans (show _ = some (Value.int .i64 k.f3) from rfl)
  have qk4 := (blk_cell BKd.out 4).trans (show _ = some (Value.int .i64 k.f4) from rfl)
  have qk5 := (blk_cell BKd.out 5).trans (show _ = some (Value.int .i64 k.f5) from rfl)
  have qk6 := (blk_cell BKd.out 6).trans (show _ = some (Value.int .i64 k.f6) from rfl)
  have qg0 := (blk_cell BG.out 0).trans (show _ = some (Value.func (.func 64) #[] #[]) from rfl)
  have qg1 := (blk_cell BG.out 1).trans (show _ = some (Value.func (.func 65) #[] #[]) from rfl)
  have qg2 := (blk_cell BG.out 2).trans (show _ = some (Value.func (.func 66) #[] #[]) from rfl)
  have qg3 := (blk_cell BG.out 3).trans (show _ = some (Value.func (.func 67) #[] #[]) from rfl)
  have qg4 := (blk_cell BG.out 4).trans (show _ = some (Value.func (.func 68) #[] #[]) from rfl)
  go_wp2_with fail
  rw [rounds_succ]
  go_wp2_with fail
  refine (H1.out _ HB.out).mono ?_
  rintro e w1 ⟨rfl, hb⟩
  clear qc0 qc1 qc2 qc3 qk0 qk1 qk2 qk3 qk4 qk5 qk6 qg0 qg1 qg2 qg3 qg4
  replace BG := Aside0.mk (blk_below BG.out hb)
  replace BC := Aside0.mk (blk_below BC.out hb)
  replace BKd := Aside0.mk (blk_below BKd.out hb)
  replace HB := Aside0.mk (HB.out.trans (hb.mono HB.out.size))
  clear hb
  have qc0 := (blk_cell BC.out 0).trans (show _ = some (Value.int .u8 t) from rfl)
  have qc1 := (blk_cell BC.out 1).trans (show _ = some (Value.int .u8 fl) from rfl)
  have qc2 := (blk_cell BC.out 2).trans (show _ = some (Value.slice A1 n1 c1) from rfl)
  have qc3 := (blk_cell BC.out 3).trans (show _ = some (Value.slice A2 n2 c2) from rfl)
  have qk0 := (blk_cell BKd.out 0).trans (show _ = some (Value.int .u8 k.f0) from rfl)
  have qk1 := (blk_cell BKd.out 1).trans (show _ = some (Value.string k.f1) from rfl)
  have qk2 := (blk_cell BKd.out 2).trans (show _ = some (Value.int .u8 k.f2) from rfl)
  have qk3 := (blk_cell BKd.out 3).trans (show _ = some (Value.int .i64 k.f3) from rfl)
  have qk4 := (blk_cell BKd.out 4).trans (show _ = some (Value.int .i64 k.f4) from rfl)
  have qk5 := (blk_cell BKd.out 5).trans (show _ = some (Value.int .i64 k.f5) from rfl)
  have qk6 := (blk_cell BKd.out 6).trans (show _ = some (Value.int .i64 k.f6) from rfl)
  have qg0 := (blk_cell BG.out 0).trans (show _ = some (Value.func (.func 64) #[] #[]) from rfl)
  have qg1 := (blk_cell BG.out 1).trans (show _ = some (Value.func (.func 65) #[] #[]) from rfl)
  have qg2 := (blk_cell BG.out 2).trans (show _ = some (Value.func (.func 66) #[] #[]) from rfl)
  have qg3 := (blk_cell BG.out 3).trans (show _ = some (Value.func (.func 67) #[] #[]) from rfl)
  have qg4 := (blk_cell BG.out 4).trans (show _ = some (Value.func (.func 68) #[] #[]) from rfl)
  go_wp2_with fail
  rw [rounds_succ]
  go_wp2_with fail
  refine (H2.out _ HB.out).mono ?_
  rintro e w2 ⟨rfl, hb⟩
  clear qc0 qc1 qc2 qc3 qk0 qk1 qk2 qk3 qk4 qk5 qk6 qg0 qg1 qg2 qg3 qg4
  replace BG := Aside0.mk (blk_below BG.out hb)
  replace BC := Aside0.mk (blk_below BC.out hb)
  replace BKd := Aside0.mk (blk_below BKd.out hb)
  replace HB := Aside0.mk (HB.out.trans (hb.mono HB.out.size))
  clear hb
  have qc0 := (blk_cell BC.out 0).trans (show _ = some (Value.int .u8 t) from rfl)
  have qc1 := (blk_cell BC.out 1).trans (show _ = some (Value.int .u8 fl) from rfl)
  have qc2 := (blk_cell BC.out 2).trans (show _ = some (Value.slice A1 n1 c1) from rfl)
  have qc3 := (blk_cell BC.out 3).trans (show _ = some (Value.slice A2 n2 c2) from rfl)
  have qk0 := (blk_cell BKd.out 0).trans (show _ = some (Value.int .u8 k.f0) from rfl)
  have qk1 := (blk_cell BKd.out 1).trans (show _ = some (Value.string k.f1) from rfl)
  have qk2 := (blk_cell BKd.out 2).trans (show _ = some (Value.int .u8 k.f2) from rfl)
  have qk3 := (blk_cell BKd.out 3).trans (show _ = some (Value.int .i64 k.f3) from rfl)
  have qk4 := (blk_cell BKd.out 4).trans (show _ = some (Value.int .i64 k.f4) from rfl)
  have qk5 := (blk_cell BKd.out 5).trans (show _ = some (Value.int .i64 k.f5) from rfl)
  have qk6 := (blk_cell BKd.out 6).trans (show _ = some (Value.int .i64 k.f6) from rfl)
  have qg0 := (blk_cell BG.out 0).trans (show _ = some (Value.func (.func 64) #[] #[]) from rfl)
  have qg1 := (blk_cell BG.out 1).trans (show _ = some (Value.func (.func 65) #[] #[]) from rfl)
  have qg2 := (blk_cell BG.out 2).trans (show _ = some (Value.func (.func 66) #[] #[]) from rfl)
  have qg3 := (blk_cell BG.out 3).trans (show _ = some (Value.func (.func 67) #[] #[]) from rfl)
  have qg4 := (blk_cell BG.out 4).trans (show _ = some (Value.func (.func 68) #[] #[]) from rfl)
  go_wp2_with fail
  rw [rounds_succ]
  go_wp2_with fail
  refine (H3.out _ HB.out).mono ?_
  rintro e w3 ⟨⟨a, rfl⟩, hb⟩
  clear qc0 qc1 qc2 qc3 qk0 qk1 qk2 qk3 qk4 qk5 qk6 qg0 qg1 qg2 qg3 qg4
  replace BG := Aside0.mk (blk_below BG.out hb)
  replace BC := Aside0.mk (blk_below BC.out hb)
  replace BKd := Aside0.mk (blk_below BKd.out hb)
  replace HB := Aside0.mk (HB.out.trans (hb.mono HB.out.size))
  clear hb
  go_wp2
  go_ret
  exact ⟨⟨_, rfl⟩, HB.out⟩
set_option maxRecDepth 100000 in
set_option maxHeartbeats 4000000 in
theorem first.at4 (c : Int) (t fl : Int) (A1 : Option Addr) (n1 c1 : Nat) (A2 : Option Addr) (n2 c2 : Nat) (k : S94) (g : Nat) (w : World) (hG : w.heap[g]? = some (.cells #[.func (.func 64) #[] #[], .func (.func 65) #[] #[], .func (.func 66) #[] #[], .func (.func 67) #[] #[], .func (.func 68) #[] #[]] 133 (0, 0)))
    (H0 : Aside0 (∀ W, Below w.heap.size w W → Calls Tryz.prog 64 #[chV t fl A1 n1 c1 A2 n2 c2, kdV k] W fun e w' => e = .returned .nilIface ∧ Below W.heap.size W w'))
    (H1 : Aside0 (∀ W, Below w.heap.size w W → Calls Tryz.prog 65 #[chV t fl A1 n1 c1 A2 n2 c2, kdV k] W fun e w' => e = .returned .nilIface ∧ Below W.heap.size W w'))
    (H2 : Aside0 (∀ W, Below w.heap.size w W → Calls Tryz.prog 66 #[chV t fl A1 n1 c1 A2 n2 c2, kdV k] W fun e w' => e = .returned .nilIface ∧ Below W.heap.size W w'))
    (H3 : Aside0 (∀ W, Below w.heap.size w W → Calls Tryz.prog 67 #[chV t fl A1 n1 c1 A2 n2 c2, kdV k] W fun e w' => e = .returned .nilIface ∧ Below W.heap.size W w'))
    (H4 : Aside0 (∀ W, Below w.heap.size w W → Calls Tryz.prog 68 #[chV t fl A1 n1 c1 A2 n2 c2, kdV k] W fun e w' => FltC c e ∧ Below W.heap.size W w')) :
    Calls Tryz.prog 63 #[chV t fl A1 n1 c1 A2 n2 c2, kdV k, .slice (some ⟨g, 0, none⟩) 5 5] w fun e w' => FltC c e ∧ Below w.heap.size w w' := by
  have hgw : g < w.heap.size := by
    rcases Nat.lt_or_ge g w.heap.size with h | h
    · exact h
    · rw [Array.getElem?_eq_none h] at hG; cases hG
  have BG := Aside0.mk (blk_alloc (blk_alloc hG (.cells #[.int .u8 t, .int .u8 fl, .slice A1 n1 c1, .slice A2 n2 c2] 37)) (.cells #[.int .u8 k.f0, .string k.f1, .int .u8 k.f2, .int .i64 k.f3, .int .i64 k.f4, .int .i64 k.f5, .int .i64 k.f6] 94))
  have BC := Aside0.mk (blk_alloc (heap_alloc_new w (.cells #[.int .u8 t, .int .u8 fl, .slice A1 n1 c1, .slice A2 n2 c2] 37)) (.cells #[.int .u8 k.f0, .string k.f1, .int .u8 k.f2, .int .i64 k.f3, .int .i64 k.f4, .int .i64 k.f5, .int .i64 k.f6] 94))
  have BKd := heap_alloc_new (w.alloc (.cells #[.int .u8 t, .int .u8 fl, .slice A1 n1 c1, .slice A2 n2 c2] 37)) (.cells #[.int .u8 k.f0, .string k.f1, .int .u8 k.f2, .int .i64 k.f3, .int .i64 k.f4, .int .i64 k.f5, .int .i64 k.f6] 94)
  rw [show (w.alloc (.cells #[.int .u8 t, .int .u8 fl, .slice A1 n1 c1, .slice A2 n2 c2] 37)).heap.size = w.heap.size + 1 from by simp] at BKd
  replace BKd := Aside0.mk BKd
  have HB := Aside0.mk (((Below.refl _ w).alloc (Nat.le_refl _) (.cells #[.int .u8 t, .int .u8 fl, .slice A1 n1 c1, .slice A2 n2 c2] 37)).alloc (by simp) (.cells #[.int .u8 k.f0, .string k.f1, .int .u8 k.f2, .int .i64 k.f3, .int .i64 k.f4, .int .i64 k.f5, .int .i64 k.f6] 94))
  have qc0 := (blk_cell BC.out 0).trans (show _ = some (Value.int .u8 t) from rfl)
  have qc1 := (blk_cell BC.out 1).trans (show _ = some (Value.int .u8 fl) from rfl)
  have qc2 := (blk_cell BC.out 2).trans (show _ = some (Value.slice A1 n1 c1) from rfl)
  have qc3 := (blk_cell BC.out 3).trans (show _ = some (Value.slice A2 n2 c2) from rfl)
  have qk0 := (blk_cell BKd.out 0).trans (show _ = some (Value.int .u8 k.f0) from rfl)
  have qk1 := (blk_cell BKd.out 1).trans (show _ = some (Value.string k.f1) from rfl)
  have qk2 := (blk_cell BKd.out 2).trans (show _ = some (Value.int .u8 k.f2) from rfl)
  have qk3 := (blk_cell BKd.out 3).trans (show _ = some (Value.int .i64 k.f3) from rfl)
  have qk4 := (blk_cell BKd.out 4).trans (show _ = some (Value.int .i64 k.f4) from rfl)
  have qk5 := (blk_cell BKd.out 5).trans (show _ = some (Value.int .i64 k.f5) from rfl)
  have qk6 := (blk_cell BKd.out 6).trans (show _ = some (Value.int .i64 k.f6) from rfl)
  have qg0 := (blk_cell BG.out 0).trans (show _ = some (Value.func (.func 64) #[] #[]) from rfl)
  have qg1 := (blk_cell BG.out 1).trans (show _ = some (Value.func (.func 65) #[] #[]) from rfl)
  have qg2 := (blk_cell BG.out 2).trans (show _ = some (Value.func (.func 66) #[] #[]) from rfl)
  have qg3 := (blk_cell BG.out 3).trans (show _ = some (Value.func (.func 67) #[] #[]) from rfl)
  have qg4 := (blk_cell BG.out 4).trans (show _ = some (Value.func (.func 68) #[] #[]) from rfl)
  clear hG
  go_enter Tryz.func63, Tryz.ntmps63
  go_wp2
  refine wp_loop_rounds 5 ?_
  rw [rounds_succ]
  go_wp2_with fail
  refine (H0.out _ HB.out).mono ?_
  rintro e w0 ⟨rfl, hb⟩
  clear qc0 qc1 qc2 qc3 qk0 qk1 qk2 qk3 qk4 qk5 qk6 qg0 qg1 qg2 qg3 qg4
  replace BG := Aside0.mk (blk_below BG.out hb)
  replace BC := Aside0.mk (blk_below BC.out hb)
  replace BKd := Aside0.mk (blk_below BKd.out hb)
  replace HB := Aside0.mk (HB.out.trans (hb.mono HB.out.size))
  clear hb
  have qc0 := (blk_cell BC.out 0).trans (show _ = some (Value.int .u8 t) from rfl)
  have qc1 := (blk_cell BC.out 1).trans (show _ = some (Value.int .u8 fl) from rfl)
  have qc2 := (blk_cell BC.out 2).trans (show _ = some (Value.slice A1 n1 c1) from rfl)
  have qc3 := (blk_cell BC.out 3).trans (show _ = some (Value.slice A2 n2 c2) from rfl)
  have qk0 := (blk_cell BKd.out 0).trans (show _ = some (Value.int .u8 k.f0) from rfl)
  have qk1 := (blk_cell BKd.out 1).trans (show _ = some (Value.string k.f1) from rfl)
  have qk2 := (blk_cell BKd.out 2).trans (show _ = some (Value.int .u8 k.f2) from rfl)
  have qk3 := (blk_cell BKd.out 3).trans (show _ = some (Value.int .i64 k.f3) from rfl)
  have qk4 := (blk_cell BKd.out 4).trans (show _ = some (Value.int .i64 k.f4) from rfl)
  have qk5 := (blk_cell BKd.out 5).trans (show _ = some (Value.int .i64 k.f5) from rfl)
  have qk6 := (blk_cell BKd.out 6).trans (show _ = some (Value.int .i64 k.f6) from rfl)
  have qg0 := (blk_cell BG.out 0).trans (show _ = some (Value.func (.func 64) #[] #[]) from rfl)
  have qg1 := (blk_cell BG.out 1).trans (show _ = some (Value.func (.func 65) #[] #[]) from rfl)
  have qg2 := (blk_cell BG.out 2).trans (show _ = some (Value.func (.func 66) #[] #[]) from rfl)
  have qg3 := (blk_cell BG.out 3).trans (show _ = some (Value.func (.func 67) #[] #[]) from rfl)
  have qg4 := (blk_cell BG.out 4).trans (show _ = some (Value.func (.func 68) #[] #[]) from rfl)
  go_wp2_with fail
  rw [rounds_succ]
  go_wp2_with fail
  refine (H1.out _ HB.out).mono ?_
  rintro e w1 ⟨rfl, hb⟩
  clear qc0 qc1 qc2 qc3 qk0 qk1 qk2 qk3 qk4 qk5 qk6 qg0 qg1 qg2 qg3 qg4
  replace BG := Aside0.mk (blk_below BG.out hb)
  replace BC := Aside0.mk (blk_below BC.out hb)
  replace BKd := Aside0.mk (blk_below BKd.out hb)
  replace HB := Aside0.mk (HB.out.trans (hb.mono HB.out.size))
  clear hb
  have qc0 := (blk_cell BC.out 0).trans (show _ = some (Value.int .u8 t) from rfl)
  have qc1 := (blk_cell BC.out 1).trans (show _ = some (Value.int .u8 fl) from rfl)
  have qc2 := (blk_cell BC.out 2).trans (show _ = some (Value.slice A1 n1 c1) from rfl)
  have qc3 := (blk_cell BC.out 3).trans (show _ = some (Value.slice A2 n2 c2) from rfl)
  have qk0 := (blk_cell BKd.out 0).trans (show _ = some (Value.int .u8 k.f0) from rfl)
  have qk1 := (blk_cell BKd.out 1).trans (show _ = some (Value.string k.f1) from rfl)
  have qk2 := (blk_cell BKd.out 2).trans (show _ = some (Value.int .u8 k.f2) from rfl)
  have qk3 := (blk_cell BKd.out 3).trans (show _ = some (Value.int .i64 k.f3) from rfl)
  have qk4 := (blk_cell BKd.out 4).trans (show _ = some (Value.int .i64 k.f4) from rfl)
  have qk5 := (blk_cell BKd.out 5).trans (show _ = some (Value.int .i64 k.f5) from rfl)
  have qk6 := (blk_cell BKd.out 6).trans (show _ = some (Value.int .i64 k.f6) from rfl)
  have qg0 := (blk_cell BG.out 0).trans (show _ = some (Value.func (.func 64) #[] #[]) from rfl)
  have qg1 := (blk_cell BG.out 1).trans (show _ = some (Value.func (.func 65) #[] #[]) from rfl)
  have qg2 := (blk_cell BG.out 2).trans (show _ = some (Value.func (.func 66) #[] #[]) from rfl)
  have qg3 := (blk_cell BG.out 3).trans (show _ = some (Value.func (.func 67) #[] #[]) from rfl)
  have qg4 := (blk_cell BG.out 4).trans (show _ = some (Value.func (.func 68) #[] #[]) from rfl)
  go_wp2_with fail
  rw [rounds_succ]
  go_wp2_with fail
  refine (H2.out _ HB.out).mono ?_
  rintro e w2 ⟨rfl, hb⟩
  clear qc0 qc1 qc2 qc3 qk0 qk1 qk2 qk3 qk4 qk5 qk6 qg0 qg1 qg2 qg3 qg4
  replace BG := Aside0.mk (blk_below BG.out hb)
  replace BC := Aside0.mk (blk_below BC.out hb)
  replace BKd := Aside0.mk (blk_below BKd.out hb)
  replace HB := Aside0.mk (HB.out.trans (hb.mono HB.out.size))
  clear hb
  have qc0 := (blk_cell BC.out 0).trans (show _ = some (Value.int .u8 t) from rfl)
  have qc1 := (blk_cell BC.out 1).trans (show _ = some (Value.int .u8 fl) from rfl)
  have qc2 := (blk_cell BC.out 2).trans (show _ = some (Value.slice A1 n1 c1) from rfl)
  have qc3 := (blk_cell BC.out 3).trans (show _ = some (Value.slice A2 n2 c2) from rfl)
  have qk0 := (blk_cell BKd.out 0).trans (show _ = some (Value.int .u8 k.f0) from rfl)
  have qk1 := (blk_cell BKd.out 1).trans (show _ = some (Value.string k.f1) from rfl)
  have qk2 := (blk_cell BKd.out 2).trans (show _ = some (Value.int .u8 k.f2) from rfl)
  have qk3 := (blk_cell BKd.out 3).trans (show _ = some (Value.int .i64 k.f3) from rfl)
  have qk4 := (blk_cell BKd.out 4).trans (show _ = some (Value.int .i64 k.f4) from rfl)
  have qk5 := (blk_cell BKd.out 5).trans (show _ = some (Value.int .i64 k.f5) from rfl)
  have qk6 := (blk_cell BKd.out 6).trans (show _ = some (Value.int .i64 k.f6) from rfl)
  have qg0 := (blk_cell BG.out 0).trans (show _ = some (Value.func (.func 64) #[] #[]) from rfl)
  have qg1 := (blk_cell BG.out 1).trans (show _ = some (Value.func (.func 65) #[] #[]) from rfl)
  have qg2 := (blk_cell BG.out 2).trans (show _ = some (Value.func (.func 66) #[] #[]) from rfl)
  have qg3 := (blk_cell BG.out 3).trans (show _ = some (Value.func (.func 67) #[] #[]) from rfl)
  have qg4 := (blk_cell BG.out 4).trans (show _ = some (Value.func (.func 68) #[] #[]) from rfl)
  go_wp2_with fail
  rw [rounds_succ]
  go_wp2_with fail
  refine (H3.out _ HB.out).mono ?_
  rintro e w3 ⟨rfl, hb⟩
  clear qc0 qc1 qc2 qc3 qk0 qk1 qk2 qk3 qk4 qk5 qk6 qg0 qg1 qg2 qg3 qg4
  replace BG := Aside0.mk (blk_below BG.out hb)
  replace BC := Aside0.mk (blk_below BC.out hb)
  replace BKd := Aside0.mk (blk_below BKd.out hb)
  replace HB := Aside0.mk (HB.out.trans (hb.mono HB.out.size))
  clear hb
  have qc0 := (blk_cell BC.out 0).trans (show _ = some (Value.int .u8 t) from rfl)
  have qc1 := (blk_cell BC.out 1).trans (show _ = some (Value.int .u8 fl) from rfl)
  have qc2 := (blk_cell BC.out 2).trans (show _ = some (Value.slice A1 n1 c1) from rfl)
  have qc3 := (blk_cell BC.out 3).trans (show _ = some (Value.slice A2 n2 c2) from rfl)
  have qk0 := (blk_cell BKd.out 0).trans (show _ = some (Value.int .u8 k.f0) from rfl)
  have qk1 := (blk_cell BKd.out 1).trans (show _ = some (Value.string k.f1) from rfl)
  have qk2 := (blk_cell BKd.out 2).trans (show _ = some (Value.int .u8 k.f2) from rfl)
  have qk3 := (blk_cell BKd.out 3).trans (show _ = some (Value.int .i64 k.f3) from rfl)
  have qk4 := (blk_cell BKd.out 4).trans (show _ = some (Value.int .i64 k.f4) from rfl)
  have qk5 := (blk_cell BKd.out 5).trans (show _ = some (Value.int .i64 k.f5) from rfl)
  have qk6 := (blk_cell BKd.out 6).trans (show _ = some (Value.int .i64 k.f6) from rfl)
  have qg0 := (blk_cell BG.out 0).trans (show _ = some (Value.func (.func 64) #[] #[]) from rfl)
  have qg1 := (blk_cell BG.out 1).trans (show _ = some (Value.func (.func 65) #[] #[]) from rfl)
  have qg2 := (blk_cell BG.out 2).trans (show _ = some (Value.func (.func 66) #[] #[]) from rfl)
  have qg3 := (blk_cell BG.out 3).trans (show _ = some (Value.func (.func 67) #[] #[]) from rfl)
  have qg4 := (blk_cell BG.out 4).trans (show _ = some (Value.func (.func 68) #[] #[]) from rfl)
  go_wp2_with fail
  rw [rounds_succ]
  go_wp2_with fail
  refine (H4.out _ HB.out).mono ?_
  rintro e w4 ⟨⟨a, rfl⟩, hb⟩
  clear qc0 qc1 qc2 qc3 qk0 qk1 qk2 qk3 qk4 qk5 qk6 qg0 qg1 qg2 qg3 qg4
  replace BG := Aside0.mk (blk_below BG.out hb)
  replace BC := Aside0.mk (blk_below BC.out hb)
  replace BKd := Aside0.mk (blk_below BKd.out hb)
  replace HB := Aside0.mk (HB.out.trans (hb.mono HB.out.size))
  clear hb
  go_wp2
  go_ret
  exact ⟨⟨_, rfl⟩, HB.out⟩
set_option maxRecDepth 100000 in
set_option maxHeartbeats 4000000 in
theorem first.at5 (c : Int) (t fl : Int) (A1 : Option Addr) (n1 c1 : Nat) (A2 : Option Addr) (n2 c2 : Nat) (k : S94) (g : Nat) (w : World) (hG : w.heap[g]? = some (.cells #[.func (.func 64) #[] #[], .func (.func 65) #[] #[], .func (.func 66) #[] #[], .func (.func 67) #[] #[], .func (.func 68) #[] #[]] 133 (0, 0)))
    (H0 : Aside0 (∀ W, Below w.heap.size w W → Calls Tryz.prog 64 #[chV t fl A1 n1 c1 A2 n2 c2, kdV k] W fun e w' => e = .returned .nilIface ∧ Below W.heap.size W w'))
    (H1 : Aside0 (∀ W, Below w.heap.size w W → Calls Tryz.prog 65 #[chV t fl A1 n1 c1 A2 n2 c2, kdV k] W fun e w' => e = .returned .nilIface ∧ Below W.heap.size W w'))
    (H2 : Aside0 (∀ W, Below w.heap.size w W → Calls Tryz.prog 66 #[chV t fl A1 n1 c1 A2 n2 c2, kdV k] W fun e w' => e = .returned .nilIface ∧ Below W.heap.size W w'))
    (H3 : Aside0 (∀ W, Below w.heap.size w W → Calls Tryz.prog 67 #[chV t fl A1 n1 c1 A2 n2 c2, kdV k] W fun e w' => e = .returned .nilIface ∧ Below W.heap.size W w'))
    (H4 : Aside0 (∀ W, Below w.heap.size w W → Calls Tryz.prog 68 #[chV t fl A1 n1 c1 A2 n2 c2, kdV k] W fun e w' => e = .returned .nilIface ∧ Below W.heap.size W w')) :
    Calls Tryz.prog 63 #[chV t fl A1 n1 c1 A2 n2 c2, kdV k, .slice (some ⟨g, 0, none⟩) 5 5] w fun e w' => e = .returned .nilIface ∧ Below w.heap.size w w' := by
  have hgw : g < w.heap.size := by
    rcases Nat.lt_or_ge g w.heap.size with h | h
    · exact h
    · rw [Array.getElem?_eq_none h] at hG; cases hG
  have BG := Aside0.mk (blk_alloc (blk_alloc hG (.cells #[.int .u8 t, .int .u8 fl, .slice A1 n1 c1, .slice A2 n2 c2] 37)) (.cells #[.int .u8 k.f0, .string k.f1, .int .u8 k.f2, .int .i64 k.f3, .int .i64 k.f4, .int .i64 k.f5, .int .i64 k.f6] 94))
  have BC := Aside0.mk (blk_alloc (heap_alloc_new w (.cells #[.int .u8 t, .int .u8 fl, .slice A1 n1 c1, .slice A2 n2 c2] 37)) (.cells #[.int .u8 k.f0, .string k.f1, .int .u8 k.f2, .int .i64 k.f3, .int .i64 k.f4, .int .i64 k.f5, .int .i64 k.f6] 94))
  have BKd := heap_alloc_new (w.alloc (.cells #[.int .u8 t, .int .u8 fl, .slice A1 n1 c1, .slice A2 n2 c2] 37)) (.cells #[.int .u8 k.f0, .string k.f1, .int .u8 k.f2, .int .i64 k.f3, .int .i64 k.f4, .int .i64 k.f5, .int .i64 k.f6] 94)
  rw [show (w.alloc (.cells #[.int .u8 t, .int .u8 fl, .slice A1 n1 c1, .slice A2 n2 c2] 37)).heap.size = w.heap.size + 1 from by simp] at BKd
  replace BKd := Aside0.mk BKd
  have HB := Aside0.mk (((Below.refl _ w).alloc (Nat.le_refl _) (.cells #[.int .u8 t, .int .u8 fl, .slice A1 n1 c1, .slice A2 n2 c2] 37)).alloc (by simp) (.cells #[.int .u8 k.f0, .string k.f1, .int .u8 k.f2, .int .i64 k.f3, .int .i64 k.f4, .int .i64 k.f5, .int .i64 k.f6] 94))
  have qc0 := (blk_cell BC.out 0).trans (show _ = some (Value.int .u8 t) from rfl)
  have qc1 := (blk_cell BC.out 1).trans (show _ = some (Value.int .u8 fl) from rfl)
  have qc2 := (blk_cell BC.out 2).trans (show _ = some (Value.slice A1 n1 c1) from rfl)
  have qc3 := (blk_cell BC.out 3).trans (show _ = some (Value.slice A2 n2 c2) from rfl)
  have qk0 := (blk_cell BKd.out 0).trans (show _ = some (Value.int .u8 k.f0) from rfl)
  have qk1 := (blk_cell BKd.out 1).trans (show _ = some (Value.string k.f1) from rfl)
  have qk2 := (blk_cell BKd.out 2).trans (show _ = some (Value.int .u8 k.f2) from rfl)
  have qk3 := (blk_cell BKd.out 3).trans (show _ = some (Value.int .i64 k.f3) from rfl)
  have qk4 := (blk_cell BKd.out 4).trans (show _ = some (Value.int .i64 k.f4) from rfl)
  have qk5 := (blk_cell BKd.out 5).trans (show _ = some (Value.int .i64 k.f5) from rfl)
  have qk6 := (blk_cell BKd.out 6).trans (show _ = some (Value.int .i64 k.f6) from rfl)
  have qg0 := (blk_cell BG.out 0).trans (show _ = some (Value.func (.func 64) #[] #[]) from rfl)
  have qg1 := (blk_cell BG.out 1).trans (show _ = some (Value.func (.func 65) #[] #[]) from rfl)
  have qg2 := (blk_cell BG.out 2).trans (show _ = some (Value.func (.func 66) #[] #[]) from rfl)
  have qg3 := (blk_cell BG.out 3).trans (show _ = some (Value.func (.func 67) #[] #[]) from rfl)
  have qg4 := (blk_cell BG.out 4).trans (show _ = some (Value.func (.func 68) #[] #[]) from rfl)
  clear hG
  go_enter Tryz.func63, Tryz.ntmps63
  go_wp2
  refine wp_loop_rounds 6 ?_
  rw [rounds_succ]
  go_wp2_with fail
  refine (H0.out _ HB.out).mono ?_
  rintro e w0 ⟨rfl, hb⟩
  clear qc0 qc1 qc2 qc3 qk0 qk1 qk2 qk3 qk4 qk5 qk6 qg0 qg1 qg2 qg3 qg4
  replace BG := Aside0.mk (blk_below BG.out hb)
  replace BC := Aside0.mk (blk_below BC.out hb)
  replace BKd := Aside0.mk (blk_below BKd.out hb)
  replace HB := Aside0.mk (HB.out.trans (hb.mono HB.out.size))
  clear hb
  have qc0 := (blk_cell BC.out 0).trans (show _ = some (Value.int .u8 t) from rfl)
  have qc1 := (blk_cell BC.out 1).trans (show _ = some (Value.int .u8 fl) from rfl)
  have qc2 := (blk_cell BC.out 2).trans (show _ = some (Value.slice A1 n1 c1) from rfl)
  have qc3 := (blk_cell BC.out 3).trans (show _ = some (Value.slice A2 n2 c2) from rfl)
  have qk0 := (blk_cell BKd.out 0).trans (show _ = some (Value.int .u8 k.f0) from rfl)
  have qk1 := (blk_cell BKd.out 1).trans (show _ = some (Value.string k.f1) from rfl)
  have qk2 := (blk_cell BKd.out 2).trans (show _ = some (Value.int .u8 k.f2) from rfl)
  have qk3 := (blk_cell BKd.out 3).trans (show _ = some (Value.int .i64 k.f3) from rfl)
  have qk4 := (blk_cell BKd.out 4).trans (show _ = some (Value.int .i64 k.f4) from rfl)
  have qk5 := (blk_cell BKd.out 5).trans (show _ = some (Value.int .i64 k.f5) from rfl)
  have qk6 := (blk_cell BKd.out 6).trans (show _ = some (Value.int .i64 k.f6) from rfl)
  have qg0 := (blk_cell BG.out 0).trans (show _ = some (Value.func (.func 64) #[] #[]) from rfl)
  have qg1 := (blk_cell BG.out 1).trans (show _ = some (Value.func (.func 65) #[] #[]) from rfl)
  have qg2 := (blk_cell BG.out 2).trans (show _ = some (Value.func (.func 66) #[] #[]) from rfl)
  have qg3 := (blk_cell BG.out 3).trans (show _ = some (Value.func (.func 67) #[] #[]) from rfl)
  have qg4 := (blk_cell BG.out 4).trans (show _ = some (Value.func (.func 68) #[] #[]) from rfl)
  go_wp2_with fail
  rw [rounds_succ]
  go_wp2_with fail
  refine (H1.out _ HB.out).mono ?_
  rintro e w1 ⟨rfl, hb⟩
  clear qc0 qc1 qc2 qc3 qk0 qk1 qk2 qk3 qk4 qk5 qk6 qg0 qg1 qg2 qg3 qg4
  replace BG := Aside0.mk (blk_below BG.out hb)
  replace BC := Aside0.mk (blk_below BC.out hb)
  replace BKd := Aside0.mk (blk_below BKd.out hb)
  replace HB := Aside0.mk (HB.out.trans (hb.mono HB.out.size))
  clear hb
  have qc0 := (blk_cell BC.out 0).trans (show _ = some (Value.int .u8 t) from rfl)
  have qc1 := (blk_cell BC.out 1).trans (show _ = some (Value.int .u8 fl) from rfl)
  have qc2 := (blk_cell BC.out 2).trans (show _ = some (Value.slice A1 n1 c1) from rfl)
  have qc3 := (blk_cell BC.out 3).trans (show _ = some (Value.slice A2 n2 c2) from rfl)
  have qk0 := (blk_cell BKd.out 0).trans (show _ = some (Value.int .u8 k.f0) from rfl)
  have qk1 := (blk_cell BKd.out 1).trans (show _ = some (Value.string k.f1) from rfl)
  have qk2 := (blk_cell BKd.out 2).trans (show _ = some (Value.int .u8 k.f2) from rfl)
  have qk3 := (blk_cell BKd.out 3).trans (show _ = some (Value.int .i64 k.f3) from rfl)
  have qk4 := (blk_cell BKd.out 4).trans (show _ = some (Value.int .i64 k.f4) from rfl)
  have qk5 := (blk_cell BKd.out 5).trans (show _ = some (Value.int .i64 k.f5) from rfl)
  have qk6 := (blk_cell BKd.out 6).trans (show _ = some (Value.int .i64 k.f6) from rfl)
  have qg0 := (blk_cell BG.out 0).trans (show _ = some (Value.func (.func 64) #[] #[]) from rfl)
  have qg1 := (blk_cell BG.out 1).trans (show _ = some (Value.func (.func 65) #[] #[]) from rfl)
  have qg2 := (blk_cell BG.out 2).trans (show _ = some (Value.func (.func 66) #[] #[]) from rfl)
  have qg3 := (blk_cell BG.out 3).trans (show _ = some (Value.func (.func 67) #[] #[]) from rfl)
  have qg4 := (blk_cell BG.out 4).trans (show _ = some (Value.func (.func 68) #[] #[]) from rfl)
  go_wp2_with fail
  rw [rounds_succ]
  go_wp2_with fail
  refine (H2.out _ HB.out).mono ?_
  rintro e w2 ⟨rfl, hb⟩
  clear qc0 qc1 qc2 qc3 qk0 qk1 qk2 qk3 qk4 qk5 qk6 qg0 qg1 qg2 qg3 qg4
  replace BG := Aside0.mk (blk_below BG.out hb)
  replace BC := Aside0.mk (blk_below BC.out hb)
  replace BKd := Aside0.mk (blk_below BKd.out hb)
  replace HB := Aside0.mk (HB.out.trans (hb.mono HB.out.size))
  clear hb
  have qc0 := (blk_cell BC.out 0).trans (show _ = some (Value.int .u8 t) from rfl)
  have qc1 := (blk_cell BC.out 1).trans (show _ = some (Value.int .u8 fl) from rfl)
  have qc2 := (blk_cell BC.out 2).trans (show _ = some (Value.slice A1 n1 c1) from rfl)
  have qc3 := (blk_cell BC.out 3).trans (show _ = some (Value.slice A2 n2 c2) from rfl)
  have qk0 := (blk_cell BKd.out 0).trans (show _ = some (Value.int .u8 k.f0) from rfl)
  have qk1 := (blk_cell BKd.out 1).trans (show _ = some (Value.string k.f1) from rfl)
  have qk2 := (blk_cell BKd.out 2).trans (show _ = some (Value.int .u8 k.f2) from rfl)
  have qk3 := (blk_cell BKd.out 3).trans (show _ = some (Value.int .i64 k.f3) from rfl)
  have qk4 := (blk_cell BKd.out 4).trans (show _ = some (Value.int .i64 k.f4) from rfl)
  have qk5 := (blk_cell BKd.out 5).trans (show _ = some (Value.int .i64 k.f5) from rfl)
  have qk6 := (blk_cell BKd.out 6).trans (show _ = some (Value.int .i64 k.f6) from rfl)
  have qg0 := (blk_cell BG.out 0).trans (show _ = some (Value.func (.func 64) #[] #[]) from rfl)
  have qg1 := (blk_cell BG.out 1).trans (show _ = some (Value.func (.func 65) #[] #[]) from rfl)
  have qg2 := (blk_cell BG.out 2).trans (show _ = some (Value.func (.func 66) #[] #[]) from rfl)
  have qg3 := (blk_cell BG.out 3).trans (show _ = some (Value.func (.func 67) #[] #[]) from rfl)
  have qg4 := (blk_cell BG.out 4).trans (show _ = some (Value.func (.func 68) #[] #[]) from rfl)
  go_wp2_with fail
  rw [rounds_succ]
  go_wp2_with fail
  refine (H3.out _ HB.out).mono ?_
  rintro e w3 ⟨rfl, hb⟩
  clear qc0 qc1 qc2 qc3 qk0 qk1 qk2 qk3 qk4 qk5 qk6 qg0 qg1 qg2 qg3 qg4
  replace BG := Aside0.mk (blk_below BG.out hb)
  replace BC := Aside0.mk (blk_below BC.out hb)
  replace BKd := Aside0.mk (blk_below BKd.out hb)
  replace HB := Aside0.mk (HB.out.trans (hb.mono HB.out.size))
  clear hb
  have qc0 := (blk_cell BC.out 0).trans (show _ = some (Value.int .u8 t) from rfl)
  have qc1 := (blk_cell BC.out 1).trans (show _ = some (Value.int .u8 fl) from rfl)
  have qc2 := (blk_cell BC.out 2).trans (show _ = some (Value.slice A1 n1 c1) from rfl)
  have qc3 := (blk_cell BC.out 3).trans (show _ = some (Value.slice A2 n2 c2) from rfl)
  have qk0 := (blk_cell BKd.out 0).trans (show _ = some (Value.int .u8 k.f0) from rfl)
  have qk1 := (blk_cell BKd.out 1).trans (show _ = some (Value.string k.f1) from rfl)
  have qk2 := (blk_cell BKd.out 2).trans (show _ = some (Value.int .u8 k.f2) from rfl)
  have qk3 := (blk_cell BKd.out 3).trans (show _ = some (Value.int .i64 k.f3) from rfl)
  have qk4 := (blk_cell BKd.out 4).trans (show _ = some (Value.int .i64 k.f4) from rfl)
  have qk5 := (blk_cell BKd.out 5).trans (show _ = some (Value.int .i64 k.f5) from rfl)
  have qk6 := (blk_cell BKd.out 6).trans (show _ = some (Value.int .i64 k.f6) from rfl)
  have qg0 := (blk_cell BG.out 0).trans (show _ = some (Value.func (.func 64) #[] #[]) from rfl)
  have qg1 := (blk_cell BG.out 1).trans (show _ = some (Value.func (.func 65) #[] #[]) from rfl)
  have qg2 := (blk_cell BG.out 2).trans (show _ = some (Value.func (.func 66) #[] #[]) from rfl)
  have qg3 := (blk_cell BG.out 3).trans (show _ = some (Value.func (.func 67) #[] #[]) from rfl)
  have qg4 := (blk_cell BG.out 4).trans (show _ = some (Value.func (.func 68) #[] #[]) from rfl)
  go_wp2_with fail
  rw [rounds_succ]
  go_wp2_with fail
  refine (H4.out _ HB.out).mono ?_
  rintro e w4 ⟨rfl, hb⟩
  clear qc0 qc1 qc2 qc3 qk0 qk1 qk2 qk3 qk4 qk5 qk6 qg0 qg1 qg2 qg3 qg4
  replace BG := Aside0.mk (blk_below BG.out hb)
  replace BC := Aside0.mk (blk_below BC.out hb)
  replace BKd := Aside0.mk (blk_below BKd.out hb)
  replace HB := Aside0.mk (HB.out.trans (hb.mono HB.out.size))
  clear hb
  have qc0 := (blk_cell BC.out 0).trans (show _ = some (Value.int .u8 t) from rfl)
  have qc1 := (blk_cell BC.out 1).trans (show _ = some (Value.int .u8 fl) from rfl)
  have qc2 := (blk_cell BC.out 2).trans (show _ = some (Value.slice A1 n1 c1) from rfl)
  have qc3 := (blk_cell BC.out 3).trans (show _ = some (Value.slice A2 n2 c2) from rfl)
  have qk0 := (blk_cell BKd.out 0).trans (show _ = some (Value.int .u8 k.f0) from rfl)
  have qk1 := (blk_cell BKd.out 1).trans (show _ = some (Value.string k.f1) from rfl)
  have qk2 := (blk_cell BKd.out 2).trans (show _ = some (Value.int .u8 k.f2) from rfl)
  have qk3 := (blk_cell BKd.out 3).trans (show _ = some (Value.int .i64 k.f3) from rfl)
  have qk4 := (blk_cell BKd.out 4).trans (show _ = some (Value.int .i64 k.f4) from rfl)
  have qk5 := (blk_cell BKd.out 5).trans (show _ = some (Value.int .i64 k.f5) from rfl)
  have qk6 := (blk_cell BKd.out 6).trans (show _ = some (Value.int .i64 k.f6) from rfl)
  have qg0 := (blk_cell BG.out 0).trans (show _ = some (Value.func (.func 64) #[] #[]) from rfl)
  have qg1 := (blk_cell BG.out 1).trans (show _ = some (Value.func (.func 65) #[] #[]) from rfl)
  have qg2 := (blk_cell BG.out 2).trans (show _ = some (Value.func (.func 66) #[] #[]) from rfl)
  have qg3 := (blk_cell BG.out 3).trans (show _ = some (Value.func (.func 67) #[] #[]) from rfl)
  have qg4 := (blk_cell BG.out 4).trans (show _ = some (Value.func (.func 68) #[] #[]) from rfl)
  go_wp2_with fail
  rw [rounds_succ]
  go_wp2_with fail
  go_ret
  exact ⟨rfl, HB.out⟩
end Go.Proofs.YtpgfhbdnlojdfaaGreatDoor.P
