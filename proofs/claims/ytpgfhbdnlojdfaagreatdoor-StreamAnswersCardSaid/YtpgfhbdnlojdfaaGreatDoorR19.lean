/- Packed by wip/tools/pack.py out of MCounted. -/
import Derived.Laws.Closers25b
import Derived.Test.YtpgfhbdnlojdfaaGreatDoorR18
namespace Go.Proofs.YtpgfhbdnlojdfaaGreatDoor.P
open Go.RowKit Go.Shelf Go.Proofs.YtpgfhbdnlojdfaaGreatDoorW.PrintWords Go.Proofs.YtpgfhbdnlojdfaaGreatDoorW.PrintLast Go.Proofs.YtpgfhbdnlojdfaaGreatDoorW.PrintMore Go.Proofs.YtpgfhbdnlojdfaaGreatDoor.Seq
set_option linter.unusedVariables false
set_option linter.unusedSimpArgs false
theorem nstep_bd (x c : Int) : 0 ≤ nstep x c ∧ nstep x c < 4294967296 := by
  unfold nstep
  have h1 := bits_lo_u32 .or ((x * 256) % 4294967296) (c % 4294967296)
  have h2 := bits_hi_u32 .or ((x * 256) % 4294967296) (c % 4294967296)
  omega
theorem numB_bd (l : List Int) : 0 ≤ numB l ∧ numB l < 4294967296 := by
  rcases List.eq_nil_or_concat l with rfl | ⟨m, x, rfl⟩
  · simp [numB]
  · rw [List.concat_eq_append, numB_snoc]; exact nstep_bd _ _
def node_counted.f (a0 a1 : Int) (l2 : List Int) : Option Bool :=
  if l2.length ≤ 17592186044416 then some (a0 == 2 && (a1 == 2 && (decide (l2.length < 4) || numB (l2.take 4) != ((l2.length - 4) / 2 : Nat)))) else none
set_option maxHeartbeats 4000000 in
theorem node_counted.calls (a0 a1 : Int) (A2 : Option Addr) (c2 : Nat) (l2 : List Int) (r : Bool) (w : World) (hr2 : Kd.C (Kd.int .u8) w A2 l2.length l2) (hc2 : l2.length ≤ c2) (h : node_counted.f a0 a1 l2 = some r) :
    Calls Tryz.prog 101 #[.int .i64 a0, .int .u16 a1, .slice A2 l2.length c2] w fun e w' => e = .returned (.bool r) ∧ Below w.heap.size w w' := by
  unfold node_counted.f at h
  by_cases hl : l2.length ≤ 17592186044416
  · rw [if_pos hl] at h
    obtain rfl := Option.some.inj h
    clear h
    have HN := Aside0.mk (New.any A2 c2 l2 w hr2 hc2 hl)
    have hl2 : (l2.length : Int) ≤ 17592186044416 := by omega
    clear hr2 hc2 hl
    by_cases hs : l2.length < 4
    · have HSH := Aside0.mk (fun g A c W (h : Cur W g A c l2 0) => Number.short 4 (by omega) g A c l2 0 W h (by omega))
      have E : (a0 == 2 && (a1 == 2 && (decide (l2.length < 4) || numB (l2.take 4) != ((l2.length - 4) / 2 : Nat)))) = (a0 == 2 && a1 == 2) := by simp [hs]
      rw [E]
      clear E hs
      cases e0 : (a0 == 2) <;> cases e1 : (a1 == 2)
      all_goals
        go_enter Tryz.func101, Tryz.ntmps101
        go_wp2_with (first | (go_at_call 31; refine HN.out.mono ?_; rintro e w1 ⟨g, A, c, rfl, hg, hcur, hb⟩; have HB := Aside0.mk hb; have HC := Aside0.mk hcur; clear hb hcur) | (go_at_call 32; refine (HSH.out _ _ _ _ HC.out).mono ?_; rintro e w2 ⟨rfl, hb⟩; have HB2 := Aside0.mk hb; clear hb))
        go_ret
        exact ⟨by simp, HB.out.trans (HB2.out.mono HB.out.size)⟩
    · have hs4 : 4 ≤ l2.length := by omega
      have HFU := Aside0.mk (fun g A c W (h : Cur W g A c l2 0) (hg : w.heap.size ≤ g) (hW : w.heap.size ≤ W.heap.size) => Number.full 4 (by omega) g A c l2 0 W h (by omega) w.heap.size hg hW)
      obtain ⟨v, hv⟩ : ∃ v, v = numB (l2.take 4) := ⟨_, rfl⟩
      have hv1 : 0 ≤ v := by rw [hv]; exact (numB_bd _).1
      have hv2 : v < 4294967296 := by rw [hv]; exact (numB_bd _).2
      have E : (a0 == 2 && (a1 == 2 && (decide (l2.length < 4) || numB (l2.take 4) != ((l2.length - 4) / 2 : Nat)))) = (a0 == 2 && (a1 == 2 && v != ((l2.length - 4) / 2 : Nat))) := by simp [hs, hv]
      rw [E]
      rw [List.drop_zero, ← hv] at HFU
      obtain ⟨d, hd⟩ : ∃ d : Int, d = ((l2.length - 4) / 2 : Nat) := ⟨_, rfl⟩
      have hq : (((l2.length : Int) - 4).tdiv 2) = d := by rw [Int.tdiv_eq_ediv_of_nonneg (by omega)]; omega
      have hd1 : 0 ≤ d := by omega
      have hd2 : d ≤ 17592186044416 := by omega
      rw [← hd]
      have hl4 : (4 : Int) ≤ (l2.length : Int) := by omega
      clear E hs hs4 hv hd
      cases e0 : (a0 == 2) <;> cases e1 : (a1 == 2) <;> cases e2 : (v != d)
      all_goals
        go_enter Tryz.func101, Tryz.ntmps101
        go_wp2_with (first | (go_at_call 31; refine HN.out.mono ?_; rintro e w1 ⟨g, A, c, rfl, hg, hcur, hb⟩; have HB := Aside0.mk hb; have HC := Aside0.mk hcur; have HG := Aside0.mk hg; clear hb hcur hg) | (go_at_call 32; refine (HFU.out _ _ _ _ HC.out HG.out HB.out.size).mono ?_; rintro e w2 ⟨rfl, hc, hb⟩; have HB2 := Aside0.mk hb; clear hb hc))
        go_ret
        exact ⟨by simp, HB.out.trans HB2.out⟩
  · rw [if_neg hl] at h; cases h
end Go.Proofs.YtpgfhbdnlojdfaaGreatDoor.P
