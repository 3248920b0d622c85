/- Packed by wip/tools/pack.py out of MLawAnswers. -/
import Derived.Deep.RegionHeld3
import Derived.Test.YtpgfhbdnlojdfaaGreatDoorR29
import Derived.Test.YtpgfhbdnlojdfaaGreatDoorR48
import Derived.Test.YtpgfhbdnlojdfaaGreatDoorR49
import Derived.Test.YtpgfhbdnlojdfaaGreatDoorR47
import Derived.Test.YtpgfhbdnlojdfaaGreatDoorR31
import Derived.Test.YtpgfhbdnlojdfaaGreatDoorR33
namespace Go.Proofs.YtpgfhbdnlojdfaaGreatDoor.P
open Go.RowKit Go.Proofs.YtpgfhbdnlojdfaaGreatDoorW.PrintWords Go.Proofs.YtpgfhbdnlojdfaaGreatDoorW.PrintLast Go.Proofs.YtpgfhbdnlojdfaaGreatDoorW.PrintMore
set_option linter.unusedVariables false
set_option linter.unusedSimpArgs false
def fewB (n : S26) : Bool := decide (cnt 21 [n] ≤ 200)
theorem few_one (n : S26) (s : smN n = true) : Ev (fun k => wharfref08_Few.f k [n]) (fewB n) := few_ev [n] (by rw [smL, s, smL]; rfl)
theorem fewB_tame (n : S26) (o : okN n = true) (s : smN n = true) (h : fewB n = true) : tameN n = true := few_tame n o s (by simpa [fewB] using h)
theorem fewAt (n : S26) (s : smN n = true) (b : Bool) (hb : fewB n = b) (A1 A2 : Option Addr) (c1 c2 : Nat) (w : World) (l1 : n.f1.length ≤ c1) (g1 : (Kd.int .u8).C w A1 n.f1.length n.f1) (l2 : n.f2.length ≤ c2) (g2 : Kd.C k26 w A2 n.f2.length n.f2)
    (W : World) (hW : Below w.heap.size w W) :
    Calls Tryz.prog 9 #[.slice (some ⟨W.heap.size, 0, none⟩) 1 1] (W.alloc (.cells #[.int .u16 n.f0, .slice A1 n.f1.length c1, .slice A2 n.f2.length c2] 26)) fun e w' => e = .returned (.bool b) ∧ Below W.heap.size W w' := by
  obtain ⟨k, hk⟩ := (few_one n s).rounds
  rw [hb] at hk
  have hB : Below w.heap.size w (W.alloc (.cells #[.int .u16 n.f0, .slice A1 n.f1.length c1, .slice A2 n.f2.length c2] 26)) := hW.alloc hW.size _
  refine (wharfref08_Few.calls k (some ⟨W.heap.size, 0, none⟩) 1 [n] b _ (blk_one (n := n) (heap_alloc_new W _) l1 (Kd.C_below g1 hB) l2 (Kd.C_below g2 hB)) (Nat.le_refl _) hk).mono ?_
  rintro e w' ⟨rfl, h⟩
  exact ⟨rfl, ((Below.refl _ W).alloc (Nat.le_refl _) _).trans (h.mono (by simp))⟩
def ansB (q a : S26) : Bool := (seqB q).2 && ((seqB a).2 && (q.f0 != 16 && (a.f0 == 16 && (seqB q).1 == (seqB a).1)))
theorem answers_f (q a : S26) (tq : tameN q = true) (ta : tameN a = true) : stream_Answers.f q.f0 q.f1 q.f2 a.f0 a.f1 a.f2 = some (ansB q a) := by
  unfold stream_Answers.f
  rw [seq_f q tq, seq_f a ta, Option.bind_some, Option.bind_some]
  unfold ansB
  generalize seqB q = x
  generalize seqB a = y
  obtain ⟨x, ok⟩ := x
  obtain ⟨y, is⟩ := y
  cases ok with
  | false => rfl
  | true =>
    cases is with
    | false => rfl
    | true =>
      by_cases h1 : q.f0 = 16
      · simp [h1]
      · by_cases h2 : a.f0 = 16
        · simp [h1, h2]
        · simp [h1, h2]
set_option maxRecDepth 100000 in
set_option maxHeartbeats 2000000 in
theorem lawAnswers.farQ (q a : S26) (A1 A2 B1 B2 : Option Addr) (c1 c2 d1 d2 : Nat) (w : World) (hL : Laid w)
    (q1 : q.f1.length ≤ c1) (q2 : (Kd.int .u8).C w A1 q.f1.length q.f1) (q3 : q.f2.length ≤ c2) (q4 : Kd.C k26 w A2 q.f2.length q.f2) (qo : okN q = true) (qs : smN q = true)
    (a1 : a.f1.length ≤ d1) (a2 : (Kd.int .u8).C w B1 a.f1.length a.f1) (a3 : a.f2.length ≤ d2) (a4 : Kd.C k26 w B2 a.f2.length a.f2) (ao : okN a = true) (asm : smN a = true) (fq : fewB q = false) :
    Calls Tryz.prog 5 #[.agg #[.int .u16 q.f0, .slice A1 q.f1.length c1, .slice A2 q.f2.length c2], .agg #[.int .u16 a.f0, .slice B1 a.f1.length d1, .slice B2 a.f2.length d2]] w fun e w' => e = .returned (.bool true) ∧ Below w.heap.size w w' := by
  have HA := Aside0.mk (fun W (hb : Below w.heap.size w W) => wharflaw17_awake.calls true W (hL.below hb) rfl)
  have KQ := Aside0.mk (blk_alloc (heap_alloc_new w (.cells #[.int .u16 q.f0, .slice A1 q.f1.length c1, .slice A2 q.f2.length c2] 26)) (.cells #[.int .u16 a.f0, .slice B1 a.f1.length d1, .slice B2 a.f2.length d2] 26))
  have hka := heap_alloc_new (w.alloc (.cells #[.int .u16 q.f0, .slice A1 q.f1.length c1, .slice A2 q.f2.length c2] 26)) (.cells #[.int .u16 a.f0, .slice B1 a.f1.length d1, .slice B2 a.f2.length d2] 26)
  rw [show (w.alloc (.cells #[.int .u16 q.f0, .slice A1 q.f1.length c1, .slice A2 q.f2.length c2] 26)).heap.size = w.heap.size + 1 from by simp] at hka
  have KA := Aside0.mk hka
  have HB := Aside0.mk (((Below.refl _ w).alloc (Nat.le_refl _) (.cells #[.int .u16 q.f0, .slice A1 q.f1.length c1, .slice A2 q.f2.length c2] 26)).alloc (show w.heap.size ≤ (w.alloc (.cells #[.int .u16 q.f0, .slice A1 q.f1.length c1, .slice A2 q.f2.length c2] 26)).heap.size from by simp) (.cells #[.int .u16 a.f0, .slice B1 a.f1.length d1, .slice B2 a.f2.length d2] 26))
  have HFQ := Aside0.mk (fun W (hb : Below w.heap.size w W) => fewAt q qs false fq A1 A2 c1 c2 w q1 q2 q3 q4 W hb)
  clear hL q1 q2 q3 q4 a1 a2 a3 a4 qo qs ao asm fq hka
  go_enter Tryz.func5, Tryz.ntmps5
  go_wp2_with fail
  refine (HA.out _ HB.out).mono ?_
  rintro e w1 ⟨rfl, hb⟩
  replace KQ := Aside0.mk (blk_below KQ.out hb)
  replace KA := Aside0.mk (blk_below KA.out hb)
  replace HB := Aside0.mk (HB.out.trans (hb.mono HB.out.size))
  clear hb
  have kq0 := (blk_cell KQ.out 0).trans (show _ = some (Value.int .u16 q.f0) from rfl); have kq1 := (blk_cell KQ.out 1).trans (show _ = some (Value.slice A1 q.f1.length c1) from rfl); have kq2 := (blk_cell KQ.out 2).trans (show _ = some (Value.slice A2 q.f2.length c2) from rfl); have ka0 := (blk_cell KA.out 0).trans (show _ = some (Value.int .u16 a.f0) from rfl); have ka1 := (blk_cell KA.out 1).trans (show _ = some (Value.slice B1 a.f1.length d1) from rfl); have ka2 := (blk_cell KA.out 2).trans (show _ = some (Value.slice B2 a.f2.length d2) from rfl)
  go_wp2_with fail
  refine (HFQ.out w1 HB.out).mono ?_
  rintro e w2 ⟨rfl, hb⟩
  replace KQ := Aside0.mk (blk_below KQ.out hb)
  replace KA := Aside0.mk (blk_below KA.out hb)
  replace HB := Aside0.mk (HB.out.trans (hb.mono HB.out.size))
  clear hb
  have kq0 := (blk_cell KQ.out 0).trans (show _ = some (Value.int .u16 q.f0) from rfl); have kq1 := (blk_cell KQ.out 1).trans (show _ = some (Value.slice A1 q.f1.length c1) from rfl); have kq2 := (blk_cell KQ.out 2).trans (show _ = some (Value.slice A2 q.f2.length c2) from rfl); have ka0 := (blk_cell KA.out 0).trans (show _ = some (Value.int .u16 a.f0) from rfl); have ka1 := (blk_cell KA.out 1).trans (show _ = some (Value.slice B1 a.f1.length d1) from rfl); have ka2 := (blk_cell KA.out 2).trans (show _ = some (Value.slice B2 a.f2.length d2) from rfl)
  go_wp2_with fail
  refine (HA.out _ HB.out).mono ?_
  rintro e w9 ⟨rfl, hb⟩
  replace HB := Aside0.mk (HB.out.trans (hb.mono HB.out.size))
  clear hb
  go_wp2
  go_ret
  exact ⟨rfl, HB.out⟩
set_option maxRecDepth 100000 in
set_option maxHeartbeats 2000000 in
theorem lawAnswers.farA (q a : S26) (A1 A2 B1 B2 : Option Addr) (c1 c2 d1 d2 : Nat) (w : World) (hL : Laid w)
    (q1 : q.f1.length ≤ c1) (q2 : (Kd.int .u8).C w A1 q.f1.length q.f1) (q3 : q.f2.length ≤ c2) (q4 : Kd.C k26 w A2 q.f2.length q.f2) (qo : okN q = true) (qs : smN q = true)
    (a1 : a.f1.length ≤ d1) (a2 : (Kd.int .u8).C w B1 a.f1.length a.f1) (a3 : a.f2.length ≤ d2) (a4 : Kd.C k26 w B2 a.f2.length a.f2) (ao : okN a = true) (asm : smN a = true) (fq : fewB q = true) (fa : fewB a = false) :
    Calls Tryz.prog 5 #[.agg #[.int .u16 q.f0, .slice A1 q.f1.length c1, .slice A2 q.f2.length c2], .agg #[.int .u16 a.f0, .slice B1 a.f1.length d1, .slice B2 a.f2.length d2]] w fun e w' => e = .returned (.bool true) ∧ Below w.heap.size w w' := by
  have HA := Aside0.mk (fun W (hb : Below w.heap.size w W) => wharflaw17_awake.calls true W (hL.below hb) rfl)
  have KQ := Aside0.mk (blk_alloc (heap_alloc_new w (.cells #[.int .u16 q.f0, .slice A1 q.f1.length c1, .slice A2 q.f2.length c2] 26)) (.cells #[.int .u16 a.f0, .slice B1 a.f1.length d1, .slice B2 a.f2.length d2] 26))
  have hka := heap_alloc_new (w.alloc (.cells #[.int .u16 q.f0, .slice A1 q.f1.length c1, .slice A2 q.f2.length c2] 26)) (.cells #[.int .u16 a.f0, .slice B1 a.f1.length d1, .slice B2 a.f2.length d2] 26)
  rw [show (w.alloc (.cells #[.int .u16 q.f0, .slice A1 q.f1.length c1, .slice A2 q.f2.length c2] 26)).heap.size = w.heap.size + 1 from by simp] at hka
  have KA := Aside0.mk hka
  have HB := Aside0.mk (((Below.refl _ w).alloc (Nat.le_refl _) (.cells #[.int .u16 q.f0, .slice A1 q.f1.length c1, .slice A2 q.f2.length c2] 26)).alloc (show w.heap.size ≤ (w.alloc (.cells #[.int .u16 q.f0, .slice A1 q.f1.length c1, .slice A2 q.f2.length c2] 26)).heap.size from by simp) (.cells #[.int .u16 a.f0, .slice B1 a.f1.length d1, .slice B2 a.f2.length d2] 26))
  have HFQ := Aside0.mk (fun W (hb : Below w.heap.size w W) => fewAt q qs true fq A1 A2 c1 c2 w q1 q2 q3 q4 W hb)
  have HFA := Aside0.mk (fun W (hb : Below w.heap.size w W) => fewAt a asm false fa B1 B2 d1 d2 w a1 a2 a3 a4 W hb)
  clear hL q1 q2 q3 q4 a1 a2 a3 a4 qo qs ao asm fq fa hka
  go_enter Tryz.func5, Tryz.ntmps5
  go_wp2_with fail
  refine (HA.out _ HB.out).mono ?_
  rintro e w1 ⟨rfl, hb⟩
  replace KQ := Aside0.mk (blk_below KQ.out hb)
  replace KA := Aside0.mk (blk_below KA.out hb)
  replace HB := Aside0.mk (HB.out.trans (hb.mono HB.out.size))
  clear hb
  have kq0 := (blk_cell KQ.out 0).trans (show _ = some (Value.int .u16 q.f0) from rfl); have kq1 := (blk_cell KQ.out 1).trans (show _ = some (Value.slice A1 q.f1.length c1) from rfl); have kq2 := (blk_cell KQ.out 2).trans (show _ = some (Value.slice A2 q.f2.length c2) from rfl); have ka0 := (blk_cell KA.out 0).trans (show _ = some (Value.int .u16 a.f0) from rfl); have ka1 := (blk_cell KA.out 1).trans (show _ = some (Value.slice B1 a.f1.length d1) from rfl); have ka2 := (blk_cell KA.out 2).trans (show _ = some (Value.slice B2 a.f2.length d2) from rfl)
  go_wp2_with fail
  refine (HFQ.out w1 HB.out).mono ?_
  rintro e w2 ⟨rfl, hb⟩
  replace KQ := Aside0.mk (blk_below KQ.out hb)
  replace KA := Aside0.mk (blk_below KA.out hb)
  replace HB := Aside0.mk (HB.out.trans (hb.mono HB.out.size))
  clear hb
  have kq0 := (blk_cell KQ.out 0).trans (show _ = some (Value.int .u16 q.f0) from rfl); have kq1 := (blk_cell KQ.out 1).trans (show _ = some (Value.slice A1 q.f1.length c1) from rfl); have kq2 := (blk_cell KQ.out 2).trans (show _ = some (Value.slice A2 q.f2.length c2) from rfl); have ka0 := (blk_cell KA.out 0).trans (show _ = some (Value.int .u16 a.f0) from rfl); have ka1 := (blk_cell KA.out 1).trans (show _ = some (Value.slice B1 a.f1.length d1) from rfl); have ka2 := (blk_cell KA.out 2).trans (show _ = some (Value.slice B2 a.f2.length d2) from rfl)
  go_wp2_with fail
  refine (HFA.out w2 HB.out).mono ?_
  rintro e w3 ⟨rfl, hb⟩
  replace KQ := Aside0.mk (blk_below KQ.out hb)
  replace KA := Aside0.mk (blk_below KA.out hb)
  replace HB := Aside0.mk (HB.out.trans (hb.mono HB.out.size))
  clear hb
  have kq0 := (blk_cell KQ.out 0).trans (show _ = some (Value.int .u16 q.f0) from rfl); have kq1 := (blk_cell KQ.out 1).trans (show _ = some (Value.slice A1 q.f1.length c1) from rfl); have kq2 := (blk_cell KQ.out 2).trans (show _ = some (Value.slice A2 q.f2.length c2) from rfl); have ka0 := (blk_cell KA.out 0).trans (show _ = some (Value.int .u16 a.f0) from rfl); have ka1 := (blk_cell KA.out 1).trans (show _ = some (Value.slice B1 a.f1.length d1) from rfl); have ka2 := (blk_cell KA.out 2).trans (show _ = some (Value.slice B2 a.f2.length d2) from rfl)
  go_wp2_with fail
  refine (HA.out _ HB.out).mono ?_
  rintro e w9 ⟨rfl, hb⟩
  replace HB := Aside0.mk (HB.out.trans (hb.mono HB.out.size))
  clear hb
  go_wp2
  go_ret
  exact ⟨rfl, HB.out⟩
set_option maxRecDepth 100000 in
set_option maxHeartbeats 2000000 in
theorem lawAnswers.near (q a : S26) (A1 A2 B1 B2 : Option Addr) (c1 c2 d1 d2 : Nat) (w : World) (hL : Laid w)
    (q1 : q.f1.length ≤ c1) (q2 : (Kd.int .u8).C w A1 q.f1.length q.f1) (q3 : q.f2.length ≤ c2) (q4 : Kd.C k26 w A2 q.f2.length q.f2) (qo : okN q = true) (qs : smN q = true)
    (a1 : a.f1.length ≤ d1) (a2 : (Kd.int .u8).C w B1 a.f1.length a.f1) (a3 : a.f2.length ≤ d2) (a4 : Kd.C k26 w B2 a.f2.length a.f2) (ao : okN a = true) (asm : smN a = true) (fq : fewB q = true) (fa : fewB a = true) :
    Calls Tryz.prog 5 #[.agg #[.int .u16 q.f0, .slice A1 q.f1.length c1, .slice A2 q.f2.length c2], .agg #[.int .u16 a.f0, .slice B1 a.f1.length d1, .slice B2 a.f2.length d2]] w fun e w' => e = .returned (.bool true) ∧ Below w.heap.size w w' := by
  have HA := Aside0.mk (fun W (hb : Below w.heap.size w W) => wharflaw17_awake.calls true W (hL.below hb) rfl)
  have KQ := Aside0.mk (blk_alloc (heap_alloc_new w (.cells #[.int .u16 q.f0, .slice A1 q.f1.length c1, .slice A2 q.f2.length c2] 26)) (.cells #[.int .u16 a.f0, .slice B1 a.f1.length d1, .slice B2 a.f2.length d2] 26))
  have hka := heap_alloc_new (w.alloc (.cells #[.int .u16 q.f0, .slice A1 q.f1.length c1, .slice A2 q.f2.length c2] 26)) (.cells #[.int .u16 a.f0, .slice B1 a.f1.length d1, .slice B2 a.f2.length d2] 26)
  rw [show (w.alloc (.cells #[.int .u16 q.f0, .slice A1 q.f1.length c1, .slice A2 q.f2.length c2] 26)).heap.size = w.heap.size + 1 from by simp] at hka
  have KA := Aside0.mk hka
  have HB := Aside0.mk (((Below.refl _ w).alloc (Nat.le_refl _) (.cells #[.int .u16 q.f0, .slice A1 q.f1.length c1, .slice A2 q.f2.length c2] 26)).alloc (show w.heap.size ≤ (w.alloc (.cells #[.int .u16 q.f0, .slice A1 q.f1.length c1, .slice A2 q.f2.length c2] 26)).heap.size from by simp) (.cells #[.int .u16 a.f0, .slice B1 a.f1.length d1, .slice B2 a.f2.length d2] 26))
  have HFQ := Aside0.mk (fun W (hb : Below w.heap.size w W) => fewAt q qs true fq A1 A2 c1 c2 w q1 q2 q3 q4 W hb)
  have HFA := Aside0.mk (fun W (hb : Below w.heap.size w W) => fewAt a asm true fa B1 B2 d1 d2 w a1 a2 a3 a4 W hb)
  have tq := fewB_tame q qo qs fq
  have ta := fewB_tame a ao asm fa
  obtain ⟨kq, hkq⟩ := (refSeq_ev q tq).rounds
  obtain ⟨ka, hka'⟩ := (refSeq_ev a ta).rounds
  have hAN := answers_f q a tq ta
  obtain ⟨⟨x, ok⟩, hx⟩ : ∃ p, seqB q = p := ⟨_, rfl⟩
  obtain ⟨⟨y, is⟩, hy⟩ : ∃ p, seqB a = p := ⟨_, rfl⟩
  unfold ansB at hAN
  rw [hx] at hkq hAN
  rw [hy] at hka' hAN
  have HSQ := Aside0.mk (fun W (hb : Below w.heap.size w W) => wharfref17_Seq.calls kq q.f0 A1 c1 q.f1 A2 c2 q.f2 x ok W (Kd.C_below q2 hb) q1 (Kd.C_below q4 hb) q3 hkq)
  have HSA := Aside0.mk (fun W (hb : Below w.heap.size w W) => wharfref17_Seq.calls ka a.f0 B1 d1 a.f1 B2 d2 a.f2 y is W (Kd.C_below a2 hb) a1 (Kd.C_below a4 hb) a3 hka')
  have HAN := Aside0.mk (fun W (hb : Below w.heap.size w W) => stream_Answers.calls q.f0 A1 c1 q.f1 A2 c2 q.f2 a.f0 B1 d1 a.f1 B2 d2 a.f2 _ W (Kd.C_below q2 hb) q1 (Kd.C_below q4 hb) q3 (Kd.C_below a2 hb) a1 (Kd.C_below a4 hb) a3 hAN)
  clear hL q1 q2 q3 q4 a1 a2 a3 a4 qo qs ao asm fq fa hka tq ta hkq hka' hAN hx hy
  have hc : (ok = false) ∨ (ok = true ∧ is = false) ∨ (ok = true ∧ is = true ∧ (x == y) = false) ∨ (ok = true ∧ is = true ∧ (x == y) = true ∧ (q.f0 != 16) = false) ∨ (ok = true ∧ is = true ∧ (x == y) = true ∧ (q.f0 != 16) = true ∧ (a.f0 == 16) = false) ∨ (ok = true ∧ is = true ∧ (x == y) = true ∧ (q.f0 != 16) = true ∧ (a.f0 == 16) = true) := by
    cases ok <;> cases is <;> cases (x == y) <;> cases (q.f0 != 16) <;> cases (a.f0 == 16) <;> simp
  have hr : (ok && (is && (q.f0 != 16 && (a.f0 == 16 && x == y)))) = (ok && (is && ((x == y) && ((q.f0 != 16) && (a.f0 == 16))))) := by
    cases ok <;> cases is <;> cases (x == y) <;> cases (q.f0 != 16) <;> cases (a.f0 == 16) <;> rfl
  rw [show (x, ok).2 = ok from rfl, show (y, is).2 = is from rfl, show (x, ok).1 = x from rfl, show (y, is).1 = y from rfl, hr] at HAN
  clear hr
  rcases hc with rfl | ⟨rfl, rfl⟩ | ⟨rfl, rfl, e1⟩ | ⟨rfl, rfl, e1, e2⟩ | ⟨rfl, rfl, e1, e2, e3⟩ | ⟨rfl, rfl, e1, e2, e3⟩
  all_goals
    simp only [*, Bool.and_true, Bool.true_and, Bool.false_and, Bool.and_false] at HAN
    go_enter Tryz.func5, Tryz.ntmps5
    go_wp2_with fail
    refine (HA.out _ HB.out).mono ?_
    rintro e w1 ⟨rfl, hb⟩
    replace KQ := Aside0.mk (blk_below KQ.out hb)
    replace KA := Aside0.mk (blk_below KA.out hb)
    replace HB := Aside0.mk (HB.out.trans (hb.mono HB.out.size))
    clear hb
    have kq0 := (blk_cell KQ.out 0).trans (show _ = some (Value.int .u16 q.f0) from rfl); have kq1 := (blk_cell KQ.out 1).trans (show _ = some (Value.slice A1 q.f1.length c1) from rfl); have kq2 := (blk_cell KQ.out 2).trans (show _ = some (Value.slice A2 q.f2.length c2) from rfl); have ka0 := (blk_cell KA.out 0).trans (show _ = some (Value.int .u16 a.f0) from rfl); have ka1 := (blk_cell KA.out 1).trans (show _ = some (Value.slice B1 a.f1.length d1) from rfl); have ka2 := (blk_cell KA.out 2).trans (show _ = some (Value.slice B2 a.f2.length d2) from rfl)
    go_wp2_with fail
    refine (HFQ.out w1 HB.out).mono ?_
    rintro e w2 ⟨rfl, hb⟩
    replace KQ := Aside0.mk (blk_below KQ.out hb)
    replace KA := Aside0.mk (blk_below KA.out hb)
    replace HB := Aside0.mk (HB.out.trans (hb.mono HB.out.size))
    clear hb
    have kq0 := (blk_cell KQ.out 0).trans (show _ = some (Value.int .u16 q.f0) from rfl); have kq1 := (blk_cell KQ.out 1).trans (show _ = some (Value.slice A1 q.f1.length c1) from rfl); have kq2 := (blk_cell KQ.out 2).trans (show _ = some (Value.slice A2 q.f2.length c2) from rfl); have ka0 := (blk_cell KA.out 0).trans (show _ = some (Value.int .u16 a.f0) from rfl); have ka1 := (blk_cell KA.out 1).trans (show _ = some (Value.slice B1 a.f1.length d1) from rfl); have ka2 := (blk_cell KA.out 2).trans (show _ = some (Value.slice B2 a.f2.length d2) from rfl)
    go_wp2_with fail
    refine (HFA.out w2 HB.out).mono ?_
    rintro e w3 ⟨rfl, hb⟩
    replace KQ := Aside0.mk (blk_below KQ.out hb)
    replace KA := Aside0.mk (blk_below KA.out hb)
    replace HB := Aside0.mk (HB.out.trans (hb.mono HB.out.size))
    clear hb
    have kq0 := (blk_cell KQ.out 0).trans (show _ = some (Value.int .u16 q.f0) from rfl); have kq1 := (blk_cell KQ.out 1).trans (show _ = some (Value.slice A1 q.f1.length c1) from rfl); have kq2 := (blk_cell KQ.out 2).trans (show _ = some (Value.slice A2 q.f2.length c2) from rfl); have ka0 := (blk_cell KA.out 0).trans (show _ = some (Value.int .u16 a.f0) from rfl); have ka1 := (blk_cell KA.out 1).trans (show _ = some (Value.slice B1 a.f1.length d1) from rfl); have ka2 := (blk_cell KA.out 2).trans (show _ = some (Value.slice B2 a.f2.length d2) from rfl)
    go_wp2_with fail
    refine (HSQ.out _ HB.out).mono ?_
    rintro e w4 ⟨rfl, hb⟩
    replace KQ := Aside0.mk (blk_below KQ.out hb)
    replace KA := Aside0.mk (blk_below KA.out hb)
    replace HB := Aside0.mk (HB.out.trans (hb.mono HB.out.size))
    clear hb
    have kq0 := (blk_cell KQ.out 0).trans (show _ = some (Value.int .u16 q.f0) from rfl); have kq1 := (blk_cell KQ.out 1).trans (show _ = some (Value.slice A1 q.f1.length c1) from rfl); have kq2 := (blk_cell KQ.out 2).trans (show _ = some (Value.slice A2 q.f2.length c2) from rfl); have ka0 := (blk_cell KA.out 0).trans (show _ = some (Value.int .u16 a.f0) from rfl); have ka1 := (blk_cell KA.out 1).trans (show _ = some (Value.slice B1 a.f1.length d1) from rfl); have ka2 := (blk_cell KA.out 2).trans (show _ = some (Value.slice B2 a.f2.length d2) from rfl)
    go_wp2_with fail
    refine (HSA.out _ HB.out).mono ?_
    rintro e w5 ⟨rfl, hb⟩
    replace KQ := Aside0.mk (blk_below KQ.out hb)
    replace KA := Aside0.mk (blk_below KA.out hb)
    replace HB := Aside0.mk (HB.out.trans (hb.mono HB.out.size))
    clear hb
    have kq0 := (blk_cell KQ.out 0).trans (show _ = some (Value.int .u16 q.f0) from rfl); have kq1 := (blk_cell KQ.out 1).trans (show _ = some (Value.slice A1 q.f1.length c1) from rfl); have kq2 := (blk_cell KQ.out 2).trans (show _ = some (Value.slice A2 q.f2.length c2) from rfl); have ka0 := (blk_cell KA.out 0).trans (show _ = some (Value.int .u16 a.f0) from rfl); have ka1 := (blk_cell KA.out 1).trans (show _ = some (Value.slice B1 a.f1.length d1) from rfl); have ka2 := (blk_cell KA.out 2).trans (show _ = some (Value.slice B2 a.f2.length d2) from rfl)
    go_wp2_with fail
    refine (HAN.out _ HB.out).mono ?_
    rintro e w6 ⟨rfl, hb⟩
    replace KQ := Aside0.mk (blk_below KQ.out hb)
    replace KA := Aside0.mk (blk_below KA.out hb)
    replace HB := Aside0.mk (HB.out.trans (hb.mono HB.out.size))
    clear hb
    have kq0 := (blk_cell KQ.out 0).trans (show _ = some (Value.int .u16 q.f0) from rfl); have kq1 := (blk_cell KQ.out 1).trans (show _ = some (Value.slice A1 q.f1.length c1) from rfl); have kq2 := (blk_cell KQ.out 2).trans (show _ = some (Value.slice A2 q.f2.length c2) from rfl); have ka0 := (blk_cell KA.out 0).trans (show _ = some (Value.int .u16 a.f0) from rfl); have ka1 := (blk_cell KA.out 1).trans (show _ = some (Value.slice B1 a.f1.length d1) from rfl); have ka2 := (blk_cell KA.out 2).trans (show _ = some (Value.slice B2 a.f2.length d2) from rfl)
    go_wp2
    go_ret
    exact ⟨rfl, HB.out⟩
theorem lawAnswers.calls (q a : S26) (A1 A2 B1 B2 : Option Addr) (c1 c2 d1 d2 : Nat) (w : World) (hL : Laid w)
    (q1 : q.f1.length ≤ c1) (q2 : (Kd.int .u8).C w A1 q.f1.length q.f1) (q3 : q.f2.length ≤ c2) (q4 : Kd.C k26 w A2 q.f2.length q.f2) (qo : okN q = true) (qs : smN q = true)
    (a1 : a.f1.length ≤ d1) (a2 : (Kd.int .u8).C w B1 a.f1.length a.f1) (a3 : a.f2.length ≤ d2) (a4 : Kd.C k26 w B2 a.f2.length a.f2) (ao : okN a = true) (asm : smN a = true) :
    Calls Tryz.prog 5 #[.agg #[.int .u16 q.f0, .slice A1 q.f1.length c1, .slice A2 q.f2.length c2], .agg #[.int .u16 a.f0, .slice B1 a.f1.length d1, .slice B2 a.f2.length d2]] w fun e w' => e = .returned (.bool true) ∧ Below w.heap.size w w' := by
  cases fq : fewB q with
  | false => exact lawAnswers.farQ q a A1 A2 B1 B2 c1 c2 d1 d2 w hL q1 q2 q3 q4 qo qs a1 a2 a3 a4 ao asm fq
  | true =>
    cases fa : fewB a with
    | false => exact lawAnswers.farA q a A1 A2 B1 B2 c1 c2 d1 d2 w hL q1 q2 q3 q4 qo qs a1 a2 a3 a4 ao asm fq fa
    | true => exact lawAnswers.near q a A1 A2 B1 B2 c1 c2 d1 d2 w hL q1 q2 q3 q4 qo qs a1 a2 a3 a4 ao asm fq fa
end Go.Proofs.YtpgfhbdnlojdfaaGreatDoor.P
