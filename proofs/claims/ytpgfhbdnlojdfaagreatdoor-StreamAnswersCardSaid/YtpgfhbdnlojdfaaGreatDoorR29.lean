/- Packed by wip/tools/pack.py out of MSeqR, MConcat, FwireJoin. -/
import Derived.Deep.DeepMust
import Derived.Test.YtpgfhbdnlojdfaaGreatDoorR25
import Derived.Test.YtpgfhbdnlojdfaaGreatDoorR26
import Derived.Test.YtpgfhbdnlojdfaaGreatDoorR24
import Derived.Test.YtpgfhbdnlojdfaaGreatDoorR28
import Derived.Test.YtpgfhbdnlojdfaaGreatDoorR07
namespace Go.Proofs.YtpgfhbdnlojdfaaGreatDoor.P
open Go.RowKit Go.Proofs.YtpgfhbdnlojdfaaGreatDoorW.PrintWords Go.Proofs.YtpgfhbdnlojdfaaGreatDoorW.PrintLast Go.Proofs.YtpgfhbdnlojdfaaGreatDoorW.PrintMore
set_option linter.unusedVariables false
set_option linter.unusedSimpArgs false
theorem right_row (n : S26) (lo un : Int) (h : (lastF n.f0 (formsOf 1)).map (fun x => (x.f3, x.f5)) = some (lo, un)) (hc : chk 4 1 n = 0) : lo ≤ n.f1.length ∧ ((n.f1.length : Int) - lo) % un = 0 := by
  cases hf : lastF n.f0 (formsOf 1) with
  | none => rw [hf] at h; cases h
  | some x =>
    rw [hf] at h
    simp only [Option.map_some, Option.some.injEq, Prod.mk.injEq] at h
    rw [chk, hf] at hc
    dsimp only at hc
    by_cases hk : (fitsF x n.f1.length && kidsB x.f6 n.f2) = true
    · rw [Bool.and_eq_true] at hk
      have h1 := hk.1
      unfold fitsF at h1
      simp only [Bool.and_eq_true, decide_eq_true_eq, beq_iff_eq] at h1
      rw [← h.1, ← h.2]
      exact ⟨h1.1, h1.2.2⟩
    · rw [if_neg hk] at hc
      cases hc
theorem row13 : (lastF 13 (formsOf 1)).map (fun x => (x.f3, x.f5)) = some (12, 2) := by rfl
theorem row14 : (lastF 14 (formsOf 1)).map (fun x => (x.f3, x.f5)) = some (4, 2) := by rfl
theorem row15 : (lastF 15 (formsOf 1)).map (fun x => (x.f3, x.f5)) = some (4, 1) := by rfl
theorem row16 : (lastF 16 (formsOf 1)).map (fun x => (x.f3, x.f5)) = some (8, 8) := by rfl
theorem row17 : (lastF 17 (formsOf 1)).map (fun x => (x.f3, x.f5)) = some (8, 1) := by rfl
theorem row18 : (lastF 18 (formsOf 1)).map (fun x => (x.f3, x.f5)) = some (8, 1) := by rfl
theorem right_len (n : S26) (h : 13 ≤ n.f0 ∧ n.f0 ≤ 18) (hc : chk 4 1 n = 0) : 4 ≤ n.f1.length := by
  obtain ⟨h0, h1⟩ := h
  have hh : n.f0 = 13 ∨ n.f0 = 14 ∨ n.f0 = 15 ∨ n.f0 = 16 ∨ n.f0 = 17 ∨ n.f0 = 18 := by omega
  rcases hh with e | e | e | e | e | e
  · have := (right_row n 12 2 (by rw [e]; exact row13) hc).1; omega
  · have := (right_row n 4 2 (by rw [e]; exact row14) hc).1; omega
  · have := (right_row n 4 1 (by rw [e]; exact row15) hc).1; omega
  · have := (right_row n 8 8 (by rw [e]; exact row16) hc).1; omega
  · have := (right_row n 8 1 (by rw [e]; exact row17) hc).1; omega
  · have := (right_row n 8 1 (by rw [e]; exact row18) hc).1; omega
def isB (n : S26) : Bool := decide (13 ≤ n.f0) && (decide (n.f0 ≤ 18) && chk 4 1 n == 0)
theorem is_f (n : S26) (ht : tameN n = true) : stream_is.f n.f0 n.f1 n.f2 13 18 = some (isB n) := by
  unfold stream_is.f isB
  by_cases h1 : n.f0 ≥ 13
  · rw [if_pos h1]
    by_cases h2 : n.f0 ≤ 18
    · rw [if_pos h2]
      unfold node_Check.f
      rw [show (⟨n.f0, n.f1, n.f2⟩ : S26) = n from by cases n; rfl, if_pos ht, Option.bind_some]
      by_cases h3 : chk 4 1 n = 0
      · rw [if_pos h3]; simp [h1, h2, h3]
      · rw [if_neg h3]; simp [h1, h2, h3]
    · rw [if_neg h2]; simp [h2]
  · rw [if_neg h1]; simp [show ¬ (13 ≤ n.f0) from h1]
theorem refIs_f (n : S26) (ht : tameN n = true) : wharfref17_Is.f n.f0 n.f1 n.f2 = some (isB n) := by
  unfold wharfref17_Is.f isB
  by_cases h1 : n.f0 ≥ 13
  · rw [if_pos h1]
    by_cases h2 : n.f0 ≤ 18
    · rw [if_pos h2]
      unfold wharfref08_Check.f
      rw [show (⟨n.f0, n.f1, n.f2⟩ : S26) = n from by cases n; rfl, if_pos ⟨ht, rfl⟩, Option.bind_some]
      by_cases h3 : chk 4 1 n = 0
      · simp [h1, h2, h3]
      · simp [h1, h2, h3]
    · rw [if_neg h2]; simp [h2]
  · rw [if_neg h1]; simp [show ¬ (13 ≤ n.f0) from h1]
def seqB (n : S26) : Int × Bool := if isB n = true then (numB (n.f1.take 4), true) else (0, false)
theorem isB_len (n : S26) (h : isB n = true) : 4 ≤ n.f1.length := by
  unfold isB at h
  simp only [Bool.and_eq_true, decide_eq_true_eq, beq_iff_eq] at h
  exact right_len n ⟨h.1, h.2.1⟩ h.2.2
theorem seq_f (n : S26) (ht : tameN n = true) : stream_Seq.f n.f0 n.f1 n.f2 = some (seqB n) := by
  unfold stream_Seq.f seqB
  rw [is_f n ht, Option.bind_some]
  have hz : szN n ≤ 4194304 := by
    unfold tameN at ht
    rw [Bool.and_eq_true, decide_eq_true_eq] at ht
    exact ht.2
  by_cases h : isB n = true
  · rw [if_pos h, if_pos h, if_pos ⟨isB_len n h, by have := (rows_len hz).1; omega⟩]
  · rw [if_neg h, if_neg h]
theorem refSeq_ev (n : S26) (ht : tameN n = true) : Ev (fun k => wharfref17_Seq.f k n.f0 n.f1 n.f2) (seqB n) := by
  have h0 : ∀ k, wharfref17_Seq.f k n.f0 n.f1 n.f2 = if isB n = true then (wharfref01_Number.f k n.f1 0 4).bind fun b => some (b.1, b.2) else some (0, false) := fun k => by
    unfold wharfref17_Seq.f
    rw [refIs_f n ht, Option.bind_some]
  refine Ev.congr h0 ?_
  unfold tameN at ht
  rw [Bool.and_eq_true, decide_eq_true_eq] at ht
  obtain ⟨_, hby, _⟩ := okN_iff n ht.1
  unfold seqB
  by_cases h : isB n = true
  · rw [if_pos h]
    have hl := isB_len n h
    have hz := (rows_len ht.2).1
    refine Ev.congr (fun k => if_pos h) ?_
    match hn : n.f1, hl, hby, hz with
    | a :: b :: c :: d :: l, _, hby, hz =>
      have hN := refNumber4 a b c d l (hby a (by simp)) (hby b (by simp)) (hby c (by simp)) (hby d (by simp)) (by simp at hz; omega)
      exact Ev.bind hN (Ev.now _)
  · rw [if_neg h]
    exact Ev.congr (fun k => if_neg h) (Ev.now _)
end Go.Proofs.YtpgfhbdnlojdfaaGreatDoor.P
namespace Go.Proofs.YtpgfhbdnlojdfaaGreatDoor.P
open Go.RowKit Go.Proofs.YtpgfhbdnlojdfaaGreatDoorW.PrintWords Go.Proofs.YtpgfhbdnlojdfaaGreatDoorW.PrintLast Go.Proofs.YtpgfhbdnlojdfaaGreatDoorW.PrintMore
set_option linter.unusedVariables false
set_option linter.unusedSimpArgs false
set_option maxHeartbeats 1000000 in
theorem slices_Grow.any (n : Int) (w : World) (h0 : 0 ≤ n) (h1 : n < 140737488355328) :
    Calls Tryz.prog 110 #[.slice none 0 0, .int .i64 n] w fun e w' => ∃ v, e = .returned v ∧ Kd.R (Kd.int .u8) 5 w' w.heap.size (fun _ => True) v [] ∧ Below w.heap.size w w' := by
  by_cases hz : n = 0
  · subst hz
    go_enter Tryz.func110, Tryz.ntmps110
    go_wp2
    go_ret
    exact ⟨_, rfl, Kd.R_nil _ _ _ _ _, Below.refl _ _⟩
  · have hp : 0 < n := by omega
    clear hz
    go_enter Tryz.func110, Tryz.ntmps110
    go_wp2_with ((with_reducible refine gate_builtin (b := .append) (xs := #[.tmp 20, .tmp 21]) rfl ?_); go_must (at_builtin; refine Kd.R_append_zeros (Kd.int .u8) (w0 := w) w.heap.size rfl (.tmp 20) (.tmp 21) 23 3 5 (.int .u8 0) 1 rfl Tryz.underlying23 Tryz.underlying3 info5 rfl (by decide) (by omega) (.slice none 0 0) [] 0 n (fun _ => True) rfl rfl ?aZ (fun _ _ => trivial) (Kd.R_nil _ _ _ _ _) h0 (Below.refl _ _) (Nat.le_refl _) ?aL ?_; (case aZ => rfl); (case aL => simp; omega); intro v4 w5 ho hb hg hat; obtain ⟨A, c, rfl⟩ := Kd.R_slice ho; have HO2 := Aside0.mk ho; have HB2 := Aside0.mk hb; clear ho hb hg hat))
    go_ret
    exact ⟨_, rfl, by have := Kd.R_take HO2.out (Nat.zero_le _); simpa using this, HB2.out⟩
def slices_Concat_byte_byte.f (l0 : List (List Int)) : Option (List Int) := if l0.flatten.length < 140737488355328 then some l0.flatten else none
theorem flat_take (l : List (List Int)) (k : Nat) (h : k < l.length) : (l.take (k + 1)).flatten = (l.take k).flatten ++ l[k] := by
  rw [List.take_succ_eq_append_getElem h, List.flatten_append]; simp
theorem flat_le (l : List (List Int)) (k : Nat) : (l.take k).flatten.length ≤ l.flatten.length := by
  conv => rhs; rw [← List.take_append_drop k l, List.flatten_append, List.length_append]
  omega
set_option maxHeartbeats 2000000 in
theorem slices_Concat_byte_byte.calls (A0 : Option Addr) (c0 : Nat) (l0 : List (List Int)) (r : List Int) (w : World) (hr0 : Kd.C (Kd.slice 5 (Kd.int .u8)) w A0 l0.length l0) (hc0 : l0.length ≤ c0) (h : slices_Concat_byte_byte.f l0 = some r) :
    Calls Tryz.prog 97 #[.slice A0 l0.length c0] w fun e w' => ∃ v0_ : Value, e = .returned (v0_) ∧ Kd.R (Kd.int .u8) 5 w' w.heap.size (fun _ => True) v0_ r ∧ Below w.heap.size w w' := by
  unfold slices_Concat_byte_byte.f at h
  by_cases hl : l0.flatten.length < 140737488355328
  · rw [if_pos hl] at h
    obtain rfl := Option.some.inj h
    clear h
    have HR := Aside0.mk hr0
    have hmx := Kd.C_max hr0
    have hmx2 : (l0.length : Int) ≤ 9223372036854775807 := by omega
    have HL := Aside0.mk hl
    clear hr0 hc0 hl hmx
    go_enter Tryz.func97, Tryz.ntmps97
    go_wp2
    go_loop [3, 5, 11] (fun s _ i => ∃ k : Nat, k ≤ l0.length ∧ i = .int .i64 k ∧ s = .int .i64 ((l0.take k).flatten.length : Nat)) (fun _ _ i => l0.length - (intOf i).toNat)
    case atStart => exact ⟨0, Nat.zero_le _, rfl, rfl⟩
    case round =>
      obtain ⟨k, hk, rfl, rfl⟩ := hrel
      by_cases hlt : k < l0.length
      · obtain ⟨ad, A1, c1, e, hx, _, _⟩ := row_at HR.out k hlt
        cases e
        have hN : (l0.take (k + 1)).flatten.length = (l0.take k).flatten.length + l0[k].length := by rw [flat_take l0 k hlt, List.length_append]
        have hM := flat_le l0 (k + 1)
        have hL := HL.out
        rw [hN] at hM
        obtain ⟨a, ha⟩ : ∃ a, a = (l0.take k).flatten.length := ⟨_, rfl⟩
        obtain ⟨b, hb⟩ : ∃ b, b = l0[k].length := ⟨_, rfl⟩
        rw [← ha, ← hb] at hM hN
        rw [← hb] at hx
        rw [← ha]
        have HN := Aside0.mk hN
        have b1 : (a : Int) + b ≤ 140737488355328 := by omega
        have b2 : 0 ≤ (a : Int) + b := by omega
        have b3 : ¬ ((a : Int) + b < 0) := by omega
        clear hN hM hL ha hb
        go_wp2
        go_round
        case rel => exact ⟨k + 1, by omega, by go_num, by rw [HN.out]; go_num⟩
        case measure => simp [intOf]; omega
      · have : k = l0.length := by omega
        subst this
        rw [List.take_length]
        obtain ⟨a, ha⟩ : ∃ a, a = l0.flatten.length := ⟨_, rfl⟩
        have HG := Aside0.mk (slices_Grow.any (a : Int) w (by omega) (by have := HL.out; omega))
        have hl2 := HL.out
        rw [← ha] at hl2 ⊢
        have HA := Aside0.mk ha
        clear ha
        go_wp2_with (go_at_call 110; refine HG.out.mono ?_; rintro e w1 ⟨v, rfl, ho, hb⟩; have HO := Aside0.mk ho; have HB := Aside0.mk hb; clear ho hb)
        clear hl2
        go_loopw [6, 8, 27] (fun v _ i W => ∃ k : Nat, k ≤ l0.length ∧ i = .int .i64 k ∧ Aside0 (Kd.R (Kd.int .u8) 5 W w.heap.size (fun _ => True) v (l0.take k).flatten) ∧ Aside0 (Below w.heap.size w W)) (fun _ _ i _ => l0.length - (intOf i).toNat)
        case atStart => exact ⟨0, Nat.zero_le _, rfl, HO, HB⟩
        case round =>
          clear HO HB
          obtain ⟨k, hk, rfl, HO, HB⟩ := hrel
          by_cases hlt : k < l0.length
          · obtain ⟨ad, A1, c1, e, hx, hc1, hr1⟩ := row_at HR.out k hlt
            cases e
            have hx := cell_up HB.out hx
            have HR1 := Aside0.mk (Kd.C_below hr1 HB.out)
            have HN := Aside0.mk (show (l0.take (k + 1)).flatten = (l0.take k).flatten ++ l0[k] from flat_take l0 k hlt)
            have HM := Aside0.mk (flat_le l0 (k + 1))
            clear hr1 hc1
            go_wp2_with ((with_reducible refine gate_builtin (b := .append) (xs := #[.tmp 31, .tmp 32]) rfl ?_); go_must (at_builtin; refine Kd.R_append_rows (Kd.int .u8) (w0 := w) w.heap.size rfl (.tmp 31) (.tmp 32) 23 5 (.int .u8 0) 1 rfl Tryz.underlying23 info5 rfl (by decide) (by omega) _ (l0.take k).flatten l0[k] _ _ _ (fun _ => True) (fun _ => False) rfl rfl HO.out HR1.out (fun _ _ h => h) (fun _ h => h.elim) (fun _ _ => trivial) HB.out HB.out.size ?aL ?_; (case aL => have h1 := HM.out; rw [HN.out, List.length_append] at h1; have h2 := HL.out; rw [Nat.mul_one]; omega); intro v4 w5 ho hb hg hat; have HO2 := Aside0.mk ho; have HB2 := Aside0.mk hb; clear ho hb hg hat))
            go_roundw
            case rel => exact ⟨k + 1, by omega, by go_num, ⟨by rw [HN.out]; exact HO2.out⟩, HB2⟩
            case measure => simp [intOf]; omega
          · have : k = l0.length := by omega
            subst this
            go_wp2
            go_ret
            exact ⟨_, rfl, by have := HO.out; rwa [List.take_length] at this, HB.out⟩
  · rw [if_neg hl] at h; cases h
end Go.Proofs.YtpgfhbdnlojdfaaGreatDoor.P
namespace Go.Proofs.YtpgfhbdnlojdfaaGreatDoor.P
open Go.RowKit Go.Proofs.YtpgfhbdnlojdfaaGreatDoorW.PrintWords Go.Proofs.YtpgfhbdnlojdfaaGreatDoorW.PrintLast Go.Proofs.YtpgfhbdnlojdfaaGreatDoorW.PrintMore
attribute [local go_sem] max2_int min2_int max_two min_two max_three min_three max_four min_four
set_option linter.unusedVariables false
set_option linter.unusedSimpArgs false
def wire_Join.f (l0 : List (List Int)) : Option (List Int) := (slices_Concat_byte_byte.f l0).bind fun t228 => (some t228)
set_option maxHeartbeats 8000000 in
set_option maxRecDepth 100000 in
theorem wire_Join.calls (A0 : Option Addr) (c0 : Nat) (l0 : List (List Int)) (r : List Int) (w : World) (hr0 : Kd.C (Kd.slice 5 (Kd.int .u8)) w A0 l0.length l0) (hc0 : l0.length ≤ c0) (h : wire_Join.f l0 = some r) :
    Calls Tryz.prog 80 #[.slice A0 l0.length c0] w fun e w' => ∃ v0_ : Value, e = .returned (v0_) ∧ Kd.R (Kd.int .u8) 5 w' w.heap.size (fun _ => True) v0_ r ∧ Below w.heap.size w w' := by
  have HR0 := Aside0.mk hr0
  have HC0 := Aside0.mk hc0
  clear hr0 hc0
  have HB := Aside0.mk (Below.refl w.heap.size w)
  have H : ((slices_Concat_byte_byte.f l0).bind fun t228 => (some t228)) = some r := h
  clear h
  replace H := Option.bind_eq_some_iff.mp H
  obtain ⟨t228, A20, H⟩ := H
  replace H : (some t228) = some r := H
  have A2 := Aside0.mk A20
  clear A20
  obtain rfl := Option.some.inj H
  go_enter Tryz.func80, Tryz.ntmps80
  go_wp2_with (first | ((with_reducible refine gate_callee (f := 97) rfl ?_); refine goesL_ (some 4) rfl rfl Tryz.func97 (by kernel_rfl) rfl #[.slice A0 l0.length c0] rfl (by (try simp only [List.map_toArray, List.map_cons, List.map_nil]); first | done | rfl | (simp only [List.length_drop, List.length_take]; rfl)) ?_; (with_reducible refine (slices_Concat_byte_byte.calls _ _ l0 t228 _ ?side1 ?side2 A2.out).mono ?_); (case side1 => repeat (first | exact HR0.out | (with_reducible refine Kd.C_alloc ?_ _) | (with_reducible refine Kd.C_drewN ?_ _) | (with_reducible refine Kd.C_drew ?_))); (case side2 => exact HC0.out); rintro e w3 ⟨v229, rfl, ho0, hb⟩; refine ⟨_, rfl, ?_⟩; have n0_ := Aside0.mk (Kd.R_lower ho0 (below_size (by repeat (first | (with_reducible first | exact HB.out | apply below_alloc | apply pw_below_drewN | apply below_drew1) | exact HB.out)))); have n1_ := Aside0.mk (below_step (by repeat (first | (with_reducible first | exact HB.out | apply below_alloc | apply pw_below_drewN | apply below_drew1) | exact HB.out)) hb); clear HB; have HO230 := n0_; have HB := n1_; clear n0_ n1_; (try clear hb); (try clear hb2); (try clear hk); (try clear hi); (try clear ho0)))
  go_ret
  exact ⟨_, by first | rfl | (simp [errW_none, errW_some] <;> rfl) | (simp [*, errW_none, errW_some] <;> rfl), by (with_reducible repeat (first | apply Kd.R_alloc | apply Kd.R_drewN | apply Kd.R_drew)); exact HO230.out, by repeat (first | (with_reducible first | exact HB.out | apply below_alloc | apply pw_below_drewN | apply below_drew1) | exact HB.out)⟩
end Go.Proofs.YtpgfhbdnlojdfaaGreatDoor.P
