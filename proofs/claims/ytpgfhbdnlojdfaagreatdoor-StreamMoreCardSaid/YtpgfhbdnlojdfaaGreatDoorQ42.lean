/- Packed by wip/tools/pack.py out of MStream. -/
import Derived.Test.YtpgfhbdnlojdfaaGreatDoorQ36
import Derived.Test.YtpgfhbdnlojdfaaGreatDoorQ37
import Derived.Test.YtpgfhbdnlojdfaaGreatDoorQ39
import Derived.Test.YtpgfhbdnlojdfaaGreatDoorQ40
import Derived.Test.YtpgfhbdnlojdfaaGreatDoorQ41
namespace Go.Proofs.YtpgfhbdnlojdfaaGreatDoor.P
open Go.RowKit Go.Proofs.YtpgfhbdnlojdfaaGreatDoorW.PrintWords Go.Proofs.YtpgfhbdnlojdfaaGreatDoorW.PrintLast Go.Proofs.YtpgfhbdnlojdfaaGreatDoorW.PrintMore
set_option linter.unusedVariables false
theorem refPut4_ev (l : List Int) (hl : l.length ≤ 1000000) : Ev (fun f => wharfref01_Put.f f 4 l) (l.flatMap (putK 4)) := by
  have key : ∀ (m i : Nat), l.length - i = m → i ≤ l.length → Ev (fun f => wharfref01_Put.l0 f 4 l ((l.take i).flatMap (putK 4)) (i : Int)) (l.flatMap (putK 4)) := by
    intro m
    induction m with
    | zero =>
      intro i hm hi
      refine Ev.step (f := fun _ => some (l.flatMap (putK 4))) (fun f => ?_) (Ev.now _)
      rw [wharfref01_Put.l0, if_neg (by omega), List.take_of_length_le (by omega)]
    | succ m ih =>
      intro i hm hi
      have hlt : i < l.length := by omega
      have hlen := put_flat_len 4 (.inr rfl) (l.take i)
      rw [List.length_take, Nat.min_eq_left hi] at hlen
      refine Ev.step (f := fun f => wharfref01_Put.l0 f 4 l ((l.take i).flatMap (putK 4) ++ put4 l[i]) (wrap64 ((i : Int) + 1))) (fun f => ?_) ?_
      · rw [wharfref01_Put.l0, if_pos (by omega), if_pos (by omega), rd_at l i hlt, Option.bind_some, w64 (n := (4 : Int) - 4) (by omega) (by omega), if_pos (by omega), if_pos (by simp), Option.bind_some]
        rw [if_pos (by rw [hlen, List.length_drop]; simp; omega)]
        rfl
      · have hnext := ih (i + 1) (by omega) (by omega)
        rw [List.take_succ_eq_append_getElem hlt, List.flatMap_append] at hnext
        have e : [l[i]].flatMap (putK 4) = put4 l[i] := by simp [putK]
        rw [e] at hnext
        rw [w64 (by omega) (by omega)]
        exact hnext
  have h0 := key l.length 0 rfl (Nat.zero_le _)
  exact Ev.congr (f := fun f => wharfref01_Put.l0 f 4 l [] 0) (fun f => rfl) h0
theorem refBuild_ev (t : Int) (l s : List Int) (hl : l.length ≤ 1000000) (hs : s.length ≤ 1000000) : Ev (fun f => wharfref17_Build.f f t l s) (t, l.flatMap (putK 4) ++ s.flatMap (putK 2), []) := by
  have key : ∀ (m i : Nat), s.length - i = m → i ≤ s.length → Ev (fun f => wharfref17_Build.l0 f s (i : Int) t (l.flatMap (putK 4) ++ (s.take i).flatMap (putK 2))) (t, l.flatMap (putK 4) ++ s.flatMap (putK 2), []) := by
    intro m
    induction m with
    | zero =>
      intro i hm hi
      refine Ev.step (f := fun _ => some (t, l.flatMap (putK 4) ++ s.flatMap (putK 2), [])) (fun f => ?_) (Ev.now _)
      rw [wharfref17_Build.l0, if_neg (by omega), List.take_of_length_le (by omega)]
    | succ m ih =>
      intro i hm hi
      have hlt : i < s.length := by omega
      have hlen := put_flat_len 2 (.inl rfl) (s.take i)
      have hlen4 := put_flat_len 4 (.inr rfl) l
      rw [List.length_take, Nat.min_eq_left hi] at hlen
      refine Ev.step (f := fun f => wharfref17_Build.l0 f s (wrap64 ((i : Int) + 1)) t ((l.flatMap (putK 4) ++ (s.take i).flatMap (putK 2)) ++ put2 s[i])) (fun f => ?_) ?_
      · rw [wharfref17_Build.l0, if_pos (by omega), if_pos (by omega), rd_at s i hlt, Option.bind_some]
        rw [if_pos (by rw [List.length_append, hlen, hlen4]; simp; omega)]
        rfl
      · have hnext := ih (i + 1) (by omega) (by omega)
        rw [List.take_succ_eq_append_getElem hlt, List.flatMap_append, ← List.append_assoc] at hnext
        have e : [s[i]].flatMap (putK 2) = put2 s[i] := by simp [putK]
        rw [e] at hnext
        rw [w64 (by omega) (by omega)]
        exact hnext
  have h0 := key s.length 0 rfl (Nat.zero_le _)
  have e0 : l.flatMap (putK 4) ++ (s.take 0).flatMap (putK 2) = l.flatMap (putK 4) := by simp
  rw [e0] at h0
  refine Ev.congr (f := fun k => (wharfref01_Put.f k 4 l).bind fun t465 => wharfref17_Build.l0 k s 0 t t465) (fun k => rfl) ?_
  exact Ev.bind (refPut4_ev l hl) h0
theorem right_f (t : Int) (parts : List (List Int)) (ht : tameN ⟨t, parts.flatten, []⟩ = true) : stream_right.f t parts = some (if chk 4 1 ⟨t, parts.flatten, []⟩ = 0 then (t, parts.flatten, [], true) else (0, [], [], false)) := by
  have hlen : parts.flatten.length ≤ 4194304 := by
    have h2 := ht
    unfold tameN at h2
    rw [Bool.and_eq_true, decide_eq_true_eq, szN_eq] at h2
    have := h2.2
    simp at this ⊢
    omega
  unfold stream_right.f wire_Join.f slices_Concat_byte_byte.f
  rw [if_pos (by omega), Option.bind_some, Option.bind_some]
  unfold node_Check.f
  rw [if_pos ht, Option.bind_some]
  by_cases hc : chk 4 1 ⟨t, parts.flatten, []⟩ = 0
  · rw [if_pos hc, if_pos hc]; rfl
  · rw [if_neg hc, if_neg hc]; rfl
theorem put_bytes (k : Nat) (hk : k = 2 ∨ k = 4) (l : List Int) : ∀ b ∈ l.flatMap (putK k), 0 ≤ b ∧ b < 256 := by
  intro b hb
  obtain ⟨x, _, hx⟩ := List.mem_flatMap.1 hb
  rcases hk with rfl | rfl
  · have hx : b ∈ [x / 256 % 256, x % 256] := hx
    simp at hx
    rcases hx with rfl | rfl <;> omega
  · have hx : b ∈ [x / 16777216 % 256, x / 65536 % 256, x / 256 % 256, x % 256] := hx
    simp at hx
    rcases hx with rfl | rfl | rfl | rfl <;> omega
theorem tame_flat (t : Int) (ht : 0 ≤ t ∧ t < 65536) (d : List Int) (hb : ∀ b ∈ d, 0 ≤ b ∧ b < 256) (hl : d.length ≤ 4000000) : tameN ⟨t, d, []⟩ = true := by
  unfold tameN
  rw [Bool.and_eq_true, decide_eq_true_eq]
  constructor
  · rw [okN, Bool.and_eq_true, Bool.and_eq_true, decide_eq_true_eq]
    exact ⟨ht, List.all_eq_true.2 fun b hb2 => decide_eq_true (hb b hb2), rfl⟩
  · rw [szN_eq]
    simp [szL]
    omega
end Go.Proofs.YtpgfhbdnlojdfaaGreatDoor.P
