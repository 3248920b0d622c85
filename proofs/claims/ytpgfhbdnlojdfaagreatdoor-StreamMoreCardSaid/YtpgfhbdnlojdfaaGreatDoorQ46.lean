/- Packed by wip/tools/pack.py out of MMore, MSame. -/
import Derived.Test.YtpgfhbdnlojdfaaGreatDoorQ42
import Derived.Test.YtpgfhbdnlojdfaaGreatDoorQ45
import Derived.Test.YtpgfhbdnlojdfaaGreatDoorQ36
namespace Go.Proofs.YtpgfhbdnlojdfaaGreatDoor.P
open Go.RowKit Go.Proofs.YtpgfhbdnlojdfaaGreatDoorW.PrintWords Go.Proofs.YtpgfhbdnlojdfaaGreatDoorW.PrintLast Go.Proofs.YtpgfhbdnlojdfaaGreatDoorW.PrintMore
set_option linter.unusedVariables false
theorem numB_put4 (x : Int) (h : 0 ≤ x ∧ x < 4294967296) : numB (put4 x) = x := by
  have hv : numB (put4 x) = nstep (nstep (nstep (nstep 0 (x / 16777216 % 256)) (x / 65536 % 256)) (x / 256 % 256)) (x % 256) := rfl
  rw [hv]
  have n1 := nstep_bd 0 (x / 16777216 % 256)
  have n2 := nstep_bd (nstep 0 (x / 16777216 % 256)) (x / 65536 % 256)
  have n3 := nstep_bd (nstep (nstep 0 (x / 16777216 % 256)) (x / 65536 % 256)) (x / 256 % 256)
  rw [nstep_add _ (x % 256) n3.1 (by omega), nstep_add _ (x / 256 % 256) n2.1 (by omega), nstep_add _ (x / 65536 % 256) n1.1 (by omega), nstep_add 0 (x / 16777216 % 256) (by omega) (by omega)]
  omega
def moreD (seq n : Int) : List Int := [seq].flatMap (putK 4) ++ [n, 0].flatMap (putK 2)
theorem moreD_eq (seq n : Int) : moreD seq n = put4 seq ++ (put2 n ++ put2 0) := by simp [moreD, putK]
theorem moreD_bytes (seq n : Int) : ∀ b ∈ moreD seq n, 0 ≤ b ∧ b < 256 := by
  intro b hb
  rcases List.mem_append.1 hb with h | h
  · exact put_bytes 4 (.inr rfl) _ b h
  · exact put_bytes 2 (.inl rfl) _ b h
theorem moreD_len (seq n : Int) : (moreD seq n).length = 8 := by rw [moreD_eq]; rfl
theorem chk17 (a b c d e f g h : Int) : chk 4 1 ⟨17, [a, b, c, d, e, f, g, h], []⟩ = 0 := by kernel_rfl
theorem chk18 (a b c d e f g h : Int) : chk 4 1 ⟨18, [a, b, c, d, e, f, g, h], []⟩ = 0 := by kernel_rfl
theorem chk_more (t seq n : Int) (ht : t = 17 ∨ t = 18) : chk 4 1 ⟨t, moreD seq n, []⟩ = 0 := by
  rw [moreD_eq]
  rcases ht with rfl | rfl
  · exact chk17 _ _ _ _ _ _ _ _
  · exact chk18 _ _ _ _ _ _ _ _
theorem more_ev (t seq n : Int) (ht : t = 17 ∨ t = 18) (hn : 0 ≤ n ∧ n < 65536) : Ev (fun k => stream_More.f k t seq n) (t, moreD seq n, [], true) := by
  refine Ev.congr (f := fun k => stream_More.j0 k t seq n false) (fun k => ?_) ?_
  · unfold stream_More.f
    rcases ht with rfl | rfl
    · rw [if_pos rfl]
    · rw [if_neg (by omega)]; rfl
  refine Ev.step (f := fun k => (wire_Put.f k 4 [seq]).bind fun a => (wire_Put.f k 2 [n % 4294967296, 0]).bind fun b => (stream_right.f t [a, b]).bind fun r => some (r.1, r.2.1, r.2.2.1, r.2.2.2)) (fun k => ?_) ?_
  · rw [stream_More.j0, if_neg (by simp)]
  refine Ev.bind (wirePut_ev 4 (.inr rfl) [seq] (by simp)) ?_
  refine Ev.bind (wirePut_ev 2 (.inl rfl) [n % 4294967296, 0] (by simp)) ?_
  rw [show n % 4294967296 = n by omega]
  have hfl : ([[seq].flatMap (putK 4), [n, 0].flatMap (putK 2)] : List (List Int)).flatten = moreD seq n := by simp [moreD]
  have htm : tameN ⟨t, ([[seq].flatMap (putK 4), [n, 0].flatMap (putK 2)] : List (List Int)).flatten, []⟩ = true := by
    rw [hfl]
    exact tame_flat t (by omega) _ (moreD_bytes seq n) (by rw [moreD_len]; omega)
  have hr := right_f t _ htm
  rw [hfl, if_pos (chk_more t seq n ht)] at hr
  refine Ev.congr (f := fun _ => some (t, moreD seq n, [], true)) (fun k => ?_) (Ev.now _)
  rw [hr]; rfl
theorem more_no (t seq n : Int) (h17 : t ≠ 17) (h18 : t ≠ 18) : stream_More.f 1 t seq n = some (0, [], [], false) := by
  unfold stream_More.f
  rw [if_neg h17, show (t != 18) = true by simp [h18]]
  rfl
theorem is_more (t seq n : Int) (ht : t = 17 ∨ t = 18) : stream_is.f t (moreD seq n) [] 13 18 = some true := by
  unfold stream_is.f
  rw [if_pos (by omega), if_pos (by omega)]
  unfold node_Check.f
  rw [if_pos (tame_flat t (by omega) _ (moreD_bytes seq n) (by rw [moreD_len]; omega)), if_pos (chk_more t seq n ht)]
  rfl
theorem seq_more (t seq n : Int) (ht : t = 17 ∨ t = 18) (hs : 0 ≤ seq ∧ seq < 4294967296) : stream_Seq.f t (moreD seq n) [] = some (seq, true) := by
  unfold stream_Seq.f
  rw [is_more t seq n ht, Option.bind_some, if_pos rfl, if_pos (by rw [moreD_len]; omega), moreD_eq]
  have e : (put4 seq ++ (put2 n ++ put2 0)).take 4 = put4 seq := rfl
  rw [e, numB_put4 seq hs]
theorem streams_more (t seq n : Int) (ht : t = 17 ∨ t = 18) : stream_Streams.f 1 t (moreD seq n) [] = some [] := by
  unfold stream_Streams.f stream_is.f
  rw [if_pos (by omega), if_neg (by omega)]
  rfl
end Go.Proofs.YtpgfhbdnlojdfaaGreatDoor.P
namespace Go.Proofs.YtpgfhbdnlojdfaaGreatDoor.P
open Go.RowKit Go.Proofs.YtpgfhbdnlojdfaaGreatDoorW.PrintWords Go.Proofs.YtpgfhbdnlojdfaaGreatDoorW.PrintLast Go.Proofs.YtpgfhbdnlojdfaaGreatDoorW.PrintMore
set_option linter.unusedVariables false
set_option linter.unusedSimpArgs false
theorem sz2 (w : World) (a b : Obj) : ((w.alloc a).alloc b).heap.size = w.heap.size + 1 + 1 := by simp
set_option maxHeartbeats 1000000 in
theorem same17 (x : S26) (hx : szN x ≤ 4194304) (A1 A2 B1 B2 : Option Addr) (c1 c2 d1 d2 : Nat) (w : World)
    (a1 : x.f1.length ≤ c1) (a2 : Kd.C (Kd.int .u8) w A1 x.f1.length x.f1) (a3 : x.f2.length ≤ c2) (a4 : Kd.C k26 w A2 x.f2.length x.f2)
    (b1 : x.f1.length ≤ d1) (b2 : Kd.C (Kd.int .u8) w B1 x.f1.length x.f1) (b3 : x.f2.length ≤ d2) (b4 : Kd.C k26 w B2 x.f2.length x.f2) :
    Calls Tryz.prog 21 #[.agg #[.int .u16 x.f0, .slice A1 x.f1.length c1, .slice A2 x.f2.length c2], .agg #[.int .u16 x.f0, .slice B1 x.f1.length d1, .slice B2 x.f2.length d2]] w fun e w' => e = .returned (.bool true) ∧ Below w.heap.size w w' := by
  obtain ⟨k, hk⟩ := (sameN_refl (ctL [x]) [x] (Nat.le_refl _) (by rw [szL_one]; exact hx)).rounds
  have hB : Below w.heap.size w ((((w.alloc (.cells #[.int .u16 x.f0, .slice A1 x.f1.length c1, .slice A2 x.f2.length c2] 26)).alloc (.cells #[.int .u16 x.f0, .slice B1 x.f1.length d1, .slice B2 x.f2.length d2] 26)).alloc (.cells #[.int .u16 x.f0, .slice A1 x.f1.length c1, .slice A2 x.f2.length c2] 26)).alloc (.cells #[.int .u16 x.f0, .slice B1 x.f1.length d1, .slice B2 x.f2.length d2] 26)) := (((((Below.refl _ w).alloc (Nat.le_refl _) _).alloc (by simp) _).alloc (by simp; omega) _).alloc (by simp; omega) _)
  have h2 := blk_alloc (heap_alloc_new ((w.alloc (.cells #[.int .u16 x.f0, .slice A1 x.f1.length c1, .slice A2 x.f2.length c2] 26)).alloc (.cells #[.int .u16 x.f0, .slice B1 x.f1.length d1, .slice B2 x.f2.length d2] 26)) (.cells #[.int .u16 x.f0, .slice A1 x.f1.length c1, .slice A2 x.f2.length c2] 26)) (.cells #[.int .u16 x.f0, .slice B1 x.f1.length d1, .slice B2 x.f2.length d2] 26)
  rw [sz2] at h2
  have h3 := heap_alloc_new (((w.alloc (.cells #[.int .u16 x.f0, .slice A1 x.f1.length c1, .slice A2 x.f2.length c2] 26)).alloc (.cells #[.int .u16 x.f0, .slice B1 x.f1.length d1, .slice B2 x.f2.length d2] 26)).alloc (.cells #[.int .u16 x.f0, .slice A1 x.f1.length c1, .slice A2 x.f2.length c2] 26)) (.cells #[.int .u16 x.f0, .slice B1 x.f1.length d1, .slice B2 x.f2.length d2] 26)
  rw [show (((w.alloc (.cells #[.int .u16 x.f0, .slice A1 x.f1.length c1, .slice A2 x.f2.length c2] 26)).alloc (.cells #[.int .u16 x.f0, .slice B1 x.f1.length d1, .slice B2 x.f2.length d2] 26)).alloc (.cells #[.int .u16 x.f0, .slice A1 x.f1.length c1, .slice A2 x.f2.length c2] 26)).heap.size = w.heap.size + 1 + 1 + 1 from by simp] at h3
  have C1 := blk_one (n := x) h2 a1 (Kd.C_below a2 hB) a3 (Kd.C_below a4 hB)
  have C2 := blk_one (n := x) h3 b1 (Kd.C_below b2 hB) b3 (Kd.C_below b4 hB)
  have HS := Aside0.mk (wharfref08_Same.calls k (some ⟨w.heap.size + 1 + 1, 0, none⟩) 1 [x] (some ⟨w.heap.size + 1 + 1 + 1, 0, none⟩) 1 [x] _ _ C1 (Nat.le_refl _) C2 (Nat.le_refl _) hk)
  have HB := Aside0.mk hB
  clear C1 C2 h2 h3 hB a1 a2 a3 a4 b1 b2 b3 b4 hk hx
  go_enter Tryz.func21, Tryz.ntmps21
  go_wp2_with (first | (go_at_call 48; refine HS.out.mono ?_; rintro e w1 ⟨rfl, hb⟩; have HB1 := Aside0.mk (HB.out.trans (hb.mono (by simp; omega))); clear hb))
  go_ret
  exact ⟨rfl, HB1.out⟩
end Go.Proofs.YtpgfhbdnlojdfaaGreatDoor.P
