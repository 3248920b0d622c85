/- Packed by wip/tools/pack.py out of MList. -/
import Derived.Deep.RegionLaw
import Derived.Deep.DeepMust
import Derived.Test.YtpgfhbdnlojdfaaGreatDoorR31
import Derived.Test.YtpgfhbdnlojdfaaGreatDoorR07
namespace Go.Proofs.YtpgfhbdnlojdfaaGreatDoor.P
open Go.RowKit Go.Proofs.YtpgfhbdnlojdfaaGreatDoorW.PrintWords Go.Proofs.YtpgfhbdnlojdfaaGreatDoorW.PrintLast Go.Proofs.YtpgfhbdnlojdfaaGreatDoorW.PrintMore
set_option linter.unusedVariables false
set_option linter.unusedSimpArgs false
def put2 (x : Int) : List Int := [x / 256 % 256, x % 256]
theorem put2_ok (x : Int) : wire_Put.f 6 2 [x] = some (put2 x) := by
  simp [wire_Put.f, wire_right.f, wire_Put.l0, wire_Put.l1, wrap64, rd, shr, put2, IntKind.bits]
theorem C32 (W : World) (g : Nat) (x : Int) (h : W.heap[g]? = some (.cells #[.int .u32 x] 29 (0, 0))) : Kd.C (Kd.int .u32) W (some ⟨g, 0, none⟩) ([x] : List Int).length [x] := by
  refine ⟨rfl, by simp, fun _ => ⟨⟨g, 0, none⟩, rfl, fun j p hp => ?_⟩⟩
  match j, hp with
  | 0, hp =>
    have hp : x = p := Option.some.inj hp
    subst hp
    refine ⟨[.int .u32 x], rfl, rfl, fun i u hu => ?_⟩
    match i, hu with
    | 0, hu =>
      have hu : Value.int .u32 x = u := Option.some.inj hu
      subst hu
      exact (blk_cell h 0).trans rfl
    | i + 1, hu => simp at hu
  | j + 1, hp => simp at hp
theorem below_call {w0 X W' : World} (hX : Below w0.heap.size w0 X) (h : Below X.heap.size X W') : Below w0.heap.size w0 W' := hX.trans (h.mono hX.size)
set_option maxRecDepth 100000 in
set_option maxHeartbeats 1000000 in
theorem list1.step (x : Int) (hx : 0 ≤ x ∧ x < 65536) (g : Nat) (v : Value) (xs : List Int) (w0 W : World) (hg : W.heap[g]? = some (.cells #[v] 23 (0, 0))) (hbg : w0.heap.size ≤ g) (HO : Kd.R (Kd.int .u8) 5 W w0.heap.size (fun _ => True) v xs) (HB : Below w0.heap.size w0 W) (hl : xs.length ≤ 100000000) :
    Calls Tryz.prog 81 #[.int .u16 x, .pointer (some ⟨g, 0, none⟩)] W fun e w' => (∃ u, e = .returned u) ∧ ∃ v', w'.heap[g]? = some (.cells #[v'] 23 (0, 0)) ∧ Kd.R (Kd.int .u8) 5 w' w0.heap.size (fun _ => True) v' (xs ++ put2 x) ∧ Below w0.heap.size w0 w' := by
  obtain ⟨Av, cv, rfl⟩ := Kd.R_slice HO
  have hwx : IntKind.u32.wrap x = x := by rw [IntKind.wrap_u32]; omega
  have HG := Aside0.mk hg
  have HR := Aside0.mk HO
  have HBB := Aside0.mk HB
  have HBG := Aside0.mk hbg
  have HL := Aside0.mk hl
  have hlt : g < W.heap.size := blk_lt hg
  have q0 := (blk_cell hg 0).trans (show _ = some (Value.slice Av xs.length cv) from rfl)
  have f0 := blk_frozen hg 0
  obtain ⟨X, hX⟩ : ∃ X, X = (W.alloc (.cells #[.int .u32 x] 29)).drew := ⟨_, rfl⟩
  have HGX := Aside0.mk (show X.heap[g]? = some (.cells #[.slice Av xs.length cv] 23 (0, 0)) from by rw [hX]; exact blk_drew (blk_alloc hg _))
  have HRX := Aside0.mk (show Kd.R (Kd.int .u8) 5 X w0.heap.size (fun _ => True) (.slice Av xs.length cv) xs from by rw [hX]; exact Kd.R_drew (Kd.R_alloc HO _))
  have HBX := Aside0.mk (show Below w0.heap.size w0 X from by rw [hX]; exact below_drew1 (HB.alloc HB.size _))
  have HPX := Aside0.mk (wire_Put.calls 6 2 (some ⟨W.heap.size, 0, none⟩) 1 [x] (put2 x) X (C32 X W.heap.size x (by rw [hX]; exact blk_drew (heap_alloc_new W _))) (Nat.le_refl _) (put2_ok x))
  have HL2 := Aside0.mk (show (xs.length + (put2 x).length) * 1 ≤ 140737488355328 from by simp [put2]; omega)
  rw [hX] at HPX HRX HBX HGX
  clear hX
  clear hg HO HB hx hl hbg
  go_enter Tryz.func81, Tryz.ntmps81
  go_wp2_with fail
  go_region_law (first | ((refine goes_ Tryz.func50 (by kernel_rfl) rfl #[.int .i64 2, .slice (some ⟨W.heap.size, 0, none⟩) 1 1] (by rfl) (by rfl) (by rfl) (by (try simp only [List.map_toArray, List.map_cons, List.map_nil]); first | done | rfl) ?_; refine HPX.out.mono ?_; rintro e w1 ⟨vp, rfl, hrp, hb⟩; refine ⟨_, rfl, ?_⟩; obtain ⟨Ap, cp, ep⟩ := Kd.R_slice hrp; subst ep; have RP := Aside0.mk (Kd.R_reads' hrp).2.2; have RV := Aside0.mk (Kd.R_below HRX.out hb); have BG := Aside0.mk (blk_below HGX.out hb); have HB1 := Aside0.mk (below_call HBX.out hb); have k0 := (blk_cell BG.out 0).trans (show _ = some (Value.slice Av xs.length cv) from rfl); clear hb hrp)) | ((refine Kd.R_append_rows_step (Kd.int .u8) (w0 := w0) w0.heap.size (by rfl) (.tmp 3) (.tmp 7) 23 5 (.int .u8 0) 1 rfl Tryz.underlying23 info5 rfl (by decide) (by omega) (.slice Av xs.length cv) xs (put2 x) _ _ _ (fun _ => True) (fun _ => False) (by rfl) (by rfl) RV.out RP.out (fun _ _ h => h) (fun _ h => h.elim) (fun _ _ => trivial) HB1.out HB1.out.size HL2.out ?_; intro v1 w2 ho hb2 hg2 hat; obtain ⟨An, cn, en⟩ := Kd.R_slice ho; rw [List.length_append] at en; subst en; have RN := Aside0.mk ho; have BN := Aside0.mk (blk_grown BG.out hg2 (Kd.R_ne RV.out BG.out (by decide))); have HB2 := Aside0.mk hb2; have z0 := (blk_cell BN.out 0).trans (show _ = some (Value.slice Av xs.length cv) from rfl); have fz := blk_frozen BN.out 0; clear ho hb2 hg2 hat)))
  all_goals
    go_end0
    exact ⟨⟨_, rfl⟩, _, blk_put BN.out 0 _ rfl, Kd.R_set RN.out BN.out (by decide) 0 _, HB2.out.setCell HBG.out _⟩
def okU16 (l : List Int) : Bool := decide (l.length ≤ 1000000) && l.all (fun x => decide (0 ≤ x ∧ x < 65536))
def stream_list.f (l : List Int) : Option (List Int) := if okU16 l then some (l.flatMap put2) else none
theorem flat_len (l : List Int) : (l.flatMap put2).length = 2 * l.length := by
  induction l with
  | nil => rfl
  | cons x l ih => rw [List.flatMap_cons, List.length_append, ih]; simp [put2]; omega
def ListSt (w W : World) (xs : List Int) : Prop := ∃ v, W.heap[w.heap.size]? = some (.cells #[v] 23 (0, 0)) ∧ Kd.R (Kd.int .u8) 5 W w.heap.size (fun _ => True) v xs ∧ Below w.heap.size w W
set_option maxHeartbeats 2000000 in
theorem stream_list.calls (A0 : Option Addr) (c0 : Nat) (l0 : List Int) (r : List Int) (w : World) (hr0 : Kd.C (Kd.int .u16) w A0 l0.length l0) (hc0 : l0.length ≤ c0) (h : stream_list.f l0 = some r) :
    Calls Tryz.prog 52 #[.slice A0 l0.length c0] w fun e w' => ∃ v0_ : Value, e = .returned v0_ ∧ Kd.R (Kd.int .u8) 5 w' w.heap.size (fun _ => True) v0_ r ∧ Below w.heap.size w w' := by
  unfold stream_list.f at h
  by_cases ho : okU16 l0 = true
  · rw [if_pos ho] at h
    have HRES := Aside0.mk (Option.some.inj h)
    unfold okU16 at ho
    rw [Bool.and_eq_true, decide_eq_true_eq, List.all_eq_true] at ho
    obtain ⟨hlen, hall⟩ := ho
    have HALL := Aside0.mk (fun (j : Nat) (hj : j < l0.length) => of_decide_eq_true (hall l0[j] (List.getElem_mem hj)))
    have HC := Aside0.mk hr0
    have hl2 : (l0.length : Int) ≤ 1000000 := by omega
    clear hall h hr0 hc0 hlen
    go_enter Tryz.func52, Tryz.ntmps52
    go_wp2
    go_loopw [10] (fun i W => ∃ j : Nat, j ≤ l0.length ∧ i = .int .i64 j ∧ Aside0 (ListSt w W ((l0.take j).flatMap put2))) (fun i _ => l0.length - (intOf i).toNat)
    case atStart => exact ⟨0, Nat.zero_le _, rfl, ⟨_, heap_alloc_new w _, Kd.R_nil _ _ _ _ _, (Below.refl _ w).alloc (Nat.le_refl _) _⟩⟩
    case round =>
      obtain ⟨j, hj, rfl, HS⟩ := hrel
      obtain ⟨v, hblk, hR, hB⟩ := HS.out
      clear HS
      have HK := Aside0.mk hblk
      have HR := Aside0.mk hR
      have HB := Aside0.mk hB
      by_cases hlt : j < l0.length
      · obtain ⟨ad, e, hx⟩ := int_at (Kd.C_below HC.out hB) j hlt
        subst e
        have hlt2 : (j : Int) < (l0.length : Int) := by omega
        have HX := Aside0.mk (HALL.out j hlt)
        have HT := Aside0.mk (show (l0.take (j + 1)).flatMap put2 = (l0.take j).flatMap put2 ++ put2 l0[j] from by rw [List.take_succ_eq_append_getElem hlt, List.flatMap_append]; simp)
        have HL := Aside0.mk (show ((l0.take j).flatMap put2).length ≤ 100000000 from by rw [flat_len, List.length_take]; omega)
        obtain ⟨x, hxx⟩ : ∃ x, x = l0[j] := ⟨_, rfl⟩
        rw [← hxx] at hx HX HT
        clear hxx hblk hR hB
        go_wp2_with (first | (go_at_call 81; refine (list1.step x HX.out w.heap.size v _ w _ HK.out (Nat.le_refl _) HR.out HB.out HL.out).mono ?_; rintro e w1 ⟨⟨u, rfl⟩, hst⟩; have HST := Aside0.mk hst; clear hst))
        refine ⟨⟨j + 1, by omega, by go_num, ⟨?_⟩⟩, by simp [intOf]; omega⟩
        rw [HT.out]
        exact HST.out
      · obtain rfl : j = l0.length := by omega
        have HRR := Aside0.mk (show Kd.R (Kd.int .u8) 5 wr w.heap.size (fun _ => True) v r from by rw [← HRES.out]; have := hR; rwa [List.take_length] at this)
        have q0 := (blk_cell hblk 0).trans (show _ = some v from rfl)
        clear hblk hR hB
        go_wp2
        go_ret
        exact ⟨_, rfl, HRR.out, HB.out⟩
  · rw [if_neg ho] at h; cases h
end Go.Proofs.YtpgfhbdnlojdfaaGreatDoor.P
