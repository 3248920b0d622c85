/- Packed by wip/tools/pack.py out of MCursor, MPeek, MNumber. -/
import Derived.Test.YtpgfhbdnlojdfaaGreatDoorR16
import Derived.Test.YtpgfhbdnlojdfaaGreatDoorR17
namespace Go.Proofs.YtpgfhbdnlojdfaaGreatDoor.P
open Go.RowKit Go.Shelf Go.Proofs.YtpgfhbdnlojdfaaGreatDoorW.PrintWords Go.Proofs.YtpgfhbdnlojdfaaGreatDoorW.PrintLast Go.Proofs.YtpgfhbdnlojdfaaGreatDoorW.PrintMore Go.Proofs.YtpgfhbdnlojdfaaGreatDoor.Seq
set_option linter.unusedVariables false
set_option linter.unusedSimpArgs false
structure Cur (w : World) (g : Nat) (A : Option Addr) (c : Nat) (l : List Int) (p : Nat) : Prop where
  blk : w.heap[g]? = some (.cells #[.slice A l.length c, .int .i64 (p : Int)] 87 (0, 0))
  read : Kd.C (Kd.int .u8) w A l.length l
  cap : l.length ≤ c
  pos : p ≤ l.length
  len : l.length ≤ 17592186044416
theorem Cur.c0 {w : World} {g : Nat} {A : Option Addr} {c : Nat} {l : List Int} {p : Nat} (h : Cur w g A c l p) : w.cell? ⟨g, 0, none⟩ = some (.slice A l.length c) := by have := blk_cell h.blk 0; simpa using this
theorem Cur.c1 {w : World} {g : Nat} {A : Option Addr} {c : Nat} {l : List Int} {p : Nat} (h : Cur w g A c l p) : w.cell? ⟨g, 1, none⟩ = some (.int .i64 (p : Int)) := by have := blk_cell h.blk 1; simpa using this
theorem Cur.below {w W : World} {g : Nat} {A : Option Addr} {c : Nat} {l : List Int} {p : Nat} (h : Cur w g A c l p) (hb : Below w.heap.size w W) : Cur W g A c l p := ⟨blk_below h.blk hb, Kd.C_below h.read hb, h.cap, h.pos, h.len⟩
set_option maxHeartbeats 1000000 in
theorem Left.any (g : Nat) (A : Option Addr) (c : Nat) (l : List Int) (p : Nat) (w : World) (h : Cur w g A c l p) :
    Calls Tryz.prog 83 #[.pointer (some ⟨g, 0, none⟩)] w fun e w' => e = .returned (.int .i64 ((l.length : Int) - p)) ∧ ∃ m, w' = w.drewN m := by
  have c0 := h.c0
  have c1 := h.c1
  have h1 : (p : Int) ≤ l.length := by have := h.pos; omega
  have h2 : (l.length : Int) ≤ 17592186044416 := by have := h.len; omega
  clear h
  go_enter Tryz.func83, Tryz.ntmps83
  go_wp2
  go_quiet (fail)
  go_wp2
  go_ret
  exact ⟨rfl, _, rfl⟩
set_option maxHeartbeats 1000000 in
theorem New.any (A0 : Option Addr) (c0 : Nat) (l0 : List Int) (w : World) (hr0 : Kd.C (Kd.int .u8) w A0 l0.length l0) (hc0 : l0.length ≤ c0) (hl : l0.length ≤ 17592186044416) :
    Calls Tryz.prog 31 #[.slice A0 l0.length c0] w fun e w' => ∃ g A c, e = .returned (.pointer (some ⟨g, 0, none⟩)) ∧ w.heap.size ≤ g ∧ Cur w' g A c l0 0 ∧ Below w.heap.size w w' := by
  have HC := Aside0.mk (slices_Clone_byte_byte.calls A0 c0 l0 l0 w hr0 hc0 (by unfold slices_Clone_byte_byte.f; rw [if_pos (by omega)]))
  have HL := Aside0.mk hl
  clear hr0 hc0 hl
  go_enter Tryz.func31, Tryz.ntmps31
  go_wp2_with (go_at_call 54; refine HC.out.mono ?_; rintro e w1 ⟨v, rfl, ho, hb⟩; obtain ⟨A, c, rfl⟩ := Kd.R_slice ho; have HO := Aside0.mk ho; have HB := Aside0.mk hb; clear ho hb)
  go_ret
  obtain ⟨e1, e2, e3⟩ := Kd.R_reads' HO.out
  exact ⟨_, A, c, rfl, HB.out.size, ⟨heap_alloc_new _ _, Kd.C_alloc e3 _, e2, Nat.zero_le _, HL.out⟩, HB.out.alloc HB.out.size _⟩
end Go.Proofs.YtpgfhbdnlojdfaaGreatDoor.P
namespace Go.Proofs.YtpgfhbdnlojdfaaGreatDoor.P
open Go.RowKit Go.Shelf Go.Proofs.YtpgfhbdnlojdfaaGreatDoorW.PrintWords Go.Proofs.YtpgfhbdnlojdfaaGreatDoorW.PrintLast Go.Proofs.YtpgfhbdnlojdfaaGreatDoorW.PrintMore Go.Proofs.YtpgfhbdnlojdfaaGreatDoor.Seq
set_option linter.unusedVariables false
set_option linter.unusedSimpArgs false
attribute [local go_sem] Oper.semAt_some
theorem results_boxes {fn : Func} {p p' : Tmp} (h : fn.results = #[.cell p 29, .cell p' 4]) (tmps : Array Value) (w : World) (g g' : Nat) (v v' : Value) (t t' : TypeId)
    (hp : tmps.getD p undef = .pointer (some ⟨g, 0, none⟩)) (hp' : tmps.getD p' undef = .pointer (some ⟨g', 0, none⟩)) (hg : Boxed w g t v) (hg' : Boxed w g' t' v') :
    (results fn tmps).run Tryz.prog w = .ok (.tuple #[v, v']) w := by
  have h1 : tmps[p]?.getD undef = .pointer (some ⟨g, 0, none⟩) := by simpa using hp
  have h2 : tmps[p']?.getD undef = .pointer (some ⟨g', 0, none⟩) := by simpa using hp'
  have c1 := hg.cell
  have c2 := hg'.cell
  simp [results, h, h1, h2, asAddr, go_sem, c1, c2]
structure PeekI (w : World) (pre : List Int) (O : Nat → Prop) (X : World) : Prop where
  none : pre = []
  b1 : Boxed X w.heap.size 29 (.int .u32 0)
  b2 : Boxed X (w.heap.size + 1) 4 (.bool false)
  below : Below w.heap.size w X
structure PeekX (w : World) (x : Int) (cd : Code) (pre : List Int) (O : Nat → Prop) (X : World) : Prop where
  cd : cd = .ret
  b1 : Boxed X w.heap.size 29 (.int .u32 x)
  b2 : Boxed X (w.heap.size + 1) 4 (.bool true)
  below : Below w.heap.size w X
theorem PeekI.st {w : World} {B : Nat} (hb : w.heap.size + 1 < B) : St B (PeekI w) := fun pre O X Y row hs hg hr =>
  ⟨hs.none, hs.b1.kept hg (fun e => by have := (hr _ e.symm).1; omega), hs.b2.kept hg (fun e => by have := (hr _ e.symm).1; omega), hs.below.grown hg hs.below.size (fun k e => by have := (hr k e).1; omega)⟩
theorem PeekX.st {w : World} {x : Int} {cd : Code} {B : Nat} (hb : w.heap.size + 1 < B) : St B (PeekX w x cd) := fun pre O X Y row hs hg hr =>
  ⟨hs.cd, hs.b1.kept hg (fun e => by have := (hr _ e.symm).1; omega), hs.b2.kept hg (fun e => by have := (hr _ e.symm).1; omega), hs.below.grown hg hs.below.size (fun k e => by have := (hr k e).1; omega)⟩
def Norm (Q : Exit → Act → World → Prop) : Exit → Act → World → Prop
  | .normal, a, w => Q .normal a w
  | _, _, _ => False
theorem wp_at {P : Program} {c : Code} {Q : Exit → Act → World → Prop} {a A : Act} {w W : World} (h1 : c.wp P (Norm (fun _ a' w' => a' = A ∧ w' = W)) a w) (h2 : Q .normal A W) : c.wp P Q a w :=
  wp_mono h1 (fun e a' w' hq => by cases e <;> first | (obtain ⟨rfl, rfl⟩ := hq; exact h2) | exact hq.elim)
theorem box_set {W : World} {B : Nat} {t : TypeId} {v : Value} (v' : Value) (h : Boxed W B t v) : Boxed (W.setCell ⟨B, 0, none⟩ v') B t v' := h.set v'
theorem box_other {W : World} {B B' : Nat} {t : TypeId} {v : Value} (h : Boxed W B t v) (hne : B ≠ B') (u : Value) : Boxed (W.setCell ⟨B', 0, none⟩ u) B t v := h.other hne u
theorem box_keep {W W' : World} {B : Nat} {t : TypeId} {v : Value} (h : Boxed W B t v) {n : Nat} (hb : Below n W W') (hn : B < n) : Boxed W' B t v := (hb.block B hn).trans h
set_option maxHeartbeats 4000000 in
theorem Peek.short (k : Nat) (hk : (k : Int) = 1 ∨ (k : Int) = 2 ∨ (k : Int) = 4) (g : Nat) (A : Option Addr) (c : Nat) (l : List Int) (p : Nat) (w : World) (h : Cur w g A c l p) (hs : l.length < p + k) :
    Calls Tryz.prog 55 #[.pointer (some ⟨g, 0, none⟩), .int .i64 (k : Int)] w fun e w' => e = .returned (.tuple #[.int .u32 0, .bool false]) ∧ Below w.heap.size w w' := by
  have HR := Aside0.mk (fun W => right.any (k : Int) W hk)
  have hlt : (l.length : Int) - p < k := by omega
  have hb2 : Below w.heap.size w ((w.alloc (.cells #[.int .u32 0] 29)).alloc (.cells #[.bool false] 4)) := ((Below.refl _ w).alloc (Nat.le_refl _) _).alloc (by simp) _
  have HL := Aside0.mk (Left.any g A c l p _ (h.below hb2))
  have HB := Aside0.mk hb2
  clear hk hs h hb2
  go_enter Tryz.func55, Tryz.ntmps55
  go_wp2_with (first | (go_at_call 57; refine (HR.out _).mono ?_; rintro e w' ⟨rfl, rfl⟩) | (go_at_call 83; refine HL.out.mono ?_; rintro e w' ⟨rfl, m, rfl⟩))
  have b1 := (Boxed.new w 29 (.int .u32 0)).alloc (.cells #[.bool false] 4)
  have b2 := Boxed.new (w.alloc (.cells #[.int .u32 0] 29)) 4 (.bool false)
  rw [World.size_alloc] at b2
  exact ⟨rfl, _, results_boxes rfl _ _ w.heap.size (w.heap.size + 1) _ _ _ _ rfl rfl (box_other (box_set _ (box_keep b1 (pw_below_drewN (Below.refl (w.heap.size + 2) _) m) (by omega))) (by omega) _) (box_set _ (box_other (box_keep b2 (pw_below_drewN (Below.refl (w.heap.size + 2) _) m) (by omega)) (by omega) _)), rfl, ((pw_below_drewN HB.out m).setCell (Nat.le_refl _) _).setCell (Nat.le_succ _) _⟩
set_option maxRecDepth 100000 in
set_option maxHeartbeats 4000000 in
theorem Peek.full (k : Nat) (hk : (k : Int) = 1 ∨ (k : Int) = 2 ∨ (k : Int) = 4) (g : Nat) (A : Option Addr) (c : Nat) (l : List Int) (p : Nat) (w : World) (h : Cur w g A c l p) (hs : p + k ≤ l.length) :
    Calls Tryz.prog 55 #[.pointer (some ⟨g, 0, none⟩), .int .i64 (k : Int)] w fun e w' => e = .returned (.tuple #[.int .u32 (numB ((l.drop p).take k)), .bool true]) ∧ Below w.heap.size w w' := by
  have HR := Aside0.mk (fun W => right.any (k : Int) W hk)
  have hlt : ¬ (l.length : Int) - p < k := by omega
  have hb2 : Below w.heap.size w ((w.alloc (.cells #[.int .u32 0] 29)).alloc (.cells #[.bool false] 4)) := ((Below.refl _ w).alloc (Nat.le_refl _) _).alloc (by simp) _
  have HL := Aside0.mk (Left.any g A c l p _ (h.below hb2))
  obtain ⟨m, hm⟩ := (⟨0, rfl⟩ : ∃ m : Nat, m = 0)
  have c0 := (h.below hb2).c0
  have c1 := (h.below hb2).c1
  have HB := Aside0.mk hb2
  have HH := Aside0.mk h
  have HK := Aside0.mk hk
  have HS := Aside0.mk hs
  have hp1 : (p : Int) ≤ l.length := by omega
  have hp2 : (l.length : Int) ≤ c := by have := h.cap; omega
  have hp3 : (l.length : Int) ≤ 17592186044416 := by have := h.len; omega
  clear hk hs h hb2 hm
  refine (callsIn_wide (n := 0)).1 ?_
  refine callsIn_of_wp_marks Tryz.func55 rfl trivial ?_ rfl
  simp only [Tryz.ntmps55, List.size_toArray, List.length_cons, List.length_nil, Nat.reduceAdd, Nat.reduceSub, Array.replicate_succ, Array.replicate_zero, List.push_toArray, List.append_toArray, List.nil_append, List.cons_append]
  refine wpIn_wide.2 ?_
  go_wp2_with (first | (go_at_call 57; refine (HR.out _).mono ?_; rintro e w' ⟨rfl, rfl⟩) | (go_at_call 83; refine HL.out.mono ?_; rintro e w' ⟨rfl, m, rfl⟩))
  obtain ⟨i0, hi0, hsz⟩ := Option.map_eq_some_iff.1 info5
  simp only [Prod.mk.injEq] at hsz
  have hcut := cut_from (P := Tryz.prog) 23 5 .i64 Tryz.underlying23 hi0 1 hsz.2.1 A l.length c (p : Int) (by omega) hp1
  have hr0 := Kd.C_drop (m := p) (c := c) HH.out.read (by omega) (by omega)
  rw [Int.toNat_natCast] at hcut
  obtain ⟨A', hA'⟩ : ∃ A', A' = (if c = p then A else A.map (·.add (p * 1))) := ⟨_, rfl⟩
  obtain ⟨q, hq⟩ : ∃ q, q = l.drop p := ⟨_, rfl⟩
  obtain ⟨cp, hcp⟩ : ∃ cp, cp = c - p := ⟨_, rfl⟩
  have hql : l.length - p = q.length := by rw [hq, List.length_drop]
  replace hr0 : Kd.C (Kd.int .u8) w A' q.length q := by rw [hA', hq]; exact hr0
  rw [← hA', ← hcp, hql] at hcut
  have hcap : q.length ≤ cp := by omega
  have HQ := Aside0.mk hq
  have HQL := Aside0.mk hql
  have HR0 := Aside0.mk hr0
  have HCP := Aside0.mk hcap
  clear hA' hq hql hr0 hcap hcp
  apply wp_at
  case h1 =>
    go_region_with (go_at_call 59; refine (numbers.any A' _ _ (k : Int) _).mono ?_; rintro e w' ⟨rfl, rfl⟩)
    all_goals exact ⟨rfl, rfl⟩
  go_wp2
  have hq := HQ.out
  have hql := HQL.out
  have hr0 := HR0.out
  have hcap := HCP.out
  obtain ⟨W0, hW0⟩ : ∃ W0, ((w.alloc (.cells #[.int .u32 0] 29)).alloc (.cells #[.bool false] 4)).drewN (m + 1) = W0 := ⟨_, rfl⟩
  have hB0 : Below w.heap.size w W0 := by rw [← hW0]; exact pw_below_drewN HB.out _
  have hs0 : W0.heap.size = w.heap.size + 2 := by rw [← hW0]; simp [World.drewN]
  have b1 : Boxed W0 w.heap.size 29 (.int .u32 0) := by rw [← hW0]; exact (Boxed.new w 29 (.int .u32 0)).alloc (.cells #[.bool false] 4)
  have b2 : Boxed W0 (w.heap.size + 1) 4 (.bool false) := by
    have h := Boxed.new (w.alloc (.cells #[.int .u32 0] 29)) 4 (.bool false)
    rw [World.size_alloc] at h
    rw [← hW0]; exact h
  rw [hW0]
  clear hW0
  obtain ⟨W1, hW1⟩ : ∃ W1, (W0.alloc (.cells #[.int .i64 (k : Int)] 3)).alloc (.cells #[.slice A' q.length cp] 23) = W1 := ⟨_, rfl⟩
  have hb01 : Below W0.heap.size W0 W1 := by rw [← hW1]; exact ((Below.refl _ W0).alloc (Nat.le_refl _) _).alloc (by simp) _
  have hs1 : W1.heap.size = w.heap.size + 4 := by rw [← hW1]; simp [hs0]
  have bK : Boxed W1 (w.heap.size + 2) 3 (.int .i64 (k : Int)) := by
    have h := (Boxed.new W0 3 (.int .i64 (k : Int))).alloc (.cells #[.slice A' q.length cp] 23)
    rw [hW1, hs0] at h
    exact h
  have bB : Boxed W1 (w.heap.size + 3) 23 (.slice A' q.length cp) := by
    have h := Boxed.new (W0.alloc (.cells #[.int .i64 (k : Int)] 3)) 23 (.slice A' q.length cp)
    rw [hW1, World.size_alloc, hs0] at h
    exact h
  have hB1 : Below w.heap.size w W1 := hB0.trans (hb01.mono (by omega))
  have b11 := b1.alloc (.cells #[.int .i64 (k : Int)] 3) |>.alloc (.cells #[.slice A' q.length cp] 23)
  have b21 := b2.alloc (.cells #[.int .i64 (k : Int)] 3) |>.alloc (.cells #[.slice A' q.length cp] 23)
  rw [hW1] at b11 b21
  rw [hW1]
  obtain ⟨ad, hA, hadb, hC⟩ := addr_of hr0 (w.heap.size + 2)
  have had : ad.block < W1.heap.size := by rcases hadb with h | h <;> omega
  have hk1 : 1 ≤ k := by rcases HK.out with h | h | h <;> omega
  have hk2 : k ≤ 4 := by rcases HK.out with h | h | h <;> omega
  have hqk : k ≤ q.length := by have := HS.out; omega
  have hql2 : q.length ≤ 17592186044416 := by omega
  have HX := Aside0.mk (show numB ((l.drop p).take k) = numB (chunkB q k 0) by unfold chunkB; rw [hq]; simp)
  have HN := Aside0.mk (show 0 < (numsB k q).length by rw [numsB_length]; exact Nat.div_pos hqk (by omega))
  have HN0 := Aside0.mk (show (numsB k q)[0]? = some (numB (chunkB q k 0)) by
    obtain ⟨rest2, hr2⟩ := numsB_at k q 0 (by have := HN.out; rwa [numsB_length] at this)
    rw [hr2]; simp)
  obtain ⟨v, hv⟩ : ∃ v, v = numB (chunkB q k 0) := ⟨_, rfl⟩
  have HV := Aside0.mk (HX.out.trans hv.symm)
  rw [← hv] at HN0
  clear HX hv hr0 hcut
  have HL0 := Aside0.mk hql2
  refine (wpIn_wide (n := 0)).1 ?_
  refine wp_rangeW (gf := 85) (lb := #[.pointer (some ⟨w.heap.size + 3, 0, none⟩), .pointer (some ⟨w.heap.size + 2, 0, none⟩)]) rfl (enters_of Tryz.func85 (by kernel_rfl) rfl)
    (numbers1.seq A' ad q cp k (w.heap.size + 3) (w.heap.size + 2) W1 hA (by assumption) (by omega) hk1 (by omega) (by omega) (by omega) had bB.cell bK.cell (Kd.C_below hC hB1)) (fun i h => by rcases h with rfl | rfl | rfl <;> omega) (Below.refl _ _) (fun _ => rfl)
    (fun pre O X => Aside0 (PeekI w pre O X))
    (fun cd pre O X => Aside0 (PeekX w v cd pre O X))
    (st_aside (PeekI.st (by omega))) (fun cd => st_aside (PeekX.st (by omega))) ⟨⟨rfl, b11, b21, hB1⟩⟩ ?round ?done ?stop
  case round =>
    intro l2 pre x rest O X hx hO hI0
    have hpre := hI0.out.none
    subst hpre
    have hxv : x = v := by have h := HN0.out; rw [hx] at h; simpa using h
    subst hxv
    clear hx hI0 hq hql hcap hA hC
    gi_wp2
    refine ⟨⟨rfl, rfl, rfl, Nat.le_refl _, fun _ _ _ => rfl⟩, ?_⟩
    intro X2 HI _
    have d1 := HI.out.b1.cell
    have d2 := HI.out.b2.cell
    have f1 := HI.out.b1.frozen
    have f2 := HI.out.b2.frozen
    have fin : ∃ O', Keeps (fun i => i = w.heap.size + 3 ∨ i = w.heap.size + 2 ∨ i = ad.block) W1.heap.size O X2 ((X2.setCell ⟨w.heap.size, 0, none⟩ (.int .u32 x)).setCell ⟨w.heap.size + 1, 0, none⟩ (.bool true)) ∧ Sub O O' X2 ∧ Aside0 (PeekX w x .ret [x] O' ((X2.setCell ⟨w.heap.size, 0, none⟩ (.int .u32 x)).setCell ⟨w.heap.size + 1, 0, none⟩ (.bool true))) := by
      refine ⟨O, (Keeps.of_grown (grownBy_setCell' X2 w.heap.size _) (fun r e => ?_)).trans (Keeps.of_grown (grownBy_setCell' _ (w.heap.size + 1) _) (fun r e => ?_)), fun _ h => .inl h, ⟨rfl, box_other (box_set _ HI.out.b1) (by omega) _, box_set _ (box_other HI.out.b2 (by omega) _), (HI.out.below.setCell (Nat.le_refl _) _).setCell (Nat.le_succ _) _⟩⟩
      · cases e; exact ⟨fun h => by rcases h with h | h | h <;> omega, .inl (by omega)⟩
      · cases e; exact ⟨fun h => by rcases h with h | h | h <;> omega, .inl (by omega)⟩
    have FIN := Aside0.mk fin
    clear fin
    gi_wp2
    exact FIN.out
  case done =>
    rintro D O X hD hOD ⟨hI⟩ hK
    have := hI.none
    have h2 := HN.out
    rw [this] at h2
    exact absurd h2 (Nat.lt_irrefl 0)
  case stop =>
    rintro D cd pre rest O X hD hOD hx ⟨h⟩ hK
    obtain rfl := h.cd
    have d1 : Boxed (X.putObj D (.deferred none)) w.heap.size 29 (.int .u32 v) := h.b1.kept (grownBy_putObj' X D _) (fun e => by cases e; omega)
    have d2 : Boxed (X.putObj D (.deferred none)) (w.heap.size + 1) 4 (.bool true) := h.b2.kept (grownBy_putObj' X D _) (fun e => by cases e; omega)
    have d3 : Below w.heap.size w (X.putObj D (.deferred none)) := h.below.trans (belowK_b (w := w) (Nat.le_refl _) X D _ (.deferred none) (by omega) hK rfl rfl)
    have HD := Aside0.mk (And.intro d1 (And.intro d2 d3))
    clear d1 d2 d3 h
    gi_wp2
    refine ⟨by simp, .inl ⟨_, _, rfl, run_takeDeferred hK, ?_⟩⟩
    exact ⟨_, results_boxes rfl _ _ w.heap.size (w.heap.size + 1) _ _ _ _ rfl rfl HD.out.1 HD.out.2.1, by rw [HV.out], HD.out.2.2⟩
end Go.Proofs.YtpgfhbdnlojdfaaGreatDoor.P
namespace Go.Proofs.YtpgfhbdnlojdfaaGreatDoor.P
open Go.RowKit Go.Shelf Go.Proofs.YtpgfhbdnlojdfaaGreatDoorW.PrintWords Go.Proofs.YtpgfhbdnlojdfaaGreatDoorW.PrintLast Go.Proofs.YtpgfhbdnlojdfaaGreatDoorW.PrintMore Go.Proofs.YtpgfhbdnlojdfaaGreatDoor.Seq
set_option linter.unusedVariables false
set_option linter.unusedSimpArgs false
theorem read_keep {w w' : World} {A : Option Addr} {l : List Int} (h : Kd.C (Kd.int .u8) w A l.length l) (hc : ∀ ad v, w.cell? ad = some (.int .u8 v) → w'.cell? ad = w.cell? ad) : Kd.C (Kd.int .u8) w' A l.length l := by
  refine ⟨h.1, h.2.1, fun hp => ?_⟩
  obtain ⟨ad, e, hx⟩ := h.2.2 hp
  refine ⟨ad, e, fun j p hj => ?_⟩
  obtain ⟨cs, h1, h2, h3⟩ := hx j p hj
  refine ⟨cs, h1, h2, fun i u hu => ?_⟩
  obtain ⟨v, rfl⟩ : ∃ v, u = .int .u8 v := by
    have h4 : cs = [.int .u8 p] := h2
    rw [h4] at hu
    cases i with
    | zero => exact ⟨_, (Option.some.inj hu).symm⟩
    | succ n => simp at hu
  exact (hc _ _ (h3 i _ hu)).trans (h3 i _ hu)
theorem Cur.moved {w : World} {g : Nat} {A : Option Addr} {c : Nat} {l : List Int} {p : Nat} (h : Cur w g A c l p) (q : Nat) (hq : q ≤ l.length) : Cur (w.setCell ⟨g, 1, none⟩ (.int .i64 (q : Int))) g A c l q := by
  refine ⟨?_, read_keep h.read (fun ad v hv => ?_), h.cap, hq, h.len⟩
  · obtain ⟨hlt, hk⟩ := Array.getElem?_eq_some_iff.1 h.blk
    show (w.heap.modify g _)[g]? = _
    rw [Array.getElem?_eq_getElem (by rw [Array.size_modify]; exact hlt), Array.getElem_modify_self, hk]
    rfl
  · by_cases hg : ad.block = g
    · exfalso
      have hb := h.blk
      unfold World.cell? at hv
      rw [hg, hb] at hv
      dsimp only at hv
      split at hv
      · cases hv
      · obtain ⟨b, o, sp⟩ := ad
        match o, hv with
        | 0, hv => simp at hv
        | 1, hv => simp at hv
        | o + 2, hv => simp at hv
    · exact cell_same' (Below.heap_setCell w ⟨g, 1, none⟩ _ _ hg)
set_option maxHeartbeats 2000000 in
theorem Number.short (k : Nat) (hk : (k : Int) = 1 ∨ (k : Int) = 2 ∨ (k : Int) = 4) (g : Nat) (A : Option Addr) (c : Nat) (l : List Int) (p : Nat) (w : World) (h : Cur w g A c l p) (hs : l.length < p + k) :
    Calls Tryz.prog 32 #[.pointer (some ⟨g, 0, none⟩), .int .i64 (k : Int)] w fun e w' => e = .returned (.tuple #[.int .u32 0, .bool false]) ∧ Below w.heap.size w w' := by
  have HP := Aside0.mk (Peek.short k hk g A c l p w h hs)
  clear hk hs h
  go_enter Tryz.func32, Tryz.ntmps32
  go_wp2_with (go_at_call 55; refine HP.out.mono ?_; rintro e w1 ⟨rfl, hb⟩; have HB := Aside0.mk hb; clear hb)
  go_ret2
  exact ⟨rfl, HB.out⟩
set_option maxHeartbeats 4000000 in
theorem Number.full (k : Nat) (hk : (k : Int) = 1 ∨ (k : Int) = 2 ∨ (k : Int) = 4) (g : Nat) (A : Option Addr) (c : Nat) (l : List Int) (p : Nat) (w : World) (h : Cur w g A c l p) (hs : p + k ≤ l.length) (B : Nat) (hB : B ≤ g) (hB2 : B ≤ w.heap.size) :
    Calls Tryz.prog 32 #[.pointer (some ⟨g, 0, none⟩), .int .i64 (k : Int)] w fun e w' => e = .returned (.tuple #[.int .u32 (numB ((l.drop p).take k)), .bool true]) ∧ Cur w' g A c l (p + k) ∧ Below B w w' := by
  have HP := Aside0.mk (Peek.full k hk g A c l p w h hs)
  obtain ⟨v, hv⟩ : ∃ v, v = numB ((l.drop p).take k) := ⟨_, rfl⟩
  rw [← hv] at HP
  have HV := Aside0.mk hv
  have HH := Aside0.mk h
  have HS := Aside0.mk hs
  have hp : (p : Int) + k ≤ 17592186044416 := by have := h.len; omega
  rw [← hv]
  clear hk hs h hv
  go_enter Tryz.func32, Tryz.ntmps32
  go_wp2_with (go_at_call 55; refine HP.out.mono ?_; rintro e w1 ⟨rfl, hb⟩; have HB := Aside0.mk hb; have hc1 := (HH.out.below hb).c1; have hf1 := blk_frozen (HH.out.below hb).blk 1; clear hb)
  go_ret2
  have hm := (HH.out.below HB.out).moved (p + k) HS.out
  rw [Int.natCast_add] at hm
  exact ⟨rfl, hm, (HB.out.mono hB2).setCell hB _⟩
end Go.Proofs.YtpgfhbdnlojdfaaGreatDoor.P
