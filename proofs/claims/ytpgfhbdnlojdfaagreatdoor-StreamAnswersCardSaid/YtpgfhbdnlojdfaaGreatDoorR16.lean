/- Packed by wip/tools/pack.py out of MNumbers. -/
import Derived.RangeFuncBox
import Derived.Maps.AppendAt
import Derived.Deep.DeepMust
import Derived.Test.YtpgfhbdnlojdfaaGreatDoorR14
import Derived.Test.YtpgfhbdnlojdfaaGreatDoorR15
namespace Go.Proofs.YtpgfhbdnlojdfaaGreatDoor.P
open Go.RowKit Go.Shelf Go.Proofs.YtpgfhbdnlojdfaaGreatDoorW.PrintWords Go.Proofs.YtpgfhbdnlojdfaaGreatDoorW.PrintLast Go.Proofs.YtpgfhbdnlojdfaaGreatDoorW.PrintMore Go.Proofs.YtpgfhbdnlojdfaaGreatDoor.Seq
set_option linter.unusedVariables false
set_option linter.unusedSimpArgs false
theorem wpListIn_append_at {F : Fence} {n : Nat} {P : Program} (w : World) {ops : Array Oper} {rest : List Oper} {o : Oper} {a : Act} {Q : Exit → Act → World → Prop}
    (hg : o.guard = none) (s x : Operand) (t : TypeId) (hop : o.op = Op.call { callee := Callee.builtin Builtin.append, args := #[s, x], argTypes := #[t, t] })
    (base : Nat) (e : TypeId) (i : TypeInfo) (z : Value) (size bytes : Nat) (h1 : P.underlying t = some (.slice e)) (h2 : P.info? e = some i) (h3 : i.zero = some z) (h4 : i.size = size) (h5 : i.bytes = bytes) (h6 : z.cells.size = size) (h7 : 0 < size)
    (v : Value) (k : Nat) (xs : List Value) (hs : a.eval s = v) (hown : w.ownsRow base e size v k xs) (ad : Addr) (m c : Nat) (news : List Value) (hx : a.eval x = .slice (some ad) m c) (hn : news.length = m * size)
    (hc : ∀ j u, news[j]? = some u → w.cell? (ad.add j) = some u) (h1c : ∀ u ∈ news, u.oneCell' = true) (b1 : k + m ≤ maxLen) (b2 : (k + m) * bytes ≤ 140737488355328) (b3 : base ≤ w.heap.size)
    (hK : ∀ v' w', w'.ownsRow base e size v' (k + m) (xs ++ news) → w.grownBy w' v.ownBlock → (v'.ownBlock = v.ownBlock ∨ v'.ownBlock = some w.heap.size) → wpListIn F n P ops Q rest (a.put o.dst v') w') :
    wpListIn F n P ops Q (o :: rest) a w := by
  refine wpListIn_plain hg fun K hK' => ?_
  obtain ⟨v', w', hrun, r1, r2, r3, r4⟩ := run_append_own_at (P := P) w base t o.type e i z size bytes h1 h2 h3 h4 h5 h6 h7 v k xs hown ad m c news hn hc h1c b1 b2 b3
  unfold Oper.wpIn
  refine ⟨?_, ?_⟩
  · simp [Oper.about, hop, resolve, Target.leads, Sem.run_pure]
  · rw [Oper.semAt_plain F _ _ (by rw [hop]; intro c hc'; cases hc')]
    simp [execOp, hop, resolve, invoke, builtin, hs, hx, hrun, Result.andThen]
    exact hK' _ _ (hK v' w' r1 r2 r4)
attribute [local go_sem] Oper.semAt_some
structure AppI (w : World) (base : Nat) (t e : TypeId) (pre : List Int) (O : Nat → Prop) (X : World) : Prop where
  row : ∃ v, Boxed X w.heap.size t v ∧ X.ownsRow base e 1 v pre.length (pre.map fun x => Value.int .u32 x) ∧ (∀ k, v.ownBlock = some k → O k)
  below : Below w.heap.size w X
theorem AppI.st {w : World} {base : Nat} {t e : TypeId} {B : Nat} (hb : w.heap.size < B) : St B (AppI w base t e) := by
  intro pre O X Y row hs hg hr
  obtain ⟨v, hv, ho, hk⟩ := hs.row
  refine ⟨⟨v, hv.kept hg (fun e => by have := (hr _ e.symm).1; omega), ho.kept hg ?_, hk⟩, hs.below.grown hg hs.below.size (fun k e => by have := (hr k e).1; omega)⟩
  cases hvb : v.ownBlock with
  | none => exact .inl rfl
  | some k => exact .inr (fun e => (hr k e.symm).2 (hk k hvb))
set_option maxRecDepth 100000 in
set_option maxHeartbeats 4000000 in
theorem AppendSeq.any (g : Nat) (lb : Array Value) (eg : Enters Tryz.prog g) (Need : Nat → Prop) (xs : List Int) (w0 w : World) (hseq : SeqL Tryz.prog g lb (fun x : Int => #[.int .u32 x]) Need xs w0) (hNeed : ∀ i, Need i → i < w.heap.size) (hb0 : Below w0.heap.size w0 w) (hlen : xs.length ≤ 17592186044416) :
    Calls Tryz.prog 84 #[.slice none 0 0, .func (.func g) #[] lb] w fun e w' => ∃ v, e = .returned v ∧ Kd.R (Kd.int .u32) 29 w' w.heap.size (fun _ => True) v xs ∧ Below w.heap.size w w' := by
  refine (callsIn_wide (n := 0)).1 ?_
  refine callsIn_of_wp_marks Tryz.func84 rfl trivial ?_ rfl
  simp only [Tryz.ntmps84, List.size_toArray, List.length_cons, List.length_nil, Nat.reduceAdd, Nat.reduceSub, Array.replicate_succ, Array.replicate_zero, List.push_toArray, List.append_toArray, List.nil_append, List.cons_append]
  obtain ⟨i0, hi, hzz⟩ := Option.map_eq_some_iff.1 info29
  simp only [Prod.mk.injEq] at hzz
  obtain ⟨hz0, hz1, hz2⟩ := hzz
  have HS := Aside0.mk hseq
  have HI0 := Aside0.mk hi
  have HZ0 := Aside0.mk hz0
  have HZ1 := Aside0.mk hz1
  have HZ2 := Aside0.mk hz2
  clear hseq hi hz0 hz1 hz2
  gi_wp2
  obtain ⟨w1, hw1⟩ : ∃ w1, w.alloc (.cells #[.slice none 0 0] 46) = w1 := ⟨_, rfl⟩
  have hb1 : Below w.heap.size w w1 := by rw [← hw1]; exact (Below.refl _ w).alloc (Nat.le_refl _) _
  have hs1 : w1.heap.size = w.heap.size + 1 := by rw [← hw1]; simp
  have bV : Boxed w1 w.heap.size 46 (.slice none 0 0) := by rw [← hw1]; exact Boxed.new w _ _
  rw [hw1]
  clear hw1
  refine wp_rangeW (gf := g) (lb := lb) rfl eg HS.out (fun i h => by have := hNeed i h; omega) (hb0.trans (hb1.mono hb0.size)) (fun _ => rfl)
    (fun pre O X => Aside0 (AppI w w.heap.size 46 29 pre O X)) (fun _ _ _ _ => False)
    (st_aside (AppI.st (by omega))) (fun _ _ _ _ _ _ h _ _ => h) ⟨⟨_, bV, own_nil _ _ _ _, fun k h => by simp [Value.ownBlock] at h⟩, hb1⟩ ?round ?done ?stop
  case round =>
    intro l pre x rest O X hx hO _
    have HX := Aside0.mk hx
    have HO := Aside0.mk hO
    clear hx hO
    gi_wp2
    refine ⟨⟨rfl, rfl, rfl, Nat.le_refl _, fun _ _ _ => rfl⟩, ?_⟩
    intro X2 HI _
    obtain ⟨v, hv, hrow, hvO⟩ := HI.out.row
    have hB := HI.out.below
    have hvc := hv.cell
    have HV := Aside0.mk hv
    have HR := Aside0.mk hrow
    have HB := Aside0.mk hB
    have HVO := Aside0.mk hvO
    have HL := Aside0.mk (show pre.length + 1 ≤ 17592186044416 by have h := congrArg List.length HX.out; simp at h; omega)
    clear hv hrow hB hvO
    gi_wp2_with (gi_at_builtin; refine wpListIn_append_at _ rfl _ _ 46 rfl w.heap.size 29 i0 (.int .u32 0) 1 4 Tryz.underlying46 HI0.out HZ0.out HZ1.out HZ2.out rfl (by decide) v _ _ rfl (HR.out.alloc _) ⟨X2.heap.size, 0, none⟩ 1 1 [.int .u32 x] rfl rfl (cell_one_new _ _ _) (by simp [Value.oneCell']) (by have := HL.out; unfold maxLen; omega) (by have := HL.out; omega) (by have := HB.out.size; simp; omega) ?_; intro v' X3 hown' hgrow hat; obtain ⟨g', cap', rfl⟩ := ownsRow_succ hown'; obtain ⟨hv1, hv2, hr2, hk2, hb2⟩ := HV.out.appended (by decide) HR.out HB.out.size (Nat.le_refl _) hown' hgrow; have hc1 := hv1.cell; have hf1 := hv1.frozen; have HG := Aside0.mk hgrow; have HA := Aside0.mk hat; have HV2 := Aside0.mk hv2; have HR2 := Aside0.mk hr2; have HB2 := Aside0.mk hb2; clear hgrow hat hv1 hv2 hr2 hk2 hb2 hown')
    have hnb : ∀ i, Need i → i < w.heap.size := hNeed
    refine ⟨fun k => k = g', ?_, ?_, ⟨⟨_, HV2.out, ?_, fun k h => by simpa [Value.ownBlock, eq_comm] using h⟩, HB.out.trans HB2.out⟩⟩
    · refine (Keeps.of_grown (World.grownBy_alloc X2 _ none) (fun r e => by cases e)).trans ((Keeps.of_grown HG.out (fun r e => ?_)).trans (Keeps.of_grown (grownBy_setCell' X3 w.heap.size _) (fun r e => by cases e; exact ⟨fun h => by have := hnb _ h; omega, .inl (by omega)⟩)))
      have h1 := HVO.out r e
      exact ⟨fun h => by have := hnb _ h; have := HO.out _ h1; omega, .inr h1⟩
    · intro k hk
      subst hk
      rcases HA.out with h | h
      · exact .inl (HVO.out k (by rw [← h]; simp [Value.ownBlock]))
      · have : k = (X2.alloc (.cells #[.int .u32 x] 29)).heap.size := by simpa [Value.ownBlock] using h
        rw [World.size_alloc] at this
        exact .inr (by omega)
    · have h := HR2.out
      simpa using h
  case done =>
    rintro D O X hD hOD ⟨hI⟩ hK
    obtain ⟨v, hv, hrow, hvO⟩ := hI.row
    have hvc := hv.cell
    have HF := Aside0.mk (show Kd.R (Kd.int .u32) 29 (X.putObj D (.deferred none)) w.heap.size (fun _ => True) v xs from Kd.R_of_own (by have h := ownsRow_putObj hrow (.deferred none) hK rfl; exact h) (fun _ _ => trivial))
    have HBF := Aside0.mk (hI.below.trans (belowK_b (w := w) (Nat.le_refl _) X D _ (.deferred none) (by omega) hK rfl rfl))
    clear hv hrow hvO hI
    gi_wp2
    refine ⟨by simp, .inl ⟨_, _, rfl, run_takeDeferred hK, ?_⟩⟩
    exact ⟨_, results_tmp rfl _ _ _, v, rfl, HF.out, HBF.out⟩
  case stop =>
    rintro D c pre rest O X _ _ _ h _
    exact h.elim
set_option maxHeartbeats 1000000 in
theorem Collect.any (g : Nat) (lb : Array Value) (eg : Enters Tryz.prog g) (Need : Nat → Prop) (xs : List Int) (w0 w : World) (hseq : SeqL Tryz.prog g lb (fun x : Int => #[.int .u32 x]) Need xs w0) (hNeed : ∀ i, Need i → i < w.heap.size) (hb0 : Below w0.heap.size w0 w) (hlen : xs.length ≤ 17592186044416) :
    Calls Tryz.prog 58 #[.func (.func g) #[] lb] w fun e w' => ∃ v, e = .returned v ∧ Kd.R (Kd.int .u32) 29 w' w.heap.size (fun _ => True) v xs ∧ Below w.heap.size w w' := by
  have HA := Aside0.mk (AppendSeq.any g lb eg Need xs w0 w hseq hNeed hb0 hlen)
  clear hseq hNeed hb0
  go_enter Tryz.func58, Tryz.ntmps58
  go_wp2_with (go_at_call 84; refine HA.out.mono ?_; rintro e w' ⟨v, rfl, ho, hb⟩; have HO := Aside0.mk ho; have HB := Aside0.mk hb; clear ho hb)
  go_ret
  exact ⟨_, rfl, HO.out, HB.out⟩
set_option maxHeartbeats 1000000 in
theorem right.any (a0 : Int) (w : World) (h : a0 = 1 ∨ a0 = 2 ∨ a0 = 4) : Calls Tryz.prog 57 #[.int .i64 a0] w fun e w' => e = .returned (.bool true) ∧ w = w' := by
  rcases h with rfl | rfl | rfl
  all_goals
    go_enter Tryz.func57, Tryz.ntmps57
    go_wp2
    go_ret
    exact ⟨rfl, rfl⟩
theorem addr_of {w : World} {A : Option Addr} {l : List Int} (h : (Kd.int .u8).C w A l.length l) (b : Nat) : ∃ ad, (0 < l.length → A = some ad) ∧ (ad.block < w.heap.size ∨ ad.block = b) ∧ (Kd.int .u8).C w (some ad) l.length l := by
  by_cases hp : 0 < l.length
  · obtain ⟨ad, e, hx⟩ := int_at h 0 hp
    refine ⟨ad, fun _ => e, .inl ?_, by rw [← e]; exact h⟩
    have := World.block_lt_of_cell? w _ hx
    rwa [add_block] at this
  · exact ⟨⟨b, 0, none⟩, fun h => absurd h hp, .inr rfl, ⟨h.1, h.2.1, fun h => absurd h hp⟩⟩
def wire_Numbers.f (a0 : Int) (l1 : List Int) : Option (List Int) :=
  if l1.length ≤ 17592186044416 then (if (a0 = 1 ∨ a0 = 2 ∨ a0 = 4) ∧ (l1.length : Int) % a0 = 0 then some (numsB a0.toNat l1) else none) else none
set_option maxHeartbeats 2000000 in
theorem Numbers.any (k : Nat) (hk : (k : Int) = 1 ∨ (k : Int) = 2 ∨ (k : Int) = 4) (A1 : Option Addr) (c1 : Nat) (l1 : List Int) (w : World) (hr1 : Kd.C (Kd.int .u8) w A1 l1.length l1) (hc1 : l1.length ≤ c1) (hl : l1.length ≤ 17592186044416) (hm : (l1.length : Int) % (k : Int) = 0) :
    Calls Tryz.prog 34 #[.int .i64 (k : Int), .slice A1 l1.length c1] w fun e w' => ∃ v0_ : Value, e = .returned (v0_) ∧ Kd.R (Kd.int .u32) 29 w' w.heap.size (fun _ => True) v0_ (numsB k l1) ∧ Below w.heap.size w w' := by
  have hk1 : 1 ≤ k := by omega
  have hk2 : k ≤ 4 := by omega
  obtain ⟨ad, hA, hb, hC⟩ := addr_of hr1 w.heap.size
  have hb1 : Below w.heap.size w ((w.alloc (.cells #[.int .i64 (k : Int)] 3)).alloc (.cells #[.slice A1 l1.length c1] 23)) := ((Below.refl _ w).alloc (Nat.le_refl _) _).alloc (by simp) _
  obtain ⟨w2, hw2⟩ : ∃ w2, (w.alloc (.cells #[.int .i64 (k : Int)] 3)).alloc (.cells #[.slice A1 l1.length c1] 23) = w2 := ⟨_, rfl⟩
  have hs2 : w2.heap.size = w.heap.size + 2 := by rw [← hw2]; simp
  have bK : Boxed w2 w.heap.size 3 (.int .i64 (k : Int)) := by rw [← hw2]; exact (Boxed.new w _ _).alloc _
  have bB : Boxed w2 (w.heap.size + 1) 23 (.slice A1 l1.length c1) := by
    have h := Boxed.new (w.alloc (.cells #[.int .i64 (k : Int)] 3)) 23 (.slice A1 l1.length c1)
    rw [hw2, World.size_alloc] at h
    exact h
  rw [hw2] at hb1
  have had : ad.block < w2.heap.size := by rcases hb with h | h <;> omega
  have hlen : (numsB k l1).length ≤ 17592186044416 := by rw [numsB_length]; exact Nat.le_trans (Nat.div_le_self _ _) hl
  have HS := Aside0.mk (Collect.any 85 #[.pointer (some ⟨w.heap.size + 1, 0, none⟩), .pointer (some ⟨w.heap.size, 0, none⟩)] (enters_of Tryz.func85 (by kernel_rfl) rfl) (fun i => i = w.heap.size + 1 ∨ i = w.heap.size ∨ i = ad.block) (numsB k l1) w2 w2
    (numbers1.seq A1 ad l1 c1 k (w.heap.size + 1) w.heap.size w2 hA hc1 (by omega) hk1 (by omega) (by omega) (by omega) had bB.cell bK.cell (Kd.C_below hC hb1)) (fun i h => by rcases h with rfl | rfl | rfl <;> omega) (Below.refl _ _) hlen)
  have HW := Aside0.mk hw2
  have HB := Aside0.mk hb1
  have HR := Aside0.mk (right.any (k : Int) w hk)
  have hmod : ((l1.length : Int) % (k : Int) != 0) = false := bne_eq_false_iff_eq.mpr hm
  have hk0 : ¬ ((k : Int) = 0) := by omega
  have hk1' : 1 ≤ (k : Int) := by omega
  clear hw2 hb1 bK bB hC hA hb hr1 hk hm hlen had hs2
  go_enter Tryz.func34, Tryz.ntmps34
  go_wp2_with (first | (go_at_call 57; refine HR.out.mono ?_; rintro e w' ⟨rfl, rfl⟩) | (go_at_call 59; go_must (refine (numbers.any A1 l1.length c1 (k : Int) w).mono ?_; rintro e w' ⟨rfl, rfl⟩; rw [HW.out])) | (go_at_call 58; refine HS.out.mono ?_; rintro e w' ⟨v, rfl, ho, hb⟩; have HO2 := Aside0.mk ho; have HB2 := Aside0.mk hb; clear ho hb))
  go_ret
  exact ⟨_, rfl, Kd.R_lower HO2.out HB.out.size, HB.out.trans (HB2.out.mono HB.out.size)⟩
theorem wire_Numbers.calls (a0 : Int) (A1 : Option Addr) (c1 : Nat) (l1 : List Int) (r : List Int) (w : World) (hr1 : Kd.C (Kd.int .u8) w A1 l1.length l1) (hc1 : l1.length ≤ c1) (h : wire_Numbers.f a0 l1 = some r) :
    Calls Tryz.prog 34 #[.int .i64 a0, .slice A1 l1.length c1] w fun e w' => ∃ v0_ : Value, e = .returned (v0_) ∧ Kd.R (Kd.int .u32) 29 w' w.heap.size (fun _ => True) v0_ r ∧ Below w.heap.size w w' := by
  unfold wire_Numbers.f at h
  by_cases hl : l1.length ≤ 17592186044416
  · rw [if_pos hl] at h
    by_cases hg : (a0 = 1 ∨ a0 = 2 ∨ a0 = 4) ∧ (l1.length : Int) % a0 = 0
    · rw [if_pos hg] at h
      obtain rfl := Option.some.inj h
      obtain ⟨k, rfl⟩ : ∃ k : Nat, a0 = (k : Int) := by
        rcases hg.1 with rfl | rfl | rfl
        · exact ⟨1, rfl⟩
        · exact ⟨2, rfl⟩
        · exact ⟨4, rfl⟩
      rw [Int.toNat_natCast]
      exact Numbers.any k hg.1 A1 c1 l1 w hr1 hc1 hl hg.2
    · rw [if_neg hg] at h; cases h
  · rw [if_neg hl] at h; cases h
end Go.Proofs.YtpgfhbdnlojdfaaGreatDoor.P
