/- Packed by wip/tools/pack.py out of MIter. -/
import Derived.Test.YtpgfhbdnlojdfaaGreatDoorR07
import Derived.Test.YtpgfhbdnlojdfaaGreatDoorR11
namespace Go.Proofs.YtpgfhbdnlojdfaaGreatDoor.P
open Go.RowKit Go.Proofs.YtpgfhbdnlojdfaaGreatDoorW.PrintWords Go.Proofs.YtpgfhbdnlojdfaaGreatDoorW.PrintLast Go.Proofs.YtpgfhbdnlojdfaaGreatDoorW.PrintMore Go.Proofs.YtpgfhbdnlojdfaaGreatDoor.Seq
set_option linter.unusedVariables false
set_option linter.unusedSimpArgs false
set_option maxHeartbeats 1000000 in
theorem Chunk.any (A : Option Addr) (n c : Nat) (k : Int) (w : World) (hk : 1 ≤ k) :
    Calls Tryz.prog 86 #[.slice A n c, .int .i64 k] w fun e w' => e = .returned (.func (.func 103) #[] #[.pointer (some ⟨w.heap.size, 0, none⟩), .pointer (some ⟨w.heap.size + 1, 0, none⟩)]) ∧ w' = (w.alloc (.cells #[.slice A n c] 23)).alloc (.cells #[.int .i64 k] 3) := by
  have hmf : ∀ (fn : Fn) (first cap : Array Value) (w : World), (Instr.makeFunc fn first cap).run Tryz.prog w = .ok (.func fn first cap) w := fun _ _ _ _ => rfl
  go_enter Tryz.func86, Tryz.ntmps86
  go_wp2
  go_ret
  exact ⟨rfl, rfl⟩
attribute [local go_sem] Oper.semAt_some
def chunkV (ad : Addr) (n k j : Nat) : Value := .slice (some (ad.add (j * k))) (min k (n - j * k)) (min k (n - j * k))
theorem cell_same {W W' : World} {b o : Nat} (h : W'.heap[b]? = W.heap[b]?) : W'.cell? ⟨b, o, none⟩ = W.cell? ⟨b, o, none⟩ := by simp [World.cell?, h]
theorem cell_same' {W W' : World} {a : Addr} (h : W'.heap[a.block]? = W.heap[a.block]?) : W'.cell? a = W.cell? a := by simp [World.cell?, h]
structure Between {α : Type} (Need : Nat → Prop) (J : List α → (Nat → Prop) → World → Prop) (pre : List α) (W W' : World) (O : Nat → Prop) : Prop where
  own : ∀ k, O k → W.heap.size ≤ k
  holds : J pre O W'
  need : ∀ i, Need i → W'.heap[i]? = W.heap[i]?
  size : W.heap.size ≤ W'.heap.size
theorem Between.next {α : Type} {Need : Nat → Prop} {J : List α → (Nat → Prop) → World → Prop} {pre : List α} {x : α} {W W1 W2 : World} {O O' : Nat → Prop} (h : Between Need J pre W W1 O) (hn : ∀ i, Need i → i < W.heap.size) (hJ : J (pre ++ [x]) O' W2) (hk : Keeps Need W.heap.size O W1 W2) (hs : Sub O O' W1) : Between Need J (pre ++ [x]) W W2 O' :=
  ⟨fun k hO => (hs k hO).elim (h.own k) (fun h2 => Nat.le_trans h.size h2), hJ, fun i hi => (hk.same i (Nat.lt_of_lt_of_le (hn i hi) h.size) (.inl hi)).trans (h.need i hi), Nat.le_trans h.size hk.size⟩
theorem Between.drew {α : Type} {Need : Nat → Prop} {J : List α → (Nat → Prop) → World → Prop} {pre : List α} {W W1 : World} {O : Nat → Prop} (h : Between Need J pre W W1 O) (hJ : St W.heap.size J) : Between Need J pre W W1.drew O :=
  ⟨h.own, hJ _ _ W1 _ none h.holds ⟨rfl, rfl, rfl, Nat.le_refl _, fun _ _ _ => rfl⟩ (fun r e => by cases e), h.need, h.size⟩
set_option maxRecDepth 100000 in
set_option maxHeartbeats 4000000 in
theorem Chunk1.seq (A : Option Addr) (ad : Addr) (n c k Bb Bk : Nat) (w : World) (hA : 0 < n → A = some ad) (hn : n ≤ c) (hn2 : n ≤ 140737488355328) (hk1 : 1 ≤ k) (hk2 : k ≤ 140737488355328) (hb0 : Bb < w.heap.size) (hk0 : Bk < w.heap.size)
    (hB : w.cell? ⟨Bb, 0, none⟩ = some (.slice A n c)) (hK : w.cell? ⟨Bk, 0, none⟩ = some (.int .i64 (k : Int))) :
    SeqL Tryz.prog 103 #[.pointer (some ⟨Bb, 0, none⟩), .pointer (some ⟨Bk, 0, none⟩)] (fun j : Nat => #[chunkV ad n k j]) (fun i => i = Bb ∨ i = Bk) (List.range ((n + k - 1) / k)) w := by
  intro m l J Jx W hW hJ hJx hY hJ0
  refine callsIn_of_wp Tryz.func103 rfl trivial ?_ rfl
  simp only [Tryz.ntmps103, List.size_toArray, List.length_cons, List.length_nil, Nat.reduceAdd, Nat.reduceSub, Array.replicate_succ, Array.replicate_zero, List.push_toArray, List.append_toArray, List.nil_append, List.cons_append]
  obtain ⟨M, hM⟩ : ∃ M, M = (n + k - 1) / k := ⟨_, rfl⟩
  rw [← hM] at hY ⊢
  have hlt : ∀ j, j < M ↔ j * k < n := by
    intro j
    rw [hM, Nat.lt_div_iff_mul_lt (by omega)]
    omega
  have HLT := Aside0.mk hlt
  have HJ := Aside0.mk hJ
  have HY := Aside0.mk hY
  have HN := Aside0.mk (show ∀ i, (i = Bb ∨ i = Bk) → i < W.heap.size from fun i h => by have := hW.size; rcases h with rfl | rfl <;> omega)
  clear hlt hM hY hJ hJx
  have hBW := (hW.cell (p := ⟨Bb, 0, none⟩) hb0).trans hB
  have hKW := (hW.cell (p := ⟨Bk, 0, none⟩) hk0).trans hK
  have HA := Aside0.mk hA
  clear hB hK hW hA
  gi_wp2
  gi_loopw [4] (fun i wr => ∃ (j : Nat) (O : Nat → Prop), j ≤ M ∧ i = .int .i64 ((j * k : Nat) : Int) ∧ Between (fun i => i = Bb ∨ i = Bk) J (List.range j) W wr O) (fun i _ => n + k - (intOf i).toNat)
  case atStart => exact ⟨0, fun _ => False, Nat.zero_le _, by simp, ⟨fun _ h => h.elim, hJ0, fun _ _ => rfl, Nat.le_refl _⟩⟩
  case round =>
    obtain ⟨j, O, hj, rfl, HJs⟩ := hrel
    have cB := (cell_same (o := 0) (HJs.need Bb (.inl rfl))).trans hBW
    have cK := (cell_same (o := 0) (HJs.need Bk (.inr rfl))).trans hKW
    by_cases hlt : j < M
    · have hjk := (HLT.out j).1 hlt
      obtain rfl := HA.out (by omega)
      clear HA
      obtain ⟨rest, hrest⟩ : ∃ rest, List.range M = List.range j ++ j :: rest := by
        refine ⟨(List.range M).drop (j + 1), ?_⟩
        have h1 : j < (List.range M).length := by simpa using hlt
        have h2 := List.take_append_drop j (List.range M)
        rw [List.drop_eq_getElem_cons h1, List.take_range, Nat.min_eq_left (by omega)] at h2
        simpa using h2.symm
      have HB := HJs.drew HJ.out
      have Y := HY.out (List.range j) j rest O wr.drew hrest HB.own HB.holds
      have HR := Aside0.mk hrest
      obtain ⟨p, hp⟩ : ∃ p, p = j * k := ⟨_, rfl⟩
      have HP := Aside0.mk hp
      rw [← hp] at hjk ⊢
      obtain ⟨q, rfl⟩ : ∃ q, n = p + q := ⟨n - p, by omega⟩
      obtain ⟨fn, tmps, assign, body, hy, hR⟩ := Y
      have HRR := Aside0.mk hR
      clear hR hp hrest
      have hq0 : 0 < q := by omega
      have hq1 : 0 < (q : Int) := by omega
      obtain ⟨e0, he0, he1, he2⟩ : ∃ e0 : Nat, e0 = min k q ∧ e0 ≤ q ∧ e0 ≤ k := ⟨_, rfl, Nat.min_le_right _ _, Nat.min_le_left _ _⟩
      have eV : chunkV ad (p + q) k j = Value.slice (some (ad.add p)) e0 e0 := by
        unfold chunkV
        rw [← HP.out, show p + q - p = q by omega, he0]
      rw [eV] at hy
      clear eV
      have FIN := Aside0.mk (show ∀ W3 O', Between (fun i => i = Bb ∨ i = Bk) J (List.range j ++ [j]) W W3 O' → (∃ (j' : Nat) (O : Nat → Prop), j' ≤ M ∧ Value.int .i64 ((p : Int) + k) = .int .i64 ((j' * k : Nat) : Int) ∧ Between (fun i => i = Bb ∨ i = Bk) J (List.range j') W W3 O) by
        intro W3 O' hk3
        refine ⟨j + 1, O', hlt, ?_, by rw [List.range_succ]; exact hk3⟩
        rw [Nat.add_mul, Nat.one_mul, ← HP.out]
        rfl)
      clear HJs
      by_cases hle : q < k
      · obtain rfl : e0 = q := by omega
        clear he0 he1 he2
        gi_wp2
        gi_region
        all_goals (try gi_wp2)
        refine ⟨fun h => by simp [Fence.wide] at h, (roundIn_any HRR.out).mono ?_⟩
        rintro e W3 (⟨rfl, O', hJ3, hk3, hs3⟩ | ⟨rfl, O', hJx3, hk3, hs3⟩)
        · have HB3 := HB.next HN.out hJ3 hk3 hs3
          have cK3 := (cell_same (o := 0) (HB3.need Bk (.inr rfl))).trans hKW
          gi_wp2
          go_roundw
          case rel => exact FIN.out _ _ HB3
          case measure => simp [intOf]; omega
        · gi_wp2
          refine bodyPost_ret (results_none rfl _ _ _) rfl ?_
          exact ⟨⟨_, rfl⟩, .inr ⟨_, rest, _, by rw [HR.out]; simp, hJx3⟩⟩
      · obtain rfl : e0 = k := by omega
        clear he0 he1 he2
        gi_wp2
        gi_region
        all_goals (try gi_wp2)
        refine ⟨fun h => by simp [Fence.wide] at h, (roundIn_any HRR.out).mono ?_⟩
        rintro e W3 (⟨rfl, O', hJ3, hk3, hs3⟩ | ⟨rfl, O', hJx3, hk3, hs3⟩)
        · have HB3 := HB.next HN.out hJ3 hk3 hs3
          have cK3 := (cell_same (o := 0) (HB3.need Bk (.inr rfl))).trans hKW
          gi_wp2
          go_roundw
          case rel => exact FIN.out _ _ HB3
          case measure => simp [intOf]; omega
        · gi_wp2
          refine bodyPost_ret (results_none rfl _ _ _) rfl ?_
          exact ⟨⟨_, rfl⟩, .inr ⟨_, rest, _, by rw [HR.out]; simp, hJx3⟩⟩
    · have hjk : ¬ (j * k < n) := fun h => hlt ((HLT.out j).2 h)
      obtain rfl : j = M := by omega
      obtain ⟨p, hp⟩ : ∃ p, p = j * k := ⟨_, rfl⟩
      rw [← hp] at hjk ⊢
      clear hp
      gi_wp2
      go_end0
      exact ⟨⟨_, rfl⟩, .inl ⟨_, HJs.holds⟩⟩
end Go.Proofs.YtpgfhbdnlojdfaaGreatDoor.P
